import PyProof.Rows.All
import Wide.All
import OpenK.AllK
import Wide.FinOn
import HandS.ForMost
import HandS.Codes
import HandS.Style
import HandS.IsInst
import HandS.Strs
import HandS.SetKeys
import HandS.TupAny
import HandS.TupLe
import HandS.Deep
import HandS.Flow
import HandS.CallLocal
import HandS.Remove
import HandS.ListEq
import HandS.Zip
import KE.DataFind
import KE.SortKeyHeap
import HandS.Defaults
import HandS.Head0
import HandS.Head1
import HandS.Head2
import HandS.HeadEnd
import HandS.HeadHook1
import HandS.HeadHook2
import HandS.Iter
import KE.GoesEnum
import PyProof.TupleOfSeq
import HandS.Keys
import PySem.Challenge.RW_onelinekept_k02_whole_schemas_judged
set_option Elab.async false
set_option linter.all false
set_option maxRecDepth 100000
set_option maxHeartbeats 4000000
set_option autoImplicit false
/-! Mi0: a small language with values, its evaluator. No program in sight. -/
namespace Mi
open PySem

/-- values: plain data, objects of the heap (by number), functions (by number) -/
inductive D where
  | non
  | bl (b : Bool)
  | int (i : Int)
  | str (x : Str)
  | tup (xs : List D)
  | lst (xs : List D)
  | rol (xs : List D)
  | dct (ks vs : List D)
  | obj (n : Nat)
  | fn (n : Nat)
  deriving Inhabited

mutual
def D.py : D → PyData
  | .non => .none
  | .bl b => .bool b
  | .int i => .int i
  | .str x => .str x
  | .tup xs => .tuple (D.pys xs)
  | .lst xs => .list (D.pys xs)
  | .rol _ => .dict []
  | .dct _ _ => .dict []
  | .obj _ => .dict []
  | .fn _ => .dict []
def D.pys : List D → List PyData
  | [] => []
  | x :: xs => D.py x :: D.pys xs
end
mutual
/-- data without dicts, objects, functions -/
def D.pl : D → Bool
  | .tup xs => D.pls xs
  | .lst xs => D.pls xs
  | .rol _ => false
  | .dct _ _ => false
  | .obj _ => false
  | .fn _ => false
  | .non => true
  | .bl _ => true
  | .int _ => true
  | .str _ => true
def D.pls : List D → Bool
  | [] => true
  | x :: xs => D.pl x && D.pls xs
end

mutual
/-- no list that is only lent -/
def D.noR : D → Bool
  | .tup xs => D.noRs xs
  | .lst xs => D.noRs xs
  | .rol _ => false
  | .dct ks vs => D.noRs ks && D.noRs vs
  | .non => true
  | .bl _ => true
  | .int _ => true
  | .str _ => true
  | .obj _ => true
  | .fn _ => true
def D.noRs : List D → Bool
  | [] => true
  | x :: xs => D.noR x && D.noRs xs
end
/-- what stands in the heap -/
inductive HObj where
  | dict (kvs : List (Str × D))
  | list (xs : List D)
  | inst (c : Nat) (fs : List (Str × D))
  deriving Inhabited
abbrev HP := List HObj
def noRk : List (Str × D) → Bool
  | [] => true
  | p :: r => p.2.noR && noRk r
def HObj.noR : HObj → Bool
  | .dict kvs => noRk kvs
  | .list xs => D.noRs xs
  | .inst _ _ => false

/-- a slot: empty, a value, a list that only this frame holds -/
inductive Sl where
  | emp
  | val (d : D)
  | own (xs : List D)
  deriving Inhabited

structure Sg where
  sl : List Sl
  hp : HP

inductive R (α : Type) where
  | ok (a : α) (s : Sg)
  | err (c : Nat) (fs : List D) (s : Sg)
  | bad

namespace R
def bind {α β : Type} : R α → (α → Sg → R β) → R β
  | .ok a s, f => f a s
  | .err c fs s, _ => .err c fs s
  | .bad, _ => .bad
def ofO {α : Type} : Option α → Sg → R α
  | some a, s => .ok a s
  | none, _ => .bad
end R

/-- a call's result -/
inductive CR where
  | ok (d : D) (h : HP)
  | err (c : Nat) (fs : List D) (h : HP)
  | bad
def CR.lift : CR → Sg → R D
  | .ok d h, s => .ok d { s with hp := h }
  | .err c fs h, s => .err c fs { s with hp := h }
  | .bad, _ => .bad

/-- a target -/
inductive Tg where
  | one (i : Nat)
  | many (is : List Nat)
def Tg.slots : Tg → List Nat
  | .one i => [i]
  | .many is => is

inductive O2 where
  | add | sub | mul | fdiv | mod | pow | eq | ne | lt | le | gt | ge | is_ | isnot | in_ | notin
  deriving DecidableEq
inductive O1 where
  | neg
  deriving DecidableEq
/-- types asked by isinstance -/
inductive Ty where
  | int | bool | str | tuple | list | dict
  deriving DecidableEq
/-- built-ins called by name -/
inductive Bi where
  | len | abs | int | str | tuple | list | all | any | sum | max2 | min2 | repr | ord | setlen | sorted
  deriving DecidableEq
/-- methods that change nothing -/
inductive Mt where
  | join | split | zfill | startswith | partition | index | replace
  deriving DecidableEq
/-- methods that change a list of the frame's own -/
inductive Mm where
  | append | pop | popAt | remove | extend | insert
  deriving DecidableEq

inductive M where
  | nil
  | cons (a r : M)
  | const (d : D)
  | glob (g : Nat)
  | fnv (f : Nat)
  | var (i : Nat)
  | peek (i : Nat)
  | tup (es : M)
  | lst (es : M)
  | edct
  | op2 (o : O2) (a b : M)
  | op1 (o : O1) (a : M)
  | chain (o o' : O2) (a b c : M)
  | andv (a b : M)
  | orv (a b : M)
  | notv (a : M)
  | ifx (c a b : M)
  | sub (a i : M)
  | slc (a lo hi : M)
  | rev (a : M)
  | comp (elt : M) (tg : Tg) (src cond : M)
  | compO (elt : M) (tg : Tg) (i : Nat) (cond : M)
  | lend (i : Nat) (m : M)
  | sSeq (a : M)
  | sRng (a : M)
  | sRng2 (a b : M)
  | sEnum (a : M)
  | sZip (a b : M)
  | call (f : Nat) (es : M)
  | callk (f : Nat) (perm : List Nat) (es : M)
  | callv (i : Nat) (es : M)
  | bi (b : Bi) (es : M)
  | isi (a : M) (t : Ty)
  | meth (m : Mt) (a es : M)
  | mut (m : Mm) (i : Nat) (es : M)
  | odict (ks : List Str) (es : M)
  | oget (a : M) (k : Str)
  | opop0 (a : M)
  | sortk (f : Nat) (a : M)

inductive S where
  | skip
  | seq (a b : S)
  | expr (m : M)
  | set (tg : Tg) (m : M)
  | setOwn (i : Nat) (m : M)
  | setObj (i : Nat) (m : M)
  | setIdx (i : Nat) (k m : M)
  | oset (o : M) (k : Str) (m : M)
  | par (i : Nat) (oi : Bool) (a : M) (j : Nat) (oj : Bool) (b : M)
  | ite (c : M) (a b : S)
  | for_ (tg : Tg) (src : M) (body : S)
  | while_ (c : M) (body : S)
  | ret (m : M)
  | brk
  | cont

inductive Fl where
  | next
  | brk
  | cont
  | ret (d : D)

/-- the context of an evaluation: calls, constants of the module, turns of a while at most -/
structure Cn where
  Φ : Nat → List D → HP → CR
  gl : List D
  W : Nat

/-! ### operations on values -/
def lim : Nat := 16777216
def small (i : Int) : Bool := decide (i.natAbs < 18446744073709551616)
/-- == -/
def deq (d e : D) : Option Bool := if d.pl && e.pl && decide (min d.py.depth e.py.depth ≤ 60) then some (PyData.eqv d.py e.py) else match d, e with
  | .tup xs, .tup [] => some xs.isEmpty
  | .lst xs, .lst [] => some xs.isEmpty
  | _, _ => none
mutual
/-- < of data -/
def dltD : D → D → Option Bool
  | .int i, .int j => some (decide (i < j))
  | .str x, .str y => some (decide (x.cps.toList < y.cps.toList))
  | .tup xs, .tup ys => dltL xs ys
  | .lst xs, .lst ys => dltL xs ys
  | _, _ => none
def dltL : List D → List D → Option Bool
  | [], [] => some false
  | [], _ :: _ => some true
  | _ :: _, [] => some false
  | x :: xs, y :: ys => if PyData.eqv x.py y.py then dltL xs ys else dltD x y
end
/-- rows that can be compared place by place -/
def likeOk (xs ys : List D) : Bool := D.pls xs && D.pls ys && PySem.W.alikeAll (D.pys xs) (D.pys ys) && decide (PyData.depthAll (D.pys xs) ≤ 60)
/-- < -/
def dlt (d e : D) : Option Bool := match d, e with
  | .int i, .int j => some (decide (i < j))
  | .str x, .str y => some (decide (x.cps.toList < y.cps.toList))
  | .tup xs, .tup ys => if likeOk xs ys then some (PySem.W.dataLt (D.tup xs).py (D.tup ys).py) else none
  | .lst xs, .lst ys => if likeOk xs ys then some (PySem.W.dataLt (D.lst xs).py (D.lst ys).py) else none
  | _, _ => none
/-- x in xs -/
def memD (d : D) (xs : List D) : Option Bool :=
  if D.pls xs && d.pl && decide (min (PyData.depthAll (D.pys xs)) d.py.depth ≤ 60) then some ((D.pys xs).any fun y => PyData.eqv y d.py) else none
/-- the items of a sequence -/
def D.items : D → Option (List D)
  | .tup xs => some xs
  | .lst xs => some xs
  | .rol xs => some xs
  | .str x => if x.length ≤ lim then some (x.cps.toList.map fun c => .str ⟨#[c]⟩) else none
  | _ => none
def truth : D → Option Bool
  | .non => some false
  | .bl b => some b
  | .int i => some (i != 0)
  | .str x => some ((x.length : Int) != 0)
  | .tup xs => some (!xs.isEmpty)
  | .lst xs => some (!xs.isEmpty)
  | _ => none
def addD : D → D → Option D
  | .int i, .int j => some (.int (i + j))
  | .str x, .str y => if x.length + y.length ≤ lim then some (.str (x ++ y)) else none
  | .tup xs, .tup ys => if xs.length + ys.length ≤ lim then some (.tup (xs ++ ys)) else none
  | .lst xs, .lst ys => if xs.length + ys.length ≤ lim then some (.lst (xs ++ ys)) else none
  | _, _ => none
def mulD : D → D → Option D
  | .int i, .int j => if small i || small j then some (.int (i * j)) else none
  | .lst xs, .int k => if decide (k.natAbs < 9223372036854775808) && decide (xs.length * k.toNat ≤ lim) then some (.lst (List.replicate k.toNat xs).flatten) else none
  | .str x, .int k => if decide (0 ≤ k) && decide (k ≤ 1000) && decide (x.length ≤ 1000) then some (.str (Txt.mul x k)) else none
  | _, _ => none
def b2 (f : Bool → Bool) : Option Bool → Option D
  | some b => some (.bl (f b))
  | none => none
def inD (d : D) : D → Option Bool
  | .str y => match d with
    | .str x => some (!(Builtin.Str.occurrences y x 0 y.length 1).isEmpty)
    | _ => none
  | .tup xs => memD d xs
  | .lst xs => memD d xs
  | _ => none
def isD : D → D → Option Bool
  | d, .non => some (match d with | .non => true | _ => false)
  | .bl a, .bl b => some (decide (a = b))
  | .non, .bl _ => some false
  | .int _, .bl _ => some false
  | .str _, .bl _ => some false
  | .tup _, .bl _ => some false
  | .lst _, .bl _ => some false
  | _, _ => none
def op2 : O2 → D → D → Option D
  | .add, d, e => addD d e
  | .sub, .int i, .int j => some (.int (i - j))
  | .mul, d, e => mulD d e
  | .fdiv, .int i, .int j => if decide (0 < j) && decide (j < 1073741824) then some (.int (i / j)) else none
  | .mod, .int i, .int j => if decide (0 < j) then some (.int (i % j)) else none
  | .pow, .int i, .int j => if decide (0 ≤ j) && decide (j ≤ 1000) && small i then some (.int (i ^ j.toNat)) else none
  | .eq, d, e => b2 id (deq d e)
  | .ne, d, e => b2 not (deq d e)
  | .lt, d, e => b2 id (dlt d e)
  | .gt, .int i, .int j => some (.bl (decide (j < i)))
  | .gt, .str x, .str y => some (.bl (decide (y.cps.toList < x.cps.toList)))
  | .le, .int i, .int j => some (.bl (decide (i ≤ j)))
  | .le, .str x, .str y => some (.bl (!decide (y.cps.toList < x.cps.toList)))
  | .ge, .int i, .int j => some (.bl (decide (j ≤ i)))
  | .ge, .str x, .str y => some (.bl (!decide (x.cps.toList < y.cps.toList)))
  | .is_, d, e => b2 id (isD d e)
  | .isnot, d, e => b2 not (isD d e)
  | .in_, d, e => b2 id (inD d e)
  | .notin, d, e => b2 not (inD d e)
  | _, _, _ => none
def op1 : O1 → D → Option D
  | .neg, .int i => some (.int (-i))
  | _, _ => none
def isiD : D → Ty → Option Bool
  | .obj _, _ => none
  | .fn _, _ => none
  | .rol _, _ => none
  | .int _, .int => some true
  | .bl _, .int => some true
  | .bl _, .bool => some true
  | .str _, .str => some true
  | .tup _, .tuple => some true
  | .lst _, .list => some true
  | .dct _ _, .dict => some true
  | _, _ => some false
def subD : D → D → Option D
  | .tup xs, .int i => L2.atI xs i
  | .lst xs, .int i => L2.atI xs i
  | .rol xs, .int i => L2.atI xs i
  | .str x, .int i => if x.length ≤ lim then (L2.atI x.cps.toList i).map fun c => .str ⟨#[c]⟩ else none
  | _, _ => none
/-- a bound of a slice -/
def bnd : Option D → Option (Option Int)
  | none => some none
  | some (.int i) => some (some i)
  | _ => none
def cut (xs : List D) (lo hi : Option Int) : List D := (xs.drop (HT.sIx xs.length 0 lo)).take (HT.sIx xs.length xs.length hi - HT.sIx xs.length 0 lo)
def slcD : D → Option Int → Option Int → Option D
  | .tup xs, lo, hi => some (.tup (cut xs lo hi))
  | .lst xs, lo, hi => some (.lst (cut xs lo hi))
  | .str x, lo, hi => if x.length ≤ lim then some (.str (Txt.slice x lo hi)) else none
  | _, _, _ => none
def revD : D → Option D
  | .tup xs => some (.tup xs.reverse)
  | .lst xs => some (.lst xs.reverse)
  | _ => none
def lenD : D → Option Int
  | .tup xs => some xs.length
  | .lst xs => some xs.length
  | .rol xs => some xs.length
  | .str x => if x.length ≤ lim then some x.length else none
  | _ => none
def bools : List D → Option (List Bool)
  | [] => some []
  | .bl b :: r => (bools r).map (b :: ·)
  | _ :: _ => none
def intsOf : List D → Option (List Int)
  | [] => some []
  | .int i :: r => (intsOf r).map (i :: ·)
  | _ :: _ => none
def strsOf : List D → Option (List Str)
  | [] => some []
  | .str i :: r => (strsOf r).map (i :: ·)
  | _ :: _ => none
/-- how many unlike texts -/
def unlikeL : List Str → List Str → Nat
  | _, [] => 0
  | seen, x :: r => (if seen.any (· == x) then 0 else 1) + unlikeL (seen ++ [x]) r
def unlike (xs : List Str) : Nat := unlikeL [] xs
def biD : Bi → List D → Option D
  | .len, [d] => (lenD d).map .int
  | .abs, [.int i] => some (.int (if i < 0 then -i else i))
  | .int, [.int i] => some (.int i)
  | .int, [.bl b] => some (.int (if b then 1 else 0))
  | .str, [.int i] => if decide (i.natAbs.log2 < 1920) && decide ((toString i : Str).length ≤ lim) && PyData.strOk (toString i : Str) then some (.str (toString i)) else none
  | .tuple, [.tup xs] => some (.tup xs)
  | .tuple, [.lst xs] => some (.tup xs)
  | .tuple, [.rol xs] => some (.tup xs)
  | .list, [.tup xs] => some (.lst xs)
  | .list, [.lst xs] => some (.lst xs)
  | .list, [.rol xs] => some (.lst xs)
  | .all, [.lst xs] => (bools xs).map fun bs => .bl (bs.all id)
  | .any, [.lst xs] => (bools xs).map fun bs => .bl (bs.any id)
  | .sum, [.lst xs] => (intsOf xs).map fun is => .int is.sum
  | .max2, [.int i, .int j] => some (.int (if j > i then j else i))
  | .min2, [.int i, .int j] => some (.int (if j < i then j else i))
  | .repr, [d] => if d.pl && d.py.showable && decide (d.py.depth ≤ 60) && decide (d.py.shown.length ≤ lim) && PyData.strOk d.py.shown then some (.str d.py.shown) else none
  | .ord, [.str x] => if decide (x.length = 1) then some (.int (x.cps.getD 0 0 : Nat)) else none
  | .setlen, [.tup xs] => if decide (xs.length ≤ 4000) then (strsOf xs).map fun ys => .int (unlike ys) else none
  | .setlen, [.lst xs] => if decide (xs.length ≤ 4000) then (strsOf xs).map fun ys => .int (unlike ys) else none
  | _, _ => none
/-- the first place of an equal item -/
def placeD (d : D) (xs : List D) : Option Nat := if D.pls xs && d.pl && decide (PyData.depthAll (D.pys xs) ≤ 60) && decide (d.py.depth ≤ 60) then (D.pys xs).findIdx? fun y => PyData.eqv y d.py else none
def mtD : Mt → D → List D → Option D
  | .index, .lst xs, [d] => (placeD d xs).map fun k => .int (k : Nat)
  | _, _, _ => none
/-- a list of the frame's own changed: what comes back, the list behind it -/
def mmD : Mm → List D → List D → Option (D × List D)
  | .append, xs, [d] => if xs.length < lim then some (.non, xs ++ [d]) else none
  | .pop, xs, [] => match xs[xs.length - 1]? with
    | some d => some (d, xs.dropLast)
    | none => none
  | .popAt, xs, [.int i] => if decide (i.natAbs < 9223372036854775808) then
      match L2.ixN xs.length i with
      | some k => match xs[k]? with
        | some d => some (d, xs.eraseIdx k)
        | none => none
      | none => none
    else none
  | .remove, xs, [d] => (placeD d xs).map fun k => (.non, xs.eraseIdx k)
  | .extend, xs, [.lst ys] => if xs.length + ys.length ≤ lim then some (.non, xs ++ ys) else none
  | _, _, _ => none

/-! ### states -/
def Sg.set (s : Sg) (i : Nat) (x : Sl) : Sg := { s with sl := s.sl.set i x }
/-- an operand that is read where it is used: a value, or a slot -/
inductive Ag where
  | done (d : D)
  | late (i : Nat)
/-- an operand as it stands -/
def Sg.res (s : Sg) : Ag → Option D
  | .done (.obj n) => match s.hp[n]? with
    | some (.list xs) => some (.lst xs)
    | _ => none
  | .done d => some d
  | .late i => match s.sl[i]? with
    | some (.val d) => some d
    | some (.own xs) => some (.lst xs)
    | _ => none
def argOf (m : M) (r : Sg → R D) (s : Sg) : R Ag :=
  match m with
  | .peek i => match s.sl[i]? with
    | some .emp => .bad
    | some _ => .ok (.late i) s
    | none => .bad
  | _ => (r s).bind fun d s => .ok (.done d) s
def two (s : Sg) (x y : Ag) (f : D → D → Option D) : R D :=
  match s.res x, s.res y with
  | some d, some e => R.ofO (f d e) s
  | _, _ => .bad
def one (s : Sg) (x : Ag) (f : D → Option D) : R D :=
  match s.res x with
  | some d => R.ofO (f d) s
  | none => .bad
def asgL : List Nat → List D → Sg → R Unit
  | [], [], s => .ok () s
  | i :: is, d :: ds, s => asgL is ds (s.set i (.val d))
  | _, _, _ => .bad
def asg (tg : Tg) (d : D) (s : Sg) : R Unit :=
  match tg with
  | .one i => .ok () (s.set i (.val d))
  | .many is => match d with
    | .tup xs => asgL is xs s
    | _ => .bad
def wipe (is : List Nat) (s : Sg) : Sg := is.foldr (fun i s => s.set i .emp) s
/-- slots put back -/
def back (is : List Nat) (old s : Sg) : Sg := is.foldr (fun i s => s.set i (old.sl.getD i .emp)) s
def noOwn (is : List Nat) (s : Sg) : Bool := is.all fun i => match s.sl.getD i .emp with
  | .own _ => false
  | _ => true
/-- an own list out of sight -/
def hideO : Sl → Sl
  | .own _ => .emp
  | x => x
def compL (f : D → Sg → R (Option D)) : List D → Sg → R (List D)
  | [], s => .ok [] s
  | d :: ds, s => (f d s).bind fun o s => (compL f ds s).bind fun r s => .ok (match o with | some x => x :: r | none => r) s
def forL (f : D → Sg → R Fl) : List D → Sg → R Fl
  | [], s => .ok .next s
  | d :: ds, s => (f d s).bind fun fl s => match fl with
    | .next => forL f ds s
    | .cont => forL f ds s
    | .brk => .ok .next s
    | .ret d => .ok (.ret d) s
def whileL (c : Sg → R Bool) (f : Sg → R Fl) : Nat → Sg → R Fl
  | 0, _ => .bad
  | n + 1, s => (c s).bind fun b s => if b then (f s).bind fun fl s => match fl with
      | .next => whileL c f n s
      | .cont => whileL c f n s
      | .brk => .ok .next s
      | .ret d => .ok (.ret d) s
    else .ok .next s
def rng (lo hi : Int) : List D := (List.range (hi - lo).toNat).map fun i => .int (lo + (i : Nat))
def enumL : Nat → List D → List D
  | _, [] => []
  | k, d :: ds => .tup [.int k, d] :: enumL (k + 1) ds
def zipL : List D → List D → List D
  | x :: xs, y :: ys => .tup [x, y] :: zipL xs ys
  | _, _ => []
def tst (r : R D) : R Bool := r.bind fun d s => R.ofO (truth d) s
def bnds : R (Option D) → R (Option Int) := fun r => r.bind fun o s => R.ofO (bnd o) s
/-- a part of a slice: left out, or evaluated -/
def part (m : M) (r : Sg → R D) (s : Sg) : R (Option Int) :=
  match m with
  | .nil => .ok none s
  | _ => (r s).bind fun d s => match d with
    | .int i => .ok (some i) s
    | _ => .bad
def rngOk (lo hi : Int) : Bool := decide (lo.natAbs < 4611686018427387904) && decide (hi.natAbs < 4611686018427387904)

/-- the arguments in the parameters' order -/
def pick {α : Type} : List Nat → List α → Option (List α)
  | [], _ => some []
  | i :: is, ds => match ds[i]?, pick is ds with
    | some d, some r => some (d :: r)
    | _, _ => none

/-- what sorted takes -/
def srcOf : D → Option (List D)
  | .lst xs => some xs
  | .tup xs => some xs
  | _ => none
/-- the keys of a row of things, one call behind another -/
def keysL (Φ : Nat → List D → HP → CR) (f : Nat) : List D → HP → Option (List D × HP)
  | [], hp => some ([], hp)
  | d :: ds, hp => match Φ f [d] hp with
    | .ok k hp1 => match keysL Φ f ds hp1 with
      | some (ks, hp2) => some (k :: ks, hp2)
      | none => none
    | _ => none
def someTup : PyData → Bool
  | .tuple (_ :: _) => true
  | _ => false
def noTup : PyData → Bool
  | .none => false
  | .tuple _ => false
  | _ => true
def keysOk (xs ks : List D) : Bool := D.pls ks && (D.pys ks).all (fun d => (D.pys ks).all fun e => PySem.W.alike d e) && ((D.pys ks).all someTup || (D.pys ks).all noTup) && decide (PyData.depthAll (D.pys ks) ≤ 60) && decide (xs.length ≤ 4000)
def srt (xs ks : List D) : List D := ((xs.zip (D.pys ks)).mergeSort (PySem.W.dataLe false Prod.snd)).map Prod.fst
mutual
def ev (C : Cn) : M → Sg → R D
  | .const d, s => .ok d s
  | .glob g, s => R.ofO C.gl[g]? s
  | .fnv f, s => .ok (.fn f) s
  | .var i, s => match s.sl[i]? with
    | some (.val d) => .ok d s
    | some (.own xs) => .ok (.lst xs) (s.set i (.val (.lst xs)))
    | _ => .bad
  | .tup es, s => (evs C es s).bind fun ds s => if ds.length ≤ lim then .ok (.tup ds) s else .bad
  | .lst es, s => (evs C es s).bind fun ds s => if ds.length ≤ lim then .ok (.lst ds) s else .bad
  | .edct, s => .ok (.dct [] []) s
  | .op2 o a b, s => (argOf a (ev C a) s).bind fun x s => (argOf b (ev C b) s).bind fun y s => two s x y (op2 o)
  | .op1 o a, s => (argOf a (ev C a) s).bind fun x s => one s x (op1 o)
  | .chain o o' a b c, s => (ev C a s).bind fun x s => (ev C b s).bind fun y s => match op2 o x y with
    | some (.bl true) => (ev C c s).bind fun z s => R.ofO (op2 o' y z) s
    | some (.bl false) => .ok (.bl false) s
    | _ => .bad
  | .andv a b, s => (ev C a s).bind fun d s => match truth d with
    | some true => ev C b s
    | some false => .ok d s
    | none => .bad
  | .orv a b, s => (ev C a s).bind fun d s => match truth d with
    | some true => .ok d s
    | some false => ev C b s
    | none => .bad
  | .notv a, s => (ev C a s).bind fun d s => match truth d with
    | some b => .ok (.bl (!b)) s
    | none => .bad
  | .ifx c a b, s => (ev C c s).bind fun d s => match truth d with
    | some true => ev C a s
    | some false => ev C b s
    | none => .bad
  | .sub a i, s => (argOf a (ev C a) s).bind fun x s => (argOf i (ev C i) s).bind fun y s => two s x y subD
  | .slc a lo hi, s => (argOf a (ev C a) s).bind fun x s => (part lo (ev C lo) s).bind fun l s => (part hi (ev C hi) s).bind fun h s => one s x fun d => slcD d l h
  | .rev a, s => (argOf a (ev C a) s).bind fun x s => one s x revD
  | .comp elt tg src cond, s => (evI C src s).bind fun ds s =>
      if noOwn tg.slots s then
        (compL (fun d s => (asg tg d (wipe tg.slots s)).bind fun _ s => match cond with
            | .nil => (ev C elt s).bind fun x s => .ok (some x) s
            | c => (tst (ev C c s)).bind fun b s => if b then (ev C elt s).bind fun x s => .ok (some x) s else .ok none s) ds s).bind fun xs s' =>
          if xs.length ≤ lim then .ok (.lst xs) (back tg.slots s s') else .bad
      else .bad
  | .compO elt tg i cond, s => match s.sl[i]? with
    | some (.own ds) => if noOwn tg.slots (s.set i .emp) && decide (i ∉ tg.slots) then
        (compL (fun d s => (asg tg d (wipe tg.slots s)).bind fun _ s => match cond with
            | .nil => (ev C elt s).bind fun x s => .ok (some x) s
            | c => (tst (ev C c s)).bind fun b s => if b then (ev C elt s).bind fun x s => .ok (some x) s else .ok none s) ds (s.set i .emp)).bind fun xs s' =>
          if xs.length ≤ lim then .ok (.lst xs) ((back tg.slots (s.set i .emp) s').set i (.own ds)) else .bad
      else .bad
    | _ => .bad
  | .lend i m, s => match s.sl[i]? with
    | some (.own xs) => (ev C m ⟨(s.sl.map hideO).set i (.val (.rol xs)), s.hp⟩).bind fun d s' => if d.noR && s'.hp.all HObj.noR then .ok d ⟨s.sl, s'.hp⟩ else .bad
    | _ => .bad
  | .call f es, s => (evs C es s).bind fun ds s => (C.Φ f ds s.hp).lift s
  | .callk f perm es, s => (evs C es s).bind fun ds s => match pick perm ds with
    | some ds => (C.Φ f ds s.hp).lift s
    | none => .bad
  | .callv i es, s => match s.sl[i]? with
    | some (.val (.fn f)) => (evs C es s).bind fun ds s => (C.Φ f ds s.hp).lift s
    | _ => .bad
  | .bi b es, s => (evb C es s).bind fun ds s => R.ofO (biD b ds) s
  | .isi a t, s => (ev C a s).bind fun d s => R.ofO ((isiD d t).map .bl) s
  | .meth m a es, s => (ev C a s).bind fun d s => (evs C es s).bind fun ds s => R.ofO (mtD m d ds) s
  | .mut m i es, s => match s.sl[i]? with
    | some (.own _) => (evs C es s).bind fun ds s => match s.sl[i]? with
      | some (.own xs) => match mmD m xs ds with
        | some (d, ys) => .ok d (s.set i (.own ys))
        | none => .bad
      | _ => .bad
    | _ => .bad
  | .sortk f a, s => (argOf a (ev C a) s).bind fun x s => match s.res x with
    | some d => match srcOf d with
      | some xs => match keysL C.Φ f xs s.hp with
        | some (ks, hp') => if keysOk xs ks then .ok (.lst (srt xs ks)) { s with hp := hp' } else .bad
        | none => .bad
      | none => .bad
    | none => .bad
  | .odict ks es, s => (evs C es s).bind fun ds s => if ks.length = ds.length then .ok (.obj s.hp.length) { s with hp := s.hp ++ [.dict (ks.zip ds)] } else .bad
  | .oget a k, s => (ev C a s).bind fun d s => match d with
    | .obj n => match s.hp[n]? with
      | some (.dict kvs) => R.ofO (kvs.lookup k) s
      | _ => .bad
    | _ => .bad
  | .opop0 a, s => (ev C a s).bind fun d s => match d with
    | .obj n => match s.hp[n]? with
      | some (.list (x :: xs)) => .ok x { s with hp := s.hp.set n (.list xs) }
      | _ => .bad
    | _ => .bad
  | _, _ => .bad
/-- arguments, items of a display -/
def evs (C : Cn) : M → Sg → R (List D)
  | .nil, s => .ok [] s
  | .cons a r, s => (ev C a s).bind fun d s => (evs C r s).bind fun ds s => .ok (d :: ds) s
  | _, _ => .bad
/-- arguments of a built-in: what is read, not kept -/
def evb (C : Cn) : M → Sg → R (List D)
  | .nil, s => .ok [] s
  | .cons a r, s => match r with
    | .nil => (argOf a (ev C a) s).bind fun x s => one s x some |>.bind fun d s => .ok [d] s
    | r => (ev C a s).bind fun d s => (evs C r s).bind fun ds s => .ok (d :: ds) s
  | _, _ => .bad
/-- what is walked -/
def evI (C : Cn) : M → Sg → R (List D)
  | .sSeq a, s => (ev C a s).bind fun d s => R.ofO d.items s
  | .sRng a, s => (ev C a s).bind fun d s => match d with
    | .int i => if rngOk 0 i then .ok (rng 0 i) s else .bad
    | _ => .bad
  | .sRng2 a b, s => (ev C a s).bind fun d s => (ev C b s).bind fun e s => match d, e with
    | .int i, .int j => if rngOk i j then .ok (rng i j) s else .bad
    | _, _ => .bad
  | .sEnum a, s => (ev C a s).bind fun d s => match d.items with
    | some xs => .ok (enumL 0 xs) s
    | none => .bad
  | .sZip a b, s => (ev C a s).bind fun d s => (ev C b s).bind fun e s => match d, e with
    | .lst xs, .lst ys => .ok (zipL xs ys) s
    | .tup xs, .tup ys => .ok (zipL xs ys) s
    | _, _ => .bad
  | _, _ => .bad
end

/-- is what comes a new list, wherever it is a list? -/
def M.fresh : M → Bool
  | .lst _ => true
  | .comp _ _ _ _ => true
  | .compO _ _ _ _ => true
  | .op2 .add _ _ => true
  | .op2 .mul _ _ => true
  | .slc _ _ _ => true
  | .rev _ => true
  | .bi .list _ => true
  | .sortk _ _ => true
  | _ => false

/-- an own list is stored -/
def stOwn (i : Nat) (d : D) (s : Sg) : R Unit := match d with
  | .lst xs => .ok () (s.set i (.own xs))
  | _ => .bad

def ex (C : Cn) : S → Sg → R Fl
  | .skip, s => .ok .next s
  | .seq a b, s => (ex C a s).bind fun f s => match f with
    | .next => ex C b s
    | f => .ok f s
  | .expr m, s => (ev C m s).bind fun _ s => .ok .next s
  | .set tg m, s => (ev C m s).bind fun d s => (asg tg d s).bind fun _ s => .ok .next s
  | .setOwn i m, s => if m.fresh then (ev C m s).bind fun d s => (stOwn i d s).bind fun _ s => .ok .next s else .bad
  | .setObj i m, s => if m.fresh then (ev C m s).bind fun d s => match d with
    | .lst xs => .ok .next ({ s with hp := s.hp ++ [HObj.list xs] }.set i (.val (.obj s.hp.length)))
    | _ => .bad else .bad
  | .setIdx i k m, s => (ev C m s).bind fun d s => match s.sl[i]? with
    | some (.own _) => (ev C k s).bind fun e s => match s.sl[i]?, e with
      | some (.own xs), .int z => match L2.ixN xs.length z with
        | some j => .ok .next (s.set i (.own (xs.set j d)))
        | none => .bad
      | _, _ => .bad
    | _ => .bad
  | .oset o k m, s => (ev C m s).bind fun d s => (ev C o s).bind fun e s => match e with
    | .obj n => match s.hp[n]? with
      | some (.dict kvs) => if (kvs.lookup k).isSome && decide (kvs.length < lim) then .ok .next { s with hp := s.hp.set n (.dict (kvs.map fun p => if p.1 = k then (p.1, d) else p)) } else .bad
      | _ => .bad
    | _ => .bad
  | .par i oi a j oj b, s => if (!oi || a.fresh) && (!oj || b.fresh) && decide (i ≠ j) then
      (ev C a s).bind fun d s => (ev C b s).bind fun e s =>
        (if oi then stOwn i d s else asg (.one i) d s).bind fun _ s => (if oj then stOwn j e s else asg (.one j) e s).bind fun _ s => .ok .next s
    else .bad
  | .ite c a b, s => (tst (ev C c s)).bind fun x s => if x then ex C a s else ex C b s
  | .for_ tg src body, s => (evI C src s).bind fun ds s => forL (fun d s => (asg tg d s).bind fun _ s => ex C body s) ds s
  | .while_ c body, s => whileL (fun s => tst (ev C c s)) (fun s => ex C body s) C.W s
  | .ret m, s => (ev C m s).bind fun d s => .ok (.ret d) s
  | .brk, s => .ok .brk s
  | .cont, s => .ok .cont s

/-! ### defs -/
structure Df where
  np : Nat
  ns : Nat
  body : S
def initS (ns : Nat) (ds : List D) (h : HP) : Sg := ⟨ds.map .val ++ List.replicate (ns - ds.length) .emp, h⟩
def fin : R Fl → CR
  | .ok .next s => .ok .non s.hp
  | .ok (.ret d) s => .ok d s.hp
  | .ok _ _ => .bad
  | .err c fs s => .err c fs s.hp
  | .bad => .bad
def run1 (Φ : Nat → List D → HP → CR) (gl : List D) (W : Nat) (f : Df) (ds : List D) (h : HP) : CR :=
  if ds.length = f.np then fin (ex ⟨Φ, gl, W⟩ f.body (initS f.ns ds h)) else .bad
/-- calls, k deep at most -/
def Phi (P : Nat → Option Df) (gl : List D) (W : Nat) : Nat → Nat → List D → HP → CR
  | 0, _, _, _ => .bad
  | k + 1, f, ds, h => match P f with
    | some d => run1 (Phi P gl W k) gl W d ds h
    | none => .bad
end Mi

set_option autoImplicit false
/-! Mi1: how values of Mi0 stand in the hand layer's heap. -/
namespace Mi
open PySem PySem.Spec PyProof.Rows L2

/-- what is never changed again; where the objects stand -/
structure Gh where
  F : Hp
  ρ : List Addr
structure Gh.le (g g' : Gh) : Prop where
  F : ∀ b o, g.F b = some o → g'.F b = some o
  ρ : ∀ (n : Nat) a, g.ρ[n]? = some a → g'.ρ[n]? = some a
theorem Gh.le.rfl {g : Gh} : g.le g := ⟨fun _ _ h => h, fun _ _ h => h⟩
theorem Gh.le.trans {g h k : Gh} (a : g.le h) (b : h.le k) : g.le k := ⟨fun x o e => b.F x o (a.F x o e), fun n x e => b.ρ n x (a.ρ n x e)⟩

/-- what of the module is known -/
structure Tb where
  K : PySem.W.Frag
  fa : Nat → Option Addr

mutual
inductive Dv (T : Tb) (g : Gh) : V → D → Prop where
  | non : Dv T g .non .non
  | bl (b : Bool) : Dv T g (.bl b) (.bl b)
  | int (i : Int) : Dv T g (.int i) (.int i)
  | str (x : Str) (h : x.length ≤ lim) (h' : PyData.strOk x = true) : Dv T g (.str x) (.str x)
  | tup {a : Addr} {vs : List V} {ds : List D} (h : SqT T.K g.F a vs) (h' : DvL T g vs ds) : Dv T g (.ref a) (.tup ds)
  | lst {a : Addr} {vs : List V} {ds : List D} (h : g.F a = some (.lst vs)) (h' : DvL T g vs ds) : Dv T g (.ref a) (.lst ds)
  | rol {a : Addr} {vs : List V} {ds : List D} (h : SqL T.K g.F a vs) (h' : DvL T g vs ds) : Dv T g (.ref a) (.rol ds)
  | dct {a : Addr} (h : g.F a = some (.dK [])) : Dv T g (.ref a) (.dct [] [])
  | obj {a : Addr} {n : Nat} (h : g.ρ[n]? = some a) : Dv T g (.ref a) (.obj n)
  | fn {a : Addr} {n : Nat} (h : T.fa n = some a) : Dv T g (.ref a) (.fn n)
inductive DvL (T : Tb) (g : Gh) : List V → List D → Prop where
  | nil : DvL T g [] []
  | cons {v : V} {vs : List V} {d : D} {ds : List D} (h : Dv T g v d) (h' : DvL T g vs ds) : DvL T g (v :: vs) (d :: ds)
end

theorem SqT.up {K : PySem.W.Frag} {F F' : Hp} (h : ∀ b o, F b = some o → F' b = some o) {a : Addr} {vs : List V} (s : SqT K F a vs) : SqT K F' a vs := by
  rcases s with (s | ⟨o, s⟩) | s
  · exact .inl (.inl (h _ _ s))
  · exact .inl (.inr ⟨o, h _ _ s⟩)
  · exact .inr s
theorem SqL.up {K : PySem.W.Frag} {F F' : Hp} (h : ∀ b o, F b = some o → F' b = some o) {a : Addr} {vs : List V} (s : SqL K F a vs) : SqL K F' a vs := by
  rcases s with (s | ⟨o, s⟩) | s
  · exact .inl (.inl (h _ _ s))
  · exact .inl (.inr ⟨o, h _ _ s⟩)
  · exact .inr s

mutual
theorem Dv.up {T : Tb} {g g' : Gh} (l : g.le g') : ∀ (d : D) {v : V}, Dv T g v d → Dv T g' v d
  | .non, _, h => by cases h; exact .non
  | .bl _, _, h => by cases h; exact .bl _
  | .int _, _, h => by cases h; exact .int _
  | .str _, _, h => by cases h with | str x a b => exact .str _ a b
  | .tup ds, _, h => by cases h with | tup a b => exact .tup (SqT.up l.F a) (DvL.up l ds b)
  | .lst ds, _, h => by cases h with | lst a b => exact .lst (l.F _ _ a) (DvL.up l ds b)
  | .rol ds, _, h => by cases h with | rol a b => exact .rol (SqL.up l.F a) (DvL.up l ds b)
  | .dct _ _, _, h => by cases h with | dct a => exact .dct (l.F _ _ a)
  | .obj _, _, h => by cases h with | obj a => exact .obj (l.ρ _ _ a)
  | .fn _, _, h => by cases h with | fn a => exact .fn a
theorem DvL.up {T : Tb} {g g' : Gh} (l : g.le g') : ∀ (ds : List D) {vs : List V}, DvL T g vs ds → DvL T g' vs ds
  | [], _, h => by cases h; exact .nil
  | d :: ds, _, h => by cases h with | cons a b => exact .cons (Dv.up l d a) (DvL.up l ds b)
end

section lists
variable {T : Tb} {g : Gh}
theorem DvL.length : ∀ {vs : List V} {ds : List D}, DvL T g vs ds → vs.length = ds.length
  | [], ds, h => by cases h; rfl
  | v :: vs, ds, h => by cases h with | cons a b => rw [List.length_cons, List.length_cons, DvL.length b]
theorem DvL.get : ∀ {vs : List V} {ds : List D}, DvL T g vs ds → ∀ (i : Nat) d, ds[i]? = some d → ∃ v, vs[i]? = some v ∧ Dv T g v d
  | [], ds, h => by cases h; intro i d e; simp at e
  | v :: vs, ds, h => by
    cases h with
    | cons a b =>
      intro i d e
      cases i with
      | zero =>
        have e' : _ = d := Option.some.inj (by simpa using e)
        subst e'
        exact ⟨v, rfl, a⟩
      | succ i => exact DvL.get b i d (by simpa using e)
theorem DvL.getV : ∀ {vs : List V} {ds : List D}, DvL T g vs ds → ∀ (i : Nat) v, vs[i]? = some v → ∃ d, ds[i]? = some d ∧ Dv T g v d
  | [], ds, h => by cases h; intro i d e; simp at e
  | v :: vs, ds, h => by
    cases h with
    | @cons _ _ d0 _ a b =>
      intro i u e
      cases i with
      | zero =>
        have e' : v = u := Option.some.inj (by simpa using e)
        subst e'
        exact ⟨d0, rfl, a⟩
      | succ i => exact DvL.getV b i u (by simpa using e)
theorem DvL.app : ∀ {vs ws : List V} {ds es : List D}, DvL T g vs ds → DvL T g ws es → DvL T g (vs ++ ws) (ds ++ es)
  | [], _, _, _, h, k => by cases h; exact k
  | v :: vs, _, _, _, h, k => by cases h with | cons a b => exact .cons a (DvL.app b k)
theorem DvL.take : ∀ {vs : List V} {ds : List D} (n : Nat), DvL T g vs ds → DvL T g (vs.take n) (ds.take n)
  | _, _, 0, _ => by rw [List.take_zero, List.take_zero]; exact .nil
  | [], _, n + 1, h => by cases h; exact .nil
  | v :: vs, _, n + 1, h => by cases h with | cons a b => exact .cons a (DvL.take n b)
theorem DvL.drop : ∀ {vs : List V} {ds : List D} (n : Nat), DvL T g vs ds → DvL T g (vs.drop n) (ds.drop n)
  | _, _, 0, h => h
  | [], _, n + 1, h => by cases h; exact .nil
  | v :: vs, _, n + 1, h => by cases h with | cons a b => exact DvL.drop n b
theorem DvL.rev : ∀ {vs : List V} {ds : List D}, DvL T g vs ds → DvL T g vs.reverse ds.reverse
  | [], _, h => by cases h; exact .nil
  | v :: vs, _, h => by
    cases h with
    | cons a b =>
      rw [List.reverse_cons, List.reverse_cons]
      exact DvL.app (DvL.rev b) (.cons a .nil)
theorem DvL.set : ∀ {vs : List V} {ds : List D} (n : Nat) {v : V} {d : D}, Dv T g v d → DvL T g vs ds → DvL T g (vs.set n v) (ds.set n d)
  | [], _, _, _, _, _, h => by cases h; exact .nil
  | w :: vs, _, 0, _, _, k, h => by cases h with | cons a b => exact .cons k b
  | w :: vs, _, n + 1, _, _, k, h => by cases h with | cons a b => exact .cons a (DvL.set n k b)
theorem DvL.erase : ∀ {vs : List V} {ds : List D} (n : Nat), DvL T g vs ds → DvL T g (vs.eraseIdx n) (ds.eraseIdx n)
  | [], _, _, h => by cases h; exact .nil
  | w :: vs, _, 0, h => by cases h with | cons a b => exact b
  | w :: vs, _, n + 1, h => by cases h with | cons a b => exact .cons a (DvL.erase n b)
theorem DvL.rep {vs : List V} {ds : List D} (h : DvL T g vs ds) : ∀ k : Nat, DvL T g (List.replicate k vs).flatten (List.replicate k ds).flatten
  | 0 => .nil
  | k + 1 => by
    rw [List.replicate_succ, List.replicate_succ, List.flatten_cons, List.flatten_cons]
    exact h.app (DvL.rep h k)
end lists

/-! ### plain data, as the hand layer's Dp -/
mutual
theorem Dv.dp {T : Tb} {g : Gh} {H : Hp} (f : ∀ b o, g.F b = some o → H b = some o) : ∀ (d : D) {v : V}, d.pl = true → Dv T g v d → Dp T.K H v d.py ∧ d.py.canLay0 = true
  | .non, _, _, h => by cases h; exact ⟨.non, rfl⟩
  | .bl _, _, _, h => by cases h; exact ⟨.bl _, rfl⟩
  | .int _, _, _, h => by cases h; exact ⟨.int _, rfl⟩
  | .str _, _, _, h => by cases h with | str x a b => exact ⟨.str _, by simpa [D.py, PyData.canLay0] using b⟩
  | .tup ds, _, p, h => by
    cases h with
    | tup a b =>
      obtain ⟨q1, q2⟩ := DvL.dp f ds (by simpa [D.pl] using p) b
      exact ⟨.tup (SqT.up f a) q1, by simpa [D.py, PyData.canLay0] using q2⟩
  | .lst ds, _, p, h => by
    cases h with
    | lst a b =>
      obtain ⟨q1, q2⟩ := DvL.dp f ds (by simpa [D.pl] using p) b
      exact ⟨.lst (.of (f _ _ a)) q1, by simpa [D.py, PyData.canLay0] using q2⟩
  | .rol _, _, p, _ => absurd p (by simp [D.pl])
  | .dct _ _, _, p, _ => absurd p (by simp [D.pl])
  | .obj _, _, p, _ => absurd p (by simp [D.pl])
  | .fn _, _, p, _ => absurd p (by simp [D.pl])
theorem DvL.dp {T : Tb} {g : Gh} {H : Hp} (f : ∀ b o, g.F b = some o → H b = some o) : ∀ (ds : List D) {vs : List V}, D.pls ds = true → DvL T g vs ds → DpAll T.K H vs (D.pys ds) ∧ PyData.canLayAll0 (D.pys ds) = true
  | [], _, _, h => by cases h; exact ⟨.nil, by simp [D.pys, PyData.canLayAll0]⟩
  | d :: ds, _, p, h => by
    cases h with
    | cons a b =>
      have p' : d.pl = true ∧ D.pls ds = true := by simpa [D.pls] using p
      obtain ⟨q1, q2⟩ := Dv.dp f d p'.1 a
      obtain ⟨q3, q4⟩ := DvL.dp f ds p'.2 b
      exact ⟨.cons q1 q3, by simp [D.pys, PyData.canLayAll0, q2, q4]⟩
end

/-! ### states -/
def KvOk (T : Tb) (g : Gh) : List (Key × V) → List (Str × D) → Prop
  | [], [] => True
  | p :: ps, q :: qs => p.1 = .inr q.1 ∧ Dv T g p.2 q.2 ∧ KvOk T g ps qs
  | _, _ => False
theorem KvOk.up {T : Tb} {g g' : Gh} (l : g.le g') : ∀ {ps : List (Key × V)} {qs : List (Str × D)}, KvOk T g ps qs → KvOk T g' ps qs
  | [], [], h => h
  | p :: ps, q :: qs, ⟨a, b, c⟩ => ⟨a, Dv.up l _ b, KvOk.up l c⟩
  | [], _ :: _, h => h
  | _ :: _, [], h => h
def ObOk (T : Tb) (g : Gh) (H : Hp) (a : Addr) : HObj → Prop
  | .dict kvs => ∃ vs, H a = some (.dK vs) ∧ KvOk T g vs kvs
  | .list xs => ∃ vs, H a = some (.lst vs) ∧ DvL T g vs xs
  | .inst _ _ => False
theorem ObOk.up {T : Tb} {g g' : Gh} {H H' : Hp} {a : Addr} (l : g.le g') (e : H' a = H a) : ∀ {o : HObj}, ObOk T g H a o → ObOk T g' H' a o
  | .dict _, ⟨vs, h, k⟩ => ⟨vs, by rw [e]; exact h, k.up l⟩
  | .list _, ⟨vs, h, k⟩ => ⟨vs, by rw [e]; exact h, DvL.up l _ k⟩
  | .inst _ _, h => h

def SlOk (T : Tb) (Z : Addr → Prop) (g : Gh) (H : Hp) (u : Option (Option V)) : Sl → Prop
  | .emp => True
  | .val d => ∃ v, u = some (some v) ∧ Dv T g v d
  | .own xs => ∃ l vs, u = some (some (.ref l)) ∧ H l = some (.lst vs) ∧ DvL T g vs xs ∧ g.F l = none ∧ ¬ Z l ∧ l ∉ g.ρ

/-- Z: what this frame never changes -/
structure Rep (T : Tb) (Z : Addr → Prop) (g : Gh) (H : Hp) (σ : L2.St) (S : Sg) : Prop where
  fsub : ∀ b o, g.F b = some o → H b = some o
  len : σ.length = S.sl.length
  slot : ∀ (i : Nat) x, S.sl[i]? = some x → SlOk T Z g H σ[i]? x
  apart : ∀ (i j : Nat) xs ys, i ≠ j → S.sl[i]? = some (.own xs) → S.sl[j]? = some (.own ys) → σ[i]? ≠ σ[j]?
  hlen : g.ρ.length = S.hp.length
  hobj : ∀ (n : Nat) a o, g.ρ[n]? = some a → S.hp[n]? = some o → ObOk T g H a o ∧ g.F a = none
  hnd : ∀ (n m : Nat) a, g.ρ[n]? = some a → g.ρ[m]? = some a → n = m
  prot : ∀ b, Z b → (∃ o, H b = some o) ∧ b ∉ g.ρ ∧ g.F b = none
def Zp (Z : Addr → Prop) (H H' : Hp) : Prop := ∀ b, Z b → H' b = H b
theorem Zp.rfl {Z : Addr → Prop} {H : Hp} : Zp Z H H := fun _ _ => Eq.refl _
theorem Zp.trans {Z : Addr → Prop} {H H1 H2 : Hp} (a : Zp Z H H1) (b : Zp Z H1 H2) : Zp Z H H2 := fun x z => (b x z).trans (a x z)

section
variable {T : Tb} {Z : Addr → Prop} {g : Gh} {H : Hp} {σ : L2.St} {S : Sg}
theorem Rep.rin (r : Rep T Z g H σ S) {n : Nat} {a : Addr} (h : g.ρ[n]? = some a) : ∃ o, S.hp[n]? = some o := by
  obtain ⟨h1, _⟩ := List.getElem?_eq_some_iff.mp h
  exact ⟨_, List.getElem?_eq_getElem (by rw [← r.hlen]; exact h1)⟩
theorem Rep.rtr (r : Rep T Z g H σ S) {n : Nat} {a : Addr} (h : g.ρ[n]? = some a) : ∃ o, H a = some o := by
  obtain ⟨o, e⟩ := r.rin h
  obtain ⟨q, _⟩ := r.hobj n a o h e
  cases o with
  | dict kvs => obtain ⟨vs, q, _⟩ := q; exact ⟨_, q⟩
  | list xs => obtain ⟨vs, q, _⟩ := q; exact ⟨_, q⟩
  | inst c fs => exact False.elim q
/-- a new address is none of the known ones -/
theorem Rep.newρ (r : Rep T Z g H σ S) {p : Addr} (h : H p = none) : p ∉ g.ρ := fun m => by
  obtain ⟨n, e⟩ := List.mem_iff_getElem?.mp m
  obtain ⟨o, q⟩ := r.rtr e
  rw [h] at q; cases q
theorem Rep.newF (r : Rep T Z g H σ S) {p : Addr} (h : H p = none) : g.F p = none := by
  cases e : g.F p with
  | none => rfl
  | some o => rw [r.fsub _ _ e] at h; cases h
theorem Rep.newZ (r : Rep T Z g H σ S) {p : Addr} (h : H p = none) : ¬ Z p := fun z => by
  obtain ⟨⟨o, e⟩, _, _⟩ := r.prot p z
  rw [h] at e; cases e
/-- the list of an own slot -/
def OwnAt (σ : L2.St) (S : Sg) (l : Addr) : Prop := ∃ (i : Nat) (xs : List D), S.sl[i]? = some (.own xs) ∧ σ[i]? = some (some (.ref l))
theorem Rep.newO (r : Rep T Z g H σ S) {p : Addr} (h : H p = none) : ¬ OwnAt σ S p := fun ⟨i, xs, e1, e2⟩ => by
  obtain ⟨l, vs, q1, q2, _⟩ := r.slot i _ e1
  rw [e2] at q1
  cases q1
  rw [h] at q2; cases q2
theorem SlOk.up {u : Option (Option V)} {g' : Gh} {H' : Hp} (l : g.le g') (hl : ∀ a vs, u = some (some (.ref a)) → H a = some (.lst vs) → g.F a = none → a ∉ g.ρ → ¬ Z a → H' a = some (.lst vs) ∧ g'.F a = none ∧ a ∉ g'.ρ) : ∀ {x : Sl}, SlOk T Z g H u x → SlOk T Z g' H' u x
  | .emp, _ => trivial
  | .val d, ⟨v, e, h⟩ => ⟨v, e, Dv.up l _ h⟩
  | .own xs, ⟨a, vs, e, h1, h2, h3, h4, h5⟩ => by
    obtain ⟨k1, k2, k3⟩ := hl a vs e h1 h3 h5 h4
    exact ⟨a, vs, e, k1, DvL.up l _ h2, k2, h4, k3⟩
/-- the heap has grown by one object, which nothing here names -/
theorem Rep.grow (r : Rep T Z g H σ S) {p : Addr} {o : HO} (h : H p = none) : Rep T Z g (upd H p o) σ S := by
  have ne : ∀ {b : Addr} {u : HO}, H b = some u → b ≠ p := fun e => ne_of_none e h
  refine ⟨fun b u e => ?_, r.len, fun i x e => ?_, r.apart, r.hlen, fun n a u e1 e2 => ?_, r.hnd, fun b z => ?_⟩
  · have q := r.fsub b u e
    rw [upd_ne (ne q)]; exact q
  · exact (r.slot i x e).up .rfl fun a vs e1 e2 e3 e4 e5 => ⟨by rw [upd_ne (ne e2)]; exact e2, e3, e4⟩
  · obtain ⟨q1, q2⟩ := r.hobj n a u e1 e2
    obtain ⟨o', q3⟩ := r.rtr e1
    exact ⟨q1.up .rfl (upd_ne (ne q3)), q2⟩
  · obtain ⟨⟨u, q1⟩, q2⟩ := r.prot b z
    exact ⟨⟨u, by rw [upd_ne (ne q1)]; exact q1⟩, q2⟩
theorem Zp.grow (r : Rep T Z g H σ S) {p : Addr} {o : HO} (h : H p = none) : Zp Z H (upd H p o) := fun b z => by
  obtain ⟨⟨u, q1⟩, _⟩ := r.prot b z
  exact upd_ne (ne_of_none q1 h)
/-- an object that is no frame's own is from now on never changed -/
def Gh.frz (g : Gh) (p : Addr) (o : HO) : Gh := ⟨upd g.F p o, g.ρ⟩
theorem Gh.le_frz {p : Addr} {o : HO} (h : g.F p = none) : g.le (g.frz p o) := ⟨fun b u e => by
  show upd g.F p o b = some u
  rw [upd_ne (ne_of_none e h)]; exact e, fun _ _ e => e⟩
theorem Rep.freeze (r : Rep T Z g H σ S) {p : Addr} {o : HO} (h : H p = some o) (hF : g.F p = none) (hρ : p ∉ g.ρ) (hO : ¬ OwnAt σ S p) (hZ : ¬ Z p) : Rep T Z (g.frz p o) H σ S := by
  have l : g.le (g.frz p o) := Gh.le_frz hF
  refine ⟨fun b u e => ?_, r.len, fun i x e => ?_, r.apart, r.hlen, fun n a u e1 e2 => ?_, r.hnd, fun b z => ?_⟩
  · by_cases hb : b = p
    · subst hb
      have e' : upd g.F b o b = some u := e
      rw [upd_same] at e'
      rw [← e']; exact h
    · have e' : upd g.F p o b = some u := e
      rw [upd_ne hb] at e'
      exact r.fsub b u e'
  · have q := r.slot i x e
    cases x with
    | emp => trivial
    | val d => obtain ⟨v, e1, e2⟩ := q; exact ⟨v, e1, Dv.up l _ e2⟩
    | own xs =>
      obtain ⟨a, vs, e1, e2, e3, e4, e5, e6⟩ := q
      have na : a ≠ p := fun z => hO ⟨i, xs, e, by rw [← z]; exact e1⟩
      exact ⟨a, vs, e1, e2, DvL.up l _ e3, (upd_ne na).trans e4, e5, e6⟩
  · obtain ⟨q1, q2⟩ := r.hobj n a u e1 e2
    have na : a ≠ p := fun z => hρ (by rw [← z]; exact List.mem_of_getElem? e1)
    exact ⟨q1.up l rfl, (upd_ne na).trans q2⟩
  · obtain ⟨q1, q2, q3⟩ := r.prot b z
    have na : b ≠ p := fun w => hZ (by rw [← w]; exact z)
    exact ⟨q1, q2, (upd_ne na).trans q3⟩
end

section
variable {T : Tb} {Z : Addr → Prop} {g : Gh} {H : Hp} {σ : L2.St} {S : Sg}
/-- a slot's own list is from now on never changed -/
theorem Rep.thaw (r : Rep T Z g H σ S) {i : Nat} {xs : List D} {l : Addr} {vs : List V} (e : S.sl[i]? = some (.own xs)) (e1 : σ[i]? = some (some (.ref l))) (e2 : H l = some (.lst vs)) (e3 : DvL T g vs xs) (e4 : g.F l = none) (e5 : ¬ Z l) (e6 : l ∉ g.ρ) :
    ∃ g', Rep T Z g' H σ (S.set i (.val (.lst xs))) ∧ g.le g' ∧ Dv T g' (.ref l) (.lst xs) := by
  have le : g.le (g.frz l (.lst vs)) := Gh.le_frz e4
  have dv : Dv T (g.frz l (.lst vs)) (.ref l) (.lst xs) := .lst (by show upd g.F l _ l = _; exact upd_same) (DvL.up le _ e3)
  have hi : i < S.sl.length := (List.getElem?_eq_some_iff.mp e).1
  -- the list at hand leaves its slot
  have r0 : Rep T Z g H σ (S.set i .emp) := by
    refine ⟨r.fsub, by simp [Sg.set, r.len], fun j x q => ?_, fun j k ys zs n q1 q2 => ?_, r.hlen, r.hobj, r.hnd, r.prot⟩
    · by_cases hj : i = j
      · subst hj
        simp only [Sg.set, List.getElem?_set_self hi] at q
        cases q; trivial
      · simp only [Sg.set, List.getElem?_set_ne hj] at q
        exact r.slot j x q
    · have nj : i ≠ j := fun z => by subst z; simp only [Sg.set, List.getElem?_set_self hi] at q1; cases q1
      have nk : i ≠ k := fun z => by subst z; simp only [Sg.set, List.getElem?_set_self hi] at q2; cases q2
      simp only [Sg.set, List.getElem?_set_ne nj] at q1
      simp only [Sg.set, List.getElem?_set_ne nk] at q2
      exact r.apart j k ys zs n q1 q2
  have hO : ¬ OwnAt σ (S.set i .emp) l := fun ⟨j, ys, q1, q2⟩ => by
    have nj : i ≠ j := fun z => by subst z; simp only [Sg.set, List.getElem?_set_self hi] at q1; cases q1
    simp only [Sg.set, List.getElem?_set_ne nj] at q1
    exact r.apart i j xs ys nj e q1 (e1.trans q2.symm)
  have r1 := r0.freeze e2 e4 e6 hO e5
  refine ⟨_, ⟨r1.fsub, by simp [Sg.set, r.len], fun j x q => ?_, fun j k ys zs n q1 q2 => ?_, r1.hlen, r1.hobj, r1.hnd, r1.prot⟩, le, dv⟩
  · by_cases hj : i = j
    · subst hj
      simp only [Sg.set, List.getElem?_set_self hi] at q
      cases q
      exact ⟨_, e1, dv⟩
    · simp only [Sg.set, List.getElem?_set_ne hj] at q
      exact r1.slot j x (by simp only [Sg.set, List.getElem?_set_ne hj]; exact q)
  · have nj : i ≠ j := fun z => by subst z; simp only [Sg.set, List.getElem?_set_self hi] at q1; cases q1
    have nk : i ≠ k := fun z => by subst z; simp only [Sg.set, List.getElem?_set_self hi] at q2; cases q2
    simp only [Sg.set, List.getElem?_set_ne nj] at q1
    simp only [Sg.set, List.getElem?_set_ne nk] at q2
    exact r.apart j k ys zs n q1 q2
end

/-! ### what an operation hands back -/
/-- a value as it is read at once: known for good, or a list that stands there now -/
inductive Dw (T : Tb) (g : Gh) (H : Hp) : V → D → Prop where
  | dv {v : V} {d : D} (h : Dv T g v d) : Dw T g H v d
  | ls {l : Addr} {vs : List V} {ds : List D} (h : H l = some (.lst vs)) (h' : DvL T g vs ds) : Dw T g H (.ref l) (.lst ds)
theorem Dw.lst {T : Tb} {g : Gh} {H : Hp} (f : ∀ b o, g.F b = some o → H b = some o) {v : V} {ds : List D} (h : Dw T g H v (.lst ds)) : ∃ l vs, v = .ref l ∧ H l = some (.lst vs) ∧ DvL T g vs ds := by
  cases h with
  | dv h => cases h with | lst a b => exact ⟨_, _, rfl, f _ _ a, b⟩
  | ls h h' => exact ⟨_, _, rfl, h, h'⟩
theorem Dw.rol {T : Tb} {g : Gh} {H : Hp} (f : ∀ b o, g.F b = some o → H b = some o) {v : V} {ds : List D} (h : Dw T g H v (.rol ds)) : ∃ l vs, v = .ref l ∧ SqL T.K H l vs ∧ DvL T g vs ds := by
  cases h with
  | dv h => cases h with | rol a b => exact ⟨_, _, rfl, SqL.up f a, b⟩
theorem Dw.tup {T : Tb} {g : Gh} {H : Hp} (f : ∀ b o, g.F b = some o → H b = some o) {v : V} {ds : List D} (h : Dw T g H v (.tup ds)) : ∃ l vs, v = .ref l ∧ SqT T.K H l vs ∧ DvL T g vs ds ∧ Dv T g v (.tup ds) := by
  cases h with
  | dv h => cases h with | tup a b => exact ⟨_, _, rfl, SqT.up f a, b, .tup a b⟩
theorem Dw.dp {T : Tb} {g : Gh} {H : Hp} (f : ∀ b o, g.F b = some o → H b = some o) {v : V} {d : D} (p : d.pl = true) (h : Dw T g H v d) : Dp T.K H v d.py ∧ d.py.canLay0 = true := by
  cases h with
  | dv h => exact h.dp f d p
  | @ls l vs ds h h' =>
    obtain ⟨q1, q2⟩ := DvL.dp f ds (by simpa [D.pl] using p) h'
    exact ⟨.lst (.of h) q1, by simpa [D.py, PyData.canLay0] using q2⟩

/-- what comes of an operation at H: an old value, or a new tuple or list -/
inductive Out (T : Tb) (g : Gh) (H : Hp) : V → Hp → D → Prop where
  | old {v : V} {d : D} (h : Dv T g v d) : Out T g H v H d
  | tup {p : Addr} {vs : List V} {ds : List D} (h : H p = none) (h' : DvL T g vs ds) : Out T g H (.ref p) (upd H p (.tup vs)) (.tup ds)
  | lst {p : Addr} {vs : List V} {ds : List D} (h : H p = none) (h' : DvL T g vs ds) : Out T g H (.ref p) (upd H p (.lst vs)) (.lst ds)
  | dct {p : Addr} (h : H p = none) : Out T g H (.ref p) (upd H p (.dK [])) (.dct [] [])

/-- a list that only this evaluation knows -/
def Fresh (T : Tb) (Z : Addr → Prop) (g : Gh) (H : Hp) (σ : L2.St) (S : Sg) (v : V) (d : D) : Prop :=
  ∃ l vs xs, v = .ref l ∧ d = .lst xs ∧ H l = some (.lst vs) ∧ DvL T g vs xs ∧ g.F l = none ∧ ¬ Z l ∧ l ∉ g.ρ ∧ ¬ OwnAt σ S l
def Vl (T : Tb) (fr : Bool) (Z : Addr → Prop) (g : Gh) (H : Hp) (σ : L2.St) (S : Sg) (v : V) (d : D) : Prop :=
  match fr with
  | true => match d with
    | .lst _ => Fresh T Z g H σ S v d
    | _ => Dv T g v d
  | false => Dv T g v d

section
variable {T : Tb} {Z : Addr → Prop} {g : Gh} {H : Hp} {σ : L2.St} {S : Sg}
/-- .. and never changed again -/
theorem Out.old' (r : Rep T Z g H σ S) {v : V} {H' : Hp} {d : D} (o : Out T g H v H' d) : ∃ g', Rep T Z g' H' σ S ∧ g.le g' ∧ Zp Z H H' ∧ Dv T g' v d := by
  cases o with
  | old h => exact ⟨g, r, .rfl, .rfl, h⟩
  | @tup p vs ds h h' =>
    have l : g.le (g.frz p (.tup vs)) := Gh.le_frz (r.newF h)
    exact ⟨_, (r.grow h).freeze upd_same (r.newF h) (r.newρ h) (r.newO h) (r.newZ h), l, .grow r h, .tup (.of (by show upd g.F p _ p = _; exact upd_same)) (DvL.up l _ h')⟩
  | @lst p vs ds h h' =>
    have l : g.le (g.frz p (.lst vs)) := Gh.le_frz (r.newF h)
    exact ⟨_, (r.grow h).freeze upd_same (r.newF h) (r.newρ h) (r.newO h) (r.newZ h), l, .grow r h, .lst (by show upd g.F p _ p = _; exact upd_same) (DvL.up l _ h')⟩
  | @dct p h =>
    have l : g.le (g.frz p (.dK [])) := Gh.le_frz (r.newF h)
    exact ⟨_, (r.grow h).freeze upd_same (r.newF h) (r.newρ h) (r.newO h) (r.newZ h), l, .grow r h, .dct (by show upd g.F p _ p = _; exact upd_same)⟩
/-- a list told as new is never changed again -/
theorem Fresh.old (r : Rep T Z g H σ S) {v : V} {d : D} (f : Fresh T Z g H σ S v d) : ∃ g', Rep T Z g' H σ S ∧ g.le g' ∧ Dv T g' v d := by
  obtain ⟨l, vs, xs, rfl, rfl, h1, h2, h3, h4, h5, h6⟩ := f
  have le : g.le (g.frz l (.lst vs)) := Gh.le_frz h3
  exact ⟨_, r.freeze h1 h3 h5 h6 h4, le, .lst (by show upd g.F l _ l = _; exact upd_same) (DvL.up le _ h2)⟩
theorem Vl.old (r : Rep T Z g H σ S) {fr : Bool} {v : V} {d : D} (f : Vl T fr Z g H σ S v d) : ∃ g', Rep T Z g' H σ S ∧ g.le g' ∧ Dv T g' v d := by
  cases fr with
  | false => exact ⟨g, r, .rfl, f⟩
  | true =>
    cases d with
    | lst xs => exact Fresh.old r f
    | _ => exact ⟨g, r, .rfl, f⟩
end
/-- a new list, or something that is no list -/
inductive OutN (T : Tb) (g : Gh) (H : Hp) : V → Hp → D → Prop where
  | old {v : V} {d : D} (h : Dv T g v d) (hn : ∀ xs, d ≠ .lst xs) : OutN T g H v H d
  | tup {p : Addr} {vs : List V} {ds : List D} (h : H p = none) (h' : DvL T g vs ds) : OutN T g H (.ref p) (upd H p (.tup vs)) (.tup ds)
  | lst {p : Addr} {vs : List V} {ds : List D} (h : H p = none) (h' : DvL T g vs ds) : OutN T g H (.ref p) (upd H p (.lst vs)) (.lst ds)
theorem OutN.new {T : Tb} {Z : Addr → Prop} {g : Gh} {H : Hp} {σ : L2.St} {S : Sg} (r : Rep T Z g H σ S) {v : V} {H' : Hp} {d : D} (o : OutN T g H v H' d) : ∃ g', Rep T Z g' H' σ S ∧ g.le g' ∧ Zp Z H H' ∧ Vl T true Z g' H' σ S v d := by
  cases o with
  | old h hn =>
    refine ⟨g, r, .rfl, .rfl, ?_⟩
    cases d with
    | lst xs => exact absurd rfl (hn xs)
    | _ => exact h
  | @tup p vs ds h h' =>
    have l : g.le (g.frz p (.tup vs)) := Gh.le_frz (r.newF h)
    exact ⟨_, (r.grow h).freeze upd_same (r.newF h) (r.newρ h) (r.newO h) (r.newZ h), l, .grow r h, Dv.tup (.of (by show upd g.F p _ p = _; exact upd_same)) (DvL.up l _ h')⟩
  | @lst p vs ds h h' =>
    exact ⟨g, r.grow h, .rfl, .grow r h, p, vs, ds, rfl, rfl, upd_same, h', r.newF h, r.newZ h, r.newρ h, r.newO h⟩
end Mi

set_option autoImplicit false
/-! Mi2: operations on two values. -/
namespace Mi
open PySem L2
open PyProof.Rows (Fr News)

abbrev Fs (g : Gh) (H : Hp) : Prop := ∀ b o, g.F b = some o → H b = some o
/-- what an operation f asks and gives -/
def rO (T : Tb) (f : D → D → Option D) : R2 := fun x y H Q => ∃ g d e c, Fs g H ∧ Dw T g H x d ∧ Dw T g H y e ∧ f d e = some c ∧ ∀ v H', OutN T g H v H' c → Q v H'

section dw
variable {T : Tb} {g : Gh} {H : Hp} {v : V}
theorem Dw.int {i : Int} (h : Dw T g H v (.int i)) : v = .int i := by cases h with | dv h => cases h; rfl
theorem Dw.bl {b : Bool} (h : Dw T g H v (.bl b)) : v = .bl b := by cases h with | dv h => cases h; rfl
theorem Dw.non (h : Dw T g H v .non) : v = .non := by cases h with | dv h => cases h; rfl
theorem Dw.str {x : Str} (h : Dw T g H v (.str x)) : v = .str x ∧ x.length ≤ lim ∧ PyData.strOk x = true := by cases h with | dv h => cases h with | str a b c => exact ⟨rfl, b, c⟩
end dw
theorem outI {T : Tb} {g : Gh} {H : Hp} (i : Int) : OutN T g H (.int i) H (.int i) := .old (.int i) (fun _ e => by cases e)
theorem outB {T : Tb} {g : Gh} {H : Hp} (b : Bool) : OutN T g H (.bl b) H (.bl b) := .old (.bl b) (fun _ e => by cases e)
theorem outS {T : Tb} {g : Gh} {H : Hp} (x : Str) (h : x.length ≤ lim) (h' : PyData.strOk x = true) : OutN T g H (.str x) H (.str x) := .old (.str x h h') (fun _ e => by cases e)
theorem lim_eq : (sizeLine : Nat) = lim := sizeLine_eq
theorem strOk_app {x y : Str} (hx : PyData.strOk x = true) (hy : PyData.strOk y = true) : PyData.strOk (x ++ y) = true := by
  unfold PyData.strOk at *
  rw [Array.all_eq_true'] at *
  intro c hc
  have e : (x ++ y).cps = x.cps ++ y.cps := rfl
  rw [e, Array.mem_append] at hc
  exact hc.elim (hx c) (hy c)
theorem len_app (x y : Str) : (x ++ y).length = x.length + y.length := by
  show (x.cps ++ y.cps).size = _
  rw [Array.size_append]; rfl
theorem strOk_mk (l : List Nat) : PyData.strOk ⟨l.toArray⟩ = l.all (· < 0x110000) := by
  unfold PyData.strOk
  simp
theorem strOk_list {x : Str} (h : PyData.strOk x = true) : ∀ c ∈ x.cps.toList, c < 0x110000 := by
  unfold PyData.strOk at h
  rw [Array.all_eq_true'] at h
  intro c hc
  exact of_decide_eq_true (h c (Array.mem_toList_iff.mp hc))

theorem foldl_reps (l : List Nat) : ∀ (n : Nat) (acc : Array Nat), ((List.replicate n l.toArray).foldl (· ++ ·) acc).toList = acc.toList ++ (List.replicate n l).flatten
  | 0, acc => by simp
  | n + 1, acc => by
    rw [List.replicate_succ, List.foldl_cons, foldl_reps l n, List.replicate_succ, List.flatten_cons]
    simp
theorem mul_len (x : Str) (k : Int) (h0 : 0 ≤ k) : (Txt.mul x k).length ≤ x.length * k.toNat := by
  unfold Txt.mul
  split
  · show 0 ≤ _; exact Nat.zero_le _
  · rename_i h1
    split
    · rename_i h2
      have : 1 ≤ k.toNat := by omega
      exact Nat.le_mul_of_pos_right _ this
    · show (Array.size (List.foldl (· ++ ·) #[] (List.replicate k.toNat x.cps) : Array Nat)) ≤ _
      have e := foldl_reps x.cps.toList k.toNat #[]
      rw [← Array.length_toList]
      have e1 : x.cps.toList.toArray = x.cps := by simp
      rw [e1] at e
      rw [e]
      simp
      show _ ≤ x.cps.size * _
      rw [Nat.mul_comm]; exact Nat.le_refl _
theorem mul_ok (x : Str) (k : Int) (h : PyData.strOk x = true) : PyData.strOk (Txt.mul x k) = true := by
  unfold Txt.mul
  split
  · unfold PyData.strOk; simp [Str.empty]
  · split
    · exact h
    · have e := foldl_reps x.cps.toList k.toNat #[]
      have e1 : x.cps.toList.toArray = x.cps := by simp
      rw [e1] at e
      have h' := strOk_list h
      unfold PyData.strOk
      rw [Array.all_eq_true']
      intro c hc
      have hc' : c ∈ (List.foldl (· ++ ·) #[] (List.replicate k.toNat x.cps)).toList := Array.mem_toList_iff.mpr hc
      rw [e] at hc'
      have hc2 : c ∈ (List.replicate k.toNat x.cps.toList).flatten := by simpa using hc'
      obtain ⟨l, h1, h2⟩ := List.mem_flatten.mp hc2
      have h3 := (List.mem_replicate.mp h1).2
      rw [h3] at h2
      exact decide_eq_true (h' c h2)
theorem mulOk_of {x : Str} {k : Int} (h0 : 0 ≤ k) (h1 : k ≤ 1000) (h2 : x.length ≤ 1000) : MulOk x k := by
  refine ⟨?_, fun a b => ?_, fun a b => ?_⟩
  · rw [Bool.or_eq_false_iff, decide_eq_false_iff_not, decide_eq_false_iff_not]
    omega
  · have : (1000 : Int) ≤ (2 ^ 63 - 1) / k := by
      rw [Int.le_ediv_iff_mul_le (by omega)]
      omega
    omega
  · have : x.length * k.toNat ≤ 1000 * 1000 := Nat.mul_le_mul h2 (by omega)
    have e : ¬ (x.length * k.toNat > sizeLine) := by rw [lim_eq]; show ¬ (_ > 16777216); omega
    unfold Builtin.Str.tooLong
    simpa using e

section ops
variable {T : Tb} {X : Cx} (hK : X.K = T.K) (hu : X.A.units + 100 < cLine)
include hK hu

theorem o_add : OpR X (binaryOp .Add) (rO T addD) := by
  rintro pins s σ H x y v u Q I rx ry ⟨g, d, e, c, fs, hd, he, hc, q⟩
  cases d <;> cases e <;> simp only [addD] at hc <;> try (cases hc)
  · obtain rfl := hd.int
    obtain rfl := he.int
    exact op_add pins s σ H _ _ v u Q I rx ry ⟨_, _, rfl, rfl, q _ _ (outI _)⟩
  · rename_i a b
    obtain ⟨rfl, h1, h2⟩ := hd.str
    obtain ⟨rfl, h3, h4⟩ := he.str
    split at hc
    · rename_i hl
      cases hc
      exact op_add_str pins s σ H _ _ v u Q I rx ry ⟨_, _, rfl, rfl, by rw [lim_eq]; exact hl, q _ _ (outS _ (by rw [len_app]; exact hl) (strOk_app h2 h4))⟩
    · cases hc
  · rename_i a b
    obtain ⟨l, vs, rfl, h1, h2, h3⟩ := hd.tup fs
    obtain ⟨m, ws, rfl, h4, h5, h6⟩ := he.tup fs
    split at hc
    · rename_i hl
      cases hc
      have e1 := h2.length
      have e2 := h5.length
      refine op_catA pins s σ H _ _ v u Q I rx ry ⟨l, m, vs, ws, rfl, rfl, by rw [hK]; exact h1, by rw [hK]; exact h4, by rw [lim_eq, e1, e2]; exact hl, fun z => ?_, fun _ z => ?_, fun _ _ p hp => ?_⟩
      · refine q _ _ (.old ?_ (fun _ e => by cases e))
        have za : a = [] := by
          cases a with
          | nil => rfl
          | cons _ _ => rw [z] at e1; cases e1
        rw [za]; exact h6
      · refine q _ _ (.old ?_ (fun _ e => by cases e))
        have zb : b = [] := by
          cases b with
          | nil => rfl
          | cons _ _ => rw [z] at e2; cases e2
        rw [zb, List.append_nil]; exact h3
      · exact q _ _ (.tup hp (h2.app h5))
    · cases hc
  · rename_i a b
    obtain ⟨l, vs, rfl, h1, h2⟩ := hd.lst fs
    obtain ⟨m, ws, rfl, h4, h5⟩ := he.lst fs
    split at hc
    · rename_i hl
      cases hc
      exact op_cat pins s σ H _ _ v u Q I rx ry ⟨l, m, vs, ws, rfl, rfl, h1, h4, by rw [lim_eq, h2.length, h5.length]; exact hl, fun p hp => q _ _ (.lst hp (h2.app h5))⟩
    · cases hc

theorem o_sub : OpR X (binaryOp .Sub) (rO T (op2 .sub)) := by
  rintro pins s σ H x y v u Q I rx ry ⟨g, d, e, c, fs, hd, he, hc, q⟩
  cases d <;> cases e <;> simp only [op2] at hc <;> try (cases hc)
  obtain rfl := hd.int
  obtain rfl := he.int
  exact op_sub pins s σ H _ _ v u Q I rx ry ⟨_, _, rfl, rfl, q _ _ (outI _)⟩
theorem o_fdiv : OpR X (binaryOp .FloorDiv) (rO T (op2 .fdiv)) := by
  rintro pins s σ H x y v u Q I rx ry ⟨g, d, e, c, fs, hd, he, hc, q⟩
  cases d <;> cases e <;> simp only [op2] at hc <;> try (cases hc)
  obtain rfl := hd.int
  obtain rfl := he.int
  split at hc
  · rename_i hl
    cases hc
    rw [Bool.and_eq_true, decide_eq_true_eq, decide_eq_true_eq] at hl
    exact op_fdiv pins s σ H _ _ v u Q I rx ry ⟨_, _, rfl, rfl, hl, q _ _ (outI _)⟩
  · cases hc
theorem o_mod : OpR X (binaryOp .Mod) (rO T (op2 .mod)) := by
  rintro pins s σ H x y v u Q I rx ry ⟨g, d, e, c, fs, hd, he, hc, q⟩
  cases d <;> cases e <;> simp only [op2] at hc <;> try (cases hc)
  obtain rfl := hd.int
  obtain rfl := he.int
  split at hc
  · rename_i hl
    cases hc
    rw [decide_eq_true_eq] at hl
    exact op_mod pins s σ H _ _ v u Q I rx ry ⟨_, _, rfl, rfl, hl, q _ _ (outI _)⟩
  · cases hc
theorem small_lt {i : Int} (h : small i = true) : -(2 ^ 64) < i ∧ i < 2 ^ 64 := by
  have h' : i.natAbs < 18446744073709551616 := of_decide_eq_true h
  omega
theorem o_pow : OpR X (binaryOp .Pow) (rO T (op2 .pow)) := by
  rintro pins s σ H x y v u Q I rx ry ⟨g, d, e, c, fs, hd, he, hc, q⟩
  cases d <;> cases e <;> simp only [op2] at hc <;> try (cases hc)
  obtain rfl := hd.int
  obtain rfl := he.int
  split at hc
  · rename_i hl
    cases hc
    rw [Bool.and_eq_true, Bool.and_eq_true, decide_eq_true_eq, decide_eq_true_eq] at hl
    obtain ⟨h1, h2⟩ := small_lt hK hu hl.2
    exact op_pow pins s σ H _ _ v u Q I rx ry ⟨_, _, rfl, rfl, ⟨hl.1.1, by omega, by omega⟩, q _ _ (outI _)⟩
  · cases hc
theorem o_eq : OpR X (compareOp .Eq) (rO T (op2 .eq)) := by
  rintro pins s σ H x y v u Q I rx ry ⟨g, d, e, c, fs, hd, he, hc, q⟩
  have hc' : b2 id (deq d e) = some c := hc
  unfold deq at hc'
  split at hc'
  · rename_i hl
    rw [Bool.and_eq_true, Bool.and_eq_true, decide_eq_true_eq] at hl
    cases hc'
    obtain ⟨p1, c1⟩ := hd.dp fs hl.1.1
    obtain ⟨p2, c2⟩ := he.dp fs hl.1.2
    obtain ⟨as, r1⟩ := Dp.reads I _ x v (by rw [hK]; exact p1) rx
    obtain ⟨bs, r2⟩ := Dp.reads I _ y u (by rw [hK]; exact p2) ry
    exact SeqAt.compareEq_reads r1 r2 c1 c2 (by omega) ⟨.bl _, H, I, rfl, q _ _ (outB _)⟩
  · split at hc'
    · rename_i xs _
      cases hc'
      obtain ⟨l, ws, rfl, h1, h2, _⟩ := hd.tup fs
      obtain ⟨l', ws', rfl, h1', h2', _⟩ := he.tup fs
      cases h2'
      cases rx
      cases ry
      obtain ⟨its, r, pl, hz⟩ := I.tuple (by rw [hK]; exact h1)
      obtain ⟨its', r', pl', hz'⟩ := I.tuple (by rw [hK]; exact h1')
      cases r'
      refine (SeqAt.RcAt.tuples (e := fun _ => true) pl pl' (by omega) fun j j1 j2 => absurd j2 (Nat.not_lt_zero _)) X.prog X.w X.xe (EP X pins σ Q) ⟨.bl _, H, I, rfl, ?_⟩
      have e1 : (its.toArray.size == 0) = xs.isEmpty := by
        rw [List.size_toArray, ← r.length, h2.length]
        cases xs <;> rfl
      have e2 : ((List.range (min its.toArray.size ([] : List Value).toArray.size)).all (fun _ => true) && its.toArray.size == ([] : List Value).toArray.size) = xs.isEmpty := by
        rw [List.all_eq_true.mpr fun _ _ => rfl]
        exact e1
      rw [e2]
      exact q _ _ (outB _)
    · rename_i xs _
      cases hc'
      obtain ⟨l, ws, rfl, h1, h2⟩ := hd.lst fs
      obtain ⟨l', ws', rfl, h1', h2'⟩ := he.lst fs
      cases h2'
      cases rx
      cases ry
      obtain ⟨its, r, ⟨ob, nn, u1, u2, u3, u4⟩, hz⟩ := I.list (.inl (.inl h1))
      obtain ⟨its', r', ⟨ob', nn', u1', u2', u3', u4'⟩, hz'⟩ := I.list (.inl (.inl h1'))
      cases r'
      have pl : s.heap.IsList l its.toArray := ⟨ob, u1, u2, nn, u4⟩
      have pl' : s.heap.IsList l' ([] : List Value).toArray := ⟨ob', u1', u2', nn', u4'⟩
      cases xs with
      | nil =>
        cases h2
        cases r
        exact (SeqAt.RcAt.lists (e := fun _ => true) pl pl' rfl (by omega) fun j j1 j2 => absurd j2 (Nat.not_lt_zero _)) X.prog X.w X.xe (EP X pins σ Q) ⟨.bl _, H, I, rfl, q _ _ (outB _)⟩
      | cons d ds =>
        cases h2
        cases r
        exact (SeqAt.RcAt.lists_lengths pl pl' rfl (by omega)) X.prog X.w X.xe (EP X pins σ Q) ⟨.bl _, H, I, rfl, q _ _ (outB _)⟩
    · cases hc'
theorem o_ne : OpR X (compareOp .NotEq) (rO T (op2 .ne)) := by
  rintro pins s σ H x y v u Q I rx ry ⟨g, d, e, c, fs, hd, he, hc, q⟩
  have hc' : b2 not (deq d e) = some c := hc
  unfold deq at hc'
  split at hc'
  · rename_i hl
    rw [Bool.and_eq_true, Bool.and_eq_true, decide_eq_true_eq] at hl
    cases hc'
    obtain ⟨p1, c1⟩ := hd.dp fs hl.1.1
    obtain ⟨p2, c2⟩ := he.dp fs hl.1.2
    obtain ⟨as, r1⟩ := Dp.reads I _ x v (by rw [hK]; exact p1) rx
    obtain ⟨bs, r2⟩ := Dp.reads I _ y u (by rw [hK]; exact p2) ry
    exact SeqAt.compareNe_reads r1 r2 c1 c2 (by omega) ⟨.bl _, H, I, rfl, q _ _ (outB _)⟩
  · split at hc'
    · rename_i xs _
      cases hc'
      obtain ⟨l, ws, rfl, h1, h2, _⟩ := hd.tup fs
      obtain ⟨l', ws', rfl, h1', h2', _⟩ := he.tup fs
      cases h2'
      cases rx
      cases ry
      obtain ⟨its, r, pl, hz⟩ := I.tuple (by rw [hK]; exact h1)
      obtain ⟨its', r', pl', hz'⟩ := I.tuple (by rw [hK]; exact h1')
      cases r'
      refine (SeqAt.RcNeAt.tuples (e := fun _ => true) pl pl' (by omega) fun j j1 j2 => absurd j2 (Nat.not_lt_zero _)) X.prog X.w X.xe (EP X pins σ Q) ⟨.bl _, H, I, rfl, ?_⟩
      have e1 : (its.toArray.size == 0) = xs.isEmpty := by
        rw [List.size_toArray, ← r.length, h2.length]
        cases xs <;> rfl
      have e2 : ((List.range (min its.toArray.size ([] : List Value).toArray.size)).all (fun _ => true) && its.toArray.size == ([] : List Value).toArray.size) = xs.isEmpty := by
        rw [List.all_eq_true.mpr fun _ _ => rfl]
        exact e1
      rw [e2]
      exact q _ _ (outB _)
    · rename_i xs _
      cases hc'
      obtain ⟨l, ws, rfl, h1, h2⟩ := hd.lst fs
      obtain ⟨l', ws', rfl, h1', h2'⟩ := he.lst fs
      cases h2'
      cases rx
      cases ry
      obtain ⟨its, r, ⟨ob, nn, u1, u2, u3, u4⟩, hz⟩ := I.list (.inl (.inl h1))
      obtain ⟨its', r', ⟨ob', nn', u1', u2', u3', u4'⟩, hz'⟩ := I.list (.inl (.inl h1'))
      cases r'
      have pl : s.heap.IsList l its.toArray := ⟨ob, u1, u2, nn, u4⟩
      have pl' : s.heap.IsList l' ([] : List Value).toArray := ⟨ob', u1', u2', nn', u4'⟩
      cases xs with
      | nil =>
        cases h2
        cases r
        exact (SeqAt.RcNeAt.lists (e := fun _ => true) pl pl' rfl (by omega) fun j j1 j2 => absurd j2 (Nat.not_lt_zero _)) X.prog X.w X.xe (EP X pins σ Q) ⟨.bl _, H, I, rfl, q _ _ (outB _)⟩
      | cons d ds =>
        cases h2
        cases r
        exact (SeqAt.RcNeAt.lists_lengths pl pl' rfl (by omega)) X.prog X.w X.xe (EP X pins σ Q) ⟨.bl _, H, I, rfl, q _ _ (outB _)⟩
    · cases hc'
theorem o_gt : OpR X (compareOp .Gt) (rO T (op2 .gt)) := by
  rintro pins s σ H x y v u Q I rx ry ⟨g, d, e, c, fs, hd, he, hc, q⟩
  cases d <;> cases e <;> simp only [op2] at hc <;> try (cases hc)
  · obtain rfl := hd.int
    obtain rfl := he.int
    exact op_gt pins s σ H _ _ v u Q I rx ry ⟨_, _, rfl, rfl, q _ _ (outB _)⟩
  · obtain ⟨rfl, h1, h2⟩ := hd.str
    obtain ⟨rfl, h3, h4⟩ := he.str
    exact op_gt_str pins s σ H _ _ v u Q I rx ry ⟨_, _, rfl, rfl, q _ _ (outB _)⟩
theorem o_le : OpR X (compareOp .LtE) (rO T (op2 .le)) := by
  rintro pins s σ H x y v u Q I rx ry ⟨g, d, e, c, fs, hd, he, hc, q⟩
  cases d <;> cases e <;> simp only [op2] at hc <;> try (cases hc)
  · obtain rfl := hd.int
    obtain rfl := he.int
    exact op_le pins s σ H _ _ v u Q I rx ry ⟨_, _, rfl, rfl, q _ _ (outB _)⟩
  · obtain ⟨rfl, h1, h2⟩ := hd.str
    obtain ⟨rfl, h3, h4⟩ := he.str
    exact op_le_str pins s σ H _ _ v u Q I rx ry ⟨_, _, rfl, rfl, q _ _ (outB _)⟩
theorem o_ge : OpR X (compareOp .GtE) (rO T (op2 .ge)) := by
  rintro pins s σ H x y v u Q I rx ry ⟨g, d, e, c, fs, hd, he, hc, q⟩
  cases d <;> cases e <;> simp only [op2] at hc <;> try (cases hc)
  · obtain rfl := hd.int
    obtain rfl := he.int
    exact op_ge pins s σ H _ _ v u Q I rx ry ⟨_, _, rfl, rfl, q _ _ (outB _)⟩
  · obtain ⟨rfl, h1, h2⟩ := hd.str
    obtain ⟨rfl, h3, h4⟩ := he.str
    exact op_ge_str pins s σ H _ _ v u Q I rx ry ⟨_, _, rfl, rfl, q _ _ (outB _)⟩

/-- is None, is True, is False -/
theorem isD_ok {pins : List (Addr × Obj)} {s : Shared} {σ : L2.St} {H : Hp} {x y : V} {v u : Value} {g : Gh} {d e : D} {b : Bool} (I : Inv X pins σ H s) (rx : RelV x v) (ry : RelV y u)
    (hd : Dw T g H x d) (he : Dw T g H y e) (hb : isD d e = some b) : (∃ k, u = .bool k ∧ PySem.plainIs v u = true ∧ (v == u) = b) ∨ (u = .none ∧ (v == .none) = b) := by
  cases e with
  | non =>
    obtain rfl := he.non
    cases ry
    refine .inr ⟨rfl, ?_⟩
    rw [rx.none_iff]
    have hb' : some (match d with | .non => true | _ => false) = some b := by cases d <;> exact hb
    rw [← Option.some.inj hb']
    cases d with
    | non => obtain rfl := hd.non; rfl
    | bl c => obtain rfl := hd.bl; rfl
    | int c => obtain rfl := hd.int; rfl
    | str c => obtain ⟨rfl, _⟩ := hd.str; rfl
    | lst xs =>
      cases hd with
      | dv h => cases h; rfl
      | ls h h' => rfl
    | _ => cases hd with | dv h => cases h; rfl
  | bl k =>
    obtain rfl := he.bl
    cases ry
    refine .inl ⟨k, rfl, ?_⟩
    cases d with
    | non => obtain rfl := hd.non; cases rx; cases hb; exact ⟨rfl, rfl⟩
    | bl c =>
      obtain rfl := hd.bl
      cases rx
      have hb' : some (decide (c = k)) = some b := hb
      cases hb'
      exact ⟨rfl, by cases c <;> cases k <;> rfl⟩
    | int c => obtain rfl := hd.int; obtain ⟨t, rfl⟩ := rx; cases hb; exact ⟨rfl, rfl⟩
    | str c => obtain ⟨rfl, _⟩ := hd.str; obtain ⟨t, rfl⟩ := rx; cases hb; exact ⟨rfl, rfl⟩
    | tup xs =>
      obtain ⟨l, vs, rfl, _⟩ : ∃ l vs, x = V.ref l ∧ DvL T g vs xs := by cases hd with | dv h => cases h with | tup a c => exact ⟨_, _, rfl, c⟩
      cases rx; cases hb; exact ⟨rfl, rfl⟩
    | lst xs =>
      obtain ⟨l, rfl⟩ : ∃ l, x = V.ref l := by
        cases hd with
        | dv h => cases h with | lst a c => exact ⟨_, rfl⟩
        | ls h h' => exact ⟨_, rfl⟩
      cases rx; cases hb; exact ⟨rfl, rfl⟩
    | _ => cases hb
  | _ => cases d <;> cases hb
theorem o_is : OpR X (compareOp .Is) (rO T (op2 .is_)) := by
  rintro pins s σ H x y v u Q I rx ry ⟨g, d, e, c, fs, hd, he, hc, q⟩
  have hc' : b2 id (isD d e) = some c := hc
  cases hb : isD d e with
  | none => rw [hb] at hc'; cases hc'
  | some b =>
    rw [hb] at hc'
    cases hc'
    rcases isD_ok hK hu I rx ry hd he hb with ⟨k, rfl, hp, h1⟩ | ⟨rfl, h1⟩
    · exact wpAny_is_plain hp ⟨.bl _, H, I, by rw [h1]; rfl, q _ _ (outB _)⟩
    · exact PyProof.Rows.is_none_gen ⟨.bl _, H, I, by rw [h1]; rfl, q _ _ (outB _)⟩
theorem o_isnot : OpR X (compareOp .IsNot) (rO T (op2 .isnot)) := by
  rintro pins s σ H x y v u Q I rx ry ⟨g, d, e, c, fs, hd, he, hc, q⟩
  have hc' : b2 not (isD d e) = some c := hc
  cases hb : isD d e with
  | none => rw [hb] at hc'; cases hc'
  | some b =>
    rw [hb] at hc'
    cases hc'
    rcases isD_ok hK hu I rx ry hd he hb with ⟨k, rfl, hp, h1⟩ | ⟨rfl, h1⟩
    · exact wpAny_isNot_plain hp ⟨.bl _, H, I, by rw [h1]; rfl, q _ _ (outB _)⟩
    · exact PyProof.Rows.isnot_none_gen ⟨.bl _, H, I, by rw [h1]; rfl, q _ _ (outB _)⟩

theorem o_in : OpR X (compareOp .In) (rO T (op2 .in_)) := by
  rintro pins s σ H x y v u Q I rx ry ⟨g, d, e, c, fs, hd, he, hc, q⟩
  have hc' : b2 id (inD d e) = some c := hc
  have sq : ∀ (xs : List D), memD d xs = inD d e → (∃ p ws, y = .ref p ∧ (SqL T.K H p ws ∨ SqT T.K H p ws) ∧ DvL T g ws xs) → wpAny (model X.prog X.w) X.A (compareOp .In v u) (EP X pins σ Q) X.xe s := by
    rintro xs hm ⟨p, ws, rfl, hs, hv⟩
    rw [← hm] at hc'
    unfold memD at hc'
    split at hc'
    · rename_i hl
      rw [Bool.and_eq_true, Bool.and_eq_true, decide_eq_true_eq] at hl
      cases hc'
      obtain ⟨p1, c1⟩ := hd.dp fs hl.1.2
      obtain ⟨p2, c2⟩ := DvL.dp fs xs hl.1.1 hv
      obtain ⟨as, r1⟩ := Dp.reads I _ x v (by rw [hK]; exact p1) rx
      rcases hs with hs | hs
      · obtain ⟨bs, r2⟩ := Dp.reads I (.list (D.pys xs)) _ u (by rw [hK]; exact .lst hs p2) ry
        exact SeqAt.in_list_reads r2 r1 c2 c1 (by omega) ⟨.bl _, H, I, rfl, q _ _ (outB _)⟩
      · obtain ⟨bs, r2⟩ := Dp.reads I (.tuple (D.pys xs)) _ u (by rw [hK]; exact .tup hs p2) ry
        exact SeqAt.in_tuple_reads r2 r1 c2 c1 (by omega) ⟨.bl _, H, I, rfl, q _ _ (outB _)⟩
    · cases hc'
  cases e with
  | tup xs => obtain ⟨l, vs, e1, h1, h2, _⟩ := he.tup fs; exact sq xs rfl ⟨l, vs, e1, .inr h1, h2⟩
  | lst xs => obtain ⟨l, vs, e1, h1, h2⟩ := he.lst fs; exact sq xs rfl ⟨l, vs, e1, .inl (.of h1), h2⟩
  | str z =>
    obtain ⟨rfl, h1, h2⟩ := he.str
    cases d with
    | str a =>
      obtain ⟨rfl, h3, h4⟩ := hd.str
      cases hc'
      exact op_in_str pins s σ H _ _ v u Q I rx ry ⟨_, _, rfl, rfl, q _ _ (outB _)⟩
    | _ => cases hc'
  | _ => cases hc'
theorem o_notin : OpR X (compareOp .NotIn) (rO T (op2 .notin)) := by
  rintro pins s σ H x y v u Q I rx ry ⟨g, d, e, c, fs, hd, he, hc, q⟩
  have hc' : b2 not (inD d e) = some c := hc
  have sq : ∀ (xs : List D), memD d xs = inD d e → (∃ p ws, y = .ref p ∧ (SqL T.K H p ws ∨ SqT T.K H p ws) ∧ DvL T g ws xs) → wpAny (model X.prog X.w) X.A (compareOp .NotIn v u) (EP X pins σ Q) X.xe s := by
    rintro xs hm ⟨p, ws, rfl, hs, hv⟩
    rw [← hm] at hc'
    unfold memD at hc'
    split at hc'
    · rename_i hl
      rw [Bool.and_eq_true, Bool.and_eq_true, decide_eq_true_eq] at hl
      cases hc'
      obtain ⟨p1, c1⟩ := hd.dp fs hl.1.2
      obtain ⟨p2, c2⟩ := DvL.dp fs xs hl.1.1 hv
      obtain ⟨as, r1⟩ := Dp.reads I _ x v (by rw [hK]; exact p1) rx
      rcases hs with hs | hs
      · obtain ⟨bs, r2⟩ := Dp.reads I (.list (D.pys xs)) _ u (by rw [hK]; exact .lst hs p2) ry
        exact SeqAt.notIn_list_reads r2 r1 c2 c1 (by omega) ⟨.bl _, H, I, rfl, q _ _ (outB _)⟩
      · obtain ⟨bs, r2⟩ := Dp.reads I (.tuple (D.pys xs)) _ u (by rw [hK]; exact .tup hs p2) ry
        exact SeqAt.notIn_tuple_reads r2 r1 c2 c1 (by omega) ⟨.bl _, H, I, rfl, q _ _ (outB _)⟩
    · cases hc'
  cases e with
  | tup xs => obtain ⟨l, vs, e1, h1, h2, _⟩ := he.tup fs; exact sq xs rfl ⟨l, vs, e1, .inr h1, h2⟩
  | lst xs => obtain ⟨l, vs, e1, h1, h2⟩ := he.lst fs; exact sq xs rfl ⟨l, vs, e1, .inl (.of h1), h2⟩
  | str z =>
    obtain ⟨rfl, h1, h2⟩ := he.str
    cases d with
    | str a =>
      obtain ⟨rfl, h3, h4⟩ := hd.str
      cases hc'
      exact op_notin_str pins s σ H _ _ v u Q I rx ry ⟨_, _, rfl, rfl, q _ _ (outB _)⟩
    | _ => cases hc'
  | _ => cases hc'
theorem o_mul : OpR X (binaryOp .Mult) (rO T mulD) := by
  rintro pins s σ H x y v u Q I rx ry ⟨g, d, e, c, fs, hd, he, hc, q⟩
  cases d <;> cases e <;> simp only [mulD] at hc <;> try (cases hc)
  · obtain rfl := hd.int
    obtain rfl := he.int
    split at hc
    · rename_i hl
      cases hc
      rw [Bool.or_eq_true] at hl
      exact op_mul pins s σ H _ _ v u Q I rx ry ⟨_, _, rfl, rfl, hl.imp (fun z => small_lt hK hu z) (fun z => small_lt hK hu z), q _ _ (outI _)⟩
    · cases hc
  · rename_i a k
    obtain ⟨rfl, h1, h2⟩ := hd.str
    obtain rfl := he.int
    split at hc
    · rename_i hl
      cases hc
      rw [Bool.and_eq_true, Bool.and_eq_true, decide_eq_true_eq, decide_eq_true_eq, decide_eq_true_eq] at hl
      obtain ⟨⟨l1, l2⟩, l3⟩ := hl
      obtain ⟨t, rfl⟩ := rx
      obtain ⟨t', rfl⟩ := ry
      have hlen : (Txt.mul a k).length ≤ lim := by
        have q1 := mul_len a k l1
        have q2 : a.length * k.toNat ≤ 1000 * 1000 := Nat.mul_le_mul l3 (by omega)
        show _ ≤ 16777216
        omega
      exact SB.mul (mulOk_of l1 l2 l3) fun t2 k2 => ⟨.str _, H, I.tok k2, ⟨t2, rfl⟩, q _ _ (outS _ hlen (mul_ok a k h2))⟩
    · cases hc
  · rename_i a k
    obtain ⟨l, vs, rfl, h1, h2⟩ := hd.lst fs
    obtain rfl := he.int
    split at hc
    · rename_i hl
      cases hc
      have hl : ((-(2 ^ 63) ≤ k ∧ k < 2 ^ 63) ∧ a.length * k.toNat ≤ lim) := by
        rw [Bool.and_eq_true, decide_eq_true_eq, decide_eq_true_eq] at hl
        exact ⟨by omega, hl.2⟩
      exact op_rep pins s σ H _ _ v u Q I rx ry ⟨l, k, vs, rfl, rfl, h1, hl.1.1, hl.1.2, by rw [lim_eq, h2.length]; exact hl.2, fun p hp => q _ _ (.lst hp (h2.rep _))⟩
    · cases hc
end ops
end Mi

set_option autoImplicit false
/-! Mi3: expressions. -/
namespace Mi
open PySem L2
open PyProof.Rows (Fr News)

/-- behind a computation of the small language: every state that fits its end does K -/
def Pst {α : Type} (T : Tb) (Z : Addr → Prop) (g : Gh) (H : Hp) (σ : L2.St) (r : R α) (K : α → Sg → Gh → Hp → Prop) : Prop :=
  match r with
  | .ok a S' => ∀ g' H', Rep T Z g' H' σ S' → g.le g' → Zp Z H H' → K a S' g' H'
  | _ => False
section
variable {α β : Type} {T : Tb} {Z : Addr → Prop} {g : Gh} {H : Hp} {σ : L2.St} {r : R α} {K K' : α → Sg → Gh → Hp → Prop}
theorem Pst.mono (h : Pst T Z g H σ r K) (k : ∀ a S' g' H', Rep T Z g' H' σ S' → g.le g' → Zp Z H H' → K a S' g' H' → K' a S' g' H') : Pst T Z g H σ r K' := by
  cases r with
  | ok a S' => exact fun g' H' r l z => k a S' g' H' r l z (h g' H' r l z)
  | err c fs s => exact h
  | bad => exact h
theorem Pst.from (h : Pst T Z g H σ r K) {g1 : Gh} {H1 : Hp} (l : g.le g1) (z : Zp Z H H1) : Pst T Z g1 H1 σ r K := by
  cases r with
  | ok a S' => exact fun g' H' r l' z' => h g' H' r (l.trans l') (z.trans z')
  | err c fs s => exact h
  | bad => exact h
theorem Pst.bind {f : α → Sg → R β} {K2 : β → Sg → Gh → Hp → Prop} (h : Pst T Z g H σ (r.bind f) K2) : Pst T Z g H σ r fun a S1 g1 H1 => Pst T Z g1 H1 σ (f a S1) K2 := by
  cases r with
  | ok a S' => exact fun g' H' _ l z => Pst.from (r := f a S') h l z
  | err c fs s => exact h
  | bad => exact h
theorem Pst.ok {a : α} {S : Sg} (h : Pst T Z g H σ (.ok a S) K) (r : Rep T Z g H σ S) : K a S g H := h g H r .rfl .rfl
theorem Pst.bad (h : Pst T Z g H σ (.bad : R α) K) : False := h
theorem Pst.ofO {o : Option α} {S : Sg} (h : Pst T Z g H σ (R.ofO o S) K) (r : Rep T Z g H σ S) : ∃ a, o = some a ∧ ∀ g' H', Rep T Z g' H' σ S → g.le g' → Zp Z H H' → K a S g' H' := by
  cases o with
  | none => exact False.elim h
  | some a => exact ⟨a, rfl, h⟩
end

/-- what an operand is -/
def AgV (T : Tb) (g : Gh) (σ : L2.St) (v : V) : Ag → Prop
  | .done d => Dv T g v d
  | .late i => σ[i]? = some (some v)
theorem AgV.up {T : Tb} {g g' : Gh} {σ : L2.St} {v : V} (l : g.le g') : ∀ {a : Ag}, AgV T g σ v a → AgV T g' σ v a
  | .done _, h => Dv.up l _ h
  | .late _, h => h
theorem AgV.dw {T : Tb} {Z : Addr → Prop} {g : Gh} {H : Hp} {σ : L2.St} {S : Sg} {v : V} {a : Ag} {d : D} (r : Rep T Z g H σ S) (h : AgV T g σ v a) (e : S.res a = some d) : Dw T g H v d := by
  cases a with
  | late i =>
    have h' : σ[i]? = some (some v) := h
    simp only [Sg.res] at e
    cases q : S.sl[i]? with
    | none => rw [q] at e; cases e
    | some x =>
      rw [q] at e
      have k := r.slot i x q
      cases x with
      | emp => cases e
      | val d' =>
        cases e
        obtain ⟨w, e1, e2⟩ := k
        rw [h'] at e1; cases e1
        exact .dv e2
      | own xs =>
        cases e
        obtain ⟨l, vs, e1, e2, e3, _⟩ := k
        rw [h'] at e1; cases e1
        exact .ls e2 e3
  | done d' =>
    have h' : Dv T g v d' := h
    cases d' with
    | obj n =>
      simp only [Sg.res] at e
      cases h' with
      | obj hn =>
        obtain ⟨o, ho⟩ := r.rin hn
        rw [ho] at e
        cases o with
        | list xs =>
          cases e
          obtain ⟨⟨vs, q1, q2⟩, _⟩ := r.hobj n _ _ hn ho
          exact .ls q1 q2
        | _ => cases e
    | _ =>
      have e' : some _ = some d := e
      cases e'
      exact .dv h'

/-- the readings: an expression, an operand, a test, arguments -/
def tE (T : Tb) (C : Cn) (fr : Bool) (m : M) : TE := fun σ H Q => ∃ Z g S, Rep T Z g H σ S ∧ Pst T Z g H σ (ev C m S) fun d S' g' H' => ∀ v, Vl T fr Z g' H' σ S' v d → Q v H'
def tG (T : Tb) (C : Cn) (m : M) : TE := fun σ H Q => ∃ Z g S, Rep T Z g H σ S ∧ Pst T Z g H σ (argOf m (ev C m) S) fun a S' g' H' => ∀ v, AgV T g' σ v a → Q v H'
def tT (T : Tb) (C : Cn) (m : M) : TT := fun σ H Q => ∃ Z g S, Rep T Z g H σ S ∧ Pst T Z g H σ (tst (ev C m S)) fun b S' g' H' => Q b H'
def tA (T : Tb) (C : Cn) (m : M) : TA := fun σ H Q => ∃ Z g S, Rep T Z g H σ S ∧ Pst T Z g H σ (evs C m S) fun ds S' g' H' => ∀ vs, DvL T g' vs ds → Q vs H'

section imp
variable {X : Cx} {e : Expr} {es : List Expr}
theorem pe_imp {t t' : TE} (h : PE X e t) (i : ∀ σ H Q, t' σ H Q → t σ H Q) : PE X e t' := ⟨fun p s σ H Q I q => h.run p s σ H Q I (i σ H Q q)⟩
theorem pt_imp {t t' : TT} (h : PT X e t) (i : ∀ σ H Q, t' σ H Q → t σ H Q) : PT X e t' := ⟨fun p s σ H Q I q => h.run p s σ H Q I (i σ H Q q)⟩
theorem pw_imp {t t' : TT} (h : PW X e t) (i : ∀ σ H Q, t' σ H Q → t σ H Q) : PW X e t' := ⟨fun w p s σ H Q I q => h.run w p s σ H Q I (i σ H Q q)⟩
theorem pa_imp {t t' : TA} (h : PA X es t) (i : ∀ σ H Q, t' σ H Q → t σ H Q) : PA X es t' := ⟨fun w p s σ H Q I q => h.run w p s σ H Q I (i σ H Q q)⟩
end imp

section
variable {T : Tb} {C : Cn} {X : Cx} {e a b c : Expr} {m ma mb mc : M} {pos : Pos}

theorem frz_imp {σ : L2.St} {H : Hp} {Q : VK} (h : tE T C false m σ H Q) : tE T C true m σ H Q := by
  obtain ⟨Z, g, S, r, p⟩ := h
  refine ⟨Z, g, S, r, ?_⟩
  cases q : ev C m S with
  | ok d S' =>
    rw [q] at p
    intro g' H' r' l z v hv
    obtain ⟨g2, r2, l2, v2⟩ := Vl.old r' hv
    exact p g2 H' r2 (l.trans l2) z v v2
  | err c fs s => rw [q] at p; exact p
  | bad => rw [q] at p; exact p
/-- a new list kept from then on -/
theorem frz (h : PE X e (tE T C true m)) : PE X e (tE T C false m) := pe_imp h fun σ H Q ⟨Z, g, S, r, p⟩ => ⟨Z, g, S, r, by
  cases q : ev C m S with
  | ok d S' =>
    rw [q] at p
    intro g' H' r' l z v hv
    obtain ⟨g2, r2, l2, v2⟩ := Vl.old r' hv
    exact p g2 H' r2 (l.trans l2) z v v2
  | err c fs s => rw [q] at p; exact p
  | bad => rw [q] at p; exact p⟩
/-- an operand by its value -/
theorem tG_of (hm : ∀ i, m ≠ .peek i) (h : PE X e (tE T C false m)) : PE X e (tG T C m) := pe_imp h fun σ H Q ⟨Z, g, S, r, p⟩ => ⟨Z, g, S, r, by
  have hp : argOf m (ev C m) S = (ev C m S).bind fun d s => .ok (.done d) s := by
    cases m <;> first | rfl | exact absurd rfl (hm _)
  rw [hp] at p
  exact p.bind.mono fun d S' g' H' r' l z k v hv => k.ok r' v hv⟩
/-- an operand read where it is used -/
theorem tG_peek {i : Nat} {x : Str} {p : Pos} (hN : X.N[i]? = some x) (hv : Vis X.env.scope x) (hd : (x == ("__debug__" : Str)) = false) (hcd : (x == ("__classdict__" : Str)) = false) : PE X (.Name x p) (tG T C (.peek i)) :=
  pe_imp (pe_var hN hv hd hcd) fun σ H Q ⟨Z, g, S, r, q⟩ => by
    have q' : Pst T Z g H σ (argOf (.peek i) (ev C (.peek i)) S) fun a S' g' H' => ∀ v, AgV T g' σ v a → Q v H' := q
    simp only [argOf] at q'
    cases e : S.sl[i]? with
    | none => rw [e] at q'; exact False.elim q'
    | some s =>
      rw [e] at q'
      have k := r.slot i s e
      cases s with
      | emp => exact False.elim q'
      | val d =>
        obtain ⟨v, e1, _⟩ := k
        exact ⟨v, e1, q' g H r .rfl .rfl v e1⟩
      | own xs =>
        obtain ⟨l, vs, e1, _⟩ := k
        exact ⟨_, e1, q' g H r .rfl .rfl _ e1⟩
theorem e_var {i : Nat} {x : Str} {p : Pos} (hN : X.N[i]? = some x) (hv : Vis X.env.scope x) (hd : (x == ("__debug__" : Str)) = false) (hcd : (x == ("__classdict__" : Str)) = false) : PE X (.Name x p) (tE T C false (.var i)) :=
  pe_imp (pe_var hN hv hd hcd) fun σ H Q ⟨Z, g, S, r, q⟩ => by
    simp only [ev] at q
    cases e : S.sl[i]? with
    | none => rw [e] at q; exact False.elim q
    | some s =>
      rw [e] at q
      have k := r.slot i s e
      cases s with
      | emp => exact False.elim q
      | val d =>
        obtain ⟨v, e1, e2⟩ := k
        exact ⟨v, e1, q g H r .rfl .rfl v e2⟩
      | own xs =>
        obtain ⟨l, vs, e1, e2, e3, e4, e5, e6⟩ := k
        obtain ⟨g', r', l', v'⟩ := r.thaw e e1 e2 e3 e4 e5 e6
        exact ⟨_, e1, q g' H r' l' .rfl _ v'⟩

/-- a value that stands for good -/
theorem tE_const {m : M} {d : D} {v : V} (h : PE X e (tC v)) (hm : ∀ S, ev C m S = .ok d S) (hv : ∀ Z g H σ S, Rep T Z g H σ S → Dv T g v d) : PE X e (tE T C false m) := pe_imp h fun σ H Q ⟨Z, g, S, r, p⟩ => by
  rw [hm] at p
  exact p.ok r v (hv _ _ _ _ _ r)

/-- two operands and a rule -/
theorem two_imp {f : D → D → Option D} {σ : L2.St} {H : Hp} {Q : VK} {mm : M}
    (he : ∀ S, ev C mm S = (argOf ma (ev C ma) S).bind fun x s => (argOf mb (ev C mb) s).bind fun y s => two s x y f)
    (h : tE T C true mm σ H Q) : tOp (rO T f) (tG T C ma) (tG T C mb) σ H Q := by
  obtain ⟨Z, g, S, r, p⟩ := h
  rw [he] at p
  refine ⟨Z, g, S, r, p.bind.mono fun x S1 g1 H1 r1 l1 z1 k1 v hv => ⟨Z, g1, S1, r1, k1.bind.mono fun y S2 g2 H2 r2 l2 z2 k2 u hu => ?_⟩⟩
  have hv' := hv.up l2
  unfold two at k2
  cases e1 : S2.res x with
  | none => rw [e1] at k2; exact False.elim k2
  | some d =>
    cases e2 : S2.res y with
    | none => rw [e1, e2] at k2; exact False.elim k2
    | some e =>
      rw [e1, e2] at k2
      obtain ⟨c, ec, k3⟩ := k2.ofO r2
      refine ⟨g2, d, e, c, r2.fsub, hv'.dw r2 e1, hu.dw r2 e2, ec, fun w H' o => ?_⟩
      obtain ⟨g', r', l', z', v'⟩ := o.new r2
      exact k3 g' H' r' l' z' w v'
end
end Mi

set_option autoImplicit false
/-! Mi4: expressions, construct by construct. -/
namespace Mi
open PySem L2
open PyProof.Rows (Fr News)

theorem Vl.dv {T : Tb} {fr : Bool} {Z : Addr → Prop} {g : Gh} {H : Hp} {σ : L2.St} {S : Sg} {v : V} {d : D} (h : Dv T g v d) (hn : ∀ xs, d ≠ .lst xs) : Vl T fr Z g H σ S v d := by
  cases fr with
  | false => exact h
  | true => cases d <;> first | exact h | exact absurd rfl (hn _)

section
variable {T : Tb} {C : Cn} {X : Cx} {e a b c : Expr} {m ma mb mc : M} {pos : Pos} {fr : Bool}

theorem e_op {op : Operator} {o : O2} (ho : OpR X (binaryOp op) (rO T (op2 o))) (ha : PE X a (tG T C ma)) (hb : PE X b (tG T C mb)) : PE X (.BinOp a op b pos) (tE T C true (.op2 o ma mb)) :=
  pe_imp (pe_op ho ha hb) fun σ H Q h => two_imp (fun _ => rfl) h
theorem e_cmp {op : CmpOp} {o : O2} (ho : OpR X (compareOp op) (rO T (op2 o))) (ha : PE X a (tG T C ma)) (hb : PE X b (tG T C mb)) (hm : behindInMarks op b = false) : PE X (.Compare a [op] [b] pos) (tE T C true (.op2 o ma mb)) :=
  pe_imp (pe_cmpR ho ha hb hm) fun σ H Q h => two_imp (fun _ => rfl) h

/-! ### truth -/
theorem Dv.tru {g : Gh} {H : Hp} (fs : Fs g H) {v : V} {d : D} {k : Bool} (h : Dv T g v d) (e : truth d = some k) : TruV T.K v H k := by
  cases h with
  | non => cases e; exact rfl
  | bl b => cases e; exact rfl
  | int i => cases e; exact rfl
  | str x a b => cases e; exact ⟨by rw [lim_eq]; exact a, rfl⟩
  | tup s l =>
    cases e
    refine .inr (.inl ⟨_, SqT.up fs s, ?_⟩)
    have := l.length
    rename_i vs ds
    cases vs <;> cases ds <;> simp_all
  | lst s l =>
    cases e
    refine .inl ⟨_, .inl (.inl (fs _ _ s)), ?_⟩
    have := l.length
    rename_i vs ds
    cases vs <;> cases ds <;> simp_all
  | _ => cases e
theorem tst_bind {r : R D} : tst r = r.bind fun d s => R.ofO (truth d) s := rfl
/-- a test by its value's truth -/
theorem t_truth (hK : X.K = T.K) (he : PE X e (tE T C false m)) (hp : ∀ whole, isTrue e X.env whole = (do let v ← whole; standAt e.pos; holding [v] (truthy v))) : PT X e (tT T C m) :=
  pt_imp (pt_truth he hp) fun σ H Q ⟨Z, g, S, r, p⟩ => ⟨Z, g, S, r, p.bind.mono fun d S1 g1 H1 r1 l1 z1 k1 v hv => by
    obtain ⟨k, ek, k2⟩ := k1.ofO r1
    exact ⟨k, by rw [hK]; exact Dv.tru r1.fsub hv ek, k2 g1 H1 r1 .rfl .rfl⟩⟩
/-- a comparison as a test -/
theorem t_cmp {op : CmpOp} {o : O2} (ho : OpR X (compareOp op) (rO T (op2 o))) (ha : PE X a (tG T C ma)) (hb : PE X b (tG T C mb)) (hm : behindInMarks op b = false) (hB : ∀ d e c, op2 o d e = some c → ∃ k, c = .bl k) : PT X (.Compare a [op] [b] pos) (tT T C (.op2 o ma mb)) :=
  pt_imp (pt_cmpR ho ha hb hm) fun σ H Q ⟨Z, g, S, r, p⟩ => two_imp (fun _ => rfl) ⟨Z, g, S, r, by
    have p' := p.bind
    cases q : ev C (.op2 o ma mb) S with
    | ok d S' =>
      rw [q] at p'
      have hd : ∃ k, d = .bl k := by
        have q' : ((argOf ma (ev C ma) S).bind fun x s => (argOf mb (ev C mb) s).bind fun y s => two s x y (op2 o)) = R.ok d S' := q
        cases q1 : argOf ma (ev C ma) S with
        | ok x S1 =>
          rw [q1] at q'
          simp only [R.bind] at q'
          cases q2 : argOf mb (ev C mb) S1 with
          | ok y S2 =>
            rw [q2] at q'
            simp only [two] at q'
            split at q'
            · rename_i e1 e2
              cases e3 : op2 o _ _ with
              | none => rw [e3] at q'; cases q'
              | some c =>
                rw [e3] at q'
                have : R.ok c S2 = R.ok d S' := q'
                cases this
                exact hB _ _ _ e3
            · cases q'
          | err _ _ _ => rw [q2] at q'; cases q'
          | bad => rw [q2] at q'; cases q'
        | err _ _ _ => rw [q1] at q'; cases q'
        | bad => rw [q1] at q'; cases q'
      obtain ⟨k, rfl⟩ := hd
      intro g' H' r' l' z' v hv
      have hv' : Dv T g' v (.bl k) := hv
      cases hv'
      exact ⟨k, rfl, (p' g' H' r' l' z').ok r'⟩
    | err c fs s => rw [q] at p'; exact p'
    | bad => rw [q] at p'; exact p'⟩
theorem op2_bl {o : O2} (h : o = .eq ∨ o = .ne ∨ o = .lt ∨ o = .le ∨ o = .gt ∨ o = .ge ∨ o = .is_ ∨ o = .isnot ∨ o = .in_ ∨ o = .notin) : ∀ d e c, op2 o d e = some c → ∃ k, c = .bl k := by
  have b2k : ∀ {f : Bool → Bool} {r : Option Bool} {c : D}, b2 f r = some c → ∃ k, c = .bl k := fun {f r c} q => by
    cases r with
    | none => cases q
    | some x => cases q; exact ⟨_, rfl⟩
  rcases h with rfl | rfl | rfl | rfl | rfl | rfl | rfl | rfl | rfl | rfl <;> intro d e c q
  · exact b2k q
  · exact b2k q
  · exact b2k q
  · cases d <;> cases e <;> simp only [op2] at q <;> cases q <;> exact ⟨_, rfl⟩
  · cases d <;> cases e <;> simp only [op2] at q <;> cases q <;> exact ⟨_, rfl⟩
  · cases d <;> cases e <;> simp only [op2] at q <;> cases q <;> exact ⟨_, rfl⟩
  · exact b2k q
  · exact b2k q
  · exact b2k q
  · exact b2k q

/-! ### and, or, not, if -/
theorem e_and {rest : List Expr} (hK : X.K = T.K) (ha : PE X a (tE T C false ma)) (hb : PE X (.BoolOp .And (b :: rest) pos) (tE T C false mb)) : PE X (.BoolOp .And (a :: b :: rest) pos) (tE T C false (.andv ma mb)) :=
  pe_imp (pe_andT ha hb) fun σ H Q ⟨Z, g, S, r, p⟩ => ⟨Z, g, S, r, by
    have p' : Pst T Z g H σ ((ev C ma S).bind _) _ := p
    refine p'.bind.mono fun d S1 g1 H1 r1 l1 z1 k1 v hv => ?_
    cases ek : truth d with
    | none => rw [ek] at k1; exact False.elim k1
    | some k =>
      rw [ek] at k1
      refine ⟨k, by rw [hK]; exact Dv.tru r1.fsub hv ek, ?_⟩
      cases k with
      | true => exact ⟨Z, g1, S1, r1, k1⟩
      | false => exact k1.ok r1 v hv⟩
theorem e_or {rest : List Expr} (hK : X.K = T.K) (ha : PE X a (tE T C false ma)) (hb : PE X (.BoolOp .Or (b :: rest) pos) (tE T C false mb)) : PE X (.BoolOp .Or (a :: b :: rest) pos) (tE T C false (.orv ma mb)) :=
  pe_imp (pe_orT ha hb) fun σ H Q ⟨Z, g, S, r, p⟩ => ⟨Z, g, S, r, by
    have p' : Pst T Z g H σ ((ev C ma S).bind _) _ := p
    refine p'.bind.mono fun d S1 g1 H1 r1 l1 z1 k1 v hv => ?_
    cases ek : truth d with
    | none => rw [ek] at k1; exact False.elim k1
    | some k =>
      rw [ek] at k1
      refine ⟨k, by rw [hK]; exact Dv.tru r1.fsub hv ek, ?_⟩
      cases k with
      | false => exact ⟨Z, g1, S1, r1, k1⟩
      | true => exact k1.ok r1 v hv⟩
theorem e_not (hK : X.K = T.K) (ha : PE X a (tE T C false ma)) : PE X (.UnaryOp .Not a pos) (tE T C true (.notv ma)) :=
  pe_imp (pe_notT ha) fun σ H Q ⟨Z, g, S, r, p⟩ => ⟨Z, g, S, r, by
    have p' : Pst T Z g H σ ((ev C ma S).bind _) _ := p
    refine p'.bind.mono fun d S1 g1 H1 r1 l1 z1 k1 v hv => ?_
    cases ek : truth d with
    | none => rw [ek] at k1; exact False.elim k1
    | some k =>
      rw [ek] at k1
      exact ⟨k, by rw [hK]; exact Dv.tru r1.fsub hv ek, k1.ok r1 _ (Dv.bl _)⟩⟩
/-- the tests of and, or, not, by parts -/
theorem w_one {op : BoolOp} (ha : PT X a (tT T C ma)) : PW X (.BoolOp op [a] pos) (tT T C ma) := by
  cases op with
  | And => exact pw_and1 ha
  | Or => exact pw_or1 ha
theorem w_and {rest : List Expr} (ha : PT X a (tT T C ma)) (hb : PW X (.BoolOp .And (b :: rest) pos) (tT T C mb)) : PW X (.BoolOp .And (a :: b :: rest) pos) (tT T C (.andv ma mb)) :=
  pw_imp (pw_and ha hb) fun σ H Q ⟨Z, g, S, r, p⟩ => ⟨Z, g, S, r, by
    have p' : Pst T Z g H σ (((ev C ma S).bind _).bind _) _ := p
    cases q : ev C ma S with
    | ok d S1 =>
      rw [q] at p'
      simp only [R.bind] at p'
      show Pst T Z g H σ (R.ofO (truth d) S1) _
      cases ek : truth d with
      | none => rw [ek] at p'; exact p'
      | some k =>
        rw [ek] at p'
        intro g1 H1 r1 l1 z1
        cases k with
        | true => exact ⟨Z, g1, S1, r1, Pst.from p' l1 z1⟩
        | false =>
          simp only [ek] at p'
          exact (Pst.from p' l1 z1).ok r1
    | err c fs s => rw [q] at p'; exact p'
    | bad => rw [q] at p'; exact p'⟩
theorem w_or {rest : List Expr} (ha : PT X a (tT T C ma)) (hb : PW X (.BoolOp .Or (b :: rest) pos) (tT T C mb)) : PW X (.BoolOp .Or (a :: b :: rest) pos) (tT T C (.orv ma mb)) :=
  pw_imp (pw_or ha hb) fun σ H Q ⟨Z, g, S, r, p⟩ => ⟨Z, g, S, r, by
    have p' : Pst T Z g H σ (((ev C ma S).bind _).bind _) _ := p
    cases q : ev C ma S with
    | ok d S1 =>
      rw [q] at p'
      simp only [R.bind] at p'
      show Pst T Z g H σ (R.ofO (truth d) S1) _
      cases ek : truth d with
      | none => rw [ek] at p'; exact p'
      | some k =>
        rw [ek] at p'
        intro g1 H1 r1 l1 z1
        cases k with
        | false => exact ⟨Z, g1, S1, r1, Pst.from p' l1 z1⟩
        | true =>
          simp only [ek] at p'
          exact (Pst.from p' l1 z1).ok r1
    | err c fs s => rw [q] at p'; exact p'
    | bad => rw [q] at p'; exact p'⟩
theorem t_not (ha : PT X a (tT T C ma)) : PT X (.UnaryOp .Not a pos) (tT T C (.notv ma)) :=
  pt_imp (pt_not ha) fun σ H Q ⟨Z, g, S, r, p⟩ => ⟨Z, g, S, r, by
    have p' : Pst T Z g H σ (((ev C ma S).bind _).bind _) _ := p
    cases q : ev C ma S with
    | ok d S1 =>
      rw [q] at p'
      simp only [R.bind] at p'
      show Pst T Z g H σ (R.ofO (truth d) S1) _
      cases ek : truth d with
      | none => rw [ek] at p'; exact p'
      | some k =>
        rw [ek] at p'
        intro g1 H1 r1 l1 z1
        exact (Pst.from p' l1 z1).ok r1
    | err c fs s => rw [q] at p'; exact p'
    | bad => rw [q] at p'; exact p'⟩
theorem e_if (hc : PT X c (tT T C mc)) (ha : PE X a (tE T C fr ma)) (hb : PE X b (tE T C fr mb)) : PE X (.IfExp c a b pos) (tE T C fr (.ifx mc ma mb)) :=
  pe_imp (pe_ifExp hc ha hb) fun σ H Q ⟨Z, g, S, r, p⟩ => ⟨Z, g, S, r, by
    have p' : Pst T Z g H σ ((ev C mc S).bind _) _ := p
    cases q : ev C mc S with
    | ok d S1 =>
      rw [q] at p'
      simp only [R.bind] at p'
      show Pst T Z g H σ (R.ofO (truth d) S1) _
      cases ek : truth d with
      | none => rw [ek] at p'; exact p'
      | some k =>
        rw [ek] at p'
        intro g1 H1 r1 l1 z1
        cases k with
        | true => exact ⟨Z, g1, S1, r1, Pst.from p' l1 z1⟩
        | false => exact ⟨Z, g1, S1, r1, Pst.from p' l1 z1⟩
    | err c fs s => rw [q] at p'; exact p'
    | bad => rw [q] at p'; exact p'⟩
theorem chain_imp {o o' : O2} (hB : ∀ d e c, op2 o d e = some c → ∃ k, c = .bl k) {σ : L2.St} {H : Hp} {Q : VK} (h : tE T C true (.chain o o' ma mb mc) σ H Q) : tChain (rO T (op2 o)) (rO T (op2 o')) (tE T C false ma) (tE T C false mb) (tE T C false mc) σ H Q := by
    obtain ⟨Z, g, S, r, p⟩ := h
    have p' : Pst T Z g H σ ((ev C ma S).bind fun x s => (ev C mb s).bind fun y s => _) _ := p
    refine ⟨Z, g, S, r, p'.bind.mono fun x S1 g1 H1 r1 l1 z1 k1 v hv => ⟨Z, g1, S1, r1, k1.bind.mono fun y S2 g2 H2 r2 l2 z2 k2 u hu => ?_⟩⟩
    have hv2 := Dv.up l2 _ hv
    cases ek : op2 o x y with
    | none => rw [ek] at k2; exact False.elim k2
    | some d =>
      obtain ⟨k, rfl⟩ := hB _ _ _ ek
      rw [ek] at k2
      refine ⟨g2, x, y, _, r2.fsub, .dv hv2, .dv hu, ek, fun w H' out => ?_⟩
      obtain ⟨g3, r3, l3, z3, v3⟩ := out.new r2
      have v3' : Dv T g3 w (.bl k) := v3
      cases v3'
      refine ⟨k, rfl, ?_⟩
      cases k with
      | false => exact (Pst.from k2 l3 z3).ok r3 _ (Dv.bl false)
      | true =>
        have k2' : Pst T Z g2 H2 σ ((ev C mc S2).bind fun z s => R.ofO (op2 o' y z) s) _ := k2
        refine ⟨Z, g3, S2, r3, (Pst.from k2' l3 z3).bind.mono fun z S4 g4 H4 r4 l4 z4 k4 t ht => ?_⟩
        obtain ⟨d', ed, k5⟩ := k4.ofO r4
        refine ⟨g4, y, z, d', r4.fsub, .dv (Dv.up (l3.trans l4) _ hu), .dv ht, ed, fun w' H5 out' => ?_⟩
        obtain ⟨g6, r6, l6, z6, v6⟩ := out'.new r4
        exact k5 g6 H5 r6 l6 z6 _ v6
theorem e_chain {op op' : CmpOp} {o o' : O2} (ho : OpR X (compareOp op) (rO T (op2 o))) (ho' : OpR X (compareOp op') (rO T (op2 o'))) (hB : ∀ d e c, op2 o d e = some c → ∃ k, c = .bl k) (ha : PE X a (tE T C false ma)) (hb : PE X b (tE T C false mb)) (hc : PE X c (tE T C false mc))
    (hm : lastMarks [op, op'] [b, c] = false) : PE X (.Compare a [op, op'] [b, c] pos) (tE T C true (.chain o o' ma mb mc)) :=
  pe_imp (pe_chain ho ho' ha hb hc hm) fun σ H Q h => chain_imp hB h
theorem tT_tE (hB : ∀ S d S', ev C m S = .ok d S' → ∃ k, d = .bl k) {σ : L2.St} {H : Hp} {Q : Bool → Hp → Prop} (h : tT T C m σ H Q) : tE T C true m σ H fun x H' => ∃ k, x = .bl k ∧ Q k H' := by
  obtain ⟨Z, g, S, r, p⟩ := h
  refine ⟨Z, g, S, r, ?_⟩
  have p' := p.bind
  cases q : ev C m S with
  | ok d S' =>
    rw [q] at p'
    obtain ⟨k, rfl⟩ := hB _ _ _ q
    intro g' H' r' l' z' v hv
    have hv' : Dv T g' v (.bl k) := hv
    cases hv'
    exact ⟨k, rfl, (p' g' H' r' l' z').ok r'⟩
  | err c fs s => rw [q] at p'; exact p'
  | bad => rw [q] at p'; exact p'
theorem chain_bl {o o' : O2} (hB' : ∀ d e c, op2 o' d e = some c → ∃ k, c = .bl k) (S : Sg) (d : D) (S' : Sg) (h : ev C (.chain o o' ma mb mc) S = .ok d S') : ∃ k, d = .bl k := by
  have h' : ((ev C ma S).bind fun x s => (ev C mb s).bind fun y s => match op2 o x y with
    | some (.bl true) => (ev C mc s).bind fun z s => R.ofO (op2 o' y z) s
    | some (.bl false) => R.ok (.bl false) s
    | _ => .bad) = .ok d S' := h
  cases q1 : ev C ma S with
  | ok x S1 =>
    rw [q1] at h'
    simp only [R.bind] at h'
    cases q2 : ev C mb S1 with
    | ok y S2 =>
      rw [q2] at h'
      simp only at h'
      split at h'
      · cases q3 : ev C mc S2 with
        | ok z S3 =>
          rw [q3] at h'
          simp only [R.ofO] at h'
          cases q4 : op2 o' y z with
          | none => rw [q4] at h'; cases h'
          | some e => rw [q4] at h'; cases h'; exact hB' _ _ _ q4
        | err _ _ _ => rw [q3] at h'; cases h'
        | bad => rw [q3] at h'; cases h'
      · cases h'; exact ⟨_, rfl⟩
      · cases h'
    | err _ _ _ => rw [q2] at h'; cases h'
    | bad => rw [q2] at h'; cases h'
  | err _ _ _ => rw [q1] at h'; cases h'
  | bad => rw [q1] at h'; cases h'
theorem t_chain {op op' : CmpOp} {o o' : O2} (ho : OpR X (compareOp op) (rO T (op2 o))) (ho' : OpR X (compareOp op') (rO T (op2 o'))) (hB : ∀ d e c, op2 o d e = some c → ∃ k, c = .bl k) (hB' : ∀ d e c, op2 o' d e = some c → ∃ k, c = .bl k) (ha : PE X a (tE T C false ma)) (hb : PE X b (tE T C false mb)) (hc : PE X c (tE T C false mc))
    (hm : lastMarks [op, op'] [b, c] = false) : PT X (.Compare a [op, op'] [b, c] pos) (tT T C (.chain o o' ma mb mc)) :=
  pt_imp (pt_chain ho ho' ha hb hc hm) fun σ H Q h => chain_imp hB (tT_tE (chain_bl hB') h)
theorem ev_ifx_tst {σ : L2.St} {S : Sg} : tst (ev C (.ifx mc ma mb) S) = (tst (ev C mc S)).bind fun k s => if k = true then tst (ev C ma s) else tst (ev C mb s) := by
  show ((ev C mc S).bind _).bind _ = ((ev C mc S).bind _).bind _
  cases ev C mc S with
  | ok d S1 =>
    simp only [R.bind]
    cases truth d with
    | none => rfl
    | some k => cases k <;> rfl
  | err _ _ _ => rfl
  | bad => rfl
theorem t_ifx (hc : PT X c (tT T C mc)) (ha : PT X a (tT T C ma)) (hb : PT X b (tT T C mb)) : PT X (.IfExp c a b pos) (tT T C (.ifx mc ma mb)) := by
  refine ⟨fun pins s σ H Q I ⟨Z, g, S, r, p⟩ => ?_⟩
  rw [ev_ifx_tst (σ := σ)] at p
  have h1 : tT T C mc σ H fun d H1 => ∃ Z g S1, Rep T Z g H1 σ S1 ∧ Pst T Z g H1 σ (if d = true then tst (ev C ma S1) else tst (ev C mb S1)) fun b S' g' H' => Q b H' :=
    ⟨Z, g, S, r, p.bind.mono fun d S1 g1 H1 r1 _ _ k1 => ⟨Z, g1, S1, r1, k1⟩⟩
  refine PyProof.Rows.isTrue_IfExp (thn (hc.run pins s σ H _ I h1) fun d s1 ⟨H1, I1, Z1, g1, S1, r1, k1⟩ => ?_)
  cases d with
  | true => exact ha.run pins s1 σ H1 Q I1 ⟨Z1, g1, S1, r1, k1⟩
  | false => exact hb.run pins s1 σ H1 Q I1 ⟨Z1, g1, S1, r1, k1⟩

/-! ### arguments, displays -/
theorem a_nil : PA X [] (tA T C .nil) := pa_imp pa_nil fun σ H Q ⟨Z, g, S, r, p⟩ => p.ok r [] .nil
theorem a_cons {es : List Expr} {mr : M} (he : PE X e (tE T C false m)) (hr : PA X es (tA T C mr)) (hs : starEach (e :: es) X.env = (false, eval e X.env) :: starEach es X.env) : PA X (e :: es) (tA T C (.cons m mr)) :=
  pa_imp (pa_cons he hr hs) fun σ H Q ⟨Z, g, S, r, p⟩ => by
    have p' : Pst T Z g H σ ((ev C m S).bind fun d s => (evs C mr s).bind fun ds s => .ok (d :: ds) s) _ := p
    exact ⟨Z, g, S, r, p'.bind.mono fun d S1 g1 H1 r1 l1 z1 k1 v hv => ⟨Z, g1, S1, r1, k1.bind.mono fun ds S2 g2 H2 r2 l2 z2 k2 vs hvs => k2.ok r2 _ (.cons (Dv.up l2 _ hv) hvs)⟩⟩
theorem e_tup {es : List Expr} {k : Nat} (h : PA X es (tA T C m)) : PE X (.Tuple es k pos) (tE T C true (.tup m)) :=
  pe_imp (pe_tup h) fun σ H Q ⟨Z, g, S, r, p⟩ => by
    have p' : Pst T Z g H σ ((evs C m S).bind _) _ := p
    refine ⟨Z, g, S, r, p'.bind.mono fun ds S1 g1 H1 r1 l1 z1 k1 vs hvs => ?_⟩
    split at k1
    · rename_i hl
      refine ⟨by rw [lim_eq, hvs.length]; exact hl, fun q hq => ?_⟩
      obtain ⟨g', r', l', z', v'⟩ := (OutN.tup (T := T) (g := g1) hq hvs).new r1
      exact (Pst.from k1 l' z').ok r' _ v'
    · exact False.elim k1
theorem e_edct : PE X (.Dict [] [] pos) (tE T C false .edct) :=
  pe_imp pe_dnewK fun σ H Q ⟨Z, g, S, r, p⟩ q hq => by
    obtain ⟨g', r', l', z', v'⟩ := (Out.dct (T := T) (g := g) hq).old' r
    exact (Pst.from p l' z').ok r' _ v'
theorem e_lst {es : List Expr} (h : PA X es (tA T C m)) : PE X (.List es pos) (tE T C true (.lst m)) :=
  pe_imp (pe_lst h) fun σ H Q ⟨Z, g, S, r, p⟩ => by
    have p' : Pst T Z g H σ ((evs C m S).bind _) _ := p
    refine ⟨Z, g, S, r, p'.bind.mono fun ds S1 g1 H1 r1 l1 z1 k1 vs hvs => ?_⟩
    split at k1
    · rename_i hl
      refine ⟨by rw [lim_eq, hvs.length]; exact hl, fun q hq => ?_⟩
      obtain ⟨g', r', l', z', v'⟩ := (OutN.lst (T := T) (g := g1) hq hvs).new r1
      exact (Pst.from k1 l' z').ok r' _ v'
    · exact False.elim k1
end
end Mi

set_option autoImplicit false
/-! Mi5: subscripts, slices, built-ins, methods. -/
namespace Mi
open PySem L2
open PyProof.Rows (Fr News)

/-! ### subscripts -/
theorem ixN_lt {n : Nat} {i : Int} {j : Nat} (h : ixN n i = some j) : j < n := (ixN_seq h).2.1
theorem DvL.atI {T : Tb} {g : Gh} {vs : List V} {ds : List D} (h : DvL T g vs ds) {i : Int} {d : D} (e : L2.atI ds i = some d) : ∃ v, L2.atI vs i = some v ∧ Dv T g v d := by
  unfold L2.atI at *
  rw [h.length]
  cases q : ixN ds.length i with
  | none => rw [q] at e; cases e
  | some j => rw [q] at e; exact h.get j d e
theorem Dv.new {T : Tb} {g : Gh} {Z : Addr → Prop} {H : Hp} {σ : L2.St} {S : Sg} {v : V} {d : D} (r : Rep T Z g H σ S) (h : Dv T g v d) : ∃ g', Rep T Z g' H σ S ∧ g.le g' ∧ Zp Z H H ∧ Vl T false Z g' H σ S v d := ⟨g, r, .rfl, .rfl, h⟩
/-- what an operation f asks and gives, an old value or a new one -/
def rP (T : Tb) (f : D → D → Option D) : R2 := fun x y H Q => ∃ g d e c, Fs g H ∧ Dw T g H x d ∧ Dw T g H y e ∧ f d e = some c ∧ ∀ v H', Out T g H v H' c → Q v H'
theorem ix_sub {T : Tb} {X : Cx} (hK : X.K = T.K) : IxR X (rP T subD) := by
  rintro value slice pins s σ H x y v u Q I rx ry ⟨g, d, e, c, fs, hd, he, hc, q⟩ hs
  cases d <;> cases e <;> simp only [subD] at hc <;> try (cases hc; done)
  · rename_i z i
    obtain ⟨rfl, h1, h2⟩ := hd.str
    obtain rfl := he.int
    split at hc
    · cases hi : L2.atI z.cps.toList i with
      | none => rw [hi] at hc; exact absurd hc (by simp)
      | some k =>
        rw [hi] at hc
        have hc2 : some (D.str ⟨#[k]⟩) = some c := hc
        cases hc2
        have hk : k < 0x110000 := by
          obtain ⟨j, _, e2, _⟩ := atI_get hi
          exact strOk_list h2 k (List.mem_of_getElem? e2)
        exact ix_str value slice pins s σ H _ _ v u Q I rx ry ⟨z, i, k, rfl, rfl, by rw [lim_eq]; exact h1, hi, q _ _ (.old (.str _ (show (1 : Nat) ≤ lim by decide) (by
          unfold PyData.strOk
          simpa using hk)))⟩ hs
    · rename_i hn; exact absurd h1 hn
  · rename_i xs i
    obtain ⟨l, vs, rfl, h1, h2, h3⟩ := hd.tup fs
    obtain rfl := he.int
    obtain ⟨w, e1, e2⟩ := h2.atI hc
    exact ix_tup value slice pins s σ H _ _ v u Q I rx ry ⟨l, vs, i, w, rfl, rfl, by rw [hK]; exact h1, e1, q _ _ (.old e2)⟩ hs
  · rename_i xs i
    obtain ⟨l, vs, rfl, h1, h2⟩ := hd.lst fs
    obtain rfl := he.int
    obtain ⟨w, e1, e2⟩ := h2.atI hc
    exact ix_list value slice pins s σ H _ _ v u Q I rx ry ⟨l, vs, i, w, rfl, rfl, .inl (.inl h1), e1, q _ _ (.old e2)⟩ hs
  · rename_i xs i
    obtain ⟨l, vs, rfl, h1, h2⟩ := hd.rol fs
    obtain rfl := he.int
    obtain ⟨w, e1, e2⟩ := h2.atI hc
    exact ix_list value slice pins s σ H _ _ v u Q I rx ry ⟨l, vs, i, w, rfl, rfl, by rw [hK]; exact h1, e1, q _ _ (.old e2)⟩ hs
section
variable {T : Tb} {C : Cn} {X : Cx} {e a b c : Expr} {m ma mb mc : M} {pos : Pos} {fr : Bool}
theorem two_impP {f : D → D → Option D} {σ : L2.St} {H : Hp} {Q : VK} {mm : M}
    (he : ∀ S, ev C mm S = (argOf ma (ev C ma) S).bind fun x s => (argOf mb (ev C mb) s).bind fun y s => two s x y f)
    (h : tE T C false mm σ H Q) : tOp (rP T f) (tG T C ma) (tG T C mb) σ H Q := by
  obtain ⟨Z, g, S, r, p⟩ := h
  rw [he] at p
  refine ⟨Z, g, S, r, p.bind.mono fun x S1 g1 H1 r1 l1 z1 k1 v hv => ⟨Z, g1, S1, r1, k1.bind.mono fun y S2 g2 H2 r2 l2 z2 k2 u hu => ?_⟩⟩
  have hv' := hv.up l2
  unfold two at k2
  cases e1 : S2.res x with
  | none => rw [e1] at k2; exact False.elim k2
  | some d =>
    cases e2 : S2.res y with
    | none => rw [e1, e2] at k2; exact False.elim k2
    | some e =>
      rw [e1, e2] at k2
      obtain ⟨c, ec, k3⟩ := k2.ofO r2
      refine ⟨g2, d, e, c, r2.fsub, hv'.dw r2 e1, hu.dw r2 e2, ec, fun w H' o => ?_⟩
      obtain ⟨g', r', l', z', v'⟩ := o.old' r2
      exact k3 g' H' r' l' z' w v'
theorem e_sub (hK : X.K = T.K) (ha : PE X a (tG T C ma)) (hb : PE X b (tG T C mb)) (hs : PlainIx b) : PE X (.Subscript a b pos) (tE T C false (.sub ma mb)) :=
  pe_imp (pe_ix (ix_sub hK) ha hb hs) fun σ H Q h => two_impP (fun _ => rfl) h

/-! ### slices -/
theorem DvL.cut {g : Gh} {vs : List V} {ds : List D} (h : DvL T g vs ds) (lo hi : Option Int) : DvL T g (cutV vs lo hi) (Mi.cut ds lo hi) := by
  unfold cutV Mi.cut
  rw [h.length]
  exact (h.drop _).take _
theorem Txt_slice_len (z : Str) (lo hi : Option Int) : (Txt.slice z lo hi).length ≤ z.length := by
  rw [← C8.cutS_slice]
  unfold cutS
  show (List.toArray _).size ≤ z.cps.size
  simp only [List.size_toArray, List.length_take, List.length_drop, Array.length_toList]
  omega
theorem Txt_slice_ok (z : Str) (lo hi : Option Int) (h : PyData.strOk z = true) : PyData.strOk (Txt.slice z lo hi) = true := by
  rw [← C8.cutS_slice]
  unfold cutS
  rw [strOk_mk, List.all_eq_true]
  intro c hc
  exact decide_eq_true (strOk_list h c (List.mem_of_mem_drop (List.mem_of_mem_take hc)))
def rSl (T : Tb) : V → Option Int → Option Int → Hp → VK → Prop := fun x lo hi H Q => ∃ g d c, Fs g H ∧ Dw T g H x d ∧ slcD d lo hi = some c ∧ ∀ v H', OutN T g H v H' c → Q v H'
theorem sl_any (hK : X.K = T.K) : SlR X (rSl T) := by
  rintro pins s σ H x v vl vu lo hi sl Q I rx hs pl pu ⟨g, d, c, fs, hd, hc, q⟩
  cases d <;> simp only [slcD] at hc <;> try (cases hc; done)
  · rename_i z
    obtain ⟨rfl, h1, h2⟩ := hd.str
    split at hc
    · cases hc
      exact C8.sl_txt pins s σ H _ v vl vu lo hi sl Q I rx hs pl pu ⟨z, rfl, by rw [lim_eq]; exact h1, q _ _ (outS _ (Nat.le_trans (Txt_slice_len z lo hi) h1) (Txt_slice_ok z lo hi h2))⟩
    · rename_i hn; exact absurd h1 hn
  · rename_i xs
    cases hc
    obtain ⟨l, vs, rfl, h1, h2, h3⟩ := hd.tup fs
    have e1 := h2.length
    refine sl_tupA pins s σ H _ v vl vu lo hi sl Q I rx hs pl pu ⟨l, vs, rfl, by rw [hK]; exact h1, fun ⟨a, b⟩ => q _ _ (.old ?_ (fun _ e => by cases e)), fun _ p hp => q _ _ (.tup hp (h2.cut lo hi))⟩
    have hw : Mi.cut xs lo hi = xs := by
      unfold Mi.cut
      rw [← e1, a, b, List.drop_zero, Nat.sub_zero, e1, List.take_length]
    rw [hw]; exact h3
  · rename_i xs
    cases hc
    obtain ⟨l, vs, rfl, h1, h2⟩ := hd.lst fs
    exact sl_list pins s σ H _ v vl vu lo hi sl Q I rx hs pl pu ⟨l, vs, rfl, .inl (.inl h1), fun p hp => q _ _ (.lst hp (h2.cut lo hi))⟩
def tO (T : Tb) (C : Cn) (m : M) : TO := fun σ H Q => ∃ Z g S, Rep T Z g H σ S ∧ Pst T Z g H σ (part m (ev C m) S) fun o S' g' H' => Q o H'
theorem o_none : PO X none (tO T C .nil) := ⟨fun p s σ H Q I ⟨Z, g, S, r, q⟩ => po_none.run p s σ H Q I (show tNoPart σ H Q from q.ok r)⟩
theorem o_some (hm : m ≠ .nil) (h : PE X e (tE T C false m)) : PO X (some e) (tO T C m) := ⟨fun p s σ H Q I ⟨Z, g, S, r, q⟩ => (po_some h).run p s σ H Q I (by
  have hp : part m (ev C m) S = (ev C m S).bind fun d s => match d with
    | .int i => .ok (some i) s
    | _ => .bad := by
    cases m <;> first | rfl | exact absurd rfl hm
  rw [hp] at q
  refine ⟨Z, g, S, r, q.bind.mono fun d S1 g1 H1 r1 l1 z1 k1 v hv => ?_⟩
  cases d with
  | int i =>
    have hv' : Dv T g1 v (.int i) := hv
    cases hv'
    exact ⟨i, rfl, k1.ok r1⟩
  | _ => exact False.elim k1)⟩
theorem e_slc {lo hi : Option Expr} {ml mh : M} {p2 : Pos} (hK : X.K = T.K) (ha : PE X a (tG T C ma)) (hl : PO X lo (tO T C ml)) (hh : PO X hi (tO T C mh)) : PE X (.Subscript a (.Slice lo hi none p2) pos) (tE T C true (.slc ma ml mh)) :=
  pe_imp (pe_slice (sl_any hK) ha hl hh) fun σ H Q ⟨Z, g, S, r, p⟩ => by
    have p' : Pst T Z g H σ ((argOf ma (ev C ma) S).bind fun x s => (part ml (ev C ml) s).bind fun l s => (part mh (ev C mh) s).bind fun h s => one s x fun d => slcD d l h) _ := p
    refine ⟨Z, g, S, r, p'.bind.mono fun x S1 g1 H1 r1 l1 z1 k1 v hv => ⟨Z, g1, S1, r1, k1.bind.mono fun lo' S2 g2 H2 r2 l2 z2 k2 => ⟨Z, g2, S2, r2, k2.bind.mono fun hi' S3 g3 H3 r3 l3 z3 k3 => ?_⟩⟩⟩
    have hv' := hv.up (l2.trans l3)
    unfold one at k3
    cases e1 : S3.res x with
    | none => rw [e1] at k3; exact False.elim k3
    | some d =>
      rw [e1] at k3
      obtain ⟨c, ec, k4⟩ := k3.ofO r3
      refine ⟨g3, d, c, r3.fsub, hv'.dw r3 e1, ec, fun w H' o => ?_⟩
      obtain ⟨g', r', l', z', v'⟩ := o.new r3
      exact k4 g' H' r' l' z' w v'

/-! ### built-ins -/
inductive DwL (T : Tb) (g : Gh) (H : Hp) : List V → List D → Prop where
  | nil : DwL T g H [] []
  | cons {v : V} {vs : List V} {d : D} {ds : List D} (h : Dw T g H v d) (h' : DwL T g H vs ds) : DwL T g H (v :: vs) (d :: ds)
theorem DwL.of {g : Gh} {H : Hp} : ∀ {vs : List V} {ds : List D}, DvL T g vs ds → DwL T g H vs ds
  | _, [], h => by cases h; exact .nil
  | _, d :: ds, h => by cases h with | cons a b => exact .cons (.dv a) (DwL.of b)
def rB (T : Tb) (f : List D → Option D) : List V → Hp → VK → Prop := fun vs H Q => ∃ g ds c, Fs g H ∧ DwL T g H vs ds ∧ f ds = some c ∧ ∀ v H', OutN T g H v H' c → Q v H'
def tB' (T : Tb) (C : Cn) (m : M) : TA := fun σ H Q => ∃ Z g S, Rep T Z g H σ S ∧ Pst T Z g H σ (evb C m S) fun ds S' g' H' => ∀ vs, DwL T g' H' vs ds → Q vs H'
theorem b_one (he : PE X e (tG T C m)) (hs : starEach [e] X.env = (false, eval e X.env) :: starEach [] X.env) : PA X [e] (tB' T C (.cons m .nil)) :=
  pa_imp (pa_cons he pa_nil hs) fun σ H Q ⟨Z, g, S, r, p⟩ => by
    have p' : Pst T Z g H σ ((argOf m (ev C m) S).bind fun x s => one s x some |>.bind fun d s => .ok [d] s) _ := p
    refine ⟨Z, g, S, r, p'.bind.mono fun x S1 g1 H1 r1 l1 z1 k1 v hv => ?_⟩
    unfold one at k1
    cases e1 : S1.res x with
    | none => rw [e1] at k1; exact False.elim k1
    | some d =>
      rw [e1] at k1
      exact k1.bind.ofO (o := some d) r1 |>.elim fun d' ⟨e', k'⟩ => by
        cases e'
        exact (k' g1 H1 r1 .rfl .rfl).ok r1 [v] (.cons (hv.dw r1 e1) .nil)
theorem b_many {es : List Expr} (h : PA X es (tA T C m)) (hm : ∀ S, evb C m S = evs C m S) : PA X es (tB' T C m) := pa_imp h fun σ H Q ⟨Z, g, S, r, p⟩ => ⟨Z, g, S, r, by
    rw [hm] at p
    exact p.mono fun ds S1 g1 H1 r1 l1 z1 k1 vs hv => k1 vs (.of hv)⟩
theorem tCB_imp {f : List D → Option D} {σ : L2.St} {H : Hp} {Q : VK} {mm : M} (he : ∀ S, ev C mm S = (evb C m S).bind fun ds s => R.ofO (f ds) s) (h : tE T C true mm σ H Q) : tCB (rB T f) (tB' T C m) σ H Q := by
  obtain ⟨Z, g, S, r, p⟩ := h
  rw [he] at p
  refine ⟨Z, g, S, r, p.bind.mono fun ds S1 g1 H1 r1 l1 z1 k1 vs hv => ?_⟩
  obtain ⟨c, ec, k2⟩ := k1.ofO r1
  refine ⟨g1, ds, c, r1.fsub, hv, ec, fun w H' o => ?_⟩
  obtain ⟨g', r', l', z', v'⟩ := o.new r1
  exact k2 g' H' r' l' z' w v'

theorem bools_map : ∀ {xs : List D} {bs : List Bool} {vs : List V} {g : Gh}, bools xs = some bs → DvL T g vs xs → vs = bs.map V.bl
  | [], bs, vs, g, h, hv => by cases h; cases hv; rfl
  | d :: xs, bs, vs, g, h, hv => by
    cases d with
    | bl b =>
      simp only [bools] at h
      cases q : bools xs with
      | none => rw [q] at h; cases h
      | some cs =>
        rw [q] at h
        cases h
        cases hv with
        | cons a c => cases a; rw [bools_map q c]; rfl
    | _ => cases h
theorem ints_map : ∀ {xs : List D} {bs : List Int} {vs : List V} {g : Gh}, intsOf xs = some bs → DvL T g vs xs → vs = bs.map V.int
  | [], bs, vs, g, h, hv => by cases h; cases hv; rfl
  | d :: xs, bs, vs, g, h, hv => by
    cases d with
    | int b =>
      simp only [intsOf] at h
      cases q : intsOf xs with
      | none => rw [q] at h; cases h
      | some cs =>
        rw [q] at h
        cases h
        cases hv with
        | cons a c => cases a; rw [ints_map q c]; rfl
    | _ => cases h
theorem strs_map : ∀ {xs : List D} {bs : List Str} {vs : List V} {g : Gh}, strsOf xs = some bs → DvL T g vs xs → vs = bs.map V.str
  | [], bs, vs, g, h, hv => by cases h; cases hv; rfl
  | d :: xs, bs, vs, g, h, hv => by
    cases d with
    | str b =>
      simp only [strsOf] at h
      cases q : strsOf xs with
      | none => rw [q] at h; cases h
      | some cs =>
        rw [q] at h
        cases h
        cases hv with
        | cons a c => cases a; rw [strs_map q c]; rfl
    | _ => cases h
theorem dw1 {g : Gh} {H : Hp} {vs : List V} {d : D} (h : DwL T g H vs [d]) : ∃ v, vs = [v] ∧ Dw T g H v d := by
  cases h with | cons a b => cases b; exact ⟨_, rfl, a⟩
theorem dw2 {g : Gh} {H : Hp} {vs : List V} {d e : D} (h : DwL T g H vs [d, e]) : ∃ v w, vs = [v, w] ∧ Dw T g H v d ∧ Dw T g H w e := by
  cases h with | cons a b => cases b with | cons b c => cases c; exact ⟨_, _, rfl, a, b⟩
end
section
variable {T : Tb} {X : Cx} (hK : X.K = T.K)
include hK
theorem c_len : CallR X (.builtin "len") (rB T (biD .len)) := by
  rintro pins s σ H vs us Q I rv ⟨g, ds, c, fs, hv, hc, q⟩
  match ds, hc with
  | [d], hc =>
    obtain ⟨v, rfl, hd⟩ := dw1 hv
    have hc' : (lenD d).map D.int = some c := hc
    cases d <;> simp only [lenD] at hc' <;> try (cases hc'; done)
    · obtain ⟨rfl, h1, h2⟩ := hd.str
      split at hc'
      · cases hc'
        exact call_len pins s σ H _ us Q I rv ⟨_, _, rfl, ⟨by rw [lim_eq]; exact h1, rfl⟩, q _ _ (outI _)⟩
      · rename_i hn; exact absurd h1 hn
    · cases hc'
      obtain ⟨l, ws, rfl, h1, h2, h3⟩ := hd.tup fs
      exact call_len pins s σ H _ us Q I rv ⟨_, _, rfl, .inr ⟨ws, by rw [hK]; exact h1, rfl⟩, by rw [h2.length]; exact q _ _ (outI _)⟩
    · cases hc'
      obtain ⟨l, ws, rfl, h1, h2⟩ := hd.lst fs
      exact call_len pins s σ H _ us Q I rv ⟨_, _, rfl, .inl ⟨ws, .inl (.inl h1), rfl⟩, by rw [h2.length]; exact q _ _ (outI _)⟩
    · cases hc'
      obtain ⟨l, ws, rfl, h1, h2⟩ := hd.rol fs
      exact call_len pins s σ H _ us Q I rv ⟨_, _, rfl, .inl ⟨ws, by rw [hK]; exact h1, rfl⟩, by rw [h2.length]; exact q _ _ (outI _)⟩
theorem c_abs : CallR X (.builtin "abs") (rB T (biD .abs)) := by
  rintro pins s σ H vs us Q I rv ⟨g, ds, c, fs, hv, hc, q⟩
  match ds, hc with
  | [.int i], hc =>
    obtain ⟨v, rfl, hd⟩ := dw1 hv
    cases hc
    obtain rfl := hd.int
    exact call_abs pins s σ H _ us Q I rv ⟨i, rfl, q _ _ (outI _)⟩
theorem c_tuple : CallR X (.type "tuple") (rB T (biD .tuple)) := by
  rintro pins s σ H vs us Q I rv ⟨g, ds, c, fs, hv, hc, q⟩
  match ds, hc with
  | [.tup xs], hc =>
    obtain ⟨v, rfl, hd⟩ := dw1 hv
    cases hc
    obtain ⟨l, ws, rfl, h1, h2, h3⟩ := hd.tup fs
    exact call_tuple_of pins s σ H _ us Q I rv ⟨l, ws, rfl, .inr ⟨by rw [hK]; exact h1, q _ _ (.old h3 (fun _ e => by cases e))⟩⟩
  | [.lst xs], hc =>
    obtain ⟨v, rfl, hd⟩ := dw1 hv
    cases hc
    obtain ⟨l, ws, rfl, h1, h2⟩ := hd.lst fs
    exact call_tuple_of pins s σ H _ us Q I rv ⟨l, ws, rfl, .inl ⟨.inl (.inl h1), fun p hp => q _ _ (.tup hp h2)⟩⟩
  | [.rol xs], hc =>
    obtain ⟨v, rfl, hd⟩ := dw1 hv
    cases hc
    obtain ⟨l, ws, rfl, h1, h2⟩ := hd.rol fs
    exact call_tuple_of pins s σ H _ us Q I rv ⟨l, ws, rfl, .inl ⟨by rw [hK]; exact h1, fun p hp => q _ _ (.tup hp h2)⟩⟩
theorem c_list : CallR X (.type "list") (rB T (biD .list)) := by
  rintro pins s σ H vs us Q I rv ⟨g, ds, c, fs, hv, hc, q⟩
  match ds, hc with
  | [.tup xs], hc =>
    obtain ⟨v, rfl, hd⟩ := dw1 hv
    cases hc
    obtain ⟨l, ws, rfl, h1, h2, h3⟩ := hd.tup fs
    exact call_list_of pins s σ H _ us Q I rv ⟨l, ws, rfl, .inr (by rw [hK]; exact h1), fun p hp => q _ _ (.lst hp h2)⟩
  | [.lst xs], hc =>
    obtain ⟨v, rfl, hd⟩ := dw1 hv
    cases hc
    obtain ⟨l, ws, rfl, h1, h2⟩ := hd.lst fs
    exact call_list_of pins s σ H _ us Q I rv ⟨l, ws, rfl, .inl (.inl (.inl h1)), fun p hp => q _ _ (.lst hp h2)⟩
  | [.rol xs], hc =>
    obtain ⟨v, rfl, hd⟩ := dw1 hv
    cases hc
    obtain ⟨l, ws, rfl, h1, h2⟩ := hd.rol fs
    exact call_list_of pins s σ H _ us Q I rv ⟨l, ws, rfl, .inl (by rw [hK]; exact h1), fun p hp => q _ _ (.lst hp h2)⟩
theorem c_int : CallR X (.type "int") (rB T (biD .int)) := by
  rintro pins s σ H vs us Q I rv ⟨g, ds, c, fs, hv, hc, q⟩
  match ds, hc with
  | [.int i], hc =>
    obtain ⟨v, rfl, hd⟩ := dw1 hv
    cases hc
    obtain rfl := hd.int
    exact call_int1 pins s σ H _ us Q I rv (.inl ⟨i, rfl, q _ _ (outI _)⟩)
  | [.bl b], hc =>
    obtain ⟨v, rfl, hd⟩ := dw1 hv
    cases hc
    obtain rfl := hd.bl
    exact call_int1 pins s σ H _ us Q I rv (.inr ⟨b, rfl, q _ _ (outI _)⟩)
theorem c_str : CallR X (.type "str") (rB T (biD .str)) := by
  rintro pins s σ H vs us Q I rv ⟨g, ds, c, fs, hv, hc, q⟩
  match ds, hc with
  | [.int i], hc =>
    obtain ⟨v, rfl, hd⟩ := dw1 hv
    simp only [biD] at hc
    split at hc
    · rename_i hl
      rw [Bool.and_eq_true, Bool.and_eq_true, decide_eq_true_eq, decide_eq_true_eq] at hl
      cases hc
      obtain rfl := hd.int
      exact call_str_int pins s σ H _ us Q I rv ⟨i, rfl, hl.1.1, q _ _ (outS _ hl.1.2 hl.2)⟩
    · cases hc
theorem c_all (hc : X.calm = true) : CallR X (.builtin "all") (rB T (biD .all)) := by
  rintro pins s σ H vs us Q I rv ⟨g, ds, c, fs, hv, hc', q⟩
  match ds, hc' with
  | [.lst xs], hc' =>
    obtain ⟨v, rfl, hd⟩ := dw1 hv
    simp only [biD] at hc'
    cases hb : bools xs with
    | none => rw [hb] at hc'; cases hc'
    | some bs =>
      rw [hb] at hc'
      cases hc'
      obtain ⟨l, ws, rfl, h1, h2⟩ := hd.lst fs
      exact cr_all hc pins s σ H _ us Q I rv ⟨l, bs, rfl, .inl (.inl (by rw [← bools_map hb h2]; exact h1)), q _ _ (outB _)⟩
theorem c_any (hc : X.calm = true) : CallR X (.builtin "any") (rB T (biD .any)) := by
  rintro pins s σ H vs us Q I rv ⟨g, ds, c, fs, hv, hc', q⟩
  match ds, hc' with
  | [.lst xs], hc' =>
    obtain ⟨v, rfl, hd⟩ := dw1 hv
    simp only [biD] at hc'
    cases hb : bools xs with
    | none => rw [hb] at hc'; cases hc'
    | some bs =>
      rw [hb] at hc'
      cases hc'
      obtain ⟨l, ws, rfl, h1, h2⟩ := hd.lst fs
      exact cr_any hc pins s σ H _ us Q I rv ⟨l, bs, rfl, .inl (.inl (by rw [← bools_map hb h2]; exact h1)), q _ _ (outB _)⟩
theorem c_sum (hc : X.calm = true) : CallR X (.builtin "sum") (rB T (biD .sum)) := by
  rintro pins s σ H vs us Q I rv ⟨g, ds, c, fs, hv, hc', q⟩
  match ds, hc' with
  | [.lst xs], hc' =>
    obtain ⟨v, rfl, hd⟩ := dw1 hv
    simp only [biD] at hc'
    cases hb : intsOf xs with
    | none => rw [hb] at hc'; cases hc'
    | some bs =>
      rw [hb] at hc'
      cases hc'
      obtain ⟨l, ws, rfl, h1, h2⟩ := hd.lst fs
      exact cr_sum hc pins s σ H _ us Q I rv ⟨l, bs, rfl, .inl (.inl (by rw [← ints_map hb h2]; exact h1)), q _ _ (outI _)⟩
theorem c_max2 (hc : X.calm = true) : CallR X (.builtin "max") (rB T (biD .max2)) := by
  rintro pins s σ H vs us Q I rv ⟨g, ds, c, fs, hv, hc', q⟩
  match ds, hc' with
  | [.int i, .int j], hc' =>
    obtain ⟨v, w, rfl, hd, he⟩ := dw2 hv
    cases hc'
    obtain rfl := hd.int
    obtain rfl := he.int
    exact call_max2 hc pins s σ H _ us Q I rv ⟨i, j, rfl, q _ _ (outI _)⟩
theorem c_min2 (hc : X.calm = true) : CallR X (.builtin "min") (rB T (biD .min2)) := by
  rintro pins s σ H vs us Q I rv ⟨g, ds, c, fs, hv, hc', q⟩
  match ds, hc' with
  | [.int i, .int j], hc' =>
    obtain ⟨v, w, rfl, hd, he⟩ := dw2 hv
    cases hc'
    obtain rfl := hd.int
    obtain rfl := he.int
    exact call_min2 hc pins s σ H _ us Q I rv ⟨i, j, rfl, q _ _ (outI _)⟩
theorem c_ord : CallR X (.builtin "ord") (rB T (biD .ord)) := by
  rintro pins s σ H vs us Q I rv ⟨g, ds, c, fs, hv, hc, q⟩
  match ds, hc with
  | [.str x], hc =>
    obtain ⟨v, rfl, hd⟩ := dw1 hv
    simp only [biD] at hc
    split at hc
    · rename_i hl
      cases hc
      obtain ⟨rfl, _⟩ := hd.str
      exact call_ord pins s σ H _ us Q I rv ⟨x, rfl, of_decide_eq_true hl, q _ _ (outI _)⟩
    · cases hc
end
end Mi

set_option autoImplicit false
/-! Mi6: targets, what is walked, statements. -/
namespace Mi
open PySem L2
open PyProof.Rows (Fr News)

def PsS {α : Type} (T : Tb) (Z : Addr → Prop) (g : Gh) (H : Hp) (r : R α) (K : α → Sg → Gh → Hp → L2.St → Prop) : Prop :=
  match r with
  | .ok a S' => ∀ g' H' σ', Rep T Z g' H' σ' S' → g.le g' → Zp Z H H' → K a S' g' H' σ'
  | _ => False
section
variable {α β : Type} {T : Tb} {Z : Addr → Prop} {g : Gh} {H : Hp} {r : R α} {K K' : α → Sg → Gh → Hp → L2.St → Prop}
theorem PsS.mono (h : PsS T Z g H r K) (k : ∀ a S' g' H' σ', Rep T Z g' H' σ' S' → g.le g' → Zp Z H H' → K a S' g' H' σ' → K' a S' g' H' σ') : PsS T Z g H r K' := by
  cases r with
  | ok a S' => exact fun g' H' σ' r l z => k a S' g' H' σ' r l z (h g' H' σ' r l z)
  | err c fs s => exact h
  | bad => exact h
theorem PsS.from (h : PsS T Z g H r K) {g1 : Gh} {H1 : Hp} (l : g.le g1) (z : Zp Z H H1) : PsS T Z g1 H1 r K := by
  cases r with
  | ok a S' => exact fun g' H' σ' r l' z' => h g' H' σ' r (l.trans l') (z.trans z')
  | err c fs s => exact h
  | bad => exact h
/-- first an expression -/
theorem PsS.bindE {σ : L2.St} {f : α → Sg → R β} {K2 : β → Sg → Gh → Hp → L2.St → Prop} (h : PsS T Z g H (r.bind f) K2) : Pst T Z g H σ r fun a S1 g1 H1 => PsS T Z g1 H1 (f a S1) K2 := by
  cases r with
  | ok a S' => exact fun g' H' _ l z => PsS.from (r := f a S') h l z
  | err c fs s => exact h
  | bad => exact h
theorem PsS.bind {f : α → Sg → R β} {K2 : β → Sg → Gh → Hp → L2.St → Prop} (h : PsS T Z g H (r.bind f) K2) : PsS T Z g H r fun a S1 g1 H1 _ => PsS T Z g1 H1 (f a S1) K2 := by
  cases r with
  | ok a S' => exact fun g' H' _ _ l z => PsS.from (r := f a S') h l z
  | err c fs s => exact h
  | bad => exact h
theorem PsS.ok {a : α} {S : Sg} {σ : L2.St} (h : PsS T Z g H (.ok a S) K) (r : Rep T Z g H σ S) : K a S g H σ := h g H σ r .rfl .rfl
end

/-! ### slots -/
section
variable {T : Tb} {Z : Addr → Prop} {g : Gh} {H : Hp} {σ : L2.St} {S : Sg}
theorem Rep.setVal (r : Rep T Z g H σ S) (i : Nat) {v : V} {d : D} (h : Dv T g v d) : Rep T Z g H (σ.set i (some v)) (S.set i (.val d)) := by
  refine ⟨r.fsub, by simp [Sg.set, r.len], fun j x q => ?_, fun j k ys zs n q1 q2 => ?_, r.hlen, r.hobj, r.hnd, r.prot⟩
  · by_cases hj : i = j
    · subst hj
      by_cases hi : i < S.sl.length
      · simp only [Sg.set, List.getElem?_set_self hi] at q
        cases q
        rw [List.getElem?_set_self (by rw [r.len]; exact hi)]
        exact ⟨v, rfl, h⟩
      · simp only [Sg.set] at q
        rw [List.getElem?_eq_none (by simp; omega)] at q
        cases q
    · simp only [Sg.set, List.getElem?_set_ne hj] at q
      rw [List.getElem?_set_ne hj]
      exact r.slot j x q
  · have ne : ∀ {k : Nat} {zs : List D}, (S.set i (.val d)).sl[k]? = some (.own zs) → i ≠ k := fun {k zs} q z => by
      subst z
      by_cases hi : i < S.sl.length
      · simp only [Sg.set, List.getElem?_set_self hi] at q; cases q
      · simp only [Sg.set] at q
        rw [List.getElem?_eq_none (by simp; omega)] at q
        cases q
    have nj := ne q1
    have nk := ne q2
    simp only [Sg.set, List.getElem?_set_ne nj] at q1
    simp only [Sg.set, List.getElem?_set_ne nk] at q2
    rw [List.getElem?_set_ne nj, List.getElem?_set_ne nk]
    exact r.apart j k ys zs n q1 q2
theorem Rep.setOwn (r : Rep T Z g H σ S) (i : Nat) {v : V} {xs : List D} (h : Fresh T Z g H σ S v (.lst xs)) : Rep T Z g H (σ.set i (some v)) (S.set i (.own xs)) := by
  obtain ⟨l, vs, xs', rfl, e, h1, h2, h3, h4, h5, h6⟩ := h
  cases e
  refine ⟨r.fsub, by simp [Sg.set, r.len], fun j x q => ?_, fun j k ys zs n q1 q2 => ?_, r.hlen, r.hobj, r.hnd, r.prot⟩
  · by_cases hj : i = j
    · subst hj
      by_cases hi : i < S.sl.length
      · simp only [Sg.set, List.getElem?_set_self hi] at q
        cases q
        rw [List.getElem?_set_self (by rw [r.len]; exact hi)]
        exact ⟨l, vs, rfl, h1, h2, h3, h4, h5⟩
      · simp only [Sg.set] at q
        rw [List.getElem?_eq_none (by simp; omega)] at q
        cases q
    · simp only [Sg.set, List.getElem?_set_ne hj] at q
      rw [List.getElem?_set_ne hj]
      exact r.slot j x q
  · have at_ : ∀ {k : Nat} {zs : List D}, i ≠ k → (S.set i (.own xs)).sl[k]? = some (.own zs) → (σ.set i (some (.ref l)))[k]? ≠ some (some (.ref l)) := fun {k zs} nk q z => by
      simp only [Sg.set, List.getElem?_set_ne nk] at q
      rw [List.getElem?_set_ne nk] at z
      exact h6 ⟨k, zs, q, z⟩
    by_cases nj : i = j
    · subst nj
      have hi : i < S.sl.length := by
        have := (List.getElem?_eq_some_iff.mp q1).1
        simpa [Sg.set] using this
      rw [List.getElem?_set_self (by rw [r.len]; exact hi)]
      exact fun z => at_ n q2 z.symm
    · by_cases nk : i = k
      · subst nk
        have hi : i < S.sl.length := by
          have := (List.getElem?_eq_some_iff.mp q2).1
          simpa [Sg.set] using this
        rw [List.getElem?_set_self (by rw [r.len]; exact hi)]
        exact at_ nj q1
      · simp only [Sg.set, List.getElem?_set_ne nj] at q1
        simp only [Sg.set, List.getElem?_set_ne nk] at q2
        rw [List.getElem?_set_ne nj, List.getElem?_set_ne nk]
        exact r.apart j k ys zs n q1 q2
/-- the list of an own slot is changed in its place -/
theorem Rep.mutOwn (r : Rep T Z g H σ S) {i : Nat} {xs ys : List D} {l : Addr} {ws : List V} (e : S.sl[i]? = some (.own xs)) (e1 : σ[i]? = some (some (.ref l))) (hw : DvL T g ws ys) : Rep T Z g (upd H l (.lst ws)) σ (S.set i (.own ys)) := by
  obtain ⟨l', vs, q1, q2, q3, q4, q5, q6⟩ := r.slot i _ e
  rw [e1] at q1; cases q1
  have hi : i < S.sl.length := (List.getElem?_eq_some_iff.mp e).1
  refine ⟨fun b o q => ?_, by simp [Sg.set, r.len], fun j x q => ?_, fun j k ys' zs n w1 w2 => ?_, r.hlen, fun n a o w1 w2 => ?_, r.hnd, fun b z => ?_⟩
  · have : b ≠ l := fun z => by rw [z, q4] at q; cases q
    rw [upd_ne this]; exact r.fsub b o q
  · by_cases hj : i = j
    · subst hj
      simp only [Sg.set, List.getElem?_set_self hi] at q
      cases q
      exact ⟨l, ws, e1, upd_same, hw, q4, q5, q6⟩
    · simp only [Sg.set, List.getElem?_set_ne hj] at q
      have k := r.slot j x q
      cases x with
      | emp => trivial
      | val d => exact k
      | own zs =>
        obtain ⟨l2, us, k1, k2, k3, k4, k5, k6⟩ := k
        have : l2 ≠ l := fun z => r.apart i j xs zs hj e q (by rw [e1, k1, z])
        exact ⟨l2, us, k1, by rw [upd_ne this]; exact k2, k3, k4, k5, k6⟩
  · have un : ∀ {k : Nat} {zs : List D}, (S.set i (.own ys)).sl[k]? = some (.own zs) → ∃ zs', S.sl[k]? = some (.own zs') := fun {k zs} w => by
      by_cases hk : i = k
      · subst hk; exact ⟨xs, e⟩
      · simp only [Sg.set, List.getElem?_set_ne hk] at w; exact ⟨zs, w⟩
    obtain ⟨a, ha⟩ := un w1
    obtain ⟨b, hb⟩ := un w2
    exact r.apart j k a b n ha hb
  · obtain ⟨k1, k2⟩ := r.hobj n a o w1 w2
    have : a ≠ l := fun z => q6 (by rw [← z]; exact List.mem_of_getElem? w1)
    exact ⟨k1.up .rfl (upd_ne this), k2⟩
  · obtain ⟨⟨o, k1⟩, k2⟩ := r.prot b z
    have : b ≠ l := fun w => q5 (by rw [← w]; exact z)
    exact ⟨⟨o, by rw [upd_ne this]; exact k1⟩, k2⟩
theorem Zp.mutOwn (r : Rep T Z g H σ S) {i : Nat} {xs : List D} {l : Addr} {o : HO} (e : S.sl[i]? = some (.own xs)) (e1 : σ[i]? = some (some (.ref l))) : Zp Z H (upd H l o) := fun b z => by
  obtain ⟨l', vs, q1, q2, q3, q4, q5, q6⟩ := r.slot i _ e
  rw [e1] at q1; cases q1
  exact upd_ne fun w => q5 (by rw [← w]; exact z)
/-- a slot forgotten -/
theorem Rep.drop (r : Rep T Z g H σ S) (i : Nat) : Rep T Z g H σ (S.set i .emp) := by
  have ne : ∀ {k : Nat} {zs : List D}, (S.set i .emp).sl[k]? = some (.own zs) → i ≠ k := fun {k zs} q z => by
    subst z
    by_cases hi : i < S.sl.length
    · simp only [Sg.set, List.getElem?_set_self hi] at q; cases q
    · simp only [Sg.set] at q
      rw [List.getElem?_eq_none (by simp; omega)] at q
      cases q
  refine ⟨r.fsub, by simp [Sg.set, r.len], fun j x q => ?_, fun j k ys zs n q1 q2 => ?_, r.hlen, r.hobj, r.hnd, r.prot⟩
  · by_cases hj : i = j
    · subst hj
      by_cases hi : i < S.sl.length
      · simp only [Sg.set, List.getElem?_set_self hi] at q
        cases q; trivial
      · simp only [Sg.set] at q
        rw [List.getElem?_eq_none (by simp; omega)] at q
        cases q
    · simp only [Sg.set, List.getElem?_set_ne hj] at q
      exact r.slot j x q
  · have nj := ne q1
    have nk := ne q2
    simp only [Sg.set, List.getElem?_set_ne nj] at q1
    simp only [Sg.set, List.getElem?_set_ne nk] at q2
    exact r.apart j k ys zs n q1 q2
end

theorem Rep.setEmp {T : Tb} {Z : Addr → Prop} {g : Gh} {H : Hp} {σ : L2.St} {S : Sg} (r : Rep T Z g H σ S) (i : Nat) (u : Option V) : Rep T Z g H (σ.set i u) (S.set i .emp) := by
  have ne : ∀ {k : Nat} {zs : List D}, (S.set i .emp).sl[k]? = some (.own zs) → i ≠ k := fun {k zs} q z => by
    subst z
    by_cases hi : i < S.sl.length
    · simp only [Sg.set, List.getElem?_set_self hi] at q; cases q
    · simp only [Sg.set] at q
      rw [List.getElem?_eq_none (by simp; omega)] at q
      cases q
  refine ⟨r.fsub, by simp [Sg.set, r.len], fun j x q => ?_, fun j k ys zs n q1 q2 => ?_, r.hlen, r.hobj, r.hnd, r.prot⟩
  · by_cases hj : i = j
    · subst hj
      by_cases hi : i < S.sl.length
      · simp only [Sg.set, List.getElem?_set_self hi] at q
        cases q; trivial
      · simp only [Sg.set] at q
        rw [List.getElem?_eq_none (by simp; omega)] at q
        cases q
    · simp only [Sg.set, List.getElem?_set_ne hj] at q
      rw [List.getElem?_set_ne hj]
      exact r.slot j x q
  · have nj := ne q1
    have nk := ne q2
    simp only [Sg.set, List.getElem?_set_ne nj] at q1
    simp only [Sg.set, List.getElem?_set_ne nk] at q2
    rw [List.getElem?_set_ne nj, List.getElem?_set_ne nk]
    exact r.apart j k ys zs n q1 q2

/-! ### targets -/
def tgt (T : Tb) (tg : Tg) : TG := fun v σ H Q => ∃ Z g S d, Rep T Z g H σ S ∧ Dv T g v d ∧ PsS T Z g H (asg tg d S) fun _ S' g' H' σ' => g' = g → H' = H → L2.wipe σ' tg.slots = L2.wipe σ tg.slots → Q σ' H
section
variable {T : Tb} {X : Cx} {pos : Pos}
theorem pg_imp {e : Expr} {t t' : TG} (h : PG X e t) (i : ∀ v σ H Q, t' v σ H Q → t v σ H Q) : PG X e t' := ⟨fun p s σ H v u Q I r q => h.run p s σ H v u Q I r (i v σ H Q q)⟩
theorem g_one {i : Nat} {x : Str} (hN : X.N.Nodup) (hi : X.N[i]? = some x) (hx : Loc X.env.scope x) (hf : X.fn x = true ∨ X.env.scope.names.lookup x = some .local) : PG X (.Name x pos) (tgt T (.one i)) :=
  pg_imp (pg_name hN hi hx hf) fun v σ H Q ⟨Z, g, S, d, r, hv, p⟩ => PsS.ok (r := r.setVal i hv) p rfl rfl (by show ((σ.set i (some v)).set i none : L2.St) = σ.set i none; rw [List.set_set])
def gs (is : List Nat) : TGs := is.foldr (fun i t => gCons (gName i) t) gNil
theorem wipe_set (i : Nat) (x : Option V) : ∀ (is : List Nat) (σ : L2.St), (L2.wipe (σ.set i x) is).set i none = (L2.wipe σ is).set i none
  | [], σ => by show (σ.set i x).set i none = σ.set i none; rw [List.set_set]
  | j :: is, σ => by
    show ((L2.wipe (σ.set i x) is).set j none).set i none = ((L2.wipe σ is).set j none).set i none
    by_cases h : j = i
    · subst h
      rw [List.set_set, List.set_set]
      exact wipe_set j x is σ
    · rw [List.set_comm _ _ h, wipe_set i x is σ, List.set_comm _ _ h]
theorem gs_ok {T : Tb} {Z : Addr → Prop} {g : Gh} {H : Hp} {Q : L2.St → Hp → Prop} : ∀ {is : List Nat} {ds : List D} {vs : List V} {σ : L2.St} {S : Sg}, Rep T Z g H σ S → DvL T g vs ds → PsS T Z g H (asgL is ds S) (fun _ S' g' H' σ' => g' = g → H' = H → L2.wipe σ' is = L2.wipe σ is → Q σ' H) → gs is vs σ H Q
  | [], [], vs, σ, S, r, hv, p => by cases hv; exact ⟨rfl, PsS.ok (r := r) p rfl rfl rfl⟩
  | i :: is, d :: ds, vs, σ, S, r, hv, p => by
    cases hv with
    | cons a b =>
      refine ⟨_, _, rfl, gs_ok (is := is) (r.setVal i a) b ?_⟩
      have p' : PsS T Z g H (asgL is ds (S.set i (.val d))) _ := p
      exact p'.mono fun _ S' g' H' σ' r' l' z' k e1 e2 e3 => k e1 e2 (by
        show (L2.wipe σ' is).set i none = (L2.wipe σ is).set i none
        rw [e3]
        exact wipe_set i _ is σ)
  | [], _ :: _, _, _, _, _, _, p => False.elim p
  | _ :: _, [], _, _, _, _, _, p => False.elim p
theorem asgL_len : ∀ {is : List Nat} {ds : List D} {S : Sg}, (∃ S', asgL is ds S = .ok () S') → ds.length = is.length
  | [], [], _, _ => rfl
  | i :: is, d :: ds, S, ⟨S', h⟩ => by
    have := asgL_len (is := is) (ds := ds) (S := S.set i (.val d)) ⟨S', h⟩
    simp [this]
  | [], _ :: _, _, ⟨_, h⟩ => by cases h
  | _ :: _, [], _, ⟨_, h⟩ => by cases h
theorem g_many {es : List Expr} {k n : Nat} {is : List Nat} (hK : X.K = T.K) (hc : X.calm = true) (h : PGs X es (gs is)) (hl : is.length = n) (hn : (assignEach es X.env).length = n) (hst : (assignEach es X.env).findIdx? (·.1) = none) : PG X (.Tuple es k pos) (tgt T (.many is)) :=
  pg_imp (pg_tup hc h hn hst) fun v σ H Q ⟨Z, g, S, d, r, hv, p⟩ => by
    cases d with
    | tup ds =>
      cases hv with
      | tup a b =>
        have p' : PsS T Z g H (asgL is ds S) _ := p
        have hS : ∃ S', asgL is ds S = .ok () S' := by
          cases q : asgL is ds S with
          | ok u S' => exact ⟨S', rfl⟩
          | err _ _ _ => rw [q] at p'; exact False.elim p'
          | bad => rw [q] at p'; exact False.elim p'
        exact ⟨_, _, rfl, by rw [hK]; exact SqT.up r.fsub a, by rw [b.length, asgL_len hS, hl], gs_ok r b p'⟩
    | _ => exact False.elim p
end

/-! ### what is walked -/
def Wk (T : Tb) (g : Gh) (J : It) (ds : List D) : Prop := ∀ g1 H1, g.le g1 → Fs g1 H1 → ∀ i, (∀ d, ds[i]? = some d → J.go i H1 ∧ ∀ x H2, J.yld i H1 x H2 → Out T g1 H1 x H2 d) ∧ (ds.length ≤ i → J.stop i H1)
def tI (T : Tb) (C : Cn) (m : M) : TI := fun σ H Rr => ∃ Z g S, Rep T Z g H σ S ∧ Pst T Z g H σ (evI C m S) fun ds S' g' H' => ∀ J, Wk T g' J ds → Rr J H'
section
variable {T : Tb} {C : Cn} {X : Cx} {e tg : Expr} {m : M} {pos : Pos}
theorem wk_listL {g : Gh} {a : Addr} {vs : List V} {ds : List D} (h : SqL T.K g.F a vs) (hv : DvL T g vs ds) : Wk T g (Itl T.K a) ds := by
  intro g1 H1 l fs i
  have hq : SqL T.K H1 a vs := SqL.up (fun b o e => fs b o (l.F b o e)) h
  refine ⟨fun d hd => ?_, fun hl => ⟨vs, hq, by rw [hv.length]; exact hl⟩⟩
  obtain ⟨v, e1, e2⟩ := hv.get i d hd
  refine ⟨⟨vs, v, hq, e1⟩, fun x H2 ⟨e, k⟩ => ?_⟩
  subst e
  have := k vs hq
  rw [e1] at this
  cases this
  exact .old (e2.up l)
theorem wk_tup {g : Gh} {a : Addr} {vs : List V} {ds : List D} (h : SqT T.K g.F a vs) (hv : DvL T g vs ds) : Wk T g (Itt T.K a) ds := by
  intro g1 H1 l fs i
  have hq : SqT T.K H1 a vs := SqT.up (fun b o e => fs b o (l.F b o e)) h
  refine ⟨fun d hd => ?_, fun hl => ⟨vs, hq, by rw [hv.length]; exact hl⟩⟩
  obtain ⟨v, e1, e2⟩ := hv.get i d hd
  refine ⟨⟨vs, v, hq, e1⟩, fun x H2 ⟨e, k⟩ => ?_⟩
  subst e
  have := k vs hq
  rw [e1] at this
  cases this
  exact .old (e2.up l)
theorem wk_str {g : Gh} {x : Str} (hx : PyData.strOk x = true) : Wk T g (Its x) (x.cps.toList.map fun c => .str ⟨#[c]⟩) := by
  intro g1 H1 l fs i
  refine ⟨fun d hd => ?_, fun hl => show x.cps.size ≤ i by simpa using hl⟩
  rw [List.getElem?_map] at hd
  cases q : x.cps.toList[i]? with
  | none => rw [q] at hd; cases hd
  | some c =>
    rw [q] at hd
    cases hd
    have hi : i < x.cps.size := by simpa using (List.getElem?_eq_some_iff.mp q).1
    refine ⟨hi, fun y H2 ⟨e, c', e1, e2⟩ => ?_⟩
    subst e e2
    have ec : x.cps[i]? = some c := by simpa using q
    rw [ec] at e1
    cases e1
    have hk : c < 0x110000 := strOk_list hx c (List.mem_of_getElem? q)
    exact .old (.str ⟨#[c]⟩ (show (1 : Nat) ≤ lim by decide) (by unfold PyData.strOk; simpa using hk))
theorem wk_rng {g : Gh} {lo hi : Int} : Wk T g (Itr lo (hi - lo).toNat) (rng lo hi) := by
  intro g1 H1 l fs i
  unfold rng
  refine ⟨fun d hd => ?_, fun hl => show (hi - lo).toNat ≤ i by simpa using hl⟩
  rw [List.getElem?_map] at hd
  cases q : (List.range (hi - lo).toNat)[i]? with
  | none => rw [q] at hd; cases hd
  | some k =>
    rw [q] at hd
    cases hd
    obtain ⟨h1, h2⟩ := List.getElem?_eq_some_iff.mp q
    rw [List.getElem_range] at h2
    rw [List.length_range] at h1
    subst h2
    refine ⟨h1, fun y H2 ⟨e, e2⟩ => ?_⟩
    subst e e2
    exact .old (.int _)
theorem i_seq (hK : X.K = T.K) (he : PE X e (tE T C false m)) : PI X tg e (tI T C (.sSeq m)) := ⟨fun pins s σ H Rr I ⟨Z, g, S, r, p⟩ => by
  have p' : Pst T Z g H σ ((ev C m S).bind fun d s => R.ofO d.items s) _ := p
  cases q : ev C m S with
  | ok d S1 =>
    rw [q] at p'
    cases d with
    | tup ds =>
      refine (pi_tup he).run pins s σ H Rr I ⟨Z, g, S, r, ?_⟩
      rw [q]
      intro g1 H1 r1 l1 z1 v hv
      have hv' : Dv T g1 v (.tup ds) := hv
      cases hv' with
      | tup a b => exact ⟨_, rfl, ⟨_, by rw [hK]; exact SqT.up r1.fsub a⟩, p' g1 H1 r1 l1 z1 _ (by rw [hK]; exact wk_tup a b)⟩
    | lst ds =>
      refine (pi_list he).run pins s σ H Rr I ⟨Z, g, S, r, ?_⟩
      rw [q]
      intro g1 H1 r1 l1 z1 v hv
      have hv' : Dv T g1 v (.lst ds) := hv
      cases hv' with
      | lst a b => exact ⟨_, rfl, ⟨_, .inl (.inl (r1.fsub _ _ a))⟩, p' g1 H1 r1 l1 z1 _ (by rw [hK]; exact wk_listL (.inl (.inl a)) b)⟩
    | rol ds =>
      refine (pi_list he).run pins s σ H Rr I ⟨Z, g, S, r, ?_⟩
      rw [q]
      intro g1 H1 r1 l1 z1 v hv
      have hv' : Dv T g1 v (.rol ds) := hv
      cases hv' with
      | rol a b => exact ⟨_, rfl, ⟨_, by rw [hK]; exact SqL.up r1.fsub a⟩, p' g1 H1 r1 l1 z1 _ (by rw [hK]; exact wk_listL a b)⟩
    | str x =>
      refine (pi_str he).run pins s σ H Rr I ⟨Z, g, S, r, ?_⟩
      rw [q]
      intro g1 H1 r1 l1 z1 v hv
      have hv' : Dv T g1 v (.str x) := hv
      cases hv' with
      | str _ a b =>
        have hI : D.items (.str x) = some (x.cps.toList.map fun c => .str ⟨#[c]⟩) := if_pos a
        have p2 : Pst T Z g H σ (R.ofO (D.items (.str x)) S1) fun ds S' g' H' => ∀ (J : It), Wk T g' J ds → Rr J H' := p'
        rw [hI] at p2
        exact ⟨x, rfl, p2 g1 H1 r1 l1 z1 _ (wk_str b)⟩
    | _ => exact False.elim p'
  | err _ _ _ => rw [q] at p'; exact False.elim p'
  | bad => rw [q] at p'; exact False.elim p'⟩
theorem pi_imp {t t' : TI} (h : PI X tg e t) (i : ∀ σ H Q, t' σ H Q → t σ H Q) : PI X tg e t' := ⟨fun p s σ H Q I q => h.run p s σ H Q I (i σ H Q q)⟩
theorem rngOk_of {lo hi : Int} (h : rngOk lo hi = true) : -(2 ^ 62) ≤ lo ∧ lo < 2 ^ 62 ∧ -(2 ^ 62) ≤ hi ∧ hi < 2 ^ 62 := by
  unfold rngOk at h
  simp only [Bool.and_eq_true, decide_eq_true_eq] at h
  omega
theorem i_rng {a : Expr} {p : Pos} (hg : Gl X "range") (hm : X.mg "range" = none) (ha : PE X a (tE T C false m)) (hs : starEach [a] X.env = [(false, eval a X.env)]) : PI X tg (.Call (.Name "range" p) [a] [] pos) (tI T C (.sRng m)) :=
  pi_imp (pi_range1 hg hm (pa_cons ha pa_nil (by rw [hs]; rfl)) hs) fun σ H Rr ⟨Z, g, S, r, p⟩ => by
    have p' : Pst T Z g H σ ((ev C m S).bind _) _ := p
    refine ⟨Z, g, S, r, p'.bind.mono fun d S1 g1 H1 r1 l1 z1 k1 v hv => ?_⟩
    cases d with
    | int i =>
      have hv' : Dv T g1 v (.int i) := hv
      cases hv'
      have k1' : Pst T Z g1 H1 σ (if rngOk 0 i then R.ok (rng 0 i) S1 else .bad) _ := k1
      split at k1'
      · rename_i hr
        obtain ⟨_, _, h1, h2⟩ := rngOk_of hr
        refine ⟨i, rfl, h1, h2, ?_⟩
        have := k1'.ok r1 (Itr 0 (i - 0).toNat) wk_rng
        rw [Int.sub_zero] at this
        exact this
      · exact False.elim k1'
    | _ => exact False.elim k1
theorem i_rng2 {a b : Expr} {ma mb : M} {p : Pos} (hg : Gl X "range") (hm : X.mg "range" = none) (ha : PE X a (tE T C false ma)) (hb : PE X b (tE T C false mb)) (hs : starEach [a, b] X.env = [(false, eval a X.env), (false, eval b X.env)]) (hs2 : starEach [b] X.env = [(false, eval b X.env)]) :
    PI X tg (.Call (.Name "range" p) [a, b] [] pos) (tI T C (.sRng2 ma mb)) :=
  pi_imp (pi_range2 hg hm (pa_cons ha (pa_cons hb pa_nil (by rw [hs2]; rfl)) (by rw [hs, hs2])) hs hs2) fun σ H Rr ⟨Z, g, S, r, p⟩ => by
    have p' : Pst T Z g H σ ((ev C ma S).bind fun d s => (ev C mb s).bind fun e s => _) _ := p
    refine ⟨Z, g, S, r, p'.bind.mono fun d S1 g1 H1 r1 l1 z1 k1 v hv => ⟨Z, g1, S1, r1, k1.bind.mono fun e S2 g2 H2 r2 l2 z2 k2 w hw => ?_⟩⟩
    cases d <;> try exact False.elim k2
    rename_i i
    cases e <;> try exact False.elim k2
    rename_i j
    have hv' : Dv T g1 v (.int i) := hv
    cases hv'
    have hw' : Dv T g2 w (.int j) := hw
    cases hw'
    have k1' : Pst T Z g2 H2 σ (if rngOk i j then R.ok (rng i j) S2 else .bad) _ := k2
    split at k1'
    · rename_i hr
      exact ⟨i, j, rfl, rngOk_of hr, k1'.ok r2 _ wk_rng⟩
    · exact False.elim k1'
end
end Mi

set_option autoImplicit false
/-! Mi7: list comprehensions. -/
namespace Mi
open PySem L2
open PyProof.Rows (Fr News)

theorem Mi.wipe_cons (i : Nat) (is : List Nat) (s : Sg) : Mi.wipe (i :: is) s = (Mi.wipe is s).set i .emp := rfl
theorem Rep.wipe {T : Tb} {Z : Addr → Prop} {g : Gh} {H : Hp} {σ : L2.St} {S : Sg} (r : Rep T Z g H σ S) : ∀ is : List Nat, Rep T Z g H (L2.wipe σ is) (Mi.wipe is S)
  | [] => r
  | i :: is => (Rep.wipe r is).setEmp i none
theorem wipe_sl_in {i : Nat} : ∀ {is : List Nat} {s : Sg}, i ∈ is → ∀ x, (Mi.wipe is s).sl[i]? = some x → x = .emp
  | [], _, h, _, _ => absurd h (by simp)
  | j :: is, s, h, x, q => by
    rw [Mi.wipe_cons] at q
    by_cases e : j = i
    · subst e
      by_cases hj : j < (Mi.wipe is s).sl.length
      · simp only [Sg.set, List.getElem?_set_self hj] at q; cases q; rfl
      · simp only [Sg.set] at q
        rw [List.getElem?_eq_none (by simp; omega)] at q
        cases q
    · simp only [Sg.set, List.getElem?_set_ne e] at q
      exact wipe_sl_in ((List.mem_cons.mp h).resolve_left fun z => e z.symm) x q
theorem wipe_sl_out {i : Nat} : ∀ {is : List Nat} {s : Sg}, i ∉ is → (Mi.wipe is s).sl[i]? = s.sl[i]?
  | [], _, _ => rfl
  | j :: is, s, h => by
    rw [List.mem_cons, not_or] at h
    rw [Mi.wipe_cons]
    simp only [Sg.set, List.getElem?_set_ne (Ne.symm h.1)]
    exact wipe_sl_out h.2
theorem wipe_len (s : Sg) : ∀ is : List Nat, (Mi.wipe is s).sl.length = s.sl.length
  | [] => rfl
  | i :: is => by rw [Mi.wipe_cons]; simp [Sg.set, wipe_len s is]
theorem wipe_hp (s : Sg) : ∀ is : List Nat, (Mi.wipe is s).hp = s.hp
  | [] => rfl
  | i :: is => by rw [Mi.wipe_cons]; exact wipe_hp s is
theorem back_hp (old s : Sg) : ∀ is : List Nat, (back is old s).hp = s.hp
  | [] => rfl
  | i :: is => back_hp old s is
theorem back_cons (i : Nat) (is : List Nat) (old s : Sg) : back (i :: is) old s = (back is old s).set i (old.sl.getD i .emp) := rfl
theorem back_len (old s : Sg) : ∀ is : List Nat, (back is old s).sl.length = s.sl.length
  | [] => rfl
  | i :: is => by rw [back_cons]; simp [Sg.set, back_len old s is]
theorem back_in {i : Nat} {old : Sg} : ∀ {is : List Nat} {s : Sg}, i ∈ is → ∀ x, (back is old s).sl[i]? = some x → x = old.sl.getD i .emp
  | [], _, h, _, _ => absurd h (by simp)
  | j :: is, s, h, x, q => by
    rw [back_cons] at q
    by_cases e : j = i
    · subst e
      by_cases hj : j < (back is old s).sl.length
      · simp only [Sg.set, List.getElem?_set_self hj] at q; cases q; rfl
      · simp only [Sg.set] at q
        rw [List.getElem?_eq_none (by simp; omega)] at q
        cases q
    · simp only [Sg.set, List.getElem?_set_ne e] at q
      exact back_in ((List.mem_cons.mp h).resolve_left fun z => e z.symm) x q
theorem back_out {i : Nat} {old : Sg} : ∀ {is : List Nat} {s : Sg}, i ∉ is → (back is old s).sl[i]? = s.sl[i]?
  | [], _, _ => rfl
  | j :: is, s, h => by
    rw [List.mem_cons, not_or] at h
    rw [back_cons]
    simp only [Sg.set, List.getElem?_set_ne (Ne.symm h.1)]
    exact back_out h.2
theorem wipe_out {σ : L2.St} {i : Nat} : ∀ {is : List Nat}, i ∉ is → (L2.wipe σ is)[i]? = σ[i]?
  | [], _ => rfl
  | j :: is, h => by
    rw [List.mem_cons, not_or] at h
    show ((L2.wipe σ is).set j none)[i]? = _
    rw [List.getElem?_set_ne (Ne.symm h.1)]
    exact wipe_out h.2
theorem wipe_wipe (σ : L2.St) : ∀ is : List Nat, L2.wipe (L2.wipe σ is) is = L2.wipe σ is
  | [] => rfl
  | i :: is => by
    show (L2.wipe ((L2.wipe σ is).set i none) is).set i none = (L2.wipe σ is).set i none
    rw [wipe_set, wipe_wipe σ is]
/-- the list in the making -/
def Zc (Z : Addr → Prop) (D : Addr) : Addr → Prop := fun b => Z b ∨ b = D
section
variable {T : Tb} {Z : Addr → Prop} {g : Gh} {H : Hp} {σ : L2.St} {S : Sg} {D : Addr}
theorem Rep.inC (r : Rep T Z g H σ S) {o : HO} (h : H D = none) : Rep T (Zc Z D) g (upd H D o) σ S := by
  have q := r.grow (o := o) h
  refine ⟨q.fsub, q.len, fun i x e => ?_, q.apart, q.hlen, q.hobj, q.hnd, fun b z => ?_⟩
  · have k := q.slot i x e
    cases x with
    | emp => trivial
    | val d => exact k
    | own xs =>
      obtain ⟨l, vs, k1, k2, k3, k4, k5, k6⟩ := k
      refine ⟨l, vs, k1, k2, k3, k4, fun w => w.elim k5 fun w => ?_, k6⟩
      subst w
      exact r.newO h ⟨i, xs, e, k1⟩
  · rcases z with z | z
    · exact q.prot b z
    · subst z
      exact ⟨⟨o, upd_same⟩, r.newρ h, r.newF h⟩
/-- the list in the making grows -/
theorem Rep.poke (r : Rep T (Zc Z D) g H σ S) {o : HO} : Rep T (Zc Z D) g (upd H D o) σ S := by
  obtain ⟨⟨o0, h0⟩, h1, h2⟩ := r.prot D (.inr rfl)
  refine ⟨fun b u e => ?_, r.len, fun i x e => ?_, r.apart, r.hlen, fun n a u e1 e2 => ?_, r.hnd, fun b z => ?_⟩
  · have : b ≠ D := fun w => by rw [w, h2] at e; cases e
    rw [upd_ne this]; exact r.fsub b u e
  · have k := r.slot i x e
    cases x with
    | emp => trivial
    | val d => exact k
    | own xs =>
      obtain ⟨l, vs, k1, k2, k3, k4, k5, k6⟩ := k
      have : l ≠ D := fun w => k5 (.inr w)
      exact ⟨l, vs, k1, by rw [upd_ne this]; exact k2, k3, k4, k5, k6⟩
  · obtain ⟨k1, k2⟩ := r.hobj n a u e1 e2
    have : a ≠ D := fun w => h1 (by rw [← w]; exact List.mem_of_getElem? e1)
    exact ⟨k1.up .rfl (upd_ne this), k2⟩
  · obtain ⟨⟨u, k1⟩, k2⟩ := r.prot b z
    by_cases w : b = D
    · subst w; exact ⟨⟨o, upd_same⟩, k2⟩
    · exact ⟨⟨u, by rw [upd_ne w]; exact k1⟩, k2⟩
/-- the block ends -/
theorem Rep.unwipe {g' : Gh} {H' : Hp} {s' : Sg} {is : List Nat} (r : Rep T Z g H σ S) (r' : Rep T (Zc Z D) g' H' (L2.wipe σ is) (Mi.wipe is s')) (l : g.le g') (hn : noOwn is S = true) : Rep T Z g' H' σ (back is S s') := by
  have hlen : S.sl.length = s'.sl.length := by
    have e := r'.len
    rw [wipe_length, wipe_len, r.len] at e
    exact e
  have nown : ∀ {k : Nat} {zs : List Mi.D}, (back is S s').sl[k]? = some (.own zs) → k ∉ is := fun {k zs} q hk => by
    have e := back_in hk _ q
    unfold noOwn at hn
    rw [List.all_eq_true] at hn
    have := hn k hk
    rw [← e] at this
    cases this
  refine ⟨r'.fsub, by rw [back_len, ← hlen, r.len], fun i x q => ?_, fun i j xs ys n q1 q2 => ?_, by rw [back_hp, ← wipe_hp s' is]; exact r'.hlen, fun n a o e1 e2 => ?_, r'.hnd, fun b z => r'.prot b (.inl z)⟩
  · by_cases hi : i ∈ is
    · have e := back_in hi x q
      cases x with
      | emp => trivial
      | own xs => exact absurd hi (nown q)
      | val d =>
        have hs : S.sl[i]? = some (.val d) := by
          have hlt := (List.getElem?_eq_some_iff.mp q).1
          rw [back_len, ← hlen] at hlt
          rw [List.getElem?_eq_getElem hlt]
          rw [List.getD_eq_getElem?_getD, List.getElem?_eq_getElem hlt] at e
          rw [show S.sl[i] = .val d from e.symm]
        obtain ⟨v, k1, k2⟩ := r.slot i _ hs
        exact ⟨v, k1, Dv.up l _ k2⟩
    · rw [back_out hi] at q
      have k := r'.slot i x (by rw [wipe_sl_out hi]; exact q)
      rw [wipe_out hi] at k
      cases x with
      | emp => trivial
      | val d => exact k
      | own xs =>
        obtain ⟨l, vs, k1, k2, k3, k4, k5, k6⟩ := k
        exact ⟨l, vs, k1, k2, k3, k4, fun w => k5 (.inl w), k6⟩
  · have h1 := nown q1
    have h2 := nown q2
    rw [back_out h1] at q1
    rw [back_out h2] at q2
    have := r'.apart i j xs ys n (by rw [wipe_sl_out h1]; exact q1) (by rw [wipe_sl_out h2]; exact q2)
    rw [wipe_out h1, wipe_out h2] at this
    exact this
  · exact r'.hobj n a o e1 (by rw [wipe_hp]; rw [back_hp] at e2; exact e2)
end

theorem bind_ok {α β : Type} {r : R α} {f : α → Sg → R β} {b : β} {s : Sg} (h : r.bind f = .ok b s) : ∃ a s1, r = .ok a s1 ∧ f a s1 = .ok b s := by
  cases r with
  | ok a s1 => exact ⟨a, s1, rfl, h⟩
  | err _ _ _ => cases h
  | bad => cases h

/-- what the body of a comprehension does at a turn -/
def StepOk (T : Tb) (body : Sg → R (Option D)) (tt : TT) (te : TE) : Prop := ∀ (Z : Addr → Prop) (g : Gh) (H : Hp) (σ : L2.St) (S : Sg) (o : Option D) (S' : Sg), Rep T Z g H σ S → body S = .ok o S' → ∀ (QY : VK) (QN : Hp → Prop),
  (∀ g' H', Rep T Z g' H' σ S' → g.le g' → Zp Z H H' → match o with | some d => ∀ v, Dv T g' v d → QY v H' | none => QN H') → tt σ H fun b H3 => if b = true then te σ H3 QY else QN H3
def stepOf (tg : Tg) (body : Sg → R (Option D)) : D → Sg → R (Option D) := fun d s => (asg tg d (Mi.wipe tg.slots s)).bind fun _ s => body s
theorem lc_go {T : Tb} {tg : Tg} {body : Sg → R (Option D)} {tt : TT} {te : TE} (hb : StepOk T body tt te) {Z : Addr → Prop} {g1 : Gh} {H1 : Hp} {σ : L2.St} {S1 s' : Sg} {ds xs : List D} {J : It} {Q : VK} (r1 : Rep T Z g1 H1 σ S1) (hno : noOwn tg.slots S1 = true)
    (hc : compL (stepOf tg body) ds S1 = .ok xs s') (hlim : xs.length ≤ lim) (hJ : ∀ gi Hi, g1.le gi → Fs gi Hi → Zp Z H1 Hi → ∀ i, (∀ d, ds[i]? = some d → J.go i Hi ∧ ∀ x H2, J.yld i Hi x H2 → Out T gi Hi x H2 d) ∧ (ds.length ≤ i → J.stop i Hi))
    (k2 : ∀ g' H', Rep T Z g' H' σ (back tg.slots S1 s') → g1.le g' → Zp Z H1 H' → ∀ v, Vl T true Z g' H' σ (back tg.slots S1 s') v (.lst xs) → Q v H') : ∀ D, H1 D = none → ∃ W : Nat → Nat → Hp → Prop, (∃ m, W 0 m (upd H1 D (.lst []))) ∧ ∀ i m H, W i m H →
  (J.stop i H ∧ Q (.ref D) H) ∨ (J.go i H ∧ ∃ Nx : Hp → Prop, (∀ H', Nx H' → ∃ m', m' < m ∧ W (i + 1) m' H') ∧ ∀ x H', J.yld i H x H' → tgt T tg x (L2.wipe σ tg.slots) H' fun σ2 H2 => L2.wipe σ2 tg.slots = L2.wipe σ tg.slots ∧ tt σ2 H2 fun b H3 =>
    if b = true then te σ2 H3 fun y H4 => ∃ acc, H4 D = some (.lst acc) ∧ acc.length < sizeLine ∧ Nx (upd H4 D (.lst (acc ++ [y]))) else Nx H3) := by
  intro D hD
  refine ⟨fun i m H => m + i = ds.length ∧ ∃ gi Si acc pre ri, Rep T (Zc Z D) gi H (L2.wipe σ tg.slots) (Mi.wipe tg.slots Si) ∧ g1.le gi ∧ Zp Z H1 H ∧ H D = some (.lst acc) ∧ DvL T gi acc pre ∧ compL (stepOf tg body) (ds.drop i) Si = .ok ri s' ∧ pre ++ ri = xs, ⟨ds.length, rfl, g1, S1, [], [], xs, (r1.wipe tg.slots).inC hD, .rfl, .grow r1 hD, upd_same, .nil, hc, rfl⟩, ?_⟩
  rintro i m H2 ⟨hm, gi, Si, acc, pre, ri, ri_, li, zi, hDi, hacc, hrun, hpre⟩
  have hJi := hJ gi H2 li ri_.fsub zi i
  by_cases hi : i < ds.length
  · refine .inr ?_
    have hd : ds[i]? = some ds[i] := List.getElem?_eq_getElem hi
    rw [List.drop_eq_getElem_cons hi] at hrun
    obtain ⟨o, S2, hf, hrun⟩ := bind_ok hrun
    obtain ⟨r', S3, hrest, hrun⟩ := bind_ok hrun
    obtain ⟨⟨⟩, Sa, hasg, hbody⟩ := bind_ok hf
    cases hrun
    obtain ⟨hgo, hy⟩ := hJi.1 _ hd
    refine ⟨hgo, fun H' => ∃ gi Si acc pre ri, Rep T (Zc Z D) gi H' (L2.wipe σ tg.slots) (Mi.wipe tg.slots Si) ∧ g1.le gi ∧ Zp Z H1 H' ∧ H' D = some (.lst acc) ∧ DvL T gi acc pre ∧ compL (stepOf tg body) (ds.drop (i + 1)) Si = .ok ri s' ∧ pre ++ ri = xs, fun H' n => ⟨m - 1, by omega, by omega, n⟩, fun x H3 hx => ?_⟩
    obtain ⟨g3, r3, l3, z3, v3⟩ := (hy x H3 hx).old' ri_
    refine ⟨_, g3, _, _, r3, v3, ?_⟩
    rw [hasg]
    intro g4 H4 σ4 r4 l4 z4 eg eH ew
    subst eg eH
    rw [wipe_wipe] at ew
    refine ⟨ew, hb _ _ _ _ _ _ _ r4 hbody _ _ fun g5 H5 r5 l5 z5 => ?_⟩
    have hD5 : H5 D = some (.lst acc) := by rw [z5 D (.inr rfl), z3 D (.inr rfl)]; exact hDi
    have zz : Zp Z H1 H5 := zi.trans fun b hb => (z5 b (.inl hb)).trans (z3 b (.inl hb))
    have r5' := r5.wipe tg.slots
    rw [ew] at r5'
    have l5' : g1.le g5 := li.trans (l3.trans l5)
    have hacc5 : DvL T g5 acc pre := DvL.up (l3.trans l5) _ hacc
    cases o with
    | none => exact ⟨g5, S2, acc, pre, r', r5', l5', zz, hD5, hacc5, hrest, hpre⟩
    | some d =>
      intro v hv
      have hlen : acc.length < lim := by
        have e1 := hacc5.length
        have e2 : (pre ++ (d :: r')).length = xs.length := by rw [hpre]
        simp only [List.length_append, List.length_cons] at e2
        omega
      refine ⟨acc, hD5, by rw [lim_eq]; exact hlen, g5, S2, acc ++ [v], pre ++ [d], r', r5'.poke, l5', zz.trans fun b hb => upd_ne fun w => ?_, upd_same, hacc5.app (.cons hv .nil), hrest, by rw [← hpre]; simp⟩
      subst w
      exact r1.newZ hD hb
  · have hie : i = ds.length := by omega
    subst hie
    refine .inl ⟨hJi.2 (Nat.le_refl _), ?_⟩
    rw [List.drop_length] at hrun
    cases hrun
    rw [List.append_nil] at hpre
    subst hpre
    have rf := Rep.unwipe r1 ri_ li hno
    have hp := ri_.prot D (.inr rfl)
    refine k2 gi H2 rf li zi _ ⟨D, acc, pre, rfl, rfl, hDi, hacc, hp.2.2, r1.newZ hD, hp.2.1, fun ⟨j, ys, q1, q2⟩ => ?_⟩
    obtain ⟨l, vs, w1, w2, w3, w4, w5, w6⟩ := rf.slot j _ q1
    rw [q2] at w1
    cases w1
    have hj : j ∉ tg.slots := fun hj => by
      have e := back_in hj _ q1
      unfold noOwn at hno
      rw [List.all_eq_true] at hno
      have := hno j hj
      rw [← e] at this
      cases this
    have q3 : (Mi.wipe tg.slots s').sl[j]? = some (.own ys) := by rw [wipe_sl_out hj, ← back_out hj]; exact q1
    obtain ⟨l2, vs2, u1, u2, u3, u4, u5, u6⟩ := ri_.slot j _ q3
    rw [wipe_out hj, q2] at u1
    cases u1
    exact u5 (.inr rfl)
theorem tLc_imp {T : Tb} {C : Cn} {src : M} {tg : Tg} {body : Sg → R (Option D)} {tt : TT} {te : TE} {mm : M} (hb : StepOk T body tt te)
    (he : ∀ S, ev C mm S = (evI C src S).bind fun ds s => if noOwn tg.slots s then (compL (stepOf tg body) ds s).bind fun xs s' => if xs.length ≤ lim then .ok (.lst xs) (back tg.slots s s') else .bad else .bad)
    {σ : L2.St} {H : Hp} {Q : VK} (h : tE T C true mm σ H Q) : tLc (tI T C src) (tgt T tg) tt te tg.slots σ H Q := by
  obtain ⟨Z, g, S, r, p⟩ := h
  rw [he] at p
  refine ⟨Z, g, S, r, p.bind.mono fun ds S1 g1 H1 r1 l1 z1 k1 J hJ => ?_⟩
  split at k1
  · rename_i hno
    cases hc : compL (stepOf tg body) ds S1 with
    | err _ _ _ => rw [hc] at k1; exact False.elim k1
    | bad => rw [hc] at k1; exact False.elim k1
    | ok xs s' =>
      rw [hc] at k1
      have k2 : Pst T Z g1 H1 σ (if xs.length ≤ lim then R.ok (Mi.D.lst xs) (back tg.slots S1 s') else .bad) _ := k1
      split at k2
      · rename_i hlim
        exact lc_go hb r1 hno hc hlim (fun gi Hi l f _ => hJ gi Hi l f) k2
      · exact False.elim k2
  · exact False.elim k1
/-- an own list hidden, so that nothing changes it -/
theorem Rep.hide {T : Tb} {Z : Addr → Prop} {g : Gh} {H : Hp} {σ : L2.St} {S : Sg} {i : Nat} {xs : List D} {l : Addr} (r : Rep T Z g H σ S) (e : S.sl[i]? = some (.own xs)) (e1 : σ[i]? = some (some (.ref l))) : Rep T (Zc Z l) g H σ (S.set i .emp) := by
  obtain ⟨l', vs, w1, w2, w3, w4, w5, w6⟩ := r.slot i _ e
  rw [e1] at w1
  cases w1
  have hi := (List.getElem?_eq_some_iff.mp e).1
  have out : ∀ {j : Nat} {x : Sl}, j ≠ i → (S.set i .emp).sl[j]? = some x → S.sl[j]? = some x := fun hj q => by
    simp only [Sg.set, List.getElem?_set_ne (Ne.symm hj)] at q; exact q
  have ino : ∀ {j : Nat} {ys : List D}, (S.set i .emp).sl[j]? = some (.own ys) → j ≠ i := fun q hj => by
    subst hj
    simp only [Sg.set, List.getElem?_set_self hi] at q
    cases q
  refine ⟨r.fsub, by simp [Sg.set, r.len], fun j x q => ?_, fun j k ys zs n q1 q2 => r.apart j k ys zs n (out (ino q1) q1) (out (ino q2) q2), r.hlen, r.hobj, r.hnd, fun b z => ?_⟩
  · cases x with
    | emp => trivial
    | val d =>
      have hj : j ≠ i := fun hj => by
        subst hj
        simp only [Sg.set, List.getElem?_set_self hi] at q
        cases q
      exact r.slot j _ (out hj q)
    | own ys =>
      have hj := ino q
      obtain ⟨l2, vs2, u1, u2, u3, u4, u5, u6⟩ := r.slot j _ (out hj q)
      refine ⟨l2, vs2, u1, u2, u3, u4, fun w => w.elim u5 fun w => ?_, u6⟩
      subst w
      exact r.apart i j xs ys (Ne.symm hj) e (out hj q) (by rw [e1, u1])
  · rcases z with z | z
    · exact r.prot b z
    · subst z; exact ⟨⟨_, w2⟩, w6, w4⟩
/-- .. and shown again -/
theorem Rep.unhide {T : Tb} {Z : Addr → Prop} {g : Gh} {H : Hp} {σ : L2.St} {S : Sg} {i : Nat} {xs : List D} {vs : List V} {l : Addr} (r : Rep T (Zc Z l) g H σ S) (e1 : σ[i]? = some (some (.ref l))) (hH : H l = some (.lst vs)) (hv : DvL T g vs xs) (hz : ¬ Z l) : Rep T Z g H σ (S.set i (.own xs)) := by
  have hp := r.prot l (.inr rfl)
  have out : ∀ {j : Nat} {x : Sl}, j ≠ i → (S.set i (.own xs)).sl[j]? = some x → S.sl[j]? = some x := fun hj q => by
    simp only [Sg.set, List.getElem?_set_ne (Ne.symm hj)] at q; exact q
  have far : ∀ {j : Nat} {ys : List D}, S.sl[j]? = some (.own ys) → σ[j]? ≠ some (some (.ref l)) := fun q w => by
    obtain ⟨l2, vs2, u1, u2, u3, u4, u5, u6⟩ := r.slot _ _ q
    rw [w] at u1
    cases u1
    exact u5 (.inr rfl)
  refine ⟨r.fsub, by simp [Sg.set, r.len], fun j x q => ?_, fun j k ys zs n q1 q2 => ?_, r.hlen, r.hobj, r.hnd, fun b z => r.prot b (.inl z)⟩
  · by_cases hj : j = i
    · subst hj
      have hi : j < S.sl.length := by
        have := (List.getElem?_eq_some_iff.mp q).1
        simpa [Sg.set] using this
      simp only [Sg.set, List.getElem?_set_self hi] at q
      cases q
      exact ⟨l, vs, e1, hH, hv, hp.2.2, hz, hp.2.1⟩
    · have k := r.slot j x (out hj q)
      cases x with
      | emp => trivial
      | val d => exact k
      | own ys =>
        obtain ⟨l2, vs2, u1, u2, u3, u4, u5, u6⟩ := k
        exact ⟨l2, vs2, u1, u2, u3, u4, fun w => u5 (.inl w), u6⟩
  · by_cases hj : j = i
    · subst hj
      rw [e1]
      exact fun w => far (out (Ne.symm n) q2) w.symm
    · by_cases hk : k = i
      · subst hk
        rw [e1]
        exact far (out hj q1)
      · exact r.apart j k ys zs n (out hj q1) (out hk q2)
theorem tLcO_imp {T : Tb} {C : Cn} {i : Nat} {tg : Tg} {body : Sg → R (Option D)} {tt : TT} {te : TE} {mm : M} (hb : StepOk T body tt te)
    (he : ∀ S, ev C mm S = match S.sl[i]? with
      | some (.own ds) => if noOwn tg.slots (S.set i .emp) && decide (i ∉ tg.slots) then (compL (stepOf tg body) ds (S.set i .emp)).bind fun xs s' => if xs.length ≤ lim then .ok (.lst xs) ((back tg.slots (S.set i .emp) s').set i (.own ds)) else .bad else .bad
      | _ => .bad)
    {K : PySem.W.Frag} (hK : K = T.K) {σ : L2.St} {H : Hp} {Q : VK} (h : tE T C true mm σ H Q) : tLc (iList K (tVar i)) (tgt T tg) tt te tg.slots σ H Q := by
  obtain ⟨Z, g, S, r, p⟩ := h
  rw [he] at p
  cases q : S.sl[i]? with
  | none => rw [q] at p; exact False.elim p
  | some x =>
    rw [q] at p
    cases x with
    | emp => exact False.elim p
    | val d => exact False.elim p
    | own ds =>
      obtain ⟨l, vs, w1, w2, w3, w4, w5, w6⟩ := r.slot i _ q
      have p1 : Pst T Z g H σ (if noOwn tg.slots (S.set i .emp) && decide (i ∉ tg.slots) then (compL (stepOf tg body) ds (S.set i .emp)).bind fun xs s' => if xs.length ≤ lim then R.ok (Mi.D.lst xs) ((back tg.slots (S.set i .emp) s').set i (.own ds)) else .bad else .bad) _ := p
      split at p1
      · rename_i hno
        rw [Bool.and_eq_true, decide_eq_true_eq] at hno
        cases hc : compL (stepOf tg body) ds (S.set i .emp) with
        | err _ _ _ => rw [hc] at p1; exact False.elim p1
        | bad => rw [hc] at p1; exact False.elim p1
        | ok xs s' =>
          rw [hc] at p1
          have k2 : Pst T Z g H σ (if xs.length ≤ lim then R.ok (Mi.D.lst xs) ((back tg.slots (S.set i .emp) s').set i (.own ds)) else .bad) _ := p1
          split at k2
          · rename_i hlim
            have rh := r.hide q w1
            refine ⟨.ref l, w1, l, rfl, ⟨vs, by rw [hK]; exact .inl (.inl w2)⟩, ?_⟩
            refine lc_go hb rh hno.1 hc hlim (fun gi Hi li fi zi j => ?_) fun g' H' r' l' z' v hv => ?_
            · have hq : SqL K Hi l vs := by rw [hK]; exact .inl (.inl (by rw [zi l (.inr rfl)]; exact w2))
              refine ⟨fun d hd => ?_, fun hl => ⟨vs, hq, by rw [w3.length]; exact hl⟩⟩
              obtain ⟨v, e1, e2⟩ := w3.get j d hd
              refine ⟨⟨vs, v, hq, e1⟩, fun x H2 ⟨e, k⟩ => ?_⟩
              subst e
              have := k vs hq
              rw [e1] at this
              cases this
              exact .old (e2.up li)
            · have hl' : H' l = some (.lst vs) := by rw [z' l (.inr rfl)]; exact w2
              have ru := r'.unhide w1 hl' (DvL.up l' _ w3) w5
              have zz : Zp Z H H' := fun b hb => z' b (.inl hb)
              refine k2 g' H' ru l' zz v ?_
              obtain ⟨l2, vs2, xs2, e1, e2, h1, h2, h3, h4, h5, h6⟩ := hv
              refine ⟨l2, vs2, xs2, e1, e2, h1, h2, h3, fun w => h4 (.inl w), h5, fun ⟨j, ys, q1, q2⟩ => ?_⟩
              by_cases hj : j = i
              · subst hj
                rw [w1] at q2
                cases q2
                exact h4 (.inr rfl)
              · refine h6 ⟨j, ys, ?_, q2⟩
                simp only [Sg.set, List.getElem?_set_ne (Ne.symm hj)] at q1
                exact q1
          · exact False.elim k2
      · exact False.elim p1

section
variable {T : Tb} {C : Cn} {X : Cx} {elt tgE iter c : Expr} {me mc src : M} {tg : Tg} {scope : Scope} {own : List (Str × Nat)} {pos : Pos}
theorem step_all : StepOk T (fun s => (ev C me s).bind fun x s => .ok (some x) s) tYes (tE T C false me) := by
  intro Z g H σ S o S' r h QY QN k
  obtain ⟨d, S1, e1, e2⟩ := bind_ok h
  cases e2
  show if true = true then tE T C false me σ H QY else QN H
  rw [if_pos rfl]
  refine ⟨Z, g, S, r, ?_⟩
  rw [e1]
  exact fun g' H' r' l' z' v hv => k g' H' r' l' z' v hv
theorem step_if : StepOk T (fun s => (tst (ev C mc s)).bind fun b s => if b then (ev C me s).bind fun x s => .ok (some x) s else .ok none s) (tT T C mc) (tE T C false me) := by
  intro Z g H σ S o S' r h QY QN k
  obtain ⟨b, S1, e1, e2⟩ := bind_ok h
  refine ⟨Z, g, S, r, ?_⟩
  rw [e1]
  intro g1 H1 r1 l1 z1
  cases b with
  | false =>
    cases e2
    exact k g1 H1 r1 l1 z1
  | true =>
    have e2' : ((ev C me S1).bind fun x s => R.ok (some x) s) = .ok o S' := e2
    obtain ⟨d, S2, e3, e4⟩ := bind_ok e2'
    cases e4
    rw [if_pos rfl]
    refine ⟨Z, g1, S1, r1, ?_⟩
    rw [e3]
    exact fun g' H' r' l' z' v hv => k g' H' r' (l1.trans l') (z1.trans z') v hv
theorem e_comp (hc : X.calm = true) (hN : X.N.Nodup) (hi : PI X tgE iter (tI T C src)) (ok : BlkOk X.N X.env.scope scope own) (ho : own.map (·.2) = tg.slots)
    (hg : ∀ (s : Shared) (H : Hp) (C' : Addr) (cl : List (Str × Addr)) (fp : List Addr), PG (X.blk s H scope (compEnvC scope cl C' X.env) fp) tgE (tgt T tg))
    (he : ∀ (s : Shared) (H : Hp) (C' : Addr) (cl : List (Str × Addr)) (fp : List Addr), PE (X.blk s H scope (compEnvC scope cl C' X.env) fp) elt (tE T C false me)) (hs : ∀ x, foldedSetIterable iter X.env x = pure x) :
    PE X (.ListComp elt [⟨tgE, iter, [], 0⟩] scope pos) (tE T C true (.comp me tg src .nil)) :=
  pe_imp (pe_lc hc hN hi ok hg (fun _ _ _ _ _ => pts_nil) he hs) fun σ H Q h => by rw [ho]; exact tLc_imp step_all (fun _ => rfl) h
theorem comp_eq (hm : mc ≠ .nil) (S : Sg) : ev C (.comp me tg src mc) S = (evI C src S).bind fun ds s => if noOwn tg.slots s then (compL (stepOf tg fun s => (tst (ev C mc s)).bind fun b s => if b then (ev C me s).bind fun x s => .ok (some x) s else .ok none s) ds s).bind fun xs s' => if xs.length ≤ lim then .ok (.lst xs) (back tg.slots s s') else .bad else .bad := by
  cases mc <;> first | rfl | exact absurd rfl hm
theorem e_compIf (hc : X.calm = true) (hN : X.N.Nodup) (hi : PI X tgE iter (tI T C src)) (ok : BlkOk X.N X.env.scope scope own) (ho : own.map (·.2) = tg.slots) (hm : mc ≠ .nil)
    (hg : ∀ (s : Shared) (H : Hp) (C' : Addr) (cl : List (Str × Addr)) (fp : List Addr), PG (X.blk s H scope (compEnvC scope cl C' X.env) fp) tgE (tgt T tg))
    (ht : ∀ (s : Shared) (H : Hp) (C' : Addr) (cl : List (Str × Addr)) (fp : List Addr), PT (X.blk s H scope (compEnvC scope cl C' X.env) fp) c (tT T C mc))
    (he : ∀ (s : Shared) (H : Hp) (C' : Addr) (cl : List (Str × Addr)) (fp : List Addr), PE (X.blk s H scope (compEnvC scope cl C' X.env) fp) elt (tE T C false me)) (hs : ∀ x, foldedSetIterable iter X.env x = pure x) :
    PE X (.ListComp elt [⟨tgE, iter, [c], 0⟩] scope pos) (tE T C true (.comp me tg src mc)) :=
  pe_imp (pe_lc hc hN hi ok hg (fun s H C' cl fp => pts_one (ht s H C' cl fp)) he hs) fun σ H Q h => by rw [ho]; exact tLc_imp step_if (comp_eq hm) h
theorem compO_all {i : Nat} (S : Sg) : ev C (.compO me tg i .nil) S = match S.sl[i]? with
      | some (.own ds) => if noOwn tg.slots (S.set i .emp) && decide (i ∉ tg.slots) then (compL (stepOf tg fun s => (ev C me s).bind fun x s => .ok (some x) s) ds (S.set i .emp)).bind fun xs s' => if xs.length ≤ lim then .ok (.lst xs) ((back tg.slots (S.set i .emp) s').set i (.own ds)) else .bad else .bad
      | _ => .bad := by
  rw [ev]
  cases S.sl[i]? with
  | none => rfl
  | some x => cases x <;> rfl
theorem e_compO {x : Str} {i : Nat} {p : Pos} (hK : X.K = T.K) (hc : X.calm = true) (hN : X.N.Nodup) (hx : X.N[i]? = some x) (hv : Vis X.env.scope x) (hd : (x == ("__debug__" : Str)) = false) (hcd : (x == ("__classdict__" : Str)) = false) (ok : BlkOk X.N X.env.scope scope own) (ho : own.map (·.2) = tg.slots)
    (hg : ∀ (s : Shared) (H : Hp) (C' : Addr) (cl : List (Str × Addr)) (fp : List Addr), PG (X.blk s H scope (compEnvC scope cl C' X.env) fp) tgE (tgt T tg))
    (he : ∀ (s : Shared) (H : Hp) (C' : Addr) (cl : List (Str × Addr)) (fp : List Addr), PE (X.blk s H scope (compEnvC scope cl C' X.env) fp) elt (tE T C false me)) :
    PE X (.ListComp elt [⟨tgE, .Name x p, [], 0⟩] scope pos) (tE T C true (.compO me tg i .nil)) :=
  pe_imp (pe_lc hc hN (pi_list (pe_var hx hv hd hcd)) ok hg (fun _ _ _ _ _ => pts_nil) he (fun _ => rfl)) fun σ H Q h => by rw [ho]; exact tLcO_imp step_all (compO_all (me := me) (tg := tg)) hK h
theorem compO_eq {i : Nat} (hm : mc ≠ .nil) (S : Sg) : ev C (.compO me tg i mc) S = match S.sl[i]? with
      | some (.own ds) => if noOwn tg.slots (S.set i .emp) && decide (i ∉ tg.slots) then (compL (stepOf tg fun s => (tst (ev C mc s)).bind fun b s => if b then (ev C me s).bind fun x s => .ok (some x) s else .ok none s) ds (S.set i .emp)).bind fun xs s' => if xs.length ≤ lim then .ok (.lst xs) ((back tg.slots (S.set i .emp) s').set i (.own ds)) else .bad else .bad
      | _ => .bad := by
  rw [ev]
  cases S.sl[i]? with
  | none => rfl
  | some x => cases x with
    | own ds => cases mc <;> first | rfl | exact absurd rfl hm
    | _ => rfl
theorem e_compOIf {x : Str} {i : Nat} {p : Pos} (hK : X.K = T.K) (hc : X.calm = true) (hN : X.N.Nodup) (hx : X.N[i]? = some x) (hv : Vis X.env.scope x) (hd : (x == ("__debug__" : Str)) = false) (hcd : (x == ("__classdict__" : Str)) = false) (ok : BlkOk X.N X.env.scope scope own) (ho : own.map (·.2) = tg.slots) (hm : mc ≠ .nil)
    (hg : ∀ (s : Shared) (H : Hp) (C' : Addr) (cl : List (Str × Addr)) (fp : List Addr), PG (X.blk s H scope (compEnvC scope cl C' X.env) fp) tgE (tgt T tg))
    (ht : ∀ (s : Shared) (H : Hp) (C' : Addr) (cl : List (Str × Addr)) (fp : List Addr), PT (X.blk s H scope (compEnvC scope cl C' X.env) fp) c (tT T C mc))
    (he : ∀ (s : Shared) (H : Hp) (C' : Addr) (cl : List (Str × Addr)) (fp : List Addr), PE (X.blk s H scope (compEnvC scope cl C' X.env) fp) elt (tE T C false me)) :
    PE X (.ListComp elt [⟨tgE, .Name x p, [c], 0⟩] scope pos) (tE T C true (.compO me tg i mc)) :=
  pe_imp (pe_lc hc hN (pi_list (pe_var hx hv hd hcd)) ok hg (fun s H C' cl fp => pts_one (ht s H C' cl fp)) he (fun _ => rfl)) fun σ H Q h => by rw [ho]; exact tLcO_imp step_if (compO_eq hm) hK h
end
end Mi

set_option autoImplicit false
/-! Mi8: statements. -/
namespace Mi
open PySem L2
open PyProof.Rows (Fr News)

def Kd (T : Tb) (E : Ends) : Fl → Sg → Gh → Hp → L2.St → Prop
  | .next, _, _, H', σ' => E.nx σ' H'
  | .brk, _, _, H', σ' => E.bk σ' H'
  | .cont, _, _, H', σ' => E.ct σ' H'
  | .ret d, _, g', H', _ => ∀ v, Dv T g' v d → E.rt v H'
def tS (T : Tb) (C : Cn) (st : S) : TS := fun E σ H => ∃ Z g s, Rep T Z g H σ s ∧ PsS T Z g H (ex C st s) (Kd T E)
section
variable {X : Cx} {st : Stmt} {sts : List Stmt}
theorem ps_imp {t t' : TS} (h : PS X st t) (i : ∀ E σ H, t' E σ H → t E σ H) : PS X st t' := ⟨fun p s σ H E I q => h.run p s σ H E I (i E σ H q)⟩
theorem pss_imp {t t' : TS} (h : PSs X sts t) (i : ∀ E σ H, t' E σ H → t E σ H) : PSs X sts t' := ⟨fun p s σ H E I q => h.run p s σ H E I (i E σ H q)⟩
end
section
variable {T : Tb} {C : Cn} {X : Cx} {e c iter tgE : Expr} {st : Stmt} {sts sts' : List Stmt} {m mc src : M} {a b : S} {pos : Pos} {tg : Tg}
theorem ss_nil : PSs X [] (tS T C .skip) := pss_imp pss_nil fun E σ H ⟨Z, g, s, r, p⟩ => PsS.ok (r := r) p
theorem ss_cons (h1 : PS X st (tS T C a)) (h2 : PSs X sts (tS T C b)) : PSs X (st :: sts) (tS T C (.seq a b)) := pss_imp (pss_cons h1 h2) fun E σ H ⟨Z, g, s, r, p⟩ => by
  refine ⟨Z, g, s, r, ?_⟩
  have p' : PsS T Z g H ((ex C a s).bind _) _ := p
  refine p'.bind.mono fun fl S1 g1 H1 σ1 r1 l1 z1 k => ?_
  cases fl with
  | next => exact ⟨Z, g1, S1, r1, k⟩
  | brk => exact PsS.ok (r := r1) k
  | cont => exact PsS.ok (r := r1) k
  | ret d => exact PsS.ok (r := r1) k
theorem ss_one (h1 : PS X st (tS T C a)) : PSs X [st] (tS T C a) := pss_one h1
theorem s_pass : PS X (.Pass pos) (tS T C .skip) := ps_imp ps_pass fun E σ H ⟨Z, g, s, r, p⟩ => PsS.ok (r := r) p
theorem s_break : PS X (.Break pos) (tS T C .brk) := ps_imp ps_break fun E σ H ⟨Z, g, s, r, p⟩ => PsS.ok (r := r) p
theorem s_cont : PS X (.Continue pos) (tS T C .cont) := ps_imp ps_continue fun E σ H ⟨Z, g, s, r, p⟩ => PsS.ok (r := r) p
theorem s_retN : PS X (.Return none pos) (tS T C (.ret (.const .non))) := ps_imp ps_retN fun E σ H ⟨Z, g, s, r, p⟩ => (PsS.ok (a := Fl.ret .non) (r := r) p) .non .non
theorem s_ret (he : PE X e (tE T C false m)) : PS X (.Return (some e) pos) (tS T C (.ret m)) := ps_imp (ps_ret he) fun E σ H ⟨Z, g, s, r, p⟩ => by
  have p' : PsS T Z g H ((ev C m s).bind _) _ := p
  exact ⟨Z, g, s, r, p'.bindE.mono fun d S1 g1 H1 r1 l1 z1 k v hv => (PsS.ok (r := r1) k) v hv⟩
theorem s_expr {fr : Bool} (he : PE X e (tE T C fr m)) (hs : swapsWith e none pos.line X.env = pure false) : PS X (.Expr e pos) (tS T C (.expr m)) := ps_imp (ps_expr he hs) fun E σ H ⟨Z, g, s, r, p⟩ => by
  have p' : PsS T Z g H ((ev C m s).bind _) _ := p
  exact ⟨Z, g, s, r, p'.bindE.mono fun d S1 g1 H1 r1 l1 z1 k v hv => PsS.ok (r := r1) k⟩
theorem s_if (hc : PT X c (tT T C mc)) (ha : PSs X sts (tS T C a)) (hb : PSs X sts' (tS T C b)) : PS X (.If c sts sts' pos) (tS T C (.ite mc a b)) := ps_imp (ps_if hc ha hb) fun E σ H ⟨Z, g, s, r, p⟩ => by
  have p' : PsS T Z g H ((tst (ev C mc s)).bind _) _ := p
  refine ⟨Z, g, s, r, p'.bindE.mono fun d S1 g1 H1 r1 l1 z1 k => ?_⟩
  cases d with
  | true => exact ⟨Z, g1, S1, r1, k⟩
  | false => exact ⟨Z, g1, S1, r1, k⟩
/-- target = value -/
theorem set_imp {te : TE} {E : Ends} {σ : L2.St} {H : Hp} (hte : ∀ Q, tE T C false m σ H Q → te σ H Q) (h : tS T C (.set tg m) E σ H) : tAsg te (tgt T tg) E σ H := by
  obtain ⟨Z, g, s, r, p⟩ := h
  have p' : PsS T Z g H ((ev C m s).bind fun d s => (asg tg d s).bind fun _ s => R.ok Fl.next s) _ := p
  refine hte _ ⟨Z, g, s, r, p'.bindE.mono fun d S1 g1 H1 r1 l1 z1 k v hv => ⟨Z, g1, S1, d, r1, hv, k.bind.mono fun _ S2 g2 H2 σ2 r2 l2 z2 k2 e1 e2 _ => ?_⟩⟩
  subst e1 e2
  exact PsS.ok (r := r2) k2
theorem s_set {te : TE} (hps : PS X st (tAsg te (tgt T tg))) (hte : ∀ σ H Q, tE T C false m σ H Q → te σ H Q) : PS X st (tS T C (.set tg m)) := ps_imp hps fun E σ H h => set_imp (hte σ H) h
/-- a new list into an own slot -/
theorem s_setOwn {i : Nat} {te : TE} (hps : PS X st (tAsg te (gName i))) (hte : ∀ σ H Q, tE T C true m σ H Q → te σ H Q) : PS X st (tS T C (.setOwn i m)) := ps_imp hps fun E σ H ⟨Z, g, s, r, p⟩ => by
  have p0 : PsS T Z g H (if m.fresh then (ev C m s).bind fun d s => (stOwn i d s).bind fun _ s => R.ok Fl.next s else R.bad) _ := p
  split at p0
  · refine hte σ H _ ⟨Z, g, s, r, p0.bindE.mono fun d S1 g1 H1 r1 l1 z1 k v hv => ?_⟩
    cases d with
    | lst xs =>
      have hv' : Fresh T Z g1 H1 σ S1 v (.lst xs) := hv
      exact PsS.ok (r := r1.setOwn i hv') k
    | _ => exact False.elim k
  · exact False.elim p0
/-- the run of a loop -/
theorem s_for {body : List Stmt} (hp : PassesOwn (model X.prog X.w) X.A X.env X.xe) (hc : X.calm = true) (hi : PI X tgE iter (tI T C src)) (hg : PG X tgE (tgt T tg)) (hb : PSs X body (tS T C b)) (hs : ∀ x, foldedSetIterable iter X.env x = pure x) :
    PS X (.For tgE iter body [] pos) (tS T C (.for_ tg src b)) := ps_imp (ps_for hp hc hi hg hb hs) fun E σ H ⟨Z, g, s, r, p⟩ => by
  have p' : PsS T Z g H ((evI C src s).bind fun ds s => forL (fun d s => (asg tg d s).bind fun _ s => ex C b s) ds s) _ := p
  refine ⟨Z, g, s, r, p'.bindE.mono fun ds S1 g1 H1 r1 l1 z1 k J hJ => ?_⟩
  cases hrun0 : forL (fun d s => (asg tg d s).bind fun _ s => ex C b s) ds S1 with
  | err _ _ _ => rw [hrun0] at k; exact False.elim k
  | bad => rw [hrun0] at k; exact False.elim k
  | ok fl s' =>
    rw [hrun0] at k
    refine ⟨fun i m σ H => m + i = ds.length ∧ ∃ gi Si, Rep T Z gi H σ Si ∧ g1.le gi ∧ Zp Z H1 H ∧ forL (fun d s => (asg tg d s).bind fun _ s => ex C b s) (ds.drop i) Si = .ok fl s', ⟨ds.length, rfl, g1, S1, r1, .rfl, .rfl, hrun0⟩, ?_⟩
    rintro i m σ2 H2 ⟨hm, gi, Si, ri, li, zi, hrun⟩
    have hJi := hJ gi H2 li ri.fsub i
    by_cases hi : i < ds.length
    · refine .inr ?_
      have hd : ds[i]? = some ds[i] := List.getElem?_eq_getElem hi
      rw [List.drop_eq_getElem_cons hi] at hrun
      obtain ⟨f2, S2, hf, hrest⟩ := bind_ok hrun
      obtain ⟨⟨⟩, Sa, hasg, hbody⟩ := bind_ok hf
      obtain ⟨hgo, hy⟩ := hJi.1 _ hd
      refine ⟨hgo, fun σ' H' => ∃ gi Si, Rep T Z gi H' σ' Si ∧ g1.le gi ∧ Zp Z H1 H' ∧ forL (fun d s => (asg tg d s).bind fun _ s => ex C b s) (ds.drop (i + 1)) Si = .ok fl s', fun σ' H' n => ⟨m - 1, by omega, by omega, n⟩, fun x H3 hx => ?_⟩
      obtain ⟨g3, r3, l3, z3, v3⟩ := (hy x H3 hx).old' ri
      refine ⟨Z, g3, Si, _, r3, v3, ?_⟩
      rw [hasg]
      intro g4 H4 σ4 r4 l4 z4 e1 e2 _
      subst e1 e2
      refine ⟨Z, _, Sa, r4, ?_⟩
      rw [hbody]
      intro g5 H5 σ5 r5 l5 z5
      have l' := li.trans (l3.trans l5)
      have z' := zi.trans (z3.trans z5)
      cases f2 with
      | next => exact ⟨g5, S2, r5, l', z', hrest⟩
      | cont => exact ⟨g5, S2, r5, l', z', hrest⟩
      | brk =>
        cases hrest
        exact k g5 H5 σ5 r5 l' z'
      | ret d =>
        cases hrest
        exact k g5 H5 σ5 r5 l' z'
    · have hie : i = ds.length := by omega
      subst hie
      rw [List.drop_length] at hrun
      cases hrun
      exact .inl ⟨hJi.2 (Nat.le_refl _), k gi H2 σ2 ri li zi⟩
theorem s_while {body : List Stmt} (hp : PassesOwn (model X.prog X.w) X.A X.env X.xe) (hc : PT X c (tT T C mc)) (hb : PSs X body (tS T C b)) : PS X (.While c body [] pos) (tS T C (.while_ mc b)) := ps_imp (ps_while hp hc hb) fun E σ H ⟨Z, g, s, r, p⟩ => by
  have p' : PsS T Z g H (whileL (fun s => tst (ev C mc s)) (fun s => ex C b s) C.W s) _ := p
  cases hrun0 : whileL (fun s => tst (ev C mc s)) (fun s => ex C b s) C.W s with
  | err _ _ _ => rw [hrun0] at p'; exact False.elim p'
  | bad => rw [hrun0] at p'; exact False.elim p'
  | ok fl s' =>
    rw [hrun0] at p'
    refine ⟨fun m σ H' => ∃ gi Si, Rep T Z gi H' σ Si ∧ g.le gi ∧ Zp Z H H' ∧ whileL (fun s => tst (ev C mc s)) (fun s => ex C b s) m Si = .ok fl s', ⟨C.W, g, s, r, .rfl, .rfl, hrun0⟩, ?_⟩
    rintro m σ2 H2 ⟨gi, Si, ri, li, zi, hrun⟩
    cases m with
    | zero => cases hrun
    | succ m =>
      obtain ⟨t, S1, ht, hrun⟩ := bind_ok hrun
      refine ⟨Z, gi, Si, ri, ?_⟩
      have ht' : tst (ev C mc Si) = .ok t S1 := ht
      rw [ht']
      intro g3 H3 r3 l3 z3
      cases t with
      | false =>
        cases hrun
        exact p' g3 H3 σ2 r3 (li.trans l3) (zi.trans z3)
      | true =>
        rw [if_pos rfl] at hrun ⊢
        obtain ⟨f2, S2, hbody, hrest⟩ := bind_ok hrun
        refine ⟨fun σ' H' => ∃ gi Si, Rep T Z gi H' σ' Si ∧ g.le gi ∧ Zp Z H H' ∧ whileL (fun s => tst (ev C mc s)) (fun s => ex C b s) m Si = .ok fl s', fun σ' H' n => ⟨m, Nat.lt_succ_self _, n⟩, Z, g3, S1, r3, ?_⟩
        have hbody' : ex C b S1 = .ok f2 S2 := hbody
        rw [hbody']
        intro g5 H5 σ5 r5 l5 z5
        have l' := li.trans (l3.trans l5)
        have z' := zi.trans (z3.trans z5)
        cases f2 with
        | next => exact ⟨g5, S2, r5, l', z', hrest⟩
        | cont => exact ⟨g5, S2, r5, l', z', hrest⟩
        | brk =>
          cases hrest
          exact p' g5 H5 σ5 r5 l' z'
        | ret d =>
          cases hrest
          exact p' g5 H5 σ5 r5 l' z'
end
end Mi

set_option autoImplicit false
/-! Mi9: calls. -/
namespace Mi
open PySem PySem.Spec L2
open PyProof.Rows (Fr News)

structure RmG (k : Nat) (A : Around) : Prop where
  r : Room k A
  g : A.guards = some []
theorem guards_deeper {A : Around} {env : Env} (h : A.guards = some []) : (A.deeper env).guards = some [] := h
theorem RmG.deeper {k : Nat} {A : Around} (r : RmG (k + 1) A) (env : Env) : RmG k (A.deeper env) := ⟨r.r.deeper env, r.g⟩
theorem RmG.deeper2 {k : Nat} {A : Around} (r : RmG (k + 1) A) (env : Env) : RmG k (A.deeper env).in1.in1 :=
  ⟨⟨r.r.hd, by have := r.r.dp; show A.depth + 1 + 3 * k + 5 < _; omega, by have := r.r.un; show A.units + 3 + 1 + 1 + 16 * k + 200 < _; omega⟩, r.g⟩
theorem RmG.mono {j k : Nat} {A : Around} (r : RmG k A) (h : j ≤ k) : RmG j A := ⟨r.r.mono h, r.g⟩

/-- a def as its calls see it: function n of the small language -/
def CalG (T : Tb) (P : Program) (w : World) (mg : Str → Option Value) (base : Heap) (Φ : Nat → List D → HP → Mi.CR) (k n : Nat) (f : Addr) (fd : FuncData) (ps : List Str) : Prop :=
  ∀ (A : Around) (outer : List Env) (s : Shared) (H : Hp) (args : Args) (us : List Value) (vs : List V) (Q : VK), RmG k A → Env0 P w T.K mg base A outer s H → BindsTo s fd args (ps.zip us) → Vals vs us → vs.length = ps.length →
    ∀ (Z : Addr → Prop) (g : Gh) (hp : HP) (ds : List D) (d : D) (hp' : HP), Rep T Z g H [] ⟨[], hp⟩ → DvL T g vs ds → Φ n ds hp = .ok d hp' →
      (∀ v g' H', Rep T Z g' H' [] ⟨[], hp'⟩ → g.le g' → Zp Z H H' → Dv T g' v d → Q v H') →
      codeAny (model P w) A (.call (.ref f) args) (L2.CR CX0 outer P w H s Q E0) s

section
variable {T : Tb} {Z : Addr → Prop} {g : Gh} {H : Hp} {σ : L2.St} {S : Sg}
/-- what a callee must leave as it is -/
def Zo (Z : Addr → Prop) (σ : L2.St) (S : Sg) : Addr → Prop := fun b => Z b ∨ OwnAt σ S b
theorem Rep.out (r : Rep T Z g H σ S) : Rep T (Zo Z σ S) g H [] ⟨[], S.hp⟩ := by
  refine ⟨r.fsub, rfl, fun i x e => (by cases e), fun i j xs ys n e => (by cases e), r.hlen, r.hobj, r.hnd, fun b z => ?_⟩
  rcases z with z | ⟨i, xs, e1, e2⟩
  · exact r.prot b z
  · obtain ⟨l, vs, k1, k2, k3, k4, k5, k6⟩ := r.slot i _ e1
    rw [e2] at k1
    cases k1
    exact ⟨⟨_, k2⟩, k6, k4⟩
theorem Rep.into {g' : Gh} {H' : Hp} {hp' : HP} (r : Rep T Z g H σ S) (r' : Rep T (Zo Z σ S) g' H' [] ⟨[], hp'⟩) (l : g.le g') (z : Zp (Zo Z σ S) H H') : Rep T Z g' H' σ ⟨S.sl, hp'⟩ := by
  refine ⟨r'.fsub, r.len, fun i x e => ?_, r.apart, r'.hlen, r'.hobj, r'.hnd, fun b w => r'.prot b (.inl w)⟩
  have k := r.slot i x e
  cases x with
  | emp => trivial
  | val d => obtain ⟨v, k1, k2⟩ := k; exact ⟨v, k1, Dv.up l _ k2⟩
  | own xs =>
    obtain ⟨a, vs, k1, k2, k3, k4, k5, k6⟩ := k
    have zo : Zo Z σ S a := .inr ⟨i, xs, e, k1⟩
    obtain ⟨_, p2, p3⟩ := r'.prot a zo
    exact ⟨a, vs, k1, (z a zo).trans k2, DvL.up l _ k3, p3, k5, p2⟩
end

/-- how the arguments bind: np by place, then the keywords ks -/
def BdP (K : PySem.W.Frag) (fd : FuncData) (ps : List Str) (np : Nat) (ks : List Str) (perm : List Nat) : Prop :=
  ∀ (s : Shared) (us ws ys : List Value), K.In s.heap → us.length = np → ws.length = ks.length → pick perm (us ++ ws) = some ys → BindsTo s fd ⟨us, ks.zip ws⟩ (ps.zip ys)
theorem pick_len {α : Type} : ∀ {perm : List Nat} {xs ys : List α}, pick perm xs = some ys → ys.length = perm.length
  | [], _, _, h => by cases h; rfl
  | i :: is, xs, ys, h => by
    simp only [pick] at h
    split at h
    · rename_i d r e1 e2
      cases h
      rw [List.length_cons, List.length_cons, pick_len e2]
    · cases h
theorem pick_dv {T : Tb} {g : Gh} {vs : List V} {ds : List D} (h : DvL T g vs ds) : ∀ {perm : List Nat} {es : List D}, pick perm ds = some es → ∃ ws, pick perm vs = some ws ∧ DvL T g ws es
  | [], es, e => by cases e; exact ⟨[], rfl, .nil⟩
  | i :: is, es, e => by
    simp only [pick] at e
    split at e
    · rename_i d r e1 e2
      cases e
      obtain ⟨v, h1, h2⟩ := h.get i d e1
      obtain ⟨ws, h3, h4⟩ := pick_dv h e2
      exact ⟨v :: ws, by simp only [pick, h1, h3], .cons h2 h4⟩
    · cases e
theorem pick_vals {vs : List V} {us : List Value} (h : Vals vs us) : ∀ {perm : List Nat} {es : List V}, pick perm vs = some es → ∃ ws, pick perm us = some ws ∧ Vals es ws
  | [], es, e => by cases e; exact ⟨[], rfl, .nil⟩
  | i :: is, es, e => by
    simp only [pick] at e
    split at e
    · rename_i d r e1 e2
      cases e
      obtain ⟨v, h1, h2⟩ := h.get e1
      obtain ⟨ws, h3, h4⟩ := pick_vals h e2
      exact ⟨v :: ws, by simp only [pick, h1, h3], .cons h2 h4⟩
    · cases e

section
variable {T : Tb} {C : Cn} {X : Cx} {e a b c : Expr} {es : List Expr} {m : M} {pos p : Pos} {x : Str} {k n : Nat} {f : Addr} {fd : FuncData} {ps : List Str}
/-- a known function is run at values -/
theorem run_cal (hK : X.K = T.K) (F : CalG T X.prog X.w X.mg X.base C.Φ k n f fd ps) (hr : RmG k X.A) {pins : List (Addr × Obj)} {σ : L2.St} {H : Hp} {s : Shared} {Q : VK} {us ys : List Value} {zs : List V} {ds : List D} {d : D} {kw : List (Str × Value)} {hp' : HP} {Z : Addr → Prop} {g : Gh} {S : Sg}
    (hb : BindsTo s fd ⟨us, kw⟩ (ps.zip ys)) (I : L2.Inv X pins σ H s) (r : Vals zs ys) (hl : zs.length = ps.length) (rep : Rep T Z g H σ S) (hv : DvL T g zs ds) (hphi : C.Φ n ds S.hp = .ok d hp')
    (hq : ∀ g' H', Rep T Z g' H' σ ⟨S.sl, hp'⟩ → g.le g' → Zp Z H H' → ∀ v, Dv T g' v d → Q v H') : wpAny (model X.prog X.w) X.A (call (.ref f) us kw) (EP X pins σ Q) X.xe s := by
  have e0 : Env0 X.prog X.w T.K X.mg X.base X.A X.stack s H := by rw [← hK]; exact I.env0
  refine wpAny_call (codeAny_mono (F X.A X.stack s H ⟨us, kw⟩ ys zs Q hr e0 hb r hl (Zo Z σ S) g S.hp ds d hp' rep.out hv hphi fun v g' H' r' l' z' v' => hq g' H' (rep.into r' l' z') l' (fun b w => z' b (.inl w)) v v') fun res s' hres => ?_)
  cases res with
  | error ex => exact False.elim hres
  | ok fl =>
    cases fl with
    | ret u => exact I.after hres
    | next => exact False.elim hres
    | brk => exact False.elim hres
    | cont => exact False.elim hres
theorem lift_ok {cr : Mi.CR} {s : Sg} {d : D} {s' : Sg} (h : cr.lift s = .ok d s') : ∃ hp', cr = .ok d hp' ∧ s' = { s with hp := hp' } := by
  cases cr with
  | ok d2 hp' => cases h; exact ⟨hp', rfl, rfl⟩
  | err _ _ _ => cases h
  | bad => cases h
theorem Pst.isOk {α : Type} {Z : Addr → Prop} {g : Gh} {H : Hp} {σ : L2.St} {r : R α} {K : α → Sg → Gh → Hp → Prop} (h : Pst T Z g H σ r K) : ∃ a s, r = .ok a s := by
  cases r with
  | ok a s => exact ⟨a, s, rfl⟩
  | err _ _ _ => exact False.elim h
  | bad => exact False.elim h
/-- the arguments have come -/
theorem tA_run {Z : Addr → Prop} {g : Gh} {H : Hp} {σ : L2.St} {S S1 : Sg} {ds : List D} (r : Rep T Z g H σ S) (hev : evs C m S = .ok ds S1) : tA T C m σ H fun vs H1 => ∃ g1, Rep T Z g1 H1 σ S1 ∧ g.le g1 ∧ Zp Z H H1 ∧ DvL T g1 vs ds :=
  ⟨Z, g, S, r, by rw [hev]; exact fun g1 H1 r1 l1 z1 vs hv => ⟨g1, r1, l1, z1, hv⟩⟩
theorem callk_ok {perm : List Nat} {S S' : Sg} {d : D} (h : ev C (.callk n perm m) S = .ok d S') : ∃ ds S1 es hp', evs C m S = .ok ds S1 ∧ pick perm ds = some es ∧ C.Φ n es S1.hp = .ok d hp' ∧ S' = ⟨S1.sl, hp'⟩ := by
  have h' : ((evs C m S).bind fun ds s => match pick perm ds with
    | some ds => (C.Φ n ds s.hp).lift s
    | none => .bad) = .ok d S' := h
  obtain ⟨ds, S1, h1, h2⟩ := bind_ok h'
  cases hp : pick perm ds with
  | none => rw [hp] at h2; cases h2
  | some es =>
    rw [hp] at h2
    obtain ⟨hp', h3, h4⟩ := lift_ok h2
    exact ⟨ds, S1, es, hp', h1, hp, h3, h4⟩
/-- f(e, ..) -/
theorem e_call (hK : X.K = T.K) (F : CalG T X.prog X.w X.mg X.base C.Φ k n f fd ps) (hr : RmG k X.A) (hg : Gl X x) (hm : X.mg x = some (.ref f)) (hk : PySem.W.keepIn T.K (.ref f) = true) {perm : List Nat} (hperm : perm.length = ps.length) (hb : BdP T.K fd ps (e :: es).length [] perm)
    (ha : PA X (e :: es) (tA T C m)) (hdb : (x == ("__debug__" : Str)) = false) (he : starEach (e :: es) X.env = (false, eval e X.env) :: starEach es X.env) (hpl : (backTo pos (starEach es X.env)).any (·.1) = false) (hlen : ∀ S ds S', evs C m S = .ok ds S' → ds.length = (e :: es).length) :
    PE X (.Call (.Name x p) (e :: es) [] pos) (tE T C false (.callk n perm m)) := by
  refine ⟨fun pins s σ H Q I ⟨Z, g, S, r, q⟩ => ?_⟩
  refine wpAny_Call_Name_kw (ld_glob I hg hm ?_ hdb)
  obtain ⟨d, S', hq⟩ := q.isOk
  rw [hq] at q
  obtain ⟨ds, S1, ds', hp', hev, hpick, hphi, rfl⟩ := callk_ok hq
  refine PySem.W.callWith_K (h₀ := X.base) I.ok.mod.kin (by rw [hK]; exact hk) (thn (ha.run pos pins s σ H _ I (tA_run r hev)) fun us s1 ⟨vs, H1, I1, rv, g1, r1, l1, z1, hv⟩ => ⟨I1.kIn, ?_⟩) he hpl
  obtain ⟨zs, hz1, hz2⟩ := pick_dv hv hpick
  obtain ⟨ys, hy1, hy2⟩ := pick_vals rv hz1
  have hl : us.length = (e :: es).length := by rw [← rv.length, hv.length, hlen S ds S1 hev]
  have hB := hb s1 us [] ys (by rw [← hK]; exact I1.kIn) hl rfl (by rw [List.append_nil]; exact hy1)
  exact run_cal hK F hr hB I1 hy2 (by rw [pick_len hz1, hperm]) r1 hz2 hphi fun g' H' r' l' z' v v' => q g' H' r' (l1.trans l') (z1.trans z') v v'
/-- f() -/
theorem e_call0 (hK : X.K = T.K) (F : CalG T X.prog X.w X.mg X.base C.Φ k n f fd ps) (hr : RmG k X.A) (hg : Gl X x) (hm : X.mg x = some (.ref f)) (hk : PySem.W.keepIn T.K (.ref f) = true) (hps : ps = []) (hb : BdP T.K fd ps 0 [] [])
    (hdb : (x == ("__debug__" : Str)) = false) : PE X (.Call (.Name x p) [] [] pos) (tE T C false (.callk n [] .nil)) := by
  refine ⟨fun pins s σ H Q I ⟨Z, g, S, r, q⟩ => ?_⟩
  refine wpAny_Call_Name_kw (ld_glob I hg hm ?_ hdb)
  obtain ⟨d, S', hq⟩ := q.isOk
  rw [hq] at q
  obtain ⟨ds, S1, ds', hp', hev, hpick, hphi, rfl⟩ := callk_ok hq
  cases hpick
  have hev' : R.ok ([] : List D) S = .ok ds S1 := hev
  cases hev'
  have hB := hb s [] [] [] (by rw [← hK]; exact I.kIn) rfl rfl rfl
  refine PySem.W.callWith_K0 I.kIn (by rw [hK]; exact hk) ?_
  exact run_cal hK F hr hB I .nil (by rw [hps]; rfl) r .nil hphi fun g' H' r' l' z' v v' => q g' H' r' l' z' v v'
/-- two argument lists, one behind the other -/
def M.app : M → M → M
  | .nil, r => r
  | .cons a q, r => .cons a (M.app q r)
  | m, _ => m
def M.isL : M → Bool
  | .nil => true
  | .cons _ r => r.isL
  | _ => false
theorem bind_assoc {α β γ : Type} (r : R α) (f : α → Sg → R β) (h : β → Sg → R γ) : (r.bind f).bind h = r.bind fun a s => (f a s).bind h := by cases r <;> rfl
theorem evs_app {C : Cn} {m2 : M} : ∀ {m1 : M}, m1.isL = true → ∀ S, evs C (m1.app m2) S = (evs C m1 S).bind fun ds s => (evs C m2 s).bind fun es s => .ok (ds ++ es) s
  | .nil, _, S => by
    show evs C m2 S = (R.ok [] S).bind _
    show _ = (evs C m2 S).bind fun es s => R.ok ([] ++ es) s
    cases evs C m2 S <;> rfl
  | .cons a r, h, S => by
    show ((ev C a S).bind fun d s => (evs C (r.app m2) s).bind fun ds s => R.ok (d :: ds) s) = ((ev C a S).bind fun d s => (evs C r s).bind fun ds s => R.ok (d :: ds) s).bind _
    rw [bind_assoc]
    congr 1
    funext d s
    rw [evs_app (m1 := r) h, bind_assoc, bind_assoc]
    congr 1
    funext ds s
    rw [bind_assoc]
    rfl
theorem k_nil : PK X [] (tA T C .nil) := ⟨fun pos pins s σ H Q I ⟨Z, g, S, r, p⟩ => pk_nil.run pos pins s σ H Q I (p.ok r [] .nil)⟩
theorem k_cons {kws : List Keyword} {nm : Option Str} {kpos : Pos} {mr : M} (he : PE X e (tE T C false m)) (hr : PK X kws (tA T C mr)) : PK X (⟨nm, e, kpos⟩ :: kws) (tA T C (.cons m mr)) :=
  ⟨fun pos pins s σ H Q I ⟨Z, g, S, r, p⟩ => (pk_cons he hr).run pos pins s σ H Q I (by
    have p' : Pst T Z g H σ ((ev C m S).bind fun d s => (evs C mr s).bind fun ds s => .ok (d :: ds) s) _ := p
    exact ⟨Z, g, S, r, p'.bind.mono fun d S1 g1 H1 r1 l1 z1 k1 v hv => ⟨Z, g1, S1, r1, k1.bind.mono fun ds S2 g2 H2 r2 l2 z2 k2 vs hvs => k2.ok r2 _ (.cons (Dv.up l2 _ hv) hvs)⟩⟩)⟩
/-- f(e, .., k = v, ..) -/
theorem e_callK {m2 : M} {kws : List Keyword} {ks : List Str} (hK : X.K = T.K) (F : CalG T X.prog X.w X.mg X.base C.Φ k n f fd ps) (hr : RmG k X.A) (hg : Gl X x) (hm : X.mg x = some (.ref f)) (hk : PySem.W.keepIn T.K (.ref f) = true) {perm : List Nat} (hperm : perm.length = ps.length) (hb : BdP T.K fd ps (e :: es).length ks perm)
    (hL : m.isL = true) (ha : PA X (e :: es) (tA T C m)) (hkw : PK X kws (tA T C m2)) (hdb : (x == ("__debug__" : Str)) = false) (he : starEach (e :: es) X.env = (false, eval e X.env) :: starEach es X.env)
    (hall : (backToKw pos (keywordEach kws X.env)).all (·.1.isSome) = true) (hks : (backToKw pos (keywordEach kws X.env)).filterMap (·.1) = ks)
    (hpl : ((backTo pos (starEach (e :: es) X.env)).any (·.1) || (backToKw pos (keywordEach kws X.env)).any (·.1.isNone)) = false) (hlen : ∀ S ds S', evs C m S = .ok ds S' → ds.length = (e :: es).length) (hlen2 : ∀ S ds S', evs C m2 S = .ok ds S' → ds.length = ks.length) :
    PE X (.Call (.Name x p) (e :: es) kws pos) (tE T C false (.callk n perm (m.app m2))) := by
  refine ⟨fun pins s σ H Q I ⟨Z, g, S, r, q⟩ => ?_⟩
  refine wpAny_Call_Name_kw (ld_glob I hg hm ?_ hdb)
  obtain ⟨d, S', hq⟩ := q.isOk
  rw [hq] at q
  obtain ⟨ds, S1, ds', hp', hev, hpick, hphi, rfl⟩ := callk_ok hq
  rw [evs_app hL] at hev
  obtain ⟨da, Sa, hea, hev⟩ := bind_ok hev
  obtain ⟨db, Sb, heb, hev⟩ := bind_ok hev
  cases hev
  refine PySem.W.callWith_KW (h₀ := X.base) I.ok.mod.kin (by rw [hK]; exact hk) hall (thn (ha.run pos pins s σ H _ I (tA_run r hea)) fun us s1 ⟨vs, H1, I1, rv, g1, r1, l1, z1, hv⟩ => ?_) hpl he
  refine thn (hkw.run pos pins s1 σ H1 _ I1 (tA_run r1 heb)) fun ws s2 ⟨vs2, H2, I2, rv2, g2, r2, l2, z2, hv2⟩ => ⟨I2.kIn, ?_⟩
  rw [hks]
  have hva := (DvL.up l2 _ hv).app hv2
  obtain ⟨zs, hz1, hz2⟩ := pick_dv hva hpick
  obtain ⟨ys, hy1, hy2⟩ := pick_vals (rv.append rv2) hz1
  have hl : us.length = (e :: es).length := by rw [← rv.length, hv.length, hlen S da Sa hea]
  have hl2 : ws.length = ks.length := by rw [← rv2.length, hv2.length, hlen2 Sa db S1 heb]
  have hB := hb s2 us ws ys (by rw [← hK]; exact I2.kIn) hl hl2 hy1
  exact run_cal hK F hr hB I2 hy2 (by rw [pick_len hz1, hperm]) r2 hz2 hphi fun g' H' r' l' z' v v' => q g' H' r' ((l1.trans l2).trans l') ((z1.trans z2).trans z') v v'
/-- f(k = v, ..) -/
theorem e_callK0 {m2 : M} {kws : List Keyword} {ks : List Str} (hK : X.K = T.K) (F : CalG T X.prog X.w X.mg X.base C.Φ k n f fd ps) (hr : RmG k X.A) (hg : Gl X x) (hm : X.mg x = some (.ref f)) (hk : PySem.W.keepIn T.K (.ref f) = true) {perm : List Nat} (hperm : perm.length = ps.length) (hb : BdP T.K fd ps 0 ks perm)
    (hkw : PK X kws (tA T C m2)) (hdb : (x == ("__debug__" : Str)) = false)
    (hall : (backToKw pos (keywordEach kws X.env)).all (·.1.isSome) = true) (hks : (backToKw pos (keywordEach kws X.env)).filterMap (·.1) = ks)
    (hpl : ((backTo pos (starEach [] X.env)).any (·.1) || (backToKw pos (keywordEach kws X.env)).any (·.1.isNone)) = false) (hlen2 : ∀ S ds S', evs C m2 S = .ok ds S' → ds.length = ks.length) :
    PE X (.Call (.Name x p) [] kws pos) (tE T C false (.callk n perm m2)) := by
  refine ⟨fun pins s σ H Q I ⟨Z, g, S, r, q⟩ => ?_⟩
  refine wpAny_Call_Name_kw (ld_glob I hg hm ?_ hdb)
  obtain ⟨d, S', hq⟩ := q.isOk
  rw [hq] at q
  obtain ⟨ds, S1, ds', hp', hev, hpick, hphi, rfl⟩ := callk_ok hq
  refine PySem.W.callWith_KW0 (h₀ := X.base) I.ok.mod.kin (by rw [hK]; exact hk) hall (thn (hkw.run pos pins s σ H _ I (tA_run r hev)) fun ws s2 ⟨vs2, H2, I2, rv2, g2, r2, l2, z2, hv2⟩ => ⟨I2.kIn, ?_⟩) hpl
  rw [hks]
  obtain ⟨zs, hz1, hz2⟩ := pick_dv hv2 hpick
  obtain ⟨ys, hy1, hy2⟩ := pick_vals rv2 hz1
  have hl2 : ws.length = ks.length := by rw [← rv2.length, hv2.length, hlen2 S ds S1 hev]
  have hB := hb s2 [] ws ys (by rw [← hK]; exact I2.kIn) rfl hl2 hy1
  exact run_cal hK F hr hB I2 hy2 (by rw [pick_len hz1, hperm]) r2 hz2 hphi fun g' H' r' l' z' v v' => q g' H' r' (l2.trans l') (z2.trans z') v v'
end

/-! ### a def's body -/
section
variable {T : Tb} {P : Program} {w : World} {mg : Str → Option Value} {base : Heap} {Φ : Nat → List D → HP → Mi.CR}
theorem rep_start {Z : Addr → Prop} {g : Gh} {H : Hp} {hp : HP} {vs : List V} {ds : List D} {N : List Str} (r : Rep T Z g H [] ⟨[], hp⟩) (hv : DvL T g vs ds) (hl : vs.length ≤ N.length) : Rep T Z g H (L2.start N vs) (initS N.length ds hp) := by
  have e := hv.length
  refine ⟨r.fsub, ?_, fun i x q => ?_, fun i j xs ys n q => ?_, r.hlen, r.hobj, r.hnd, r.prot⟩
  · unfold L2.start initS
    simp [e]
  · unfold initS at q
    by_cases hi : i < ds.length
    · have q' : (ds.map Sl.val)[i]? = some x := by
        rw [← q]
        exact (List.getElem?_append_left (by simpa using hi)).symm
      rw [List.getElem?_map] at q'
      cases hd : ds[i]? with
      | none => rw [hd] at q'; cases q'
      | some d =>
        rw [hd] at q'
        cases q'
        obtain ⟨v, h1, h2⟩ := hv.get i d hd
        refine ⟨v, ?_, h2⟩
        unfold L2.start
        rw [List.getElem?_append_left (by simp; omega), List.getElem?_map, h1]
        rfl
    · have q' : (List.replicate (N.length - ds.length) Sl.emp)[i - ds.length]? = some x := by
        rw [← q]
        show _ = (ds.map Sl.val ++ List.replicate (N.length - ds.length) Sl.emp)[i]?
        rw [List.getElem?_append_right (by simpa using hi), List.length_map]
      rw [List.getElem?_replicate] at q'
      split at q'
      · cases q'; trivial
      · cases q'
  · exfalso
    unfold initS at q
    have hm := List.mem_of_getElem? q
    rcases List.mem_append.mp hm with h | h
    · obtain ⟨d, _, h⟩ := List.mem_map.mp h
      cases h
    · have := (List.mem_replicate.mp h).2
      cases this
/-- THE RULE: a def by its body -/
theorem cal_of {k n : Nat} {f : Addr} {fd : FuncData} {x qual : Str} {params : Arguments} {txt : List Stmt} {scope : Scope} {dvs : List V} {kws : List (Str × V)} {N ps : List Str} {gl : List D} {W : Nat} {body : S} {Φ' : Nat → List D → HP → Mi.CR} (F : FunD T.K x qual params txt scope dvs kws f fd) (Sc : FnScope N ps scope)
    (hbody : ∀ X : Cx, X.prog = P → X.w = w → X.K = T.K → X.mg = mg → X.base = base → X.N = N → X.calm = true → (X.env.scope = scope) → RmG k X.A ∧ RmG k X.A.in1.in1 → (∀ y, X.fn y = true) → PassesOwn (model X.prog X.w) X.A X.env X.xe → PSs X txt (tS T ⟨Φ, gl, W⟩ body))
    (hΦ : ∀ ds hp, Φ' n ds hp = run1 Φ gl W ⟨ps.length, N.length, body⟩ ds hp) : CalG T P w mg base Φ' (k + 1) n f fd ps := by
  intro A outer s H args us vs Q hr e0 hb r hl Z g hp ds d hp' rep hv hphi hq
  obtain ⟨oc, od, dV, kV, doc, pm, an, cdv, ct, osl, rfl, lk, hcd, _, _⟩ := F.ex
  rw [hΦ] at hphi
  have KX : T.K.In s.heap := e0.mod.kin.keeps fun b o e => (e0.bs b o e).1
  have lm : s.heap.NoLimit := e0.mod.nolimit.keeps fun b o e => (e0.bs b o e).1
  have kinds : ∀ y ∈ ps.zip us, scope.names.lookup y.1 = some .local ∨ (scope.names.lookup y.1 = some .cell ∧ ((cellsFrom (s.heap.objs.size + 1) scope.names []).lookup y.1).isSome = true) := by
    rintro ⟨nm, vv⟩ hy
    rcases Sc.par nm (List.of_mem_zip hy).1 with q | q
    · exact .inl q
    · exact .inr ⟨q, PySem.W.cellsFrom_some _ _ _ (.inl q)⟩
  refine codeAny_call_function hr.r.depth (KX _ _ lk) rfl Sc.co Sc.gen rfl (PySem.W.codeRec_of KX hcd) (hb _ _ _ _ ?_)
  refine wpAny_newFunctionEnv_cells Sc.kind kinds fun env he s1 hx => ?_
  subst he
  refine ⟨lm.keeps hx.toInCall.keep, codeAny_func ?_⟩
  have I : L2.Inv (cxOf CX0 P w T.K mg base N qual scope f cdv A outer s H E0) [] (L2.start N vs) H s1 := inv_start Sc hr.r.hd e0 hl r hx
  have hps : ps.length ≤ N.length := by have := congrArg List.length Sc.pre; rw [List.length_take] at this; omega
  have B := hbody (cxOf CX0 P w T.K mg base N qual scope f cdv A outer s H E0).nox rfl rfl rfl rfl rfl rfl rfl rfl ⟨hr.deeper _, hr.deeper2 _⟩ (fun _ => rfl) PassesOwn.never
  have hds : ds.length = ps.length := by rw [← hv.length, hl]
  have run : tS T ⟨Φ, gl, W⟩ body { nx := fun _ H' => Q .non H', rt := Q } (L2.start N vs) H := by
    refine ⟨Z, g, initS N.length ds hp, rep_start rep hv (by omega), ?_⟩
    unfold run1 at hphi
    rw [if_pos hds] at hphi
    have hphi' : fin (ex ⟨Φ, gl, W⟩ body (initS N.length ds hp)) = .ok d hp' := hphi
    cases hex : ex ⟨Φ, gl, W⟩ body (initS N.length ds hp) with
    | err _ _ _ => rw [hex] at hphi'; cases hphi'
    | bad => rw [hex] at hphi'; cases hphi'
    | ok fl S' =>
      rw [hex] at hphi'
      intro g' H' σ' r' l' z'
      have nil' : Rep T Z g' H' [] ⟨[], S'.hp⟩ := ⟨r'.fsub, rfl, fun i x e => (by cases e), fun i j xs ys n e => (by cases e), r'.hlen, r'.hobj, r'.hnd, r'.prot⟩
      cases fl with
      | next => cases hphi'; exact hq .non g' H' nil' l' z' .non
      | ret d2 => cases hphi'; exact fun v hv' => hq v g' H' nil' l' z' hv'
      | brk => cases hphi'
      | cont => cases hphi'
  refine wpAny_mono (B.nox.run [] s1 (L2.start N vs) H _ I run) (fun fl s' hs => ?_) fun e s' hs => hs
  have done : ∀ {σ' : L2.St} {H' : Hp} {v : V} {u : Value}, L2.Inv (cxOf CX0 P w T.K mg base N qual scope f cdv A outer s H E0) [] σ' H' s' → RelV v u → Q v H' → L2.CE outer P w H s Q u s' := fun {σ' H' v u} J rv qv =>
    ⟨v, H', J.os, J.bare, J.base, J.hok, rv, qv⟩
  cases fl with
  | next =>
    obtain ⟨σ', H', J, qv⟩ := hs
    exact done (v := V.non) (u := Value.none) J rfl qv
  | ret u =>
    obtain ⟨v, σ', H', J, rv, qv⟩ := hs
    exact done J rv qv
  | brk => obtain ⟨_, _, _, qv⟩ := hs; exact False.elim qv
  | cont => obtain ⟨_, _, _, qv⟩ := hs; exact False.elim qv
end
end Mi

set_option autoImplicit false
/-! Mi10: lists changed in place, stores, dicts of texts. -/
namespace Mi
open PySem PySem.Spec L2
open PyProof.Rows (Fr News)

section
variable {T : Tb} {C : Cn} {X : Cx} {e o a b : Expr} {es : List Expr} {m ma mb : M} {pos apos cpos p : Pos} {x : Str} {i : Nat}

/-- where a name's list stands -/
theorem own_at {Z : Addr → Prop} {g : Gh} {H : Hp} {σ : L2.St} {S : Sg} {xs : List D} (r : Rep T Z g H σ S) (e : S.sl[i]? = some (.own xs)) : ∃ l vs, σ[i]? = some (some (.ref l)) ∧ H l = some (.lst vs) ∧ DvL T g vs xs := by
  obtain ⟨l, vs, k1, k2, k3, _⟩ := r.slot i _ e
  exact ⟨l, vs, k1, k2, k3⟩
/-- what a method that changes the list asks and gives -/
def rMu (T : Tb) (f : List D → List D → Option (D × List D)) : V → List V → Hp → VK → Prop := fun x vs H Q => ∃ g l ws xs ds d ys, x = .ref l ∧ Fs g H ∧ H l = some (.lst ws) ∧ DvL T g ws xs ∧ DvL T g vs ds ∧ f xs ds = some (d, ys) ∧
  ∀ v zs, Dv T g v d → DvL T g zs ys → Q v (upd H l (.lst zs))
theorem e_mut0 {mm : Mm} {id : String} {name : Str} (slot : Slot "list" name id) (hty : typeOf (.builtin id) = pure (.type "method_descriptor")) (hm : MtR X id (rMu T (mmD mm))) (ho : PE X o (tVar i))
    (hbase : attributeBase o name X.env (eval o X.env) = eval o X.env) (hline : (apos.endLine == cpos.line) = true) : PE X (.Call (.Attribute o name apos) [] [] cpos) (tE T C false (.mut mm i .nil)) := by
  refine pe_imp (pe_bm0 PySem.F.plainAttrs_list slot hty hm ho hbase hline) fun σ H Q ⟨Z, g, S, r, p⟩ => ?_
  have p1 : Pst T Z g H σ (match S.sl[i]? with
    | some (.own _) => match S.sl[i]? with
      | some (.own xs) => match mmD mm xs [] with
        | some (d, ys) => R.ok d (S.set i (.own ys))
        | none => .bad
      | _ => .bad
    | _ => .bad) _ := p
  cases q : S.sl[i]? with
  | none => rw [q] at p1; exact False.elim p1
  | some s =>
    rw [q] at p1
    cases s with
    | emp => exact False.elim p1
    | val d => exact False.elim p1
    | own xs =>
      obtain ⟨l, vs, h1, h2, h3⟩ := own_at r q
      refine ⟨_, h1, .inl ⟨rfl, vs, .inl (.inl h2)⟩, ?_⟩
      cases hf : mmD mm xs [] with
      | none => simp only [hf] at p1; exact False.elim p1
      | some dy =>
        obtain ⟨d, ys⟩ := dy
        simp only [hf] at p1
        exact ⟨g, l, vs, xs, [], d, ys, rfl, r.fsub, h2, h3, .nil, hf, fun v zs hv hz => p1 g _ (r.mutOwn q h1 hz) .rfl (.mutOwn r q h1) v hv⟩
theorem e_mut {mm : Mm} {id : String} {name : Str} (slot : Slot "list" name id) (hty : typeOf (.builtin id) = pure (.type "method_descriptor")) (hm : MtR X id (rMu T (mmD mm))) (ho : PE X o (tVar i)) (ha : PA X (e :: es) (tA T C m))
    (hbase : attributeBase o name X.env (eval o X.env) = eval o X.env)
    (hfew : ((backTo cpos (starEach (e :: es) X.env)).all (fun x => !x.1) && (backToKw cpos (keywordEach [] X.env)).all (fun x => x.1.isSome)
      && decide ((e :: es).length + ([] : List Keyword).length + (if ([] : List Keyword).isEmpty then 0 else 1) < 30)) = true)
    (hline : (apos.endLine == cpos.line) = true) (hs : starEach (e :: es) X.env = (false, eval e X.env) :: starEach es X.env) (hpl : (backTo cpos (starEach es X.env)).any (·.1) = false) : PE X (.Call (.Attribute o name apos) (e :: es) [] cpos) (tE T C false (.mut mm i m)) := by
  refine pe_imp (pe_bm PySem.F.plainAttrs_list slot hty hm ho ha hbase hfew hline hs hpl) fun σ H Q ⟨Z, g, S, r, p⟩ => ?_
  have p1 : Pst T Z g H σ (match S.sl[i]? with
    | some (.own _) => (evs C m S).bind fun ds s => match s.sl[i]? with
      | some (.own xs) => match mmD mm xs ds with
        | some (d, ys) => R.ok d (s.set i (.own ys))
        | none => .bad
      | _ => .bad
    | _ => .bad) _ := p
  cases q : S.sl[i]? with
  | none => rw [q] at p1; exact False.elim p1
  | some s =>
    rw [q] at p1
    cases s with
    | emp => exact False.elim p1
    | val d => exact False.elim p1
    | own xs0 =>
      obtain ⟨l, vs, h1, h2, h3⟩ := own_at r q
      refine ⟨_, h1, .inl ⟨rfl, vs, .inl (.inl h2)⟩, Z, g, S, r, ?_⟩
      have p2 : Pst T Z g H σ ((evs C m S).bind _) _ := p1
      refine p2.bind.mono fun ds S1 g1 H1 r1 l1 z1 k1 us hus => ?_
      cases q1 : S1.sl[i]? with
      | none => rw [q1] at k1; exact False.elim k1
      | some s1 =>
        rw [q1] at k1
        cases s1 with
        | emp => exact False.elim k1
        | val d => exact False.elim k1
        | own xs =>
          obtain ⟨l', ws, w1, w2, w3⟩ := own_at r1 q1
          rw [h1] at w1
          cases w1
          cases hf : mmD mm xs ds with
          | none => simp only [hf] at k1; exact False.elim k1
          | some dy =>
            obtain ⟨d, ys⟩ := dy
            simp only [hf] at k1
            exact ⟨g1, l, ws, xs, ds, d, ys, rfl, r1.fsub, w2, w3, hus, hf, fun v zs hv hz => k1 g1 _ (r1.mutOwn q1 h1 hz) .rfl (.mutOwn r1 q1 h1) v hv⟩
theorem dv1 {g : Gh} {vs : List V} {d : D} (h : DvL T g vs [d]) : ∃ v, vs = [v] ∧ Dv T g v d := by
  cases h with | cons a b => cases b; exact ⟨_, rfl, a⟩
theorem m_append : MtR X "list.append" (rMu T (mmD .append)) := by
  rintro pins s σ H x xs v us Q I rx rv ⟨g, l, ws, ys, ds, d, zs, rfl, fs, hl, hw, hv, hf, q⟩
  match ds, hf with
  | [e], hf =>
    obtain ⟨u, rfl, hu⟩ := dv1 hv
    simp only [mmD] at hf
    split at hf
    · rename_i hlt
      cases hf
      exact mt_append pins s σ H _ _ v us Q I rx rv ⟨l, ws, u, rfl, rfl, hl, by rw [lim_eq, hw.length]; exact hlt, q _ _ .non (hw.app (.cons hu .nil))⟩
    · cases hf
theorem DvL.dropLast {g : Gh} {vs : List V} {ds : List D} (h : DvL T g vs ds) : DvL T g vs.dropLast ds.dropLast := by
  rw [List.dropLast_eq_take, List.dropLast_eq_take, h.length]
  exact h.take _
theorem m_pop : MtR X "list.pop" (rMu T (mmD .pop)) := by
  rintro pins s σ H x xs v us Q I rx rv ⟨g, l, ws, ys, ds, d, zs, rfl, fs, hl, hw, hv, hf, q⟩
  match ds, hf with
  | [], hf =>
    cases hv
    simp only [mmD] at hf
    split at hf
    · rename_i d' hd
      cases hf
      obtain ⟨u, h1, h2⟩ := hw.get _ _ hd
      exact mt_pop pins s σ H _ _ v us Q I rx rv ⟨l, ws, u, rfl, rfl, hl, by rw [hw.length]; exact h1, q _ _ h2 hw.dropLast⟩
    · cases hf
theorem m_popAt : MtR X "list.pop" (rMu T (mmD .popAt)) := by
  rintro pins s σ H x xs v us Q I rx rv ⟨g, l, ws, ys, ds, d, zs, rfl, fs, hl, hw, hv, hf, q⟩
  match ds, hf with
  | [.int i], hf =>
    obtain ⟨u, rfl, hu⟩ := dv1 hv
    cases hu
    simp only [mmD] at hf
    split at hf
    · rename_i hb
      have hb : -(2 ^ 63) ≤ i ∧ i < 2 ^ 63 := by
        rw [decide_eq_true_eq] at hb
        omega
      split at hf
      · rename_i k hk
        split at hf
        · rename_i d' hd
          cases hf
          obtain ⟨u, h1, h2⟩ := hw.get _ _ hd
          exact mt_popAt pins s σ H _ _ v us Q I rx rv ⟨l, ws, i, k, u, rfl, rfl, hl, hb.1, hb.2, by rw [hw.length]; exact (ixN_seq hk).1, h1, q _ _ h2 (hw.erase k)⟩
        · cases hf
      · cases hf
    · cases hf
theorem m_extend : MtR X "list.extend" (rMu T (mmD .extend)) := by
  rintro pins s σ H x xs v us Q I rx rv ⟨g, l, ws, ys, ds, d, zs, rfl, fs, hl, hw, hv, hf, q⟩
  match ds, hf with
  | [.lst ts], hf =>
    obtain ⟨u, rfl, hu⟩ := dv1 hv
    cases hu with
    | @lst b bs _ hb hbs =>
      simp only [mmD] at hf
      split at hf
      · rename_i hlt
        cases hf
        exact mt_extend pins s σ H _ _ v us Q I rx rv ⟨l, b, ws, bs, rfl, rfl, hl, fs _ _ hb, by rw [lim_eq, hw.length, hbs.length]; exact hlt, q _ _ .non (hw.app hbs)⟩
      · cases hf

/-! ### xs[k] = e -/
theorem s_setIdx {ix : Expr} {mk : M} {pos' : Pos} (ho : PE X o (tVar i)) (hi : PE X ix (tE T C false mk)) (he : PE X e (tE T C false m))
    (ha : ∀ v, assign (.Subscript o ix pos') X.env v = (do
      let ov ← holding [v] (eval o X.env)
      let iv ← holding [v, ov] (eval ix X.env)
      standAt pos'
      holding [v, ov, iv] (setItem ov iv v)
      release [v, ov, iv] []))
    (hs : swapsWithSole [.Subscript o ix pos'] e pos.line X.env = pure false) (hw : swappedStores [.Subscript o ix pos'] e X.env = pure none) (h1 : (assignEach [.Subscript o ix pos'] X.env).map (·.2) = [assign (.Subscript o ix pos') X.env]) :
    PS X (.Assign [.Subscript o ix pos'] e pos) (tS T C (.setIdx i mk m)) := by
  refine ps_imp (ps_asg he (pg_sub ho hi set_list ha) hs hw h1) fun E σ H ⟨Z, g, s, r, p⟩ => ?_
  have p' : PsS T Z g H ((ev C m s).bind fun d s => match s.sl[i]? with
    | some (.own _) => (ev C mk s).bind fun e s => match s.sl[i]?, e with
      | some (.own xs), .int z => match L2.ixN xs.length z with
        | some j => R.ok Fl.next (s.set i (.own (xs.set j d)))
        | none => .bad
      | _, _ => .bad
    | _ => .bad) _ := p
  refine ⟨Z, g, s, r, p'.bindE.mono fun d S1 g1 H1 r1 l1 z1 k0 v hv => ?_⟩
  cases q0 : S1.sl[i]? with
  | none => rw [q0] at k0; exact False.elim k0
  | some s0 => ?_
  rw [q0] at k0
  cases s0 with
  | emp => exact False.elim k0
  | val d => exact False.elim k0
  | own xs0 => ?_
  obtain ⟨l, _, hl, _, _⟩ := own_at r1 q0
  have k1 : PsS T Z g1 H1 ((ev C mk S1).bind _) _ := k0
  refine ⟨_, hl, Z, g1, S1, r1, k1.bindE.mono fun e2 S2 g2 H2 r2 l2 z2 k2 w hw => ?_⟩
  cases q : S2.sl[i]? with
  | none => rw [q] at k2; exact False.elim k2
  | some sl =>
    rw [q] at k2
    cases sl with
    | emp => exact False.elim k2
    | val d => exact False.elim k2
    | own xs =>
      cases e2 with
      | int z =>
        have hw' : Dv T g2 w (.int z) := hw
        cases hw'
        obtain ⟨l', vs, w1, w2, w3⟩ := own_at r2 q
        rw [hl] at w1
        cases w1
        cases hj : ixN xs.length z with
        | none => simp only [hj] at k2; exact False.elim k2
        | some j =>
          simp only [hj] at k2
          have hk : ixN vs.length z = some j := by rw [w3.length]; exact hj
          exact ⟨l, vs, z, j, rfl, rfl, w2, hk, k2 g2 _ σ (r2.mutOwn q hl (w3.set j (Dv.up l2 _ hv))) .rfl (.mutOwn r2 q hl)⟩
      | _ => exact False.elim k2
end
end Mi

set_option autoImplicit false
/-! Mi11: objects (dicts of texts, lists that are shared), two stores at once. -/
namespace Mi
open PySem PySem.Spec L2
open PyProof.Rows (Fr News)

section
variable {T : Tb} {Z : Addr → Prop} {g : Gh} {H : Hp} {σ : L2.St} {S : Sg}
theorem Rep.hset (r : Rep T Z g H σ S) {n : Nat} {a : Addr} {o : HO} {ob : HObj} (hn : g.ρ[n]? = some a) (ho : ObOk T g (upd H a o) a ob) : Rep T Z g (upd H a o) σ { S with hp := S.hp.set n ob } := by
  obtain ⟨o0, h0⟩ := r.rin hn
  obtain ⟨_, hF⟩ := r.hobj n a o0 hn h0
  have hm : a ∈ g.ρ := List.mem_of_getElem? hn
  refine ⟨fun b u e => ?_, r.len, fun i x e => ?_, r.apart, by simpa using r.hlen, fun m b u e1 e2 => ?_, r.hnd, fun b z => ?_⟩
  · have : b ≠ a := fun w => by rw [w, hF] at e; cases e
    rw [upd_ne this]; exact r.fsub b u e
  · have k := r.slot i x e
    cases x with
    | emp => trivial
    | val d => exact k
    | own xs =>
      obtain ⟨l, vs, k1, k2, k3, k4, k5, k6⟩ := k
      have : l ≠ a := fun w => k6 (by rw [w]; exact hm)
      exact ⟨l, vs, k1, by rw [upd_ne this]; exact k2, k3, k4, k5, k6⟩
  · by_cases hmn : n = m
    · subst hmn
      rw [hn] at e1
      cases e1
      have hlt := (List.getElem?_eq_some_iff.mp h0).1
      have e2' : (S.hp.set n ob)[n]? = some u := e2
      rw [List.getElem?_set_self hlt] at e2'
      cases e2'
      exact ⟨ho, hF⟩
    · have e2' : (S.hp.set n ob)[m]? = some u := e2
      rw [List.getElem?_set_ne hmn] at e2'
      obtain ⟨k1, k2⟩ := r.hobj m b u e1 e2'
      have : b ≠ a := fun w => hmn (r.hnd n m a hn (by rw [← w]; exact e1))
      exact ⟨k1.up .rfl (upd_ne this), k2⟩
  · obtain ⟨⟨u, k1⟩, k2⟩ := r.prot b z
    have : b ≠ a := fun w => k2.1 (by rw [w]; exact hm)
    exact ⟨⟨u, by rw [upd_ne this]; exact k1⟩, k2⟩
theorem Zp.hset (r : Rep T Z g H σ S) {n : Nat} {a : Addr} {o : HO} (hn : g.ρ[n]? = some a) : Zp Z H (upd H a o) := fun b z => by
  obtain ⟨_, k2⟩ := r.prot b z
  exact upd_ne fun w => k2.1 (by rw [w]; exact List.mem_of_getElem? hn)
/-- one object more -/
theorem Rep.hnew {q : Addr} (r : Rep T (Zc Z q) g H σ S) (hz : ¬ Z q) {o : HO} {ob : HObj} (ho : ∀ g' : Gh, g.le g' → ObOk T g' (upd H q o) q ob) :
    Rep T Z ⟨g.F, g.ρ ++ [q]⟩ (upd H q o) σ { S with hp := S.hp ++ [ob] } ∧ g.le ⟨g.F, g.ρ ++ [q]⟩ := by
  have r' := r.poke (o := o)
  obtain ⟨_, hρ, hF⟩ := r.prot q (.inr rfl)
  have le : g.le ⟨g.F, g.ρ ++ [q]⟩ := ⟨fun _ _ e => e, fun n a e => by
    show (g.ρ ++ [q])[n]? = some a
    rw [List.getElem?_append_left (List.getElem?_eq_some_iff.mp e).1]; exact e⟩
  refine ⟨⟨r'.fsub, r'.len, fun i x e => ?_, r'.apart, by simp [r'.hlen], fun m b u e1 e2 => ?_, fun n m a e1 e2 => ?_, fun b z => ?_⟩, le⟩
  · have k := r'.slot i x e
    cases x with
    | emp => trivial
    | val d => obtain ⟨v, k1, k2⟩ := k; exact ⟨v, k1, Dv.up le _ k2⟩
    | own xs =>
      obtain ⟨l, vs, k1, k2, k3, k4, k5, k6⟩ := k
      refine ⟨l, vs, k1, k2, DvL.up le _ k3, k4, fun w => k5 (.inl w), fun w => ?_⟩
      rcases List.mem_append.mp w with w | w
      · exact k6 w
      · exact k5 (.inr (by simpa using w))
  · have e1' : (g.ρ ++ [q])[m]? = some b := e1
    have e2' : (S.hp ++ [ob])[m]? = some u := e2
    by_cases hm : m < g.ρ.length
    · rw [List.getElem?_append_left hm] at e1'
      rw [List.getElem?_append_left (by rw [← r.hlen]; exact hm)] at e2'
      obtain ⟨k1, k2⟩ := r'.hobj m b u e1' e2'
      exact ⟨k1.up le rfl, k2⟩
    · rw [List.getElem?_append_right (by omega)] at e1'
      rw [List.getElem?_append_right (by rw [← r.hlen]; omega)] at e2'
      have h0 : m - g.ρ.length = 0 := by
        have := (List.getElem?_eq_some_iff.mp e1').1
        simp at this
        omega
      rw [← r.hlen] at e2'
      rw [h0] at e1' e2'
      cases e1'
      cases e2'
      exact ⟨ho _ le, hF⟩
  · have e1' : (g.ρ ++ [q])[n]? = some a := e1
    have e2' : (g.ρ ++ [q])[m]? = some a := e2
    have key : ∀ {k : Nat}, (g.ρ ++ [q])[k]? = some a → (g.ρ[k]? = some a) ∨ (k = g.ρ.length ∧ a = q) := fun {k} e => by
      by_cases hk : k < g.ρ.length
      · rw [List.getElem?_append_left hk] at e; exact .inl e
      · rw [List.getElem?_append_right (by omega)] at e
        have := (List.getElem?_eq_some_iff.mp e).1
        simp at this
        have h0 : k - g.ρ.length = 0 := by omega
        rw [h0] at e
        cases e
        exact .inr ⟨by omega, rfl⟩
    rcases key e1' with w1 | ⟨w1, w1'⟩ <;> rcases key e2' with w2 | ⟨w2, w2'⟩
    · exact r.hnd n m a w1 w2
    · exact absurd (List.mem_of_getElem? w1) (by rw [w2']; exact hρ)
    · exact absurd (List.mem_of_getElem? w2) (by rw [w1']; exact hρ)
    · omega
  · obtain ⟨k1, k2, k3⟩ := r'.prot b (.inl z)
    refine ⟨k1, fun w => ?_, k3⟩
    rcases List.mem_append.mp w with w | w
    · exact k2 w
    · have : b = q := by simpa using w
      exact hz (by rw [← this]; exact z)
theorem kv_get {vs : List (Key × V)} : ∀ {kvs : List (Str × D)} {vs : List (Key × V)} {k : Str} {d : D}, KvOk T g vs kvs → kvs.lookup k = some d → ∃ v, valV vs (.inr k) = some v ∧ Dv T g v d
  | [], vs, k, d, _, e => by cases e
  | q :: qs, [], k, d, h, _ => False.elim h
  | (k', d') :: qs, p :: ps, k, d, ⟨h1, h2, h3⟩, e => by
    rw [List.lookup_cons] at e
    by_cases hk : k = k'
    · subst hk
      simp at e
      subst e
      exact ⟨p.2, valV_pos h1, h2⟩
    · have hb : (k == k') = false := by simpa using hk
      rw [hb] at e
      obtain ⟨v, e1, e2⟩ := kv_get (vs := vs) h3 e
      refine ⟨v, ?_, e2⟩
      have hne : ¬ (p.1 = Sum.inr k) := fun w => hk (by rw [h1] at w; cases w; rfl)
      unfold valV at e1 ⊢
      rw [List.find?_cons]
      simp [hne]
      simpa using e1
theorem kv_len : ∀ {kvs : List (Str × D)} {vs : List (Key × V)}, KvOk T g vs kvs → vs.length = kvs.length
  | [], [], _ => rfl
  | [], _ :: _, h => False.elim h
  | _ :: _, [], h => False.elim h
  | _ :: _, _ :: _, ⟨_, _, h⟩ => by rw [List.length_cons, List.length_cons, kv_len h]
theorem kv_any {k : Str} : ∀ {kvs : List (Str × D)} {vs : List (Key × V)}, KvOk T g vs kvs → (kvs.lookup k).isSome = true → (vs.any fun kv => decide (kv.1 = (Sum.inr k : Key))) = true
  | [], _, _, e => by cases e
  | q :: qs, [], h, _ => False.elim h
  | (k', d') :: qs, p :: ps, ⟨h1, h2, h3⟩, e => by
    rw [List.any_cons]
    by_cases hk : k = k'
    · subst hk; simp [h1]
    · rw [List.lookup_cons] at e
      have hb : (k == k') = false := by simpa using hk
      rw [hb] at e
      rw [kv_any h3 e, Bool.or_true]
theorem kv_map {k : Str} {v : V} {d : D} (hv : Dv T g v d) : ∀ {kvs : List (Str × D)} {vs : List (Key × V)}, KvOk T g vs kvs → KvOk T g (vs.map fun kv => if kv.1 = (Sum.inr k : Key) then (kv.1, v) else kv) (kvs.map fun p => if p.1 = k then (p.1, d) else p)
  | [], [], _ => True.intro
  | [], _ :: _, h => False.elim h
  | _ :: _, [], h => False.elim h
  | (k', d') :: qs, (a, b) :: ps, ⟨h1, h2, h3⟩ => by
    have h1' : a = .inr k' := h1
    subst h1'
    refine ⟨?_, ?_, kv_map hv h3⟩
    · by_cases hk : k' = k
      · subst hk; simp
      · have : ¬ ((Sum.inr k' : Key) = .inr k) := fun w => hk (by cases w; rfl)
        simp [hk]
    · by_cases hk : k' = k
      · subst hk; simp; exact hv
      · simp [hk]; exact h2
end

section
variable {T : Tb} {C : Cn} {X : Cx} {e o a b : Expr} {es : List Expr} {m ma mb mo : M} {pos apos cpos p : Pos} {x : Str} {i j : Nat} {k : Str} {kn : Nat} {kpos : Pos}
/-- d["k"] -/
theorem e_oget (hu : X.A.units + 1 < cLine) (ho : PE X o (tE T C false mo)) : PE X (.Subscript o (.Constant (.str k) kn kpos) pos) (tE T C false (.oget mo k)) :=
  pe_imp (pe_dget hu ho pe_str (fun _ _ => rfl)) fun σ H Q ⟨Z, g, S, r, p⟩ => by
    have p' : Pst T Z g H σ ((ev C mo S).bind _) _ := p
    refine ⟨Z, g, S, r, p'.bind.mono fun d S1 g1 H1 r1 l1 z1 k1 v hv => ?_⟩
    cases d with
    | obj n =>
      have hv' : Dv T g1 v (.obj n) := hv
      cases hv' with
      | @obj a _ hn =>
        cases hh : S1.hp[n]? with
        | none => simp only [hh] at k1; exact False.elim k1
        | some ob =>
          cases ob with
          | dict kvs =>
            simp only [hh] at k1
            obtain ⟨d', e1, k2⟩ := k1.ofO r1
            obtain ⟨⟨vs, q1, q2⟩, _⟩ := r1.hobj n a _ hn hh
            obtain ⟨v', e2, e3⟩ := kv_get (vs := vs) q2 e1
            refine ⟨a, v', rfl, ?_, k2 g1 H1 r1 .rfl .rfl v' e3⟩
            rw [← e2]
            exact DGet.k (k := .inr k) q1
          | _ => simp only [hh] at k1; exact False.elim k1
    | _ => exact False.elim k1
/-- d["k"] = e -/
theorem s_oset {pos' : Pos} (hu : X.A.units + 1 < cLine) (ho : PE X o (tE T C false mo)) (he : PE X e (tE T C false m)) (hs : swapsWith e (some (.Subscript o (.Constant (.str k) kn kpos) pos')) pos.line X.env = pure false) :
    PS X (.Assign [.Subscript o (.Constant (.str k) kn kpos) pos'] e pos) (tS T C (.oset mo k m)) := by
  refine ps_imp (ps_dput hu ho pe_str he hs) fun E σ H ⟨Z, g, s, r, p⟩ => ?_
  have p' : PsS T Z g H ((ev C m s).bind fun d s => (ev C mo s).bind fun e s => match e with
    | .obj n => match s.hp[n]? with
      | some (.dict kvs) => if (kvs.lookup k).isSome && decide (kvs.length < lim) then R.ok Fl.next { s with hp := s.hp.set n (.dict (kvs.map fun p => if p.1 = k then (p.1, d) else p)) } else .bad
      | _ => .bad
    | _ => .bad) _ := p
  refine ⟨Z, g, s, r, p'.bindE.mono fun d S1 g1 H1 r1 l1 z1 k1 v hv => ⟨Z, g1, S1, r1, k1.bindE.mono fun d2 S2 g2 H2 r2 l2 z2 k2 w hw => ?_⟩⟩
  cases d2 with
  | obj n =>
    have hw' : Dv T g2 w (.obj n) := hw
    cases hw' with
    | @obj a _ hn =>
      cases hh : S2.hp[n]? with
      | none => simp only [hh] at k2; exact False.elim k2
      | some ob =>
        cases ob with
        | dict kvs =>
          simp only [hh] at k2
          split at k2
          · rename_i hc
            rw [Bool.and_eq_true, decide_eq_true_eq] at hc
            obtain ⟨⟨vs, q1, q2⟩, _⟩ := r2.hobj n a _ hn hh
            have hv2 := Dv.up l2 _ hv
            have hput : putK vs (.inr k) v = vs.map fun kv => if kv.1 = (Sum.inr k : Key) then (kv.1, v) else kv := if_pos (kv_any q2 hc.1)
            refine ⟨a, upd H2 a (.dK (putK vs (.inr k) v)), rfl, .inl ⟨vs, .inr k, q1, rfl, by rw [lim_eq, kv_len q2]; exact hc.2, rfl⟩, ?_⟩
            refine k2 g2 _ σ (r2.hset hn ⟨_, upd_same, ?_⟩) .rfl (.hset r2 hn)
            rw [hput]
            exact kv_map hv2 q2
          · exact False.elim k2
        | _ => simp only [hh] at k2; exact False.elim k2
  | _ => exact False.elim k2
/-- {"k": e, ..} -/
def prs (T : Tb) (C : Cn) : List Str → M → List (TE × TE)
  | k :: ks, .cons a r => (tC (.str k), tE T C false a) :: prs T C ks r
  | _, _ => []
theorem pps_cons' {keys : List (Option Expr)} {values : List Expr} {ks : List Str} (he : PE X e (tE T C false ma)) (h : PPs X pos keys values (prs T C ks m)) : PPs X pos (some (.Constant (.str k) kn kpos) :: keys) (e :: values) (prs T C (k :: ks) (.cons ma m)) := pps_cons pe_str he h
theorem prs_run {Z : Addr → Prop} {σ : L2.St} : ∀ {ks : List Str} {m : M} {g : Gh} {H : Hp} {S S' : Sg} {ds : List D} {Q : List (V × V) → Hp → Prop}, Rep T Z g H σ S → evs C m S = .ok ds S' → ks.length = ds.length →
    (∀ g' H' vs, Rep T Z g' H' σ S' → g.le g' → Zp Z H H' → DvL T g' vs ds → Q (ks.zipWith (fun k v => (V.str k, v)) vs) H') → tPairs (prs T C ks m) σ H Q
  | [], .nil, g, H, S, S', ds, Q, r, e, hl, q => by
    cases e
    exact q g H [] r .rfl .rfl .nil
  | k :: ks, .cons a m, g, H, S, S', ds, Q, r, e, hl, q => by
    have e' : ((ev C a S).bind fun d s => (evs C m s).bind fun ds s => R.ok (d :: ds) s) = .ok ds S' := e
    obtain ⟨d, S1, e1, e2⟩ := bind_ok e'
    obtain ⟨ds', S2, e3, e4⟩ := bind_ok e2
    cases e4
    refine ⟨Z, g, S, r, ?_⟩
    rw [e1]
    intro g1 H1 r1 l1 z1 v hv
    refine prs_run r1 e3 (by simpa using hl) fun g' H' vs r' l' z' hvs => ?_
    exact q g' H' (v :: vs) r' (l1.trans l') (z1.trans z') (.cons (Dv.up l' _ hv) hvs)
  | [], .cons a m, g, H, S, S', ds, Q, r, e, hl, q => by
    have e' : ((ev C a S).bind fun d s => (evs C m s).bind fun ds s => R.ok (d :: ds) s) = .ok ds S' := e
    obtain ⟨d, S1, e1, e2⟩ := bind_ok e'
    obtain ⟨ds', S2, e3, e4⟩ := bind_ok e2
    cases e4
    simp at hl
  | k :: ks, .nil, g, H, S, S', ds, Q, r, e, hl, q => by cases e; simp at hl
  | _, .const _, _, _, _, _, _, _, _, e, _, _ => by cases e
  | _, .glob _, _, _, _, _, _, _, _, e, _, _ => by cases e
  | _, .fnv _, _, _, _, _, _, _, _, e, _, _ => by cases e
  | _, .var _, _, _, _, _, _, _, _, e, _, _ => by cases e
  | _, .peek _, _, _, _, _, _, _, _, e, _, _ => by cases e
  | _, .tup _, _, _, _, _, _, _, _, e, _, _ => by cases e
  | _, .lst _, _, _, _, _, _, _, _, e, _, _ => by cases e
  | _, .edct, _, _, _, _, _, _, _, e, _, _ => by cases e
  | _, .op2 _ _ _, _, _, _, _, _, _, _, e, _, _ => by cases e
  | _, .op1 _ _, _, _, _, _, _, _, _, e, _, _ => by cases e
  | _, .chain _ _ _ _ _, _, _, _, _, _, _, _, e, _, _ => by cases e
  | _, .andv _ _, _, _, _, _, _, _, _, e, _, _ => by cases e
  | _, .orv _ _, _, _, _, _, _, _, _, e, _, _ => by cases e
  | _, .notv _, _, _, _, _, _, _, _, e, _, _ => by cases e
  | _, .ifx _ _ _, _, _, _, _, _, _, _, e, _, _ => by cases e
  | _, .sub _ _, _, _, _, _, _, _, _, e, _, _ => by cases e
  | _, .slc _ _ _, _, _, _, _, _, _, _, e, _, _ => by cases e
  | _, .rev _, _, _, _, _, _, _, _, e, _, _ => by cases e
  | _, .comp _ _ _ _, _, _, _, _, _, _, _, e, _, _ => by cases e
  | _, .sSeq _, _, _, _, _, _, _, _, e, _, _ => by cases e
  | _, .sRng _, _, _, _, _, _, _, _, e, _, _ => by cases e
  | _, .sRng2 _ _, _, _, _, _, _, _, _, e, _, _ => by cases e
  | _, .sEnum _, _, _, _, _, _, _, _, e, _, _ => by cases e
  | _, .sZip _ _, _, _, _, _, _, _, _, e, _, _ => by cases e
  | _, .call _ _, _, _, _, _, _, _, _, e, _, _ => by cases e
  | _, .callk _ _ _, _, _, _, _, _, _, _, e, _, _ => by cases e
  | _, .callv _ _, _, _, _, _, _, _, _, e, _, _ => by cases e
  | _, .bi _ _, _, _, _, _, _, _, _, e, _, _ => by cases e
  | _, .isi _ _, _, _, _, _, _, _, _, e, _, _ => by cases e
  | _, .meth _ _ _, _, _, _, _, _, _, _, e, _, _ => by cases e
  | _, .mut _ _ _, _, _, _, _, _, _, _, e, _, _ => by cases e
  | _, .odict _ _, _, _, _, _, _, _, _, e, _, _ => by cases e
  | _, .oget _ _, _, _, _, _, _, _, _, e, _, _ => by cases e
  | _, .opop0 _, _, _, _, _, _, _, _, e, _, _ => by cases e
  | _, .sortk _ _, _, _, _, _, _, _, _, e, _, _ => by cases e
theorem kv_zip {g : Gh} : ∀ {ks : List Str} {vs : List V} {ds : List D}, DvL T g vs ds → ks.length = ds.length → KvOk T g (ks.zipWith (fun k v => ((Sum.inr k : Key), v)) vs) (ks.zip ds)
  | [], _, [], h, _ => by cases h; exact True.intro
  | k :: ks, _, d :: ds, h, hl => by
    cases h with
    | cons a b => exact ⟨rfl, a, kv_zip b (by simpa using hl)⟩
  | [], _, _ :: _, _, hl => by simp at hl
  | _ :: _, _, [], _, hl => by simp at hl
theorem merge_new : ∀ {ks : List Str} {vs : List V} {acc : List (Key × V)}, ks.Nodup → (∀ k ∈ ks, ∀ q ∈ acc, q.1 ≠ Sum.inr k) → mergeK acc (ks.zipWith (fun k v => ((Sum.inr k : Key), v)) vs) = acc ++ ks.zipWith (fun k v => ((Sum.inr k : Key), v)) vs
  | [], vs, acc, _, _ => by simp [mergeK]
  | k :: ks, [], acc, _, _ => by simp [mergeK]
  | k :: ks, v :: vs, acc, hn, hd => by
    obtain ⟨h1, h2⟩ := List.nodup_cons.mp hn
    have hp : putK acc (.inr k) v = acc ++ [(.inr k, v)] := by
      unfold putK
      rw [if_neg]
      intro hany
      obtain ⟨q, hq, he⟩ := List.any_eq_true.mp hany
      exact hd k (by simp) q hq (of_decide_eq_true he)
    show mergeK (putK acc (.inr k) v) (ks.zipWith _ vs) = _
    rw [hp, merge_new h2]
    · simp
    · intro k' hk' q hq
      rcases List.mem_append.mp hq with hq | hq
      · exact hd k' (by simp [hk']) q hq
      · have : q = (.inr k, v) := by simpa using hq
        subst this
        intro w
        have : k = k' := by cases w; rfl
        exact h1 (by rw [this]; exact hk')
theorem e_odict {keys : List (Option Expr)} {values : List Expr} {ks : List Str} (h : PPs X pos keys values (prs T C ks m)) (hall : keys.all (·.isSome) = true) (hl : keys.length = values.length) (h0 : keys ≠ []) (h15 : keys.length ≤ 15) (hk15 : ks.length ≤ 15) (hn : ks.Nodup) :
    PE X (.Dict keys values pos) (tE T C false (.odict ks m)) :=
  pe_imp (pe_disp h hall hl h0 h15) fun σ H Q ⟨Z, g, S, r, p⟩ => by
    intro q hq
    have p' : Pst T Z g H σ ((evs C m S).bind fun ds s => if ks.length = ds.length then R.ok (D.obj s.hp.length) { s with hp := s.hp ++ [.dict (ks.zip ds)] } else R.bad) _ := p
    obtain ⟨d, S', hres⟩ := p'.isOk
    rw [hres] at p'
    obtain ⟨ds, S1, hev, hrest⟩ := bind_ok hres
    split at hrest
    · rename_i hlen
      cases hrest
      refine prs_run (r.inC (o := .dK []) hq) hev hlen fun g' H' vs r' l' z' hvs => ?_
      have hp' : H' q = some (.dK []) := (z' q (.inr rfl)).trans upd_same
      have e1 : (ks.zipWith (fun k v => (V.str k, v)) vs) = (ks.zipWith (fun k v => ((Sum.inr k : Key), v)) vs).map fun kv => (kV kv.1, kv.2) := by
        clear hvs hlen hev hk15 hn h p p' hres
        induction ks generalizing vs with
        | nil => simp
        | cons k ks ih =>
          cases vs with
          | nil => simp
          | cons v vs => simp [ih, kV]
      refine ⟨hp', _, e1, by rw [List.length_zipWith]; omega, ?_⟩
      rw [merge_new hn (by simp), List.nil_append]
      obtain ⟨rn, ln⟩ := r'.hnew (r.newZ hq) (o := .dK (ks.zipWith (fun k v => ((Sum.inr k : Key), v)) vs)) (ob := .dict (ks.zip ds)) fun g2 l2 => ⟨_, upd_same, kv_zip (DvL.up l2 _ hvs) hlen⟩
      refine p' _ _ rn (l'.trans ln) (fun b zb => ?_) _ (.obj ?_)
      · have hb : b ≠ q := fun w => r.newZ hq (by rw [← w]; exact zb)
        rw [upd_ne hb, z' b (.inl zb), upd_ne hb]
      · show (g'.ρ ++ [q])[S1.hp.length]? = some q
        rw [← r'.hlen]
        simp
    · cases hrest
/-- x = a list that others may change from now on -/
theorem s_setObj {te : TE} {st : Stmt} (hps : PS X st (tAsg te (gName i))) (hte : ∀ σ H Q, tE T C true m σ H Q → te σ H Q) : PS X st (tS T C (.setObj i m)) := ps_imp hps fun E σ H ⟨Z, g, s, r, p⟩ => by
  have p0 : PsS T Z g H (if m.fresh then (ev C m s).bind fun d s => match d with
    | .lst xs => R.ok Fl.next (Sg.set { s with hp := s.hp ++ [HObj.list xs] } i (.val (D.obj s.hp.length)))
    | _ => .bad else .bad) _ := p
  split at p0
  · refine hte σ H _ ⟨Z, g, s, r, p0.bindE.mono fun d S1 g1 H1 r1 l1 z1 k v hv => ?_⟩
    cases d with
    | lst xs =>
      have hv' : Fresh T Z g1 H1 σ S1 v (.lst xs) := hv
      obtain ⟨l, vs, xs', rfl, e, h1, h2, h3, h4, h5, h6⟩ := hv'
      cases e
      have rz : Rep T (Zc Z l) g1 H1 σ S1 := by
        refine ⟨r1.fsub, r1.len, fun i x e => ?_, r1.apart, r1.hlen, r1.hobj, r1.hnd, fun b z => ?_⟩
        · have q := r1.slot i x e
          cases x with
          | emp => trivial
          | val d => exact q
          | own ys =>
            obtain ⟨l', vs', q1, q2, q3, q4, q5, q6⟩ := q
            exact ⟨l', vs', q1, q2, q3, q4, fun w => w.elim q5 fun w => h6 ⟨i, ys, e, by rw [q1, w]⟩, q6⟩
        · rcases z with z | z
          · exact r1.prot b z
          · subst z; exact ⟨⟨_, h1⟩, h5, h3⟩
      obtain ⟨rn, ln⟩ := rz.hnew h4 (o := .lst vs) (ob := .list xs) fun g2 l2 => ⟨vs, upd_same, DvL.up l2 _ h2⟩
      have hu : upd H1 l (.lst vs) = H1 := by
        funext b
        by_cases hb : b = l
        · subst hb; rw [upd_same, h1]
        · rw [upd_ne hb]
      rw [hu] at rn
      have hd : Dv T ⟨g1.F, g1.ρ ++ [l]⟩ (.ref l) (.obj S1.hp.length) := .obj (by
        show (g1.ρ ++ [l])[S1.hp.length]? = some l
        rw [← r1.hlen]
        simp)
      exact k _ _ _ (rn.setVal i hd) ln .rfl
    | _ => exact False.elim k
  · exact False.elim p0
/-- d["k"].pop(0) -/
theorem e_opop0 (ho : PE X o (tE T C false mo)) (hz : PA X (e :: es) (tCons (tC (.int 0)) tNil)) (hbase : attributeBase o "pop" X.env (eval o X.env) = eval o X.env)
    (hfew : ((backTo cpos (starEach (e :: es) X.env)).all (fun x => !x.1) && (backToKw cpos (keywordEach [] X.env)).all (fun x => x.1.isSome)
      && decide ((e :: es).length + ([] : List Keyword).length + (if ([] : List Keyword).isEmpty then 0 else 1) < 30)) = true)
    (hline : (apos.endLine == cpos.line) = true) (hs : starEach (e :: es) X.env = (false, eval e X.env) :: starEach es X.env) (hpl : (backTo cpos (starEach es X.env)).any (·.1) = false) : PE X (.Call (.Attribute o "pop" apos) (e :: es) [] cpos) (tE T C false (.opop0 mo)) := by
  refine pe_imp (pe_bm PySem.F.plainAttrs_list PySem.F.slot_list_pop PySem.F.type_list_pop mt_popAt ho hz hbase hfew hline hs hpl) fun σ H Q ⟨Z, g, S, r, p⟩ => ?_
  have p' : Pst T Z g H σ ((ev C mo S).bind _) _ := p
  refine ⟨Z, g, S, r, p'.bind.mono fun d S1 g1 H1 r1 l1 z1 k1 v hv => ?_⟩
  cases d with
  | obj n =>
    have hv' : Dv T g1 v (.obj n) := hv
    cases hv' with
    | @obj a _ hn =>
      cases hh : S1.hp[n]? with
      | none => simp only [hh] at k1; exact False.elim k1
      | some ob =>
        cases ob with
        | list xs =>
          cases xs with
          | nil => simp only [hh] at k1; exact False.elim k1
          | cons x0 xs =>
            simp only [hh] at k1
            obtain ⟨⟨vs, q1, q2⟩, _⟩ := r1.hobj n a _ hn hh
            cases q2 with
            | @cons v0 vs' _ _ hv0 hvs =>
              refine ⟨.inl ⟨rfl, _, .inl (.inl q1)⟩, ?_⟩
              refine ⟨a, _, 0, 0, v0, rfl, rfl, q1, by decide, by decide, ?_, rfl, ?_⟩
              · have : ixN (v0 :: vs').length 0 = some 0 := by
                  unfold ixN
                  rw [if_pos (by omega), if_pos (by simp)]
                  rfl
                exact (ixN_seq this).1
              · exact k1 g1 _ (r1.hset hn ⟨vs', upd_same, hvs⟩) .rfl (.hset r1 hn) _ hv0
        | _ => simp only [hh] at k1; exact False.elim k1
  | _ => exact False.elim k1
end
end Mi

set_option autoImplicit false
/-! Mi12: two stores at once; pairs walked; types asked; the rest. -/
namespace Mi
open PySem PySem.Spec L2
open PyProof.Rows (Fr News)

section
variable {T : Tb} {Z : Addr → Prop} {g : Gh} {H : Hp} {σ : L2.St} {S : Sg}
/-- a new list is put by -/
theorem Rep.guard {l : Addr} {vs : List V} (r : Rep T Z g H σ S) (h1 : H l = some (.lst vs)) (h3 : g.F l = none) (h5 : l ∉ g.ρ) (h6 : ¬ OwnAt σ S l) : Rep T (Zc Z l) g H σ S := by
  refine ⟨r.fsub, r.len, fun i x e => ?_, r.apart, r.hlen, r.hobj, r.hnd, fun b z => ?_⟩
  · have q := r.slot i x e
    cases x with
    | emp => trivial
    | val d => exact q
    | own ys =>
      obtain ⟨l', vs', q1, q2, q3, q4, q5, q6⟩ := q
      exact ⟨l', vs', q1, q2, q3, q4, fun w => w.elim q5 fun w => h6 ⟨i, ys, e, by rw [q1, w]⟩, q6⟩
  · rcases z with z | z
    · exact r.prot b z
    · subst z; exact ⟨⟨_, h1⟩, h5, h3⟩
theorem Rep.unguard {l : Addr} (r : Rep T (Zc Z l) g H σ S) : Rep T Z g H σ S := by
  refine ⟨r.fsub, r.len, fun i x e => ?_, r.apart, r.hlen, r.hobj, r.hnd, fun b z => r.prot b (.inl z)⟩
  have q := r.slot i x e
  cases x with
  | emp => trivial
  | val d => exact q
  | own ys =>
    obtain ⟨l', vs', q1, q2, q3, q4, q5, q6⟩ := q
    exact ⟨l', vs', q1, q2, q3, q4, fun w => q5 (.inl w), q6⟩
theorem Rep.notOwn {l : Addr} (r : Rep T (Zc Z l) g H σ S) : ¬ OwnAt σ S l := fun ⟨i, xs, e1, e2⟩ => by
  obtain ⟨l', vs', q1, q2, q3, q4, q5, q6⟩ := r.slot i _ e1
  rw [e2] at q1
  cases q1
  exact q5 (.inr rfl)
end
section
variable {T : Tb} {C : Cn} {X : Cx} {e o a b : Expr} {es : List Expr} {m ma mb mo : M} {pos apos cpos p : Pos} {x y : Str} {i j : Nat}
theorem PsS.isOk {α : Type} {Z : Addr → Prop} {g : Gh} {H : Hp} {r : R α} {K : α → Sg → Gh → Hp → L2.St → Prop} (h : PsS T Z g H r K) : ∃ a s, r = .ok a s := by
  cases r with
  | ok a s => exact ⟨a, s, rfl⟩
  | err _ _ _ => exact False.elim h
  | bad => exact False.elim h
/-- a store into a slot, by its kind -/
def sto (o : Bool) (i : Nat) (d : D) (s : Sg) : R Unit := if o then stOwn i d s else asg (.one i) d s
theorem sto_ok {Z : Addr → Prop} {g : Gh} {H : Hp} {σ : L2.St} {S S' : Sg} {w : Bool} {v : V} {d : D} (r : Rep T Z g H σ S) (h : sto w i d S = .ok () S') (hv : Vl T w Z g H σ S v d) : Rep T Z g H (σ.set i (some v)) S' := by
  cases w with
  | false =>
    have h' : R.ok () (S.set i (.val d)) = .ok () S' := h
    cases h'
    exact r.setVal i hv
  | true =>
    cases d with
    | lst xs =>
      have h' : R.ok () (S.set i (.own xs)) = .ok () S' := h
      cases h'
      exact r.setOwn i hv
    | _ => cases h
theorem par_eq {oi oj : Bool} (s : Sg) : ex C (.par i oi ma j oj mb) s = if (!oi || ma.fresh) && (!oj || mb.fresh) && decide (i ≠ j) then
    (ev C ma s).bind fun d s => (ev C mb s).bind fun e s => (sto oi i d s).bind fun _ s => (sto oj j e s).bind fun _ s => .ok .next s
  else .bad := rfl
theorem s_par {oi oj : Bool} {px py pt : Pos} {kt k2 : Nat} {pt2 : Pos} (hc : X.calm = true) (hN : X.N.Nodup) (hi : X.N[i]? = some x) (hj : X.N[j]? = some y) (hij : i ≠ j) (hx : X.env.scope.names.lookup x = some .local) (hy : X.env.scope.names.lookup y = some .local)
    (ha : PE X a (tE T C oi ma)) (hb : PE X b (tE T C oj mb)) (hs1 : starEach [a, b] X.env = (false, eval a X.env) :: starEach [b] X.env) (hs2 : starEach [b] X.env = (false, eval b X.env) :: starEach [] X.env)
    (hw : swappedStores [.Tuple [.Name x px, .Name y py] kt pt] (.Tuple [a, b] k2 pt2) X.env = pure (some [x, y])) (hs : swapsWithSole [.Tuple [.Name x px, .Name y py] kt pt] (.Tuple [a, b] k2 pt2) pos.line X.env = pure false) :
    PS X (.Assign [.Tuple [.Name x px, .Name y py] kt pt] (.Tuple [a, b] k2 pt2) pos) (tS T C (.par i oi ma j oj mb)) := by
  refine ps_imp (ps_par hc hN hi hj hij hx hy (pa_cons ha (pa_cons hb pa_nil hs2) hs1) hw hs) fun E σ H ⟨Z, g, s, r, p⟩ => ?_
  rw [par_eq] at p
  split at p
  · obtain ⟨fl, S', hres⟩ := p.isOk
    rw [hres] at p
    obtain ⟨d, S1, h1, hres⟩ := bind_ok hres
    obtain ⟨d2, S2, h2, hres⟩ := bind_ok hres
    obtain ⟨⟨⟩, S3, h3, hres⟩ := bind_ok hres
    obtain ⟨⟨⟩, S4, h4, hres⟩ := bind_ok hres
    cases hres
    refine ⟨Z, g, s, r, ?_⟩
    rw [h1]
    intro g1 H1 r1 l1 z1 v hv
    -- the second is evaluated while the first, where it is new, is put by
    have key : ∀ Z1 : Addr → Prop, (∀ b, Z b → Z1 b) → Rep T Z1 g1 H1 σ S1 → (∀ g2 H2, Rep T Z1 g2 H2 σ S2 → g1.le g2 → Zp Z1 H1 H2 → ∀ w, Vl T oj Z1 g2 H2 σ S2 w d2 → E.nx ((σ.set i (some v)).set j (some w)) H2) →
        tCons (tE T C oj mb) tNil σ H1 fun vs H2 => ∃ v1 w, v :: vs = [v1, w] ∧ E.nx ((σ.set i (some v1)).set j (some w)) H2 := fun Z1 hz rr k => by
      refine ⟨Z1, g1, S1, rr, ?_⟩
      rw [h2]
      exact fun g2 H2 r2 l2 z2 w hw => ⟨v, w, rfl, k g2 H2 r2 l2 z2 w hw⟩
    by_cases hf : oi = true ∧ ∃ xs, d = .lst xs
    · obtain ⟨rfl, xs, rfl⟩ := hf
      have hv' : Fresh T Z g1 H1 σ S1 v (.lst xs) := hv
      obtain ⟨l, vs, xs', rfl, e, f1, f2, f3, f4, f5, f6⟩ := hv'
      cases e
      refine key (Zc Z l) (fun b hb => .inl hb) (r1.guard f1 f3 f5 f6) fun g2 H2 r2 l2 z2 w hw => ?_
      obtain ⟨_, q1, q2⟩ := r2.prot l (.inr rfl)
      have hl2 : H2 l = some (.lst vs) := (z2 l (.inr rfl)).trans f1
      have ru := r2.unguard
      have r3 : Rep T Z g2 H2 (σ.set i (some (.ref l))) S3 := sto_ok (w := true) (d := .lst xs) ru h3 (show Fresh T Z g2 H2 σ S2 (.ref l) (.lst xs) from ⟨l, vs, xs, rfl, rfl, hl2, DvL.up l2 _ f2, q2, f4, q1, r2.notOwn⟩)
      have hS3 : S3 = S2.set i (.own xs) := by
        have h' : R.ok () (S2.set i (.own xs)) = .ok () S3 := h3
        cases h'; rfl
      have hw3 : Vl T oj Z g2 H2 (σ.set i (some (.ref l))) S3 w d2 := by
        cases oj with
        | false => exact hw
        | true =>
          cases d2 with
          | lst ys =>
            have hw' : Fresh T (Zc Z l) g2 H2 σ S2 w (.lst ys) := hw
            obtain ⟨l2', vs2, ys', rfl, e, u1, u2, u3, u4, u5, u6⟩ := hw'
            cases e
            refine ⟨l2', vs2, ys, rfl, rfl, u1, u2, u3, fun z => u4 (.inl z), u5, fun ⟨n, zs, e1, e2⟩ => ?_⟩
            rw [hS3] at e1
            by_cases hn : i = n
            · subst hn
              by_cases hlt : i < σ.length
              · rw [List.getElem?_set_self hlt] at e2
                cases e2
                exact u4 (.inr rfl)
              · rw [List.getElem?_eq_none (by simp; omega)] at e2
                cases e2
            · simp only [Sg.set, List.getElem?_set_ne hn] at e1
              rw [List.getElem?_set_ne hn] at e2
              exact u6 ⟨n, zs, e1, e2⟩
          | _ => exact hw
      exact p g2 H2 _ (sto_ok r3 h4 hw3) (l1.trans l2) (z1.trans fun b hb => z2 b (.inl hb))
    · refine key Z (fun _ hb => hb) r1 fun g2 H2 r2 l2 z2 w hw => ?_
      have hv2 : Vl T oi Z g2 H2 σ S2 v d := by
        cases oi with
        | false => exact Dv.up l2 _ hv
        | true =>
          cases d <;> first | exact Dv.up l2 _ hv | exact absurd ⟨rfl, _, rfl⟩ hf
      have r3 := sto_ok r2 h3 hv2
      have hw3 : Vl T oj Z g2 H2 (σ.set i (some v)) S3 w d2 := by
        cases oj with
        | false => exact hw
        | true =>
          cases d2 with
          | lst ys =>
            have hw' : Fresh T Z g2 H2 σ S2 w (.lst ys) := hw
            obtain ⟨l2', vs2, ys', rfl, e, u1, u2, u3, u4, u5, u6⟩ := hw'
            cases e
            refine ⟨l2', vs2, ys, rfl, rfl, u1, u2, u3, u4, u5, fun ⟨n, zs, e1, e2⟩ => ?_⟩
            have hS3 : S3 = S2.set i (.val d) := by
              cases oi with
              | false =>
                have h' : R.ok () (S2.set i (.val d)) = .ok () S3 := h3
                cases h'; rfl
              | true => cases d <;> first | (cases h3; done) | exact absurd ⟨rfl, _, rfl⟩ hf
            rw [hS3] at e1
            by_cases hn : i = n
            · subst hn
              have hlt := (List.getElem?_eq_some_iff.mp e1).1
              simp only [Sg.set, List.length_set] at hlt
              simp only [Sg.set, List.getElem?_set_self hlt] at e1
              cases e1
            · simp only [Sg.set, List.getElem?_set_ne hn] at e1
              rw [List.getElem?_set_ne hn] at e2
              exact u6 ⟨n, zs, e1, e2⟩
          | _ => exact hw
      exact p g2 H2 _ (sto_ok r3 h4 hw3) (l1.trans l2) (z1.trans z2)
  · exact False.elim p

/-! ### types -/
def tyN : Ty → String
  | .int => "int"
  | .bool => "bool"
  | .str => "str"
  | .tuple => "tuple"
  | .list => "list"
  | .dict => "dict"
def tyOfD : D → Option String
  | .non => some "NoneType"
  | .bl _ => some "bool"
  | .int _ => some "int"
  | .str _ => some "str"
  | .tup _ => some "tuple"
  | .lst _ => some "list"
  | .dct _ _ => some "dict"
  | _ => none
theorem kit_int (K : PySem.W.Frag) (t : Ty) : PySem.W.kitOne K (.type "int") (.type (tyN t)) = some (decide (t = .int)) := by cases t <;> rfl
theorem kit_bool (K : PySem.W.Frag) (t : Ty) : PySem.W.kitOne K (.type "bool") (.type (tyN t)) = some (decide (t = .int ∨ t = .bool)) := by cases t <;> rfl
theorem kit_str (K : PySem.W.Frag) (t : Ty) : PySem.W.kitOne K (.type "str") (.type (tyN t)) = some (decide (t = .str)) := by cases t <;> rfl
theorem kit_tuple (K : PySem.W.Frag) (t : Ty) : PySem.W.kitOne K (.type "tuple") (.type (tyN t)) = some (decide (t = .tuple)) := by cases t <;> rfl
theorem kit_list (K : PySem.W.Frag) (t : Ty) : PySem.W.kitOne K (.type "list") (.type (tyN t)) = some (decide (t = .list)) := by cases t <;> rfl
theorem kit_dict (K : PySem.W.Frag) (t : Ty) : PySem.W.kitOne K (.type "dict") (.type (tyN t)) = some (decide (t = .dict)) := by cases t <;> rfl
theorem kit_non (K : PySem.W.Frag) (t : Ty) : PySem.W.kitOne K (.type "NoneType") (.type (tyN t)) = some false := by cases t <;> rfl
theorem sqT_ty {K : PySem.W.Frag} {H : Hp} {a : Addr} {vs : List V} (h : SqT K H a vs) : TyX K H (.ref a) (.type "tuple") := by
  rcases h with (h | ⟨o, h⟩) | h
  · exact .base (.tup h)
  · exact .fTuple h
  · obtain ⟨o, _, _, h1, h2, _⟩ := h
    exact .kTuple h1 h2
theorem isi_ok {g : Gh} {H : Hp} (fs : Fs g H) {v : V} {d : D} {t : Ty} {b : Bool} (h : Dv T g v d) (e : isiD d t = some b) : ∃ u, TyX T.K H v u ∧ PySem.W.kitOne T.K u (.type (tyN t)) = some b := by
  cases h with
  | non => exact ⟨_, .base .non, by rw [kit_non]; cases t <;> exact e⟩
  | bl k => exact ⟨_, .base (.bl k), by rw [kit_bool]; cases t <;> exact e⟩
  | int k => exact ⟨_, .base (.int k), by rw [kit_int]; cases t <;> exact e⟩
  | str k a c => exact ⟨_, .base (.str k), by rw [kit_str]; cases t <;> exact e⟩
  | tup s l => exact ⟨_, sqT_ty (SqT.up fs s), by rw [kit_tuple]; cases t <;> exact e⟩
  | lst s l => exact ⟨_, .base (.lst (fs _ _ s)), by rw [kit_list]; cases t <;> exact e⟩
  | dct s => exact ⟨_, .base (.dK (fs _ _ s)), by rw [kit_dict]; cases t <;> exact e⟩
  | _ => cases e
theorem boot_ty (t : Ty) : bootBuiltins (tyN t) = some (.type (tyN t)) := by
  cases t
  · exact PyProof.Rows.boot_int
  · exact PyProof.Rows.boot_bool
  · exact PyProof.Rows.boot_str
  · exact PyProof.Rows.boot_tuple
  · exact PyProof.Rows.boot_list
  · exact PyProof.Rows.boot_dict
theorem e_isi {t : Ty} {tn : Str} {q : Pos} (hK : X.K = T.K) (hg : Gl X "isinstance") (hm : X.mg "isinstance" = none) (ht : tn = (tyN t : Str)) (hg2 : Gl X tn) (hm2 : X.mg tn = none) (he : PE X e (tE T C false m))
    (hs1 : starEach [e, .Name tn q] X.env = (false, eval e X.env) :: starEach [.Name tn q] X.env) : PE X (.Call (.Name "isinstance" p) [e, .Name tn q] [] pos) (tE T C true (.isi m t)) := by
  have hty : PE X (.Name tn q) (tC (.ty (tyN t))) := by
    subst ht
    exact pe_bltn (v := .ty (tyN t)) hg2 hm2 (boot_ty t) rfl (by cases t <;> decide) (by cases t <;> decide)
  refine pe_imp (pe_callB call_isi hg hm PyProof.Rows.boot_isinstance (pa_cons he (pa_cons hty pa_nil rfl) hs1) (by decide) (by decide) hs1 rfl) fun σ H Q ⟨Z, g, S, r, q⟩ => ?_
  have p' : Pst T Z g H σ ((ev C m S).bind fun d s => R.ofO ((isiD d t).map D.bl) s) _ := q
  refine ⟨Z, g, S, r, p'.bind.mono fun d S1 g1 H1 r1 l1 z1 k1 v hv => ?_⟩
  obtain ⟨c, ec, k2⟩ := k1.ofO r1
  cases hb : isiD d t with
  | none => rw [hb] at ec; cases ec
  | some b =>
    rw [hb] at ec
    cases ec
    obtain ⟨u, u1, u2⟩ := isi_ok r1.fsub hv hb
    exact ⟨v, .ty (tyN t), u, _, b, rfl, .ty _, by rw [hK]; exact u1, by rw [hK]; exact u2, k2 g1 H1 r1 .rfl .rfl _ (Dv.bl b)⟩
/-! ### minus -/
theorem e_neg (ha : PE X a (tG T C ma)) : PE X (.UnaryOp .USub a pos) (tE T C true (.op1 .neg ma)) :=
  pe_imp (pe_un un_neg ha) fun σ H Q ⟨Z, g, S, r, q⟩ => by
    have p' : Pst T Z g H σ ((argOf ma (ev C ma) S).bind fun x s => one s x (op1 .neg)) _ := q
    refine ⟨Z, g, S, r, p'.bind.mono fun x S1 g1 H1 r1 l1 z1 k1 v hv => ?_⟩
    unfold one at k1
    cases e1 : S1.res x with
    | none => rw [e1] at k1; exact False.elim k1
    | some d =>
      rw [e1] at k1
      obtain ⟨c, ec, k2⟩ := k1.ofO r1
      cases d with
      | int i =>
        cases ec
        obtain rfl := (hv.dw r1 e1).int
        exact ⟨i, rfl, k2 g1 H1 r1 .rfl .rfl _ (Dv.int _)⟩
      | _ => cases ec
/-! ### pairs walked -/
theorem wk_enum {g : Gh} {a' : Addr} {vs : List V} {ds : List D} (h : SqL T.K g.F a' vs) (hv : DvL T g vs ds) : Wk T g (Ite T.K a') (enumL 0 ds) := by
  have get : ∀ (ds : List D) (k i : Nat), (enumL k ds)[i]? = (ds[i]?).map fun d => .tup [.int ((k + i : Nat) : Int), d] := by
    intro ds
    induction ds with
    | nil => intro k i; simp [enumL]
    | cons d ds ih =>
      intro k i
      cases i with
      | zero => simp [enumL]
      | succ i => simp only [enumL, List.getElem?_cons_succ, ih]; congr 1; funext d; congr 3; omega
  have len : ∀ (ds : List D) (k : Nat), (enumL k ds).length = ds.length := by
    intro ds
    induction ds with
    | nil => intro k; rfl
    | cons d ds ih => intro k; simp [enumL, ih]
  intro g1 H1 l fs i
  have hq : SqL T.K H1 a' vs := SqL.up (fun b o e => fs b o (l.F b o e)) h
  refine ⟨fun d hd => ?_, fun hl => ⟨vs, hq, by rw [hv.length, ← len ds 0]; exact hl⟩⟩
  rw [get, Nat.zero_add] at hd
  cases q : ds[i]? with
  | none => rw [q] at hd; cases hd
  | some e =>
    rw [q] at hd
    cases hd
    obtain ⟨v, e1, e2⟩ := hv.get i e q
    refine ⟨⟨vs, v, hq, e1⟩, fun x H2 ⟨t, x', hx, ht, hH, hk⟩ => ?_⟩
    subst hx hH
    have := hk vs hq
    rw [e1] at this
    cases this
    exact .tup ht (.cons (.int _) (.cons (e2.up l) .nil))
theorem zip_get : ∀ (xs ys : List D) (i : Nat) (d : D), (zipL xs ys)[i]? = some d → ∃ x y, xs[i]? = some x ∧ ys[i]? = some y ∧ d = .tup [x, y]
  | x :: xs, y :: ys, 0, d, h => by
    have : D.tup [x, y] = d := by simpa [zipL] using h
    exact ⟨x, y, rfl, rfl, this.symm⟩
  | x :: xs, y :: ys, i + 1, d, h => by
    have h' : (zipL xs ys)[i]? = some d := by simpa [zipL] using h
    obtain ⟨a, b, h1, h2, h3⟩ := zip_get xs ys i d h'
    exact ⟨a, b, by simpa using h1, by simpa using h2, h3⟩
  | [], ys, i, d, h => by simp [zipL] at h
  | _ :: _, [], i, d, h => by simp [zipL] at h
theorem zip_len : ∀ (xs ys : List D) (i : Nat), (zipL xs ys).length ≤ i → xs.length ≤ i ∨ ys.length ≤ i
  | x :: xs, y :: ys, 0, h => by simp [zipL] at h
  | x :: xs, y :: ys, i + 1, h => by
    have := zip_len xs ys i (by simpa [zipL] using h)
    simpa using this
  | [], ys, i, h => .inl (by simp)
  | _ :: _, [], i, h => .inr (by simp)
theorem wk_zipL {g : Gh} {a' b' : Addr} {vs ws : List V} {ds es : List D} (h : SqL T.K g.F a' vs) (hv : DvL T g vs ds) (h' : SqL T.K g.F b' ws) (hw : DvL T g ws es) : Wk T g (Itz T.K a' b') (zipL ds es) := by
  intro g1 H1 l fs i
  have hq : SqL T.K H1 a' vs := SqL.up (fun b o e => fs b o (l.F b o e)) h
  have hq' : SqL T.K H1 b' ws := SqL.up (fun b o e => fs b o (l.F b o e)) h'
  refine ⟨fun d hd => ?_, fun hl => ⟨vs, ws, hq, hq', by rw [hv.length, hw.length]; exact zip_len ds es i hl⟩⟩
  obtain ⟨x, y, h1, h2, rfl⟩ := zip_get ds es i d hd
  obtain ⟨v, e1, e2⟩ := hv.get i x h1
  obtain ⟨w, f1, f2⟩ := hw.get i y h2
  refine ⟨⟨vs, ws, v, w, hq, hq', e1, f1⟩, fun z H2 ⟨t, x', y', hx, ht, hH, hk, hk'⟩ => ?_⟩
  subst hx hH
  have t1 := hk vs hq
  rw [e1] at t1
  cases t1
  have t2 := hk' ws hq'
  rw [f1] at t2
  cases t2
  exact .tup ht (.cons (e2.up l) (.cons (f2.up l) .nil))
theorem wk_zipT {g : Gh} {a' b' : Addr} {vs ws : List V} {ds es : List D} (h : SqT T.K g.F a' vs) (hv : DvL T g vs ds) (h' : SqT T.K g.F b' ws) (hw : DvL T g ws es) : Wk T g (RZ.ItzT T.K a' b') (zipL ds es) := by
  intro g1 H1 l fs i
  have hq : SqT T.K H1 a' vs := SqT.up (fun b o e => fs b o (l.F b o e)) h
  have hq' : SqT T.K H1 b' ws := SqT.up (fun b o e => fs b o (l.F b o e)) h'
  refine ⟨fun d hd => ?_, fun hl => ⟨vs, ws, hq, hq', by rw [hv.length, hw.length]; exact zip_len ds es i hl⟩⟩
  obtain ⟨x, y, h1, h2, rfl⟩ := zip_get ds es i d hd
  obtain ⟨v, e1, e2⟩ := hv.get i x h1
  obtain ⟨w, f1, f2⟩ := hw.get i y h2
  refine ⟨⟨vs, ws, v, w, hq, hq', e1, f1⟩, fun z H2 ⟨t, x', y', hx, ht, hH, hk, hk'⟩ => ?_⟩
  subst hx hH
  have t1 := hk vs hq
  rw [e1] at t1
  cases t1
  have t2 := hk' ws hq'
  rw [f1] at t2
  cases t2
  exact .tup ht (.cons (e2.up l) (.cons (f2.up l) .nil))
theorem i_zip {elts : List Expr} {kk : Nat} {tpos : Pos} (hK : X.K = T.K) (hg : Gl X "zip") (hm : X.mg "zip" = none) (ha : PE X a (tE T C false ma)) (hb : PE X b (tE T C false mb)) (hs : starEach [a, b] X.env = (false, eval a X.env) :: starEach [b] X.env) (hs2 : starEach [b] X.env = (false, eval b X.env) :: starEach [] X.env) (hpl : (backTo pos (starEach [b] X.env)).any (·.1) = false) :
    PI X (.Tuple elts kk tpos) (.Call (.Name "zip" p) [a, b] [] pos) (tI T C (.sZip ma mb)) :=
  pi_imp (RZ.pi_zipA hg hm (pa_cons ha (pa_cons hb pa_nil hs2) hs) hs hpl) fun σ H Rr ⟨Z, g, S, r, q⟩ => by
    have p' : Pst T Z g H σ ((ev C ma S).bind fun d s => (ev C mb s).bind fun e s => match d, e with
      | .lst xs, .lst ys => R.ok (zipL xs ys) s
      | .tup xs, .tup ys => R.ok (zipL xs ys) s
      | _, _ => .bad) _ := q
    refine ⟨Z, g, S, r, p'.bind.mono fun d S1 g1 H1 r1 l1 z1 k1 v hv => ⟨Z, g1, S1, r1, k1.bind.mono fun e S2 g2 H2 r2 l2 z2 k2 w hw => ?_⟩⟩
    have hv2 := Dv.up l2 _ hv
    cases d <;> cases e <;> first | exact False.elim k2 | skip
    · rename_i xs ys
      have hw' : Dv T g2 w (.tup ys) := hw
      cases hv2 with
      | tup s1 s2 =>
        cases hw' with
        | tup t1 t2 => exact ⟨_, _, _, _, rfl, .inr ⟨by rw [hK]; exact SqT.up r2.fsub s1, by rw [hK]; exact SqT.up r2.fsub t1, by rw [hK]; exact k2.ok r2 _ (wk_zipT s1 s2 t1 t2)⟩⟩
    · rename_i xs ys
      have hw' : Dv T g2 w (.lst ys) := hw
      cases hv2 with
      | lst s1 s2 =>
        cases hw' with
        | lst t1 t2 => exact ⟨_, _, _, _, rfl, .inl ⟨.inl (.inl (r2.fsub _ _ s1)), .inl (.inl (r2.fsub _ _ t1)), by rw [hK]; exact k2.ok r2 _ (wk_zipL (.inl (.inl s1)) s2 (.inl (.inl t1)) t2)⟩⟩

/-! ### first places -/
theorem pls_plain : ∀ {ds : List D} {g : Gh} {vs : List V}, D.pls ds = true → DvL T g vs ds → PyData.canLayAll0 (D.pys ds) = true := fun {ds g vs} h hv => (DvL.dp (H := g.F) (fun _ _ e => e) ds h hv).2
theorem place_ok {d : D} {xs : List D} {k : Nat} (h : placeD d xs = some k) : D.pls xs = true ∧ d.pl = true ∧ PyData.depthAll (D.pys xs) ≤ 60 ∧ d.py.depth ≤ 60 ∧ (D.pys xs).findIdx? (fun y => PyData.eqv y d.py) = some k := by
  unfold placeD at h
  split at h
  · rename_i hc
    simp only [Bool.and_eq_true, decide_eq_true_eq] at hc
    exact ⟨hc.1.1.1, hc.1.1.2, hc.1.2, hc.2, h⟩
  · cases h
theorem m_remove (hK : X.K = T.K) (hu : X.A.units + 100 < cLine) : MtR X "list.remove" (rMu T (mmD .remove)) := by
  rintro pins s σ H x xs v us Q I rx rv ⟨g, l, ws, ys, ds, d, zs, rfl, fs, hl, hw, hv, hf, q⟩
  match ds, hf with
  | [e], hf =>
    obtain ⟨u, rfl, hu'⟩ := dv1 hv
    have hf' : (placeD e ys).map (fun k => (D.non, ys.eraseIdx k)) = some (d, zs) := hf
    cases hp : placeD e ys with
    | none => rw [hp] at hf'; cases hf'
    | some k =>
      rw [hp] at hf'
      cases hf'
      obtain ⟨h1, h2, h3, h4, h5⟩ := place_ok hp
      obtain ⟨p1, c1⟩ := DvL.dp fs ys h1 hw
      obtain ⟨p2, c2⟩ := Dv.dp fs e h2 hu'
      cases rx
      obtain ⟨uv, rfl, ru⟩ := rv.one
      obtain ⟨z, its, n, r, hlen, el⟩ := I.lstM hl
      obtain ⟨as, r1⟩ := Dp.readsAll I (D.pys ys) ws its (by rw [hK]; exact p1) r
      obtain ⟨bs, r2⟩ := Dp.reads I e.py u uv (by rw [hK]; exact p2) ru
      refine SeqAt.remove_list_data (vs := its.toArray) ⟨_, el, rfl, n, rfl⟩ (by simpa using r1) r2 (PyData.plainAll_of_canLay0 _ c1) (PyData.plain_of_canLay0 _ c2) (by omega) h5 (by rw [List.size_toArray, ← hlen]; exact z) ?_
      refine ⟨.non, _, I.lset (its' := its.eraseIdx k) (t' := s.toks) hl el ?_ (r.eraseIdx k) ?_, rfl, q _ _ .non (hw.erase k)⟩
      · show its.toArray.eraseIdxIfInBounds k = (its.eraseIdx k).toArray
        rw [List.eraseIdxIfInBounds_toArray]
      · have := len_erase ws k
        omega
def rMt (T : Tb) (f : D → List D → Option D) : V → List V → Hp → VK → Prop := fun x vs H Q => ∃ g d ds c, Fs g H ∧ Dv T g x d ∧ DvL T g vs ds ∧ f d ds = some c ∧ ∀ v H', OutN T g H v H' c → Q v H'
theorem m_index (hK : X.K = T.K) (hu : X.A.units + 100 < cLine) : MtR X "list.index" (rMt T (mtD .index)) := by
  rintro pins s σ H x xs v us Q I rx rv ⟨g, d, ds, c, fs, hd, hv, hf, q⟩
  match d, ds, hf with
  | .lst ys, [e], hf =>
    obtain ⟨u, rfl, hu'⟩ := dv1 hv
    have hf' : (placeD e ys).map (fun k => D.int ((k : Nat) : Int)) = some c := hf
    cases hp : placeD e ys with
    | none => rw [hp] at hf'; cases hf'
    | some k =>
      rw [hp] at hf'
      cases hf'
      obtain ⟨h1, h2, h3, h4, h5⟩ := place_ok hp
      cases hd with
      | @lst l ws _ hl hw =>
        obtain ⟨p1, c1⟩ := DvL.dp fs ys h1 hw
        obtain ⟨p2, c2⟩ := Dv.dp fs e h2 hu'
        obtain ⟨w1, w2, w3⟩ := List.findIdx?_eq_some_iff_getElem.mp h5
        refine mt_indexD (by omega) pins s σ H _ _ v us Q I rx rv ⟨l, u, e.py, D.pys ys, k, (D.pys ys)[k], rfl, rfl, .lst (.inl (.inl (fs _ _ hl))) (by rw [hK]; exact p1), by rw [hK]; exact p2, ?_, ?_, List.getElem?_eq_getElem w1, w2, fun m z' hm hz => ?_, q _ _ (outI _)⟩
        · show (PyData.canLay0 (.list (D.pys ys)) && decide (PyData.depth (.list (D.pys ys)) ≤ 64)) = true
          rw [Bool.and_eq_true, decide_eq_true_eq]
          refine ⟨by simpa [PyData.canLay0] using c1, ?_⟩
          simp only [PyData.depth]
          omega
        · show (e.py.canLay0 && decide (e.py.depth ≤ 64)) = true
          rw [Bool.and_eq_true, decide_eq_true_eq]
          exact ⟨c2, by omega⟩
        · obtain ⟨y1, y2⟩ := List.getElem?_eq_some_iff.mp hz
          have := w3 m hm
          rw [y2] at this
          simpa using this
theorem e_meth {mt : Mt} {name : Str} {id : String} {Ty' : String} (pa : PlainAttrs Ty') (slot : Slot Ty' name id) (hty : typeOf (.builtin id) = pure (.type "method_descriptor")) (hm : MtR X id (rMt T (mtD mt))) (htv : ∀ (g : Gh) (H : Hp) (v : V) (d : D) (ds : List D) (c : D), Fs g H → Dv T g v d → mtD mt d ds = some c → tyV X.K Ty' v H)
    (ho : PE X o (tE T C false mo)) (ha : PA X (e :: es) (tA T C m)) (hbase : attributeBase o name X.env (eval o X.env) = eval o X.env)
    (hfew : ((backTo cpos (starEach (e :: es) X.env)).all (fun x => !x.1) && (backToKw cpos (keywordEach [] X.env)).all (fun x => x.1.isSome)
      && decide ((e :: es).length + ([] : List Keyword).length + (if ([] : List Keyword).isEmpty then 0 else 1) < 30)) = true)
    (hline : (apos.endLine == cpos.line) = true) (hs : starEach (e :: es) X.env = (false, eval e X.env) :: starEach es X.env) (hpl : (backTo cpos (starEach es X.env)).any (·.1) = false) : PE X (.Call (.Attribute o name apos) (e :: es) [] cpos) (tE T C true (.meth mt mo m)) := by
  refine pe_imp (pe_bm pa slot hty hm ho ha hbase hfew hline hs hpl) fun σ H Q ⟨Z, g, S, r, p⟩ => ?_
  have p1 : Pst T Z g H σ ((ev C mo S).bind fun d s => (evs C m s).bind fun ds s => R.ofO (mtD mt d ds) s) _ := p
  refine ⟨Z, g, S, r, p1.bind.mono fun d S1 g1 H1 r1 l1 z1 k1 v hv => ?_⟩
  obtain ⟨c, S', hres⟩ := k1.isOk
  obtain ⟨ds, S2, hev, hc⟩ := bind_ok hres
  have hc' : ∃ c', mtD mt d ds = some c' := by
    cases q : mtD mt d ds with
    | none => rw [q] at hc; cases hc
    | some c' => exact ⟨c', rfl⟩
  obtain ⟨c', hc'⟩ := hc'
  refine ⟨htv g1 H1 v d ds c' r1.fsub hv hc', Z, g1, S1, r1, k1.bind.mono fun ds' S2' g2 H2 r2 l2 z2 k2 us hus => ?_⟩
  obtain ⟨c2, e2, k3⟩ := k2.ofO r2
  refine ⟨g2, d, ds', c2, r2.fsub, Dv.up l2 _ hv, hus, e2, fun w H' o => ?_⟩
  obtain ⟨g', r', l', z', v'⟩ := o.new r2
  exact k3 g' H' r' l' z' w v'
theorem ty_index (hK : X.K = T.K) (g : Gh) (H : Hp) (v : V) (d : D) (ds : List D) (c : D) (fs : Fs g H) (hv : Dv T g v d) (h : mtD .index d ds = some c) : tyV X.K "list" v H := by
  match d, ds, h with
  | .lst ys, [e], h =>
    cases hv with
    | @lst l ws _ hl hw => exact .inl ⟨rfl, _, .inl (.inl (fs _ _ hl))⟩

/-! ### a def held by a local -/
theorem e_callv {k : Nat} (hK : X.K = T.K) (hr : RmG k X.A) (F : ∀ n f, T.fa n = some f → ∃ fd ps, PySem.W.keepIn T.K (.ref f) = true ∧ CalG T X.prog X.w X.mg X.base C.Φ k n f fd ps ∧ BdP T.K fd ps ps.length [] (List.range ps.length) ∧ ∀ ds hp d hp', C.Φ n ds hp = .ok d hp' → ds.length = ps.length)
    (hN : X.N[i]? = some x) (hv : Vis X.env.scope x) (hd : (x == ("__debug__" : Str)) = false) (hcd : (x == ("__classdict__" : Str)) = false) (ha : PA X (e :: es) (tA T C m)) (he : starEach (e :: es) X.env = (false, eval e X.env) :: starEach es X.env) (hpl : (backTo pos (starEach es X.env)).any (·.1) = false) :
    PE X (.Call (.Name x p) (e :: es) [] pos) (tE T C false (.callv i m)) := by
  refine ⟨fun pins s σ H Q I ⟨Z, g, S, r, q⟩ => ?_⟩
  have q0 : Pst T Z g H σ (match S.sl[i]? with
    | some (.val (.fn f)) => (evs C m S).bind fun ds s => (C.Φ f ds s.hp).lift s
    | _ => .bad) (fun d S' g' H' => ∀ v, Vl T false Z g' H' σ S' v d → Q v H') := q
  cases hs : S.sl[i]? with
  | none => rw [hs] at q0; exact False.elim q0
  | some sl =>
    rw [hs] at q0
    cases sl with
    | emp => exact False.elim q0
    | own xs => exact False.elim q0
    | val d0 =>
      cases d0 with
      | fn n =>
        obtain ⟨v0, hv1, hv2⟩ := r.slot i _ hs
        cases hv2 with
        | @fn f _ hf =>
          obtain ⟨fd, ps, kp, F1, bd, ln⟩ := F n f hf
          have q1 : Pst T Z g H σ ((evs C m S).bind fun ds s => (C.Φ n ds s.hp).lift s) (fun d S' g' H' => ∀ v, Vl T false Z g' H' σ S' v d → Q v H') := q0
          obtain ⟨d, S', hq⟩ := q1.isOk
          rw [hq] at q1
          obtain ⟨ds, S1, hev, hl⟩ := bind_ok hq
          obtain ⟨hp', hphi, rfl⟩ := lift_ok hl
          refine wpAny_Call_Name_kw (thn ((pe_var (pos := p) hN hv hd hcd).run pins s σ H (fun v H1 => v = .ref f ∧ H1 = H) I ⟨.ref f, hv1, rfl, rfl⟩) fun u s1 ⟨v, H1, I1, r1, q2⟩ => ?_)
          obtain ⟨rfl, rfl⟩ := q2
          cases r1
          refine PySem.W.callWith_K (h₀ := X.base) I.ok.mod.kin (by rw [hK]; exact kp) (thn (ha.run pos pins s1 σ _ _ I1 (tA_run r hev)) fun us s2 ⟨vs, H2, I2, rv, g1, r2, l1, z1, hvs⟩ => ⟨I2.kIn, ?_⟩) he hpl
          have hlen : us.length = ps.length := by rw [← rv.length, hvs.length, ln _ _ _ _ hphi]
          have pk : ∀ (ys : List Value), pick (List.range ys.length) ys = some ys := by
            intro ys
            have key : ∀ (zs ys : List Value) (k : Nat), (∀ j, zs[k + j]? = ys[j]?) → pick ((List.range ys.length).map (k + ·)) zs = some ys := by
              intro zs ys
              induction ys with
              | nil => intro k _; rfl
              | cons y ys ih =>
                intro k hk
                rw [List.length_cons, List.range_succ_eq_map, List.map_cons, List.map_map]
                have h0 : zs[k + 0]? = some y := by rw [hk 0]; rfl
                have h1 : pick (List.map ((fun x => k + x) ∘ Nat.succ) (List.range ys.length)) zs = some ys := by
                  have e1 : ((fun x => k + x) ∘ Nat.succ) = fun x => (k + 1) + x := by funext x; simp; omega
                  rw [e1]
                  exact ih (k + 1) fun j => by rw [show k + 1 + j = k + (j + 1) by omega, hk (j + 1)]; rfl
                simp only [pick, h0, h1]
            have := key ys ys 0 fun j => by rw [Nat.zero_add]
            simpa using this
          have hB := bd s2 us [] us (by rw [← hK]; exact I2.kIn) hlen rfl (by rw [List.append_nil, ← hlen]; exact pk us)
          exact run_cal hK F1 hr hB I2 rv (by rw [rv.length, hlen]) r2 hvs hphi fun g' H' r' l' z' w w' => q1 g' H' r' (l1.trans l') (z1.trans z') w w'
      | _ => exact False.elim q0

/-! ### from behind -/
theorem places_rev (n : Nat) : Builtin.Slice.sliceAdjust none none (-1) (n : Int) = ((n : Int) - 1, -1) ∧ Builtin.Slice.slicePlaces ((n : Int) - 1) (-1) (-1) = n := by
  refine ⟨?_, ?_⟩
  · unfold Builtin.Slice.sliceAdjust
    simp
  · unfold Builtin.Slice.slicePlaces
    simp
    omega
theorem fm_map {α β : Type} {f : α → Option β} {h : α → β} : ∀ (l : List α), (∀ m ∈ l, f m = some (h m)) → l.filterMap f = l.map h
  | [], _ => rfl
  | a :: l, k => by
    rw [List.filterMap_cons, k a (by simp), List.map_cons, fm_map l fun m hm => k m (by simp [hm])]
theorem pick_rev (xs : Array Value) : ((List.range xs.size).filterMap fun (m : Nat) => xs[(((xs.size : Int) - 1) + (m : Int) * (-1)).toNat]?).toArray = xs.toList.reverse.toArray := by
  congr 1
  apply List.ext_getElem?
  intro j
  have e : ((List.range xs.size).filterMap fun (m : Nat) => xs[(((xs.size : Int) - 1) + (m : Int) * (-1)).toNat]?) = (List.range xs.size).map fun m => (xs[xs.size - 1 - m]?).getD .none := by
    refine fm_map _ fun m hm => ?_
    have hm' : m < xs.size := List.mem_range.mp hm
    have e1 : (((xs.size : Int) - 1) + (m : Int) * (-1)).toNat = xs.size - 1 - m := by omega
    rw [e1]
    have e2 : xs.size - 1 - m < xs.size := by omega
    simp [Array.getElem?_eq_getElem e2]
  rw [e]
  by_cases hj : j < xs.size
  · rw [List.getElem?_map, List.getElem?_range hj, List.getElem?_reverse (by simpa using hj)]
    have e2 : xs.size - 1 - j < xs.size := by omega
    simp [Array.getElem?_eq_getElem e2]
  · rw [List.getElem?_eq_none (by simpa using hj), List.getElem?_eq_none (by simpa using hj)]
theorem applied_rev {pg : Program} {w : World} {A : Around} {E : Value → Shared → Prop} {s : Shared} {sl : Addr} {n : Nat} {vl vu vs : Value} {R : Int × Int × Nat → Shared → Prop} (hs : s.heap.IsSliceOf sl vl vu vs) (pl : IsPart vl none) (pu : IsPart vu none) (ps : IsPart vs (some (-1)))
    (hR : R ((n : Int) - 1, -1, n) s) : wpAny (model pg w) A (Builtin.Slice.sliceApplied (.ref sl) (pure (n : Int))) R E s := by
  obtain ⟨os, hos, hcs, hds⟩ := id hs
  unfold Builtin.Slice.sliceApplied Builtin.Slice.sliceFields
  refine wpAny_bind (wpAny_bind (wpAny_field hos hds (x := vl) rfl (wpAny_bind (wpAny_field hos hds (x := vu) rfl (wpAny_bind (wpAny_field hos hds (x := vs) rfl (wpAny_pure ?_)))))))
  refine wpAny_bind (HT.slicePart_ ps ?_)
  show wpAny _ _ (if ((-1 : Int) == 0) = true then _ else _) _ _ s
  rw [if_neg (by decide)]
  refine wpAny_bind (HT.slicePart_ pl (wpAny_bind (HT.slicePart_ pu (wpAny_bind (wpAny_pure ?_)))))
  show wpAny _ _ (match Builtin.Slice.sliceAdjust none none (-1) (n : Int) with | (lo, hi) => pure (lo, (-1 : Int), Builtin.Slice.slicePlaces lo hi (-1))) _ _ s
  rw [(places_rev n).1]
  show wpAny _ _ (pure (((n : Int) - 1), (-1 : Int), Builtin.Slice.slicePlaces ((n : Int) - 1) (-1) (-1))) _ _ s
  rw [(places_rev n).2]
  exact wpAny_pure hR
theorem getItem_rev {pg : Program} {w : World} {A : Around} {E : Value → Shared → Prop} {s : Shared} {t sl : Addr} {items : Array Value} {vl vu vs : Value} {Q : Value → Shared → Prop} (ht : PyProof.Rows.IsTup s.heap t items) (hs : s.heap.IsSliceOf sl vl vu vs) (pl : IsPart vl none) (pu : IsPart vu none) (ps : IsPart vs (some (-1)))
    (h : Q (.ref s.heap.objs.size) { s with heap := s.heap.push { cls := .type "tuple", data := .seq items.toList.reverse.toArray } }) (hsz : items.size ≤ sizeLine) : wpAny (model pg w) A (getItem (.ref t) (.ref sl)) Q E s := by
  have fit : sizeOk (.seq items.toList.reverse.toArray) := by
    show items.toList.reverse.toArray.size ≤ sizeLine
    simpa using hsz
  obtain ⟨os, hos, hcs, hds⟩ := id hs
  have ty : s.TypeIs (.ref sl) "slice" := ⟨os, hos, hcs⟩
  unfold getItem
  try with_reducible refine wpAny_holding ?_
  first | refine wpAny_bind (wpAny_pure ?_) | skip
  refine wpAny_bind (wpAny_sequenceKey ht.typeIs (by decide) ?_)
  refine wpAny_bind (wpAny_callSpecial?_slot (name := Str.ofString "__getitem__") ht.typeIs PyProof.Rows.slot_tuple_getitem (wpAny_call_entry PyProof.Rows.slot_tuple_getitem ht.typeIs PyProof.Rows.entry_tuple_getitem ?_ (PyProof.Rows.args_tuple_getitem _ _)))
  show wpAny _ _ (Builtin.Tuple.tupleItemsOf (.ref t) >>= _) _ _ s
  refine wpAny_bind (PyProof.Rows.tupleItemsOf_ ht ?_)
  refine wpAny_bind (wpAny_typeOf ty ?_)
  rw [if_pos (by decide)]
  refine wpAny_bind (applied_rev hs pl pu ps ?_)
  show wpAny _ _ (if (((items.size : Int) - 1) == 0 && (-1 : Int) == 1 && items.size == items.size) = true then _ else _) _ _ s
  rw [if_neg (by simp), pick_rev]
  first
    | exact wpAny_bind (m := Builtin.Tuple.tupleExact _) (wpAny_newObj_type (wpAny_pure ⟨_, rfl, wpAny_pure h⟩) fit)
    | exact wpAny_bind (m := Builtin.Tuple.tupleExact _) (wpAny_newObj_type (wpAny_bind (wpAny_pure (wpAny_pure ⟨_, rfl, wpAny_pure h⟩))) fit)
    | exact wpAny_bind (wpAny_bind (m := Builtin.Tuple.tupleExact _) (wpAny_newObj_type (wpAny_pure (wpAny_pure ⟨_, rfl, wpAny_pure h⟩)) fit))
    | exact wpAny_bind (wpAny_bind (m := Builtin.Tuple.tupleExact _) (wpAny_newObj_type (wpAny_pure ⟨_, rfl, wpAny_pure h⟩) fit))
/-- t[::-1], a tuple or a list -/
def tRevA (T : Tb) (te : TE) : TE := fun σ H Q => te σ H fun x H1 => ∃ g d c, Fs g H1 ∧ Dw T g H1 x d ∧ revD d = some c ∧ ∀ v H', OutN T g H1 v H' c → Q v H'
theorem pe_revA (hK : X.K = T.K) {te : TE} {kk : Nat} {p1 p2 p3 : Pos} (he : PE X e te) : PE X (.Subscript e (.Slice none none (some (.UnaryOp .USub (.Constant (.int 1) kk p1) p2)) p3) pos) (tRevA T te) := by
  refine ⟨fun pins s σ H Q I h => ?_⟩
  refine PyProof.Rows.Subscript_ (thn (he.run pins s σ H _ I h) fun v s1 ⟨x, H1, I1, r1, g, d, c, fs, hd, hc, q⟩ => ?_)
  have part : PO X (some (.UnaryOp .USub (.Constant (.int 1) kk p1) p2)) (tPart (tUn (rU fun i => .int (-i)) (tC (.int 1)))) := po_some (pe_un un_neg pe_int)
  refine wpAny_Slice (thn (po_none.run pins s1 σ H1 (fun o H2 => o = none ∧ H2 = H1) I1 ⟨rfl, rfl⟩) fun vl s2 ⟨o1, H2, I2, pl, w1, w2⟩ => ?_)
  subst w1 w2
  refine thn (po_none.run pins s2 σ _ (fun o H3 => o = none ∧ H3 = H2) I2 ⟨rfl, rfl⟩) fun vu s3 ⟨o2, H3, I3, pu, w3, w4⟩ => ?_
  subst w3 w4
  refine thn (part.run pins s3 σ _ (fun o H4 => o = some (-1) ∧ H4 = H3) I3 ⟨1, rfl, -1, rfl, rfl, rfl⟩) fun vs s4 ⟨o3, H4, I4, ps, w5, w6⟩ => ?_
  subst w5 w6
  have I5 : L2.Inv X pins σ H4 { s4 with heap := s4.heap.push { cls := .type "slice", data := .fields #[vl, vu, vs] } } := I4.kept (t' := s4.toks) fun b ob z => Heap.get?_push_of_some _ z
  show wpAny (model X.prog X.w) X.A (PyProof.Rows.subscriptTail e (.Slice none none (some (.UnaryOp .USub (.Constant (.int 1) kk p1) p2)) p3) v (.ref s4.heap.objs.size)) (EP X pins σ Q) X.xe { s4 with heap := s4.heap.push { cls := .type "slice", data := .fields #[vl, vu, vs] } }
  cases d <;> try (cases hc; done)
  · rename_i ds
    cases hc
    obtain ⟨a, xs, rfl, hx, hv, _⟩ := hd.tup fs
    cases r1
    obtain ⟨its, r, ht, hz⟩ := I5.tuple (by rw [hK]; exact hx)
    have hl := r.length
    refine PyProof.Rows.tail_any (ops := [.ref a, .ref s4.heap.objs.size]) ht.typeIs PyProof.Rows.slot_tuple_getitem.lookup ?_ (by with_unfolding_all rfl)
    refine getItem_rev ht (Heap.IsSliceOf.new _ vl vu vs) pl pu ps ?_ (by rw [List.size_toArray]; omega)
    refine ⟨.ref _, _, I5.laid (t' := s4.toks) (o := .tup xs.reverse) (fun b ob z => Heap.get?_push_of_some _ z) (Nat.le_refl _) ?_, rfl, q _ _ (.tup (I5.hok.fresh (Nat.le_refl _)) hv.rev)⟩
    exact ⟨by rw [List.length_reverse]; exact hz, its.reverse, r.reverse, PyProof.Rows.IsTup.new _ _⟩
  · rename_i ds
    cases hc
    obtain ⟨a, xs, rfl, hx, hv⟩ := hd.lst fs
    cases r1
    obtain ⟨its, r, ht, hz⟩ := I5.list (.inl (.inl hx))
    have hl := r.length
    refine PyProof.Rows.tail_any (ops := [.ref a, .ref s4.heap.objs.size]) ht.isList.typeIs (PySem.slot_list_getitem.lookup) ?_ (by with_unfolding_all rfl)
    refine wpAny_getItem_list_slice ht.isList (Heap.IsSliceOf.new _ vl vu vs) pl pu ps (by decide) ?_ (by rw [List.size_toArray]; omega)
    rw [PySem.W.krv_pick]
    refine ⟨.ref _, _, I5.laid (t' := s4.toks) (o := .lst xs.reverse) (fun b ob z => Heap.get?_push_of_some _ z) (Nat.le_refl _) ?_, rfl, q _ _ (.lst (I5.hok.fresh (Nat.le_refl _)) hv.rev)⟩
    exact ⟨by rw [List.length_reverse]; exact hz, _, 0, r.reverse, Heap.get?_push_size _ rfl⟩
theorem e_rev (hK : X.K = T.K) {kk : Nat} {p1 p2 p3 : Pos} (he : PE X e (tG T C m)) : PE X (.Subscript e (.Slice none none (some (.UnaryOp .USub (.Constant (.int 1) kk p1) p2)) p3) pos) (tE T C true (.rev m)) :=
  pe_imp (pe_revA hK he) fun σ H Q ⟨Z, g, S, r, q⟩ => by
    have p' : Pst T Z g H σ ((argOf m (ev C m) S).bind fun x s => one s x revD) _ := q
    refine ⟨Z, g, S, r, p'.bind.mono fun x S1 g1 H1 r1 l1 z1 k1 v hv => ?_⟩
    unfold one at k1
    cases e1 : S1.res x with
    | none => rw [e1] at k1; exact False.elim k1
    | some d =>
      rw [e1] at k1
      obtain ⟨c, ec, k2⟩ := k1.ofO r1
      refine ⟨g1, d, c, r1.fsub, hv.dw r1 e1, ec, fun w H' o => ?_⟩
      obtain ⟨g', r', l', z', v'⟩ := o.new r1
      exact k2 g' H' r' l' z' w v'
end
end Mi

set_option autoImplicit false
/-! MiL: an own list lent for a call: read there, not kept. -/
namespace Mi
open PySem L2
/-- the list at l no more lent -/
def Gh.drop (g : Gh) (l : Addr) : Gh := ⟨fun b => if b = l then none else g.F b, g.ρ⟩
mutual
theorem Dv.unl {T : Tb} {g : Gh} {l : Addr} {od : Obj} {ws : List V} (hl : g.F l = some (.frz od (.lst ws))) : ∀ (d : D) {v : V}, d.noR = true → Dv T g v d → Dv T (g.drop l) v d
  | .non, _, _, h => by cases h; exact .non
  | .bl _, _, _, h => by cases h; exact .bl _
  | .int _, _, _, h => by cases h; exact .int _
  | .str _, _, _, h => by cases h with | str x a b => exact .str _ a b
  | .tup ds, _, n, h => by
    cases h with
    | @tup a vs _ q b =>
      refine .tup (vs := vs) ?_ (DvL.unl hl ds (by simpa [D.noR] using n) b)
      rcases q with (s | ⟨o, s⟩) | s
      · refine .inl (.inl ?_)
        have : a ≠ l := fun e => by rw [e, hl] at s; cases s
        show (if a = l then none else g.F a) = _
        rw [if_neg this]; exact s
      · refine .inl (.inr ⟨o, ?_⟩)
        have : a ≠ l := fun e => by rw [e, hl] at s; cases s
        show (if a = l then none else g.F a) = _
        rw [if_neg this]; exact s
      · exact .inr s
  | .lst ds, _, n, h => by
    cases h with
    | @lst a vs _ s b =>
      refine .lst (vs := vs) ?_ (DvL.unl hl ds (by simpa [D.noR] using n) b)
      have : a ≠ l := fun e => by rw [e, hl] at s; cases s
      show (if a = l then none else g.F a) = _
      rw [if_neg this]; exact s
  | .rol _, _, n, _ => by cases n
  | .dct _ _, _, _, h => by
    cases h with
    | @dct a s =>
      refine .dct ?_
      have : a ≠ l := fun e => by rw [e, hl] at s; cases s
      show (if a = l then none else g.F a) = _
      rw [if_neg this]; exact s
  | .obj _, _, _, h => by cases h with | obj a => exact .obj a
  | .fn _, _, _, h => by cases h with | fn a => exact .fn a
theorem DvL.unl {T : Tb} {g : Gh} {l : Addr} {od : Obj} {ws : List V} (hl : g.F l = some (.frz od (.lst ws))) : ∀ (ds : List D) {vs : List V}, D.noRs ds = true → DvL T g vs ds → DvL T (g.drop l) vs ds
  | [], _, _, h => by cases h; exact .nil
  | d :: ds, _, n, h => by
    have n' : d.noR = true ∧ D.noRs ds = true := by simpa [D.noRs] using n
    cases h with | cons a b => exact .cons (Dv.unl hl d n'.1 a) (DvL.unl hl ds n'.2 b)
end
theorem KvOk.unl {T : Tb} {g : Gh} {l : Addr} {od : Obj} {ws : List V} (hl : g.F l = some (.frz od (.lst ws))) : ∀ {ps : List (Key × V)} {qs : List (Str × D)}, noRk qs = true → KvOk T g ps qs → KvOk T (g.drop l) ps qs
  | [], [], _, h => h
  | [], _ :: _, _, h => h
  | _ :: _, [], _, h => h
  | p :: ps, q :: qs, n, ⟨a, b, c⟩ => by
    have n' : q.2.noR = true ∧ noRk qs = true := by simpa [noRk] using n
    exact ⟨a, Dv.unl hl _ n'.1 b, KvOk.unl hl n'.2 c⟩
theorem hide_get (sl : List Sl) (j : Nat) : (sl.map hideO)[j]? = (sl[j]?).map hideO := List.getElem?_map
section
variable {T : Tb} {C : Cn} {X : Cx} {e : Expr} {m : M} {i : Nat}
theorem e_lend (he : PE X e (tE T C false m)) : PE X e (tE T C false (.lend i m)) := pe_imp (pe_lock he) fun σ H Q ⟨Z, g, S, r, p⟩ => by
  have p0 : Pst T Z g H σ (match S.sl[i]? with
    | some (.own xs) => (ev C m ⟨(S.sl.map hideO).set i (.val (.rol xs)), S.hp⟩).bind fun d s' => if d.noR && s'.hp.all HObj.noR then R.ok d ⟨S.sl, s'.hp⟩ else .bad
    | _ => .bad) (fun d S' g' H' => ∀ v, Vl T false Z g' H' σ S' v d → Q v H') := by
    have : ev C (.lend i m) S = (match S.sl[i]? with
    | some (.own xs) => (ev C m ⟨(S.sl.map hideO).set i (.val (.rol xs)), S.hp⟩).bind fun d s' => if d.noR && s'.hp.all HObj.noR then R.ok d ⟨S.sl, s'.hp⟩ else .bad
    | _ => .bad) := by
      first
        | (rw [ev]; done)
        | (rw [ev]; cases S.sl[i]? <;> first | rfl | (rename_i x; cases x <;> rfl))
    rw [← this]; exact p
  cases q : S.sl[i]? with
  | none => rw [q] at p0; exact False.elim p0
  | some x =>
    rw [q] at p0
    cases x with
    | emp => exact False.elim p0
    | val d => exact False.elim p0
    | own xs =>
      have p1 : Pst T Z g H σ ((ev C m ⟨(S.sl.map hideO).set i (.val (.rol xs)), S.hp⟩).bind fun d s' => if d.noR && s'.hp.all HObj.noR then R.ok d ⟨S.sl, s'.hp⟩ else .bad) (fun d S' g' H' => ∀ v, Vl T false Z g' H' σ S' v d → Q v H') := p0
      obtain ⟨l, vs, w1, w2, w3, w4, w5, w6⟩ := r.slot i _ q
      refine ⟨l, .lst vs, w2, trivial, fun od => ?_⟩
      have hi := (List.getElem?_eq_some_iff.mp q).1
      have le : g.le (g.frz l (.frz od (.lst vs))) := Gh.le_frz w4
      have hF1 : (g.frz l (.frz od (.lst vs))).F l = some (.frz od (.lst vs)) := upd_same
      have r1 : Rep T (fun b => (Z b ∨ OwnAt σ S b) ∧ b ≠ l) (g.frz l (.frz od (.lst vs))) (upd H l (.frz od (.lst vs))) σ ⟨(S.sl.map hideO).set i (.val (.rol xs)), S.hp⟩ := by
        have nown : ∀ {j : Nat} {ys : List D}, ((S.sl.map hideO).set i (.val (.rol xs)))[j]? ≠ some (.own ys) := fun {j ys} e => by
          by_cases hj : i = j
          · subst hj
            rw [List.getElem?_set_self (by simpa using hi)] at e
            cases e
          · rw [List.getElem?_set_ne hj, hide_get] at e
            cases k : S.sl[j]? with
            | none => rw [k] at e; cases e
            | some y => rw [k] at e; cases y <;> cases e
        refine ⟨fun b u eb => ?_, by simp [r.len], fun j x e => ?_, fun j k ys zs _ e1 _ => absurd e1 nown, r.hlen, fun n a u e1 e2 => ?_, r.hnd, fun b z => ?_⟩
        · by_cases hb : b = l
          · subst hb
            have eb' : upd g.F b (.frz od (.lst vs)) b = some u := eb
            rw [upd_same] at eb' ⊢; exact eb'
          · have eb' : upd g.F l (.frz od (.lst vs)) b = some u := eb
            rw [upd_ne hb] at eb' ⊢; exact r.fsub b u eb'
        · have e' : ((S.sl.map hideO).set i (.val (.rol xs)))[j]? = some x := e
          by_cases hj : i = j
          · subst hj
            rw [List.getElem?_set_self (by simpa using hi)] at e'
            cases e'
            exact ⟨.ref l, w1, .rol (.inl (.inr ⟨od, hF1⟩)) (DvL.up le _ w3)⟩
          · rw [List.getElem?_set_ne hj, hide_get] at e'
            cases k : S.sl[j]? with
            | none => rw [k] at e'; cases e'
            | some y =>
              rw [k] at e'
              cases y with
              | emp => cases e'; trivial
              | own ys => cases e'; trivial
              | val d =>
                cases e'
                obtain ⟨v, k1, k2⟩ := r.slot j _ k
                exact ⟨v, k1, Dv.up le _ k2⟩
        · obtain ⟨k1, k2⟩ := r.hobj n a u e1 e2
          have na : a ≠ l := fun z => w6 (by rw [← z]; exact List.mem_of_getElem? e1)
          exact ⟨k1.up le (upd_ne na), by show upd g.F l _ a = none; rw [upd_ne na]; exact k2⟩
        · obtain ⟨z, nb⟩ := z
          have h : (∃ o, H b = some o) ∧ b ∉ g.ρ ∧ g.F b = none := by
            rcases z with z | ⟨j, ys, e1, e2⟩
            · exact r.prot b z
            · obtain ⟨l2, vs2, u1, u2, u3, u4, u5, u6⟩ := r.slot j _ e1
              rw [e2] at u1
              cases u1
              exact ⟨⟨_, u2⟩, u6, u4⟩
          obtain ⟨⟨o, h1⟩, h2, h3⟩ := h
          exact ⟨⟨o, by rw [upd_ne nb]; exact h1⟩, h2, by show upd g.F l _ b = none; rw [upd_ne nb]; exact h3⟩
      refine ⟨_, _, _, r1, ?_⟩
      cases hev : ev C m ⟨(S.sl.map hideO).set i (.val (.rol xs)), S.hp⟩ with
      | bad => rw [hev] at p1; exact False.elim p1
      | err c fs s => rw [hev] at p1; exact False.elim p1
      | ok d S2 =>
        rw [hev] at p1
        have p2 : Pst T Z g H σ (if d.noR && S2.hp.all HObj.noR then R.ok d ⟨S.sl, S2.hp⟩ else .bad) (fun d S' g' H' => ∀ v, Vl T false Z g' H' σ S' v d → Q v H') := p1
        split at p2
        · rename_i hn
          rw [Bool.and_eq_true, List.all_eq_true] at hn
          intro g' H' r' l' z' v hv
          have hv' : Dv T g' v d := hv
          have hF : g'.F l = some (.frz od (.lst vs)) := l'.F _ _ hF1
          refine ⟨r'.fsub _ _ hF, ?_⟩
          have leD : g.le (g'.drop l) := ⟨fun b o eb => by
            have nb : b ≠ l := fun z => by rw [z, w4] at eb; cases eb
            show (if b = l then none else g'.F b) = _
            rw [if_neg nb]
            exact l'.F _ _ (by show upd g.F l _ b = _; rw [upd_ne nb]; exact eb), fun n a e => l'.ρ n a e⟩
          have nρ : l ∉ g'.ρ := fun z => by
            obtain ⟨n, e1⟩ := List.mem_iff_getElem?.mp z
            obtain ⟨o, e2⟩ := r'.rin e1
            obtain ⟨_, k⟩ := r'.hobj n l o e1 e2
            rw [hF] at k; cases k
          refine p2 (g'.drop l) (upd H' l (.lst vs)) ⟨fun b o eb => ?_, r.len, fun j x e => ?_, r.apart, r'.hlen, fun n a o e1 e2 => ?_, r'.hnd, fun b z => ?_⟩ leD (fun b z => ?_) v (Dv.unl hF d hn.1 hv')
          · have eb' : (if b = l then none else g'.F b) = some o := eb
            by_cases hb : b = l
            · rw [if_pos hb] at eb'; cases eb'
            · rw [if_neg hb] at eb'
              rw [upd_ne hb]; exact r'.fsub b o eb'
          · have k := r.slot j x e
            cases x with
            | emp => trivial
            | val d => obtain ⟨v, k1, k2⟩ := k; exact ⟨v, k1, Dv.up leD _ k2⟩
            | own ys =>
              obtain ⟨a, vs', k1, k2, k3, k4, k5, k6⟩ := k
              by_cases ha : a = l
              · subst ha
                rw [w2] at k2
                cases k2
                exact ⟨a, vs, k1, upd_same, DvL.up leD _ k3, by show (if a = a then none else g'.F a) = none; rw [if_pos rfl], k5, nρ⟩
              · have za : (Z a ∨ OwnAt σ S a) ∧ a ≠ l := ⟨.inr ⟨j, ys, e, k1⟩, ha⟩
                obtain ⟨_, t2, t3⟩ := r'.prot a za
                have ea := z' a za
                rw [upd_ne ha] at ea
                exact ⟨a, vs', k1, by rw [upd_ne ha, ea]; exact k2, DvL.up leD _ k3, by show (if a = l then none else g'.F a) = none; rw [if_neg ha]; exact t3, k5, t2⟩
          · obtain ⟨k1, k2⟩ := r'.hobj n a o e1 e2
            have na : a ≠ l := fun z => nρ (by rw [← z]; exact List.mem_of_getElem? e1)
            have no := hn.2 o (List.mem_of_getElem? e2)
            refine ⟨?_, by show (if a = l then none else g'.F a) = none; rw [if_neg na]; exact k2⟩
            cases o with
            | dict kvs => obtain ⟨us, u1, u2⟩ := k1; exact ⟨us, by rw [upd_ne na]; exact u1, KvOk.unl hF no u2⟩
            | list ys => obtain ⟨us, u1, u2⟩ := k1; exact ⟨us, by rw [upd_ne na]; exact u1, DvL.unl hF _ no u2⟩
            | inst c fs => exact k1
          · have nb : b ≠ l := fun w => w5 (by rw [← w]; exact z)
            obtain ⟨⟨o, t1⟩, t2, t3⟩ := r'.prot b ⟨.inl z, nb⟩
            exact ⟨⟨o, by rw [upd_ne nb]; exact t1⟩, t2, by show (if b = l then none else g'.F b) = none; rw [if_neg nb]; exact t3⟩
          · have nb : b ≠ l := fun w => w5 (by rw [← w]; exact z)
            rw [upd_ne nb, z' b ⟨.inl z, nb⟩, upd_ne nb]
        · exact False.elim p2
end
end Mi

set_option autoImplicit false
/-! MiE: enumerate of tuples and of texts. -/
namespace Mi
open PySem PySem.Spec L2
open PyProof.Rows (Fr News)

theorem en_new {v : Value} {o : Obj} {Hp' : Heap → Prop} (B : Begins v o Hp') :
    Meets (Builtin.«enumerate.__new__» ⟨[.type "enumerate", v], []⟩) (fun _ R s => Hp' s.heap ∧ R (.ok (.ret (.ref (s.heap.push o).objs.size))) { s with heap := (s.heap.push o).push { cls := .type "enumerate", data := .fields #[.none, .bool false, .ref s.heap.objs.size, rawInt 0, .none, .none] } }) :=
  .of_wp fun pg w A R s h => by
    obtain ⟨hp, g, d, tk, os⟩ := s
    obtain ⟨h1, h⟩ := h
    have sub := sub_enumerate
    have it : ∀ {A' : Around} {E : Value → Shared → Prop} {Q : Value → Shared → Prop}, Q (.ref hp.objs.size) ⟨hp.push o, g, d, tk, os⟩ → wpAny (model pg w) A' (pyIter v) Q E ⟨hp, g, d, tk, os⟩ :=
      fun q => B.iter pg w _ _ ⟨hp, g, d, tk, os⟩ _ h1 q
    wp_walk using it
    refine wpAny_stack_any fun st => wpAny_pure ?_
    split
    · rename_i c _ _ _ _ _
      cases (c == Value.type "enumerate")
      · wp_walk using it
        exact ⟨_, rfl, h⟩
      · wp_walk using it
        exact ⟨_, rfl, h⟩
    · wp_walk using it
      exact ⟨_, rfl, h⟩

theorem en_call {pg : Program} {w : World} {A : Around} {E : Value → Shared → Prop} {s : Shared} {v : Value} {o : Obj} {Hp' : Heap → Prop} {Q : Value → Shared → Prop} (B : Begins v o Hp') (h1 : Hp' s.heap)
    (h : ∀ h', IsEnum h' (s.heap.objs.size + 1) s.heap.objs.size 0 .none → h'.get? s.heap.objs.size = some o → h'.objs.size = s.heap.objs.size + 2 → (∀ b ob, s.heap.get? b = some ob → h'.get? b = some ob) → Q (.ref (s.heap.objs.size + 1)) { s with heap := h' }) :
    wpAny (model pg w) A (call (.type "enumerate") [v]) Q E s := by
  refine callType_new F.called_enumerate (by decide) (F.typeCall_enumerate_1 _) (F.newCall_enumerate_1 _) (fun obj => F.args_object_init_2 obj _) F.entry_enumerate_new (en_new B) ⟨h1, ?_⟩
  have z : (s.heap.push o).objs.size = s.heap.objs.size + 1 := Heap.size_push ..
  show _ ∧ _
  rw [z]
  have he : IsEnum ((s.heap.push o).push { cls := .type "enumerate", data := .fields #[.none, .bool false, .ref s.heap.objs.size, rawInt 0, .none, .none] }) (s.heap.objs.size + 1) s.heap.objs.size 0 .none := by
    have := Heap.get?_push_size (s.heap.push o) (o := { cls := .type "enumerate", data := .fields #[.none, .bool false, .ref s.heap.objs.size, rawInt 0, .none, .none] }) rfl
    rw [z] at this
    exact this
  exact ⟨⟨_, he, rfl⟩, h _ he (Heap.get?_push_of_some _ (Heap.get?_push_size _ B.free)) (by rw [Heap.size_push, z]) fun b ob y => Heap.get?_push_of_some _ (Heap.get?_push_of_some _ y)⟩

/-- the tuple at a, each item in a new pair -/
def IteT (K : PySem.W.Frag) (a : Addr) : It :=
  ⟨fun i H => ∃ (xs : List V) (x : V), SqT K H a xs ∧ xs[i]? = some x, fun i H v H' => ∃ t x, v = .ref t ∧ H t = none ∧ H' = upd H t (.tup [.int (i : Nat), x]) ∧ ∀ xs, SqT K H a xs → xs[i]? = some x, fun i H => ∃ xs : List V, SqT K H a xs ∧ xs.length ≤ i⟩
theorem turn_enT {P : Program} {w : World} {K : PySem.W.Frag} {elts : List Expr} {kk : Nat} {tpos : Pos} (a e it : Addr) :
    Turn P w K (.Tuple elts kk tpos) (IteT K a) [e, it] e (fun i h => (∃ old, IsEnum h e it ((i : Nat) : Int) old) ∧ h.IsTupleIter it a i ∧ e ≠ it ∧ a ≠ e ∧ a ≠ it) where
  mem := by simp
  obj := fun i h st b hb => by
    obtain ⟨⟨old, he⟩, ⟨o, ho, _, hd⟩, _⟩ := st
    have hb' : b = e ∨ b = it := by simpa using hb
    rcases hb' with z | z
    · rw [z]; exact ⟨_, he, fun v q => nomatch q⟩
    · rw [z]; exact ⟨o, ho, fun v q => by rw [hd] at q; cases q⟩
  keep := fun i h h' st k => by
    obtain ⟨⟨old, he⟩, hi, r⟩ := st
    exact ⟨⟨old, k e (by simp) _ he⟩, hi.at fun o q => k it (by simp) o q, r⟩
  item := by
    intro X hP hw hK hc i pins s σ H E I hf st hg
    subst hP hw hK
    obtain ⟨⟨old, he⟩, hit, h1, h2, h3⟩ := st
    obtain ⟨xs, x, hq, hx⟩ := hg
    obtain ⟨its, rv, p, _⟩ := I.tuple hq
    obtain ⟨u, hu, ru⟩ := rv.get hx
    have le : e < s.heap.objs.size := Heap.lt_size he
    have li : it < s.heap.objs.size := by obtain ⟨_, q, _⟩ := hit; exact Heap.lt_size q
    have hlt : i < its.toArray.size := by
      have := (List.getElem?_eq_some_iff.mp hu).1
      simpa using this
    refine wpAny_pyNext_enum_itemD (Draws.tuple (A := X.A.in1) (I.ok.hd hc) it a h3 its.toArray) he ⟨hit, p⟩ hlt h1 (by simp; exact ⟨h1, fun z => h2 z.symm⟩) fun y h' tk hy ho hst hT hsz hk => ?_
    have hy' : y = u := by
      have : its.toArray[i]? = some u := by simpa using hu
      rw [this] at hy
      exact (Option.some.inj hy).symm
    subst hy'
    refine ⟨_, rfl, wpAny_letOwnedTupleGo_enum (s := { s with heap := h', toks := tk + 1 }) ho fun h'' he' sb => ?_⟩
    have t2 : h''.get? s.heap.objs.size = some { cls := .type "tuple", data := .seq #[.int i tk, y] } := (sb.2 _ (Nat.ne_of_gt le)).trans hT
    have new : ObjOk X.prog X.w (upd H s.heap.objs.size (.tup [.int (i : Nat), x])) h'' s.heap.objs.size (.tup [.int (i : Nat), x]) :=
      ⟨by show 2 ≤ sizeLine; decide, [.int i tk, y], .cons ⟨_, rfl⟩ (.cons ru .nil), ⟨_, t2, rfl, _, rfl⟩⟩
    have I1 : L2.Inv X pins σ (upd H s.heap.objs.size (.tup [.int (i : Nat), x])) { s with heap := h'', toks := tk + 1 } :=
      I.turnedNew (ch := [e, it]) (fun b ob hb q => (sb.2 b (fun z => hb (by simp [z]))).trans (hk b ob (fun z => hb (by simp [z])) (fun z => hb (by simp [z])) q)) hf (Nat.le_refl _) new
    refine ⟨.ref s.heap.objs.size, _, I1, rfl, ⟨_, x, rfl, I.hok.fresh (Nat.le_refl _), rfl, fun ys hy => by rw [I.tuple_inj hy hq]; exact hx⟩, ⟨⟨y, ?_⟩, hst.1.at fun o q => (sb.2 it (Ne.symm h1)).trans q, h1, h2, h3⟩, fun b hb => ?_⟩
    · have e1 : ((i + 1 : Nat) : Int) = (i : Int) + 1 := by omega
      rw [e1]; exact he'
    · have lb : b < s.heap.objs.size := by
        have z : b = e ∨ b = it := by simpa using hb
        rcases z with z | z
        · rw [z]; exact le
        · rw [z]; exact li
      rw [upd_ne (Nat.ne_of_lt lb)]
      exact (hf b hb).1
  done := by
    intro X hP hw hK hc i pins s σ H E I hf st hg
    subst hP hw hK
    obtain ⟨⟨old, he⟩, hit, h1, h2, h3⟩ := st
    obtain ⟨xs, hq, hx⟩ := hg
    obtain ⟨its, rv, p, _⟩ := I.tuple hq
    obtain ⟨f0, f1, f2, f3, f4, f5⟩ := hf it (by simp)
    have none_ : its.toArray[i]? = none := Array.getElem?_eq_none (by rw [List.size_toArray, ← rv.length]; exact hx)
    have ty : s.TypeIs (.ref e) "enumerate" := ⟨_, he, rfl⟩
    unfold pyNext
    refine wpAny_bind (wpAny_attempt (wpAny_callSpecial?_slot (name := Str.ofString "__next__") ty F.slot_enumerate_next (wpAny_call_entry F.slot_enumerate_next ty F.entry_enumerate_next ?_ (F.args_enumerate_next_1 _))))
    show wpAny _ _ (field (.ref e) 2 >>= _) _ _ _
    refine wpAny_bind (wpAny_field he rfl (x := .ref it) rfl (wpAny_bind (wpAny_nextOf_tuple_end (A := X.A.in1) (I.ok.hd hc) hit p none_ fun h' x ext hx' => ?_)))
    obtain ⟨o, ho, ho2⟩ := hx'
    refine wpAny_bind (wpAny_isInstance (T := "StopIteration") (b := true) ⟨o, ho, ho2⟩ isSubtype_stop ?_)
    exact wpAny_pure ⟨rfl, I.turned (t' := s.toks) (fun b ob hb q => ext b ob hb q) f0 f1 f3 f4 f5⟩
  self := fun A i s Q E st h => by
    obtain ⟨⟨old, he⟩, _⟩ := st
    exact wpAny_pyIter_enum he h

/-- the text x, each sign in a new pair -/
def IteS (x : Str) : It :=
  ⟨fun i _ => i < x.cps.size, fun i H v H' => ∃ t c, v = .ref t ∧ H t = none ∧ H' = upd H t (.tup [.int (i : Nat), .str ⟨#[c]⟩]) ∧ x.cps[i]? = some c, fun i _ => x.cps.size ≤ i⟩
theorem turn_enS {P : Program} {w : World} {K : PySem.W.Frag} {elts : List Expr} {kk : Nat} {tpos : Pos} (x : Str) (tx : Tok) (e it : Addr) :
    Turn P w K (.Tuple elts kk tpos) (IteS x) [e, it] e (fun i h => (∃ old, IsEnum h e it ((i : Nat) : Int) old) ∧ h.IsStrIter it (strIterType x) x tx i ∧ e ≠ it ∧ i ≤ x.cps.size) where
  mem := by simp
  obj := fun i h st b hb => by
    obtain ⟨⟨old, he⟩, ⟨o, ho, _, hd⟩, _⟩ := st
    have hb' : b = e ∨ b = it := by simpa using hb
    rcases hb' with z | z
    · rw [z]; exact ⟨_, he, fun v q => nomatch q⟩
    · rw [z]; exact ⟨o, ho, fun v q => by rw [hd] at q; cases q⟩
  keep := fun i h h' st k => by
    obtain ⟨⟨old, he⟩, hi, r⟩ := st
    exact ⟨⟨old, k e (by simp) _ he⟩, let ⟨o, h1, h2⟩ := hi; ⟨o, k it (by simp) o h1, h2⟩, r⟩
  item := by
    intro X hP hw hK hc i pins s σ H E I hf st hg
    subst hP hw hK
    obtain ⟨⟨old, he⟩, hit, h1, h2⟩ := st
    have hlt : i < x.cps.size := hg
    have le : e < s.heap.objs.size := Heap.lt_size he
    have li : it < s.heap.objs.size := by obtain ⟨_, q, _⟩ := hit; exact Heap.lt_size q
    refine wpAny_pyNext_enum_itemD (Draws.text (A := X.A.in1) (I.ok.hd hc) it x tx) he hit hlt h1 (by simp; exact h1) fun y h' tk hy ho hst hT hsz hk => ?_
    obtain ⟨ch, u, hch, rfl⟩ := hy
    refine ⟨_, rfl, wpAny_letOwnedTupleGo_enum (s := { s with heap := h', toks := tk + 1 }) ho fun h'' he' sb => ?_⟩
    have t2 : h''.get? s.heap.objs.size = some { cls := .type "tuple", data := .seq #[.int i tk, .str ⟨#[ch]⟩ u] } := (sb.2 _ (Nat.ne_of_gt le)).trans hT
    have new : ObjOk X.prog X.w (upd H s.heap.objs.size (.tup [.int (i : Nat), .str ⟨#[ch]⟩])) h'' s.heap.objs.size (.tup [.int (i : Nat), .str ⟨#[ch]⟩]) :=
      ⟨by show 2 ≤ sizeLine; decide, [.int i tk, .str ⟨#[ch]⟩ u], .cons ⟨_, rfl⟩ (.cons ⟨_, rfl⟩ .nil), ⟨_, t2, rfl, _, rfl⟩⟩
    have I1 : L2.Inv X pins σ (upd H s.heap.objs.size (.tup [.int (i : Nat), .str ⟨#[ch]⟩])) { s with heap := h'', toks := tk + 1 } :=
      I.turnedNew (ch := [e, it]) (fun b ob hb q => (sb.2 b (fun z => hb (by simp [z]))).trans (hk b ob (fun z => hb (by simp [z])) (fun z => hb (by simp [z])) q)) hf (Nat.le_refl _) new
    refine ⟨.ref s.heap.objs.size, _, I1, rfl, ⟨_, ch, rfl, I.hok.fresh (Nat.le_refl _), rfl, hch⟩, ⟨⟨.str ⟨#[ch]⟩ u, ?_⟩, (let ⟨o, h3, h4⟩ := hst; ⟨o, (sb.2 it (Ne.symm h1)).trans h3, h4⟩), h1, hlt⟩, fun b hb => ?_⟩
    · have e1 : ((i + 1 : Nat) : Int) = (i : Int) + 1 := by omega
      rw [e1]; exact he'
    · have lb : b < s.heap.objs.size := by
        have z : b = e ∨ b = it := by simpa using hb
        rcases z with z | z
        · rw [z]; exact le
        · rw [z]; exact li
      rw [upd_ne (Nat.ne_of_lt lb)]
      exact (hf b hb).1
  done := by
    intro X hP hw hK hc i pins s σ H E I hf st hg
    subst hP hw hK
    obtain ⟨⟨old, he⟩, hit, h1, h2⟩ := st
    have hge : x.cps.size ≤ i := hg
    have ei : i = x.cps.size := by omega
    subst ei
    obtain ⟨f0, f1, f2, f3, f4, f5⟩ := hf it (by simp)
    exact wpAny_pyNext_enum_endD (Draws.text (A := X.A.in1) (I.ok.hd hc) it x tx) he hit fun h' ext => ⟨rfl, I.turned (t' := s.toks) (fun b ob hb q => ext b ob hb q) f0 f1 f3 f4 f5⟩
  self := fun A i s Q E st h => by
    obtain ⟨⟨old, he⟩, _⟩ := st
    exact wpAny_pyIter_enum he h

section
variable {T : Tb} {C : Cn} {X : Cx} {e : Expr} {m : M} {p pos tpos : Pos} {elts : List Expr} {kk : Nat}
def iEnT (K : PySem.W.Frag) (ta : TA) : TI := fun σ H R => ta σ H fun vs H1 => ∃ a xs, vs = [.ref a] ∧ SqT K H1 a xs ∧ R (IteT K a) H1
theorem pi_enT {ta : TA} (hg : Gl X "enumerate") (hm : X.mg "enumerate" = none) (ha : PA X [e] ta) (hs : starEach [e] X.env = [(false, eval e X.env)]) : PI X (.Tuple elts kk tpos) (.Call (.Name "enumerate" p) [e] [] pos) (iEnT X.K ta) := by
  refine ⟨fun pins s σ H R I h => ?_⟩
  refine PyProof.Rows.Call_ (ld_blt I hg hm PyProof.Rows.boot_enumerate (PyProof.Rows.callWith_type1 (thn (ha.run pos pins s σ H _ I h) fun us s1 ⟨vs, H1, I1, r1, a, xs, ex, hq, q⟩ => ?_) hs rfl))
  subst ex
  cases r1 with
  | cons r rr =>
    cases rr
    cases r
    obtain ⟨its, rv, p', hz⟩ := I1.tuple hq
    refine en_call (begins_tuple a its.toArray) p' fun h' he hit hsz hk => wpAny_pyIter_enum he ?_
    have I2 : L2.Inv X pins σ H1 { s1 with heap := h' } := I1.kept (t' := s1.toks) hk
    have la : a < s1.heap.objs.size := by
      obtain ⟨o, ho, _⟩ := p'
      exact Heap.lt_size ho
    refine ⟨s1.heap.objs.size + 1, [s1.heap.objs.size + 1, s1.heap.objs.size], _, _, H1, rfl, I2, turn_enT a (s1.heap.objs.size + 1) s1.heap.objs.size, ⟨⟨.none, he⟩, ⟨_, hit, rfl, rfl⟩, Nat.succ_ne_self _, Nat.ne_of_lt (Nat.lt_succ_of_lt la), Nat.ne_of_lt la⟩, fun b hb => ?_, q⟩
    have z : b = s1.heap.objs.size + 1 ∨ b = s1.heap.objs.size := by simpa using hb
    have hle : s1.heap.objs.size ≤ b := by
      rcases z with z | z
      · rw [z]; exact Nat.le_succ _
      · rw [z]; exact Nat.le_refl _
    exact I1.fpOk hle (I1.hok.fresh hle)
def iEnS (ta : TA) : TI := fun σ H R => ta σ H fun vs H1 => ∃ x, vs = [.str x] ∧ R (IteS x) H1
theorem pi_enS {ta : TA} (hg : Gl X "enumerate") (hm : X.mg "enumerate" = none) (ha : PA X [e] ta) (hs : starEach [e] X.env = [(false, eval e X.env)]) : PI X (.Tuple elts kk tpos) (.Call (.Name "enumerate" p) [e] [] pos) (iEnS ta) := by
  refine ⟨fun pins s σ H R I h => ?_⟩
  refine PyProof.Rows.Call_ (ld_blt I hg hm PyProof.Rows.boot_enumerate (PyProof.Rows.callWith_type1 (thn (ha.run pos pins s σ H _ I h) fun us s1 ⟨vs, H1, I1, r1, x, ex, q⟩ => ?_) hs rfl))
  subst ex
  cases r1 with
  | cons r rr =>
    cases rr
    obtain ⟨tx, rfl⟩ := r
    refine en_call (begins_text x tx) True.intro fun h' he hit hsz hk => wpAny_pyIter_enum he ?_
    have I2 : L2.Inv X pins σ H1 { s1 with heap := h' } := I1.kept (t' := s1.toks) hk
    refine ⟨s1.heap.objs.size + 1, [s1.heap.objs.size + 1, s1.heap.objs.size], _, _, H1, rfl, I2, turn_enS x tx (s1.heap.objs.size + 1) s1.heap.objs.size, ⟨⟨.none, he⟩, ⟨_, hit, rfl, rfl⟩, Nat.succ_ne_self _, Nat.zero_le _⟩, fun b hb => ?_, q⟩
    have z : b = s1.heap.objs.size + 1 ∨ b = s1.heap.objs.size := by simpa using hb
    have hle : s1.heap.objs.size ≤ b := by
      rcases z with z | z
      · rw [z]; exact Nat.le_succ _
      · rw [z]; exact Nat.le_refl _
    exact I1.fpOk hle (I1.hok.fresh hle)
theorem enum_get : ∀ (ds : List D) (k i : Nat), (enumL k ds)[i]? = (ds[i]?).map fun d => .tup [.int ((k + i : Nat) : Int), d]
  | [], k, i => by simp [enumL]
  | d :: ds, k, 0 => by simp [enumL]
  | d :: ds, k, i + 1 => by
    simp only [enumL, List.getElem?_cons_succ, enum_get ds (k + 1) i]
    congr 1
    funext d
    congr 3
    omega
theorem enum_len : ∀ (ds : List D) (k : Nat), (enumL k ds).length = ds.length
  | [], k => rfl
  | d :: ds, k => by simp [enumL, enum_len ds (k + 1)]
theorem wk_enT {g : Gh} {a : Addr} {vs : List V} {ds : List D} (h : SqT T.K g.F a vs) (hv : DvL T g vs ds) : Wk T g (IteT T.K a) (enumL 0 ds) := by
  intro g1 H1 l fs i
  have hq : SqT T.K H1 a vs := SqT.up (fun b o e => fs b o (l.F b o e)) h
  refine ⟨fun d hd => ?_, fun hl => ⟨vs, hq, by rw [hv.length, ← enum_len ds 0]; exact hl⟩⟩
  rw [enum_get, Nat.zero_add] at hd
  cases q : ds[i]? with
  | none => rw [q] at hd; cases hd
  | some e =>
    rw [q] at hd
    cases hd
    obtain ⟨v, e1, e2⟩ := hv.get i e q
    refine ⟨⟨vs, v, hq, e1⟩, fun x H2 ⟨t, x', hx, ht, hH, hk⟩ => ?_⟩
    subst hx hH
    have := hk vs hq
    rw [e1] at this
    cases this
    exact .tup ht (.cons (.int _) (.cons (e2.up l) .nil))
theorem wk_enS {g : Gh} {x : Str} (hx : PyData.strOk x = true) : Wk T g (IteS x) (enumL 0 (x.cps.toList.map fun c => .str ⟨#[c]⟩)) := by
  intro g1 H1 l fs i
  refine ⟨fun d hd => ?_, fun hl => show x.cps.size ≤ i by rw [enum_len] at hl; simpa using hl⟩
  rw [enum_get, Nat.zero_add, List.getElem?_map] at hd
  cases q : x.cps.toList[i]? with
  | none => rw [q] at hd; cases hd
  | some c =>
    rw [q] at hd
    cases hd
    have hi : i < x.cps.size := by simpa using (List.getElem?_eq_some_iff.mp q).1
    refine ⟨hi, fun y H2 ⟨t, c', e0, ht, hH, e1⟩ => ?_⟩
    subst e0 hH
    have ec : x.cps[i]? = some c := by simpa using q
    rw [ec] at e1
    cases e1
    have hk : c < 0x110000 := strOk_list hx c (List.mem_of_getElem? q)
    exact .tup ht (.cons (.int _) (.cons (.str ⟨#[c]⟩ (show (1 : Nat) ≤ lim by decide) (by unfold PyData.strOk; simpa using hk)) .nil))
/-- enumerate of a list, a tuple, a text -/
theorem i_enumA (hK : X.K = T.K) (hg : Gl X "enumerate") (hm : X.mg "enumerate" = none) (he : PE X e (tE T C false m)) (hs : starEach [e] X.env = [(false, eval e X.env)]) :
    PI X (.Tuple elts kk tpos) (.Call (.Name "enumerate" p) [e] [] pos) (tI T C (.sEnum m)) := ⟨fun pins s σ H Rr I ⟨Z, g, S, r, q⟩ => by
  have p' : Pst T Z g H σ ((ev C m S).bind fun d s => match d.items with
      | some xs => R.ok (enumL 0 xs) s
      | none => .bad) (fun ds S' g' H' => ∀ J, Wk T g' J ds → Rr J H') := q
  have args : PA X [e] (tCons (tE T C false m) tNil) := pa_cons he pa_nil (by rw [hs]; rfl)
  cases hev : ev C m S with
  | err _ _ _ => rw [hev] at p'; exact False.elim p'
  | bad => rw [hev] at p'; exact False.elim p'
  | ok d S1 =>
    rw [hev] at p'
    cases d with
    | tup ds =>
      refine (pi_enT hg hm args hs).run pins s σ H Rr I ⟨Z, g, S, r, ?_⟩
      rw [hev]
      intro g1 H1 r1 l1 z1 v hv
      have hv' : Dv T g1 v (.tup ds) := hv
      cases hv' with
      | tup a b => exact ⟨_, _, rfl, by rw [hK]; exact SqT.up r1.fsub a, p' g1 H1 r1 l1 z1 _ (by rw [hK]; exact wk_enT a b)⟩
    | lst ds =>
      refine (pi_enum hg hm args hs).run pins s σ H Rr I ⟨Z, g, S, r, ?_⟩
      rw [hev]
      intro g1 H1 r1 l1 z1 v hv
      have hv' : Dv T g1 v (.lst ds) := hv
      cases hv' with
      | lst a b => exact ⟨_, _, rfl, .inl (.inl (r1.fsub _ _ a)), p' g1 H1 r1 l1 z1 _ (by rw [hK]; exact wk_enum (.inl (.inl a)) b)⟩
    | rol ds =>
      refine (pi_enum hg hm args hs).run pins s σ H Rr I ⟨Z, g, S, r, ?_⟩
      rw [hev]
      intro g1 H1 r1 l1 z1 v hv
      have hv' : Dv T g1 v (.rol ds) := hv
      cases hv' with
      | rol a b => exact ⟨_, _, rfl, by rw [hK]; exact SqL.up r1.fsub a, p' g1 H1 r1 l1 z1 _ (by rw [hK]; exact wk_enum a b)⟩
    | str x =>
      refine (pi_enS hg hm args hs).run pins s σ H Rr I ⟨Z, g, S, r, ?_⟩
      rw [hev]
      intro g1 H1 r1 l1 z1 v hv
      have hv' : Dv T g1 v (.str x) := hv
      cases hv' with
      | str _ a b =>
        have hI : D.items (.str x) = some (x.cps.toList.map fun c => .str ⟨#[c]⟩) := if_pos a
        have p2 : Pst T Z g H σ (match D.items (.str x) with
          | some xs => R.ok (enumL 0 xs) S1
          | none => .bad) (fun ds S' g' H' => ∀ J, Wk T g' J ds → Rr J H') := p'
        rw [hI] at p2
        exact ⟨x, rfl, p2 g1 H1 r1 l1 z1 _ (wk_enS b)⟩
    | _ => exact False.elim p'⟩
end
end Mi

set_option autoImplicit false
/-! MiS: len(set(texts)). -/
namespace Mi
open PySem PySem.Spec L2
open PyProof.Rows (Fr News StrsAre)

theorem unl_snoc (x : Str) : ∀ (l seen : List Str), unlikeL seen (l ++ [x]) = unlikeL seen l + (if (seen ++ l).any (· == x) then 0 else 1)
  | [], seen => by simp [unlikeL]
  | y :: l, seen => by
    show (if seen.any (· == y) then 0 else 1) + unlikeL (seen ++ [y]) (l ++ [x]) = ((if seen.any (· == y) then 0 else 1) + unlikeL (seen ++ [y]) l) + _
    rw [unl_snoc x l (seen ++ [y])]
    have e : seen ++ [y] ++ l = seen ++ y :: l := by simp
    rw [e]
    omega
theorem unl_take (xs : List Str) (i : Nat) (h : i < xs.length) : unlikeL [] (xs.take (i + 1)) = unlikeL [] (xs.take i) + (if (xs.take i).any (· == xs.getD i Str.empty) then 0 else 1) := by
  have e : xs.take (i + 1) = xs.take i ++ [xs.getD i Str.empty] := by
    rw [List.take_add_one, List.getD_eq_getElem?_getD, List.getElem?_eq_getElem h]
    rfl
  rw [e, unl_snoc]
  rfl
theorem unl_le : ∀ (l seen : List Str), unlikeL seen l ≤ l.length
  | [], _ => Nat.le_refl _
  | y :: l, seen => by
    have := unl_le l (seen ++ [y])
    show (if seen.any (· == y) then 0 else 1) + unlikeL (seen ++ [y]) l ≤ l.length + 1
    split <;> omega
section
variable {pg : Program} {w : World} {A : Around} {R : Result → Shared → Prop} {I : Addr} {fp wr : List Addr} {G : Array GenState → Array GenState → Prop} {n : Nat} {P : Nat → Value → Prop} {St : Nat → Shared → Prop}
/-- the loop that puts the texts in -/
theorem loopU (W : WalksS pg w A.in1 I fp wr G n P St) (S : Addr) (nf : S ∉ fp) (xs : List Str) (hz : xs.length = n) (room : n + 1 < scanBound) (hv : ∀ i v, P i v → ∃ t, v = .str (xs.getD i Str.empty) t) :
    ∀ (k i : Nat) (s : Shared), n - i = k → i ≤ n → St i s → s.heap.SetOf (PySem.strKind pg w) S (fun y => (xs.take i).any (· == y)) (unlikeL [] (xs.take i)) →
      (∀ s', Moved (S :: wr) G s s' → s'.heap.SetOf (PySem.strKind pg w) S (fun y => (xs.take n).any (· == y)) (unlikeL [] (xs.take n)) → R (.ok (.ret .none)) s') →
      codeAny (model pg w) A (.builtin "set.update.loop" ⟨[.ref S, .ref I], []⟩) R s := by
  have nw : S ∉ wr := fun z => nf (W.sub _ z)
  have sub : ∀ b ∈ wr, b ∈ S :: wr := fun b z => .tail _ z
  intro k
  induction k with
  | zero =>
    intro i s hk hi st hS fin
    obtain rfl : i = n := by omega
    refine codeAny_builtin PyProof.Rows.F.entry_set_update_loop (by
      rw [Around.under_plainId PyProof.Rows.F.plain_set_update_loop _]
      show wpAny _ A.in1 (pyNext (.ref I) >>= _) _ _ s
      refine wpAny_bind (W.done s _ _ st fun s' mv => wpAny_pure (fin s' (mv.mono sub) ?_))
      obtain ⟨o, es, ep, tb, ho, more⟩ := hS
      exact ⟨o, es, ep, tb, mv.heap S _ nw ho, more⟩)
  | succ k ih =>
    intro i s hk hi st hS fin
    have lt : i < n := by omega
    refine codeAny_builtin PyProof.Rows.F.entry_set_update_loop (by
      rw [Around.under_plainId PyProof.Rows.F.plain_set_update_loop _]
      show wpAny _ A.in1 (pyNext (.ref I) >>= _) _ _ s
      refine wpAny_bind (W.item i s _ _ lt st fun v s' hp st' mv => ?_)
      obtain ⟨t, rfl⟩ := hv i v hp
      have hS' : s'.heap.SetOf (PySem.strKind pg w) S (fun y => (xs.take i).any (· == y)) (unlikeL [] (xs.take i)) := by
        obtain ⟨o, es, ep, tb, ho, more⟩ := hS
        exact ⟨o, es, ep, tb, mv.heap S _ nw ho, more⟩
      show wpAny _ A.in1 (holding [Value.str (xs.getD i Str.empty) t] (setAdd S (.str (xs.getD i Str.empty) t)) >>= _) _ _ s'
      refine wpAny_bind (wpAny_holding ?_)
      unfold setAdd
      have few : unlikeL [] (xs.take i) + 1 < scanBound := by
        have q := unl_le (xs.take i) []
        rw [List.length_take] at q
        omega
      refine wpAny_holding (wpAny_bind ((PySem.strKind pg w).pyHash (k := xs.getD i Str.empty) (strKind_is _ _ _ _) (wpAny_setAddHashed_of (knd := PySem.strKind pg w) (s := { s' with toks := s'.toks + 1 }) (strKind_is _ _ _ _) rfl hS' few fun h' same hS2 => ?_)))
      have next : h'.SetOf (PySem.strKind pg w) S (fun y => (xs.take (i + 1)).any (· == y)) (unlikeL [] (xs.take (i + 1))) := by
        have lx : i < xs.length := by omega
        have tk : xs.take (i + 1) = xs.take i ++ [xs.getD i Str.empty] := by
          rw [List.take_add_one, List.getD_eq_getElem?_getD, List.getElem?_eq_getElem lx]
          rfl
        refine PyProof.Rows.SetOf_congr hS2 (fun y => ?_) ?_
        · rw [tk, List.any_append]
          congr 1
          show decide (y = _) = ([_].any (· == y))
          simp only [List.any_cons, List.any_nil, Bool.or_false]
          by_cases e : y = xs.getD i Str.empty
          · rw [e]; simp
          · have e' : ¬ xs.getD i Str.empty = y := fun z => e z.symm
            rw [decide_eq_false e]
            exact (beq_eq_false_iff_ne.mpr e').symm
        · rw [unl_take xs i lx]
          split <;> omega
      refine wpAny_pure ⟨plainId_quiet PyProof.Rows.F.plain_set_update_loop _, ih (i + 1) _ (by omega) lt (W.frame _ s' _ _ st' (Nat.le_succ _) fun b hb o e => (same.2 b fun z => nf (by rw [← z]; exact hb)).trans e) next fun s2 mv2 hS3 => ?_⟩
      refine fin s2 (Moved.trans W.gtrans ((mv.mono sub).then_heap (Nat.le_succ _) fun b o hb e => (same.2 b fun z => hb (by rw [z]; exact List.mem_cons_self)).trans e) mv2) hS3)
end
-- GEN

theorem setU_l {pg : Program} {w : World} {A : Around} {E : Value → Shared → Prop} {s : Shared} {p : Addr} {us : Array Value} {ts : List Str} {Q : Value → Shared → Prop} (calm : A.handled = none) (at_ : s.heap.IsList p us) (tx : StrsAre us.toList ts) (room : us.size + 1 < scanBound)
    (go : ∀ (h : Heap) (t : Nat), h.SetOf (PySem.strKind pg w) s.heap.objs.size (fun y => (ts.take us.size).any (· == y)) (unlikeL [] (ts.take us.size)) → (∀ b o, b < s.heap.objs.size → s.heap.get? b = some o → h.get? b = some o) → Q (.ref s.heap.objs.size) { s with heap := h, toks := t }) :
    wpAny (model pg w) A (call (.type "set") [.ref p]) Q E s := by
  obtain ⟨c1, tl1, f0⟩ := PySem.F.called_set.mro
  have f1 := PySem.F.called_set.made; have f2 := PySem.F.called_set.sub; have f3 := PySem.F.called_set.notType; have f4 := PySem.F.called_set.canCreate; have f5 := PySem.F.typeCall_set_1 (.ref p)
  refine wpAny_call (codeAny_of_tree (by
    show wpAny _ _ (callAny (.type "set") _) _ _ _
    refine wpAny_pure ⟨Code.quiet_builtin _ (by decide +kernel), codeAny_builtin PySem.F.entry_type_call (by
      rw [Around.under_plain (weight_type_call_type "set" [.ref p] []) rfl]
      repeat (any_goals first | assumption | wp_step)
      refine codeAny_mono (code_set_new_1 (.ref p) (E := E) (Q₁ := fun v z => ∃ g : Bool, v = .ref s.heap.objs.size ∧ z = { s with heap := s.heap.push { cls := .type "set", dict := none, data := .set #[] 0 (.fresh 0 0 g) } }) fun g => ⟨g, rfl, rfl⟩) fun r z hz => ?_
      cases r with
      | error e => exact hz
      | ok fl => _
      cases fl <;> first | exact hz.elim | skip
      obtain ⟨g, rfl, rfl⟩ := hz
      have born : (s.heap.push { cls := .type "set", dict := none, data := .set #[] 0 (.fresh 0 0 g) }).get? s.heap.objs.size = some { cls := .type "set", dict := none, data := .set #[] 0 (.fresh 0 0 g) } := Heap.get?_push_size _ rfl
      have isS : Shared.TypeIs { s with heap := s.heap.push { cls := .type "set", dict := none, data := .set #[] 0 (.fresh 0 0 g) } } (.ref s.heap.objs.size) "set" := ⟨_, born, rfl⟩
      have f6 := PySem.F.called_set.init.lookup; have f7 := PySem.F.called_set.init.bind (.ref s.heap.objs.size)
      repeat (any_goals first | assumption | wp_step)
      refine codeAny_mono (codeAny_call_builtin (R := wants (fun r z => r = .none ∧ ∃ h t, z = { s with heap := h, toks := t } ∧ h.SetOf (PySem.strKind pg w) s.heap.objs.size (fun y => (ts.take us.size).any (· == y)) (unlikeL [] (ts.take us.size)) ∧ (∀ b o, b < s.heap.objs.size → s.heap.get? b = some o → h.get? b = some o)) E) PySem.F.called_set.init.plain PySem.F.entry_set_init (check_set_init_1 isS (by
        obtain ⟨⟨oc, od, odt, osl⟩, at1, oc1, nl, od1⟩ := at_
        simp only at oc1 od1
        subst oc1; subst od1
        have at2 : (s.heap.push { cls := .type "set", dict := none, data := .set #[] 0 (.fresh 0 0 g) }).get? p = some { cls := .type "list", dict := od, data := .seq us nl, slots := osl } := Heap.get?_push_of_some _ at1
        have g1 := PySem.F.sub_list_set; have g2 := PySem.F.sub_list_frozenset
        have g3 : (Value.type "list" == Value.type "dict") = false := by decide
        have at3 : (s.heap.push { cls := .type "set", dict := none, data := .set #[] 0 (.fresh 0 0 g) }).IsList p us := ⟨_, at2, rfl, nl, rfl⟩
        unfold Builtin.«set.__init__» noKeywords Builtin.Frozenset.updateFrom
        generalize it : pyIter = pit
        wp_walk
        subst it
        have lt : p < s.heap.objs.size := Heap.lt_size at1
        have ne1 : p ≠ (s.heap.push { cls := .type "set", dict := none, data := .set #[] 0 (.fresh 0 0 g) }).objs.size := by rw [Heap.size_push]; exact Nat.ne_of_lt (Nat.lt.step lt)
        have nf : s.heap.objs.size ∉ [(s.heap.push { cls := .type "set", dict := none, data := .set #[] 0 (.fresh 0 0 g) }).objs.size, p] := by
          rw [Heap.size_push]
          exact fun z => (List.mem_cons.mp z).elim (fun z => Nat.ne_of_lt (Nat.lt_succ_self _) z) fun z => Nat.ne_of_lt lt (List.mem_singleton.mp z).symm
        have len : ts.length = us.size := by rw [← PyProof.Rows.StrsAre.len_eq tx, Array.length_toList]
        refine wpAny_pyIter_list at3 (wpAny_bind (wpAny_runValue (loopU ((Walks.list (A := A.in1.in1.in1) (by simp [calm]) _ p ne1 us).toS) s.heap.objs.size nf ts len room (fun i v hv => SS.strs_at tx i v (by rw [Array.getElem?_toList]; exact hv)) us.size 0 _ (by omega) (Nat.zero_le _) ⟨⟨_, Heap.get?_push_size _ rfl, rfl, rfl⟩, at3.push _⟩ ?b0 ?b1)))
        case b0 =>
          exact PyProof.Rows.SetOf_congr ((PyProof.Rows.setObjOf_fresh (knd := PySem.strKind pg w) g).setOf (Heap.get?_push_of_some _ born) (by unfold scanBound; omega)) (fun _ => rfl) rfl
        case b1 =>
          rintro ⟨h1, g1, d1, t1, o1⟩ mv set1
          obtain rfl : g1 = s.gens := mv.gens
          obtain rfl : d1 = s.drawn := mv.drawn
          obtain rfl : o1 = s.os := mv.os
          show wpAny _ _ _ _ _ _
          refine wpAny_pure ?_
          show wpAny _ _ (ret Value.none) _ _ _
          refine wpAny_pure ⟨rfl, h1, t1, rfl, set1, fun b o hb e => mv.heap b o (fun z => (List.mem_cons.mp z).elim (fun z => Nat.ne_of_lt hb z) fun z => Nat.ne_of_lt (Nat.lt.step hb) ((List.mem_singleton.mp z).trans (Heap.size_push _ _))) (Heap.get?_push_of_some _ (Heap.get?_push_of_some _ e))⟩))) fun r2 z2 hz2 => ?_
      cases r2 with
      | error e => exact hz2
      | ok fl2 => _
      cases fl2 <;> first | exact hz2.elim | skip
      obtain ⟨rfl, h3, t3, rfl, set3, keep⟩ := hz2
      repeat (any_goals first | assumption | wp_step)
      exact go _ _ set3 keep)⟩))

theorem setU_t {pg : Program} {w : World} {A : Around} {E : Value → Shared → Prop} {s : Shared} {p : Addr} {us : Array Value} {ts : List Str} {Q : Value → Shared → Prop} (calm : A.handled = none) (at_ : s.heap.IsTuple p us) (tx : StrsAre us.toList ts) (room : us.size + 1 < scanBound)
    (go : ∀ (h : Heap) (t : Nat), h.SetOf (PySem.strKind pg w) s.heap.objs.size (fun y => (ts.take us.size).any (· == y)) (unlikeL [] (ts.take us.size)) → (∀ b o, b < s.heap.objs.size → s.heap.get? b = some o → h.get? b = some o) → Q (.ref s.heap.objs.size) { s with heap := h, toks := t }) :
    wpAny (model pg w) A (call (.type "set") [.ref p]) Q E s := by
  obtain ⟨c1, tl1, f0⟩ := PySem.F.called_set.mro
  have f1 := PySem.F.called_set.made; have f2 := PySem.F.called_set.sub; have f3 := PySem.F.called_set.notType; have f4 := PySem.F.called_set.canCreate; have f5 := PySem.F.typeCall_set_1 (.ref p)
  refine wpAny_call (codeAny_of_tree (by
    show wpAny _ _ (callAny (.type "set") _) _ _ _
    refine wpAny_pure ⟨Code.quiet_builtin _ (by decide +kernel), codeAny_builtin PySem.F.entry_type_call (by
      rw [Around.under_plain (weight_type_call_type "set" [.ref p] []) rfl]
      repeat (any_goals first | assumption | wp_step)
      refine codeAny_mono (code_set_new_1 (.ref p) (E := E) (Q₁ := fun v z => ∃ g : Bool, v = .ref s.heap.objs.size ∧ z = { s with heap := s.heap.push { cls := .type "set", dict := none, data := .set #[] 0 (.fresh 0 0 g) } }) fun g => ⟨g, rfl, rfl⟩) fun r z hz => ?_
      cases r with
      | error e => exact hz
      | ok fl => _
      cases fl <;> first | exact hz.elim | skip
      obtain ⟨g, rfl, rfl⟩ := hz
      have born : (s.heap.push { cls := .type "set", dict := none, data := .set #[] 0 (.fresh 0 0 g) }).get? s.heap.objs.size = some { cls := .type "set", dict := none, data := .set #[] 0 (.fresh 0 0 g) } := Heap.get?_push_size _ rfl
      have isS : Shared.TypeIs { s with heap := s.heap.push { cls := .type "set", dict := none, data := .set #[] 0 (.fresh 0 0 g) } } (.ref s.heap.objs.size) "set" := ⟨_, born, rfl⟩
      have f6 := PySem.F.called_set.init.lookup; have f7 := PySem.F.called_set.init.bind (.ref s.heap.objs.size)
      repeat (any_goals first | assumption | wp_step)
      refine codeAny_mono (codeAny_call_builtin (R := wants (fun r z => r = .none ∧ ∃ h t, z = { s with heap := h, toks := t } ∧ h.SetOf (PySem.strKind pg w) s.heap.objs.size (fun y => (ts.take us.size).any (· == y)) (unlikeL [] (ts.take us.size)) ∧ (∀ b o, b < s.heap.objs.size → s.heap.get? b = some o → h.get? b = some o)) E) PySem.F.called_set.init.plain PySem.F.entry_set_init (check_set_init_1 isS (by
        obtain ⟨⟨oc, od, odt, osl⟩, at1, oc1, nl, od1⟩ := at_
        simp only at oc1 od1
        subst oc1; subst od1
        have at2 : (s.heap.push { cls := .type "set", dict := none, data := .set #[] 0 (.fresh 0 0 g) }).get? p = some { cls := .type "tuple", dict := od, data := .seq us nl, slots := osl } := Heap.get?_push_of_some _ at1
        have g1 := PySem.F.sub_tuple_set; have g2 := PySem.F.sub_tuple_frozenset
        have g3 : (Value.type "tuple" == Value.type "dict") = false := by decide
        have at3 : (s.heap.push { cls := .type "set", dict := none, data := .set #[] 0 (.fresh 0 0 g) }).IsTuple p us := ⟨_, at2, rfl, nl, rfl⟩
        unfold Builtin.«set.__init__» noKeywords Builtin.Frozenset.updateFrom
        generalize it : pyIter = pit
        wp_walk
        subst it
        have lt : p < s.heap.objs.size := Heap.lt_size at1
        have ne1 : p ≠ (s.heap.push { cls := .type "set", dict := none, data := .set #[] 0 (.fresh 0 0 g) }).objs.size := by rw [Heap.size_push]; exact Nat.ne_of_lt (Nat.lt.step lt)
        have nf : s.heap.objs.size ∉ [(s.heap.push { cls := .type "set", dict := none, data := .set #[] 0 (.fresh 0 0 g) }).objs.size, p] := by
          rw [Heap.size_push]
          exact fun z => (List.mem_cons.mp z).elim (fun z => Nat.ne_of_lt (Nat.lt_succ_self _) z) fun z => Nat.ne_of_lt lt (List.mem_singleton.mp z).symm
        have len : ts.length = us.size := by rw [← PyProof.Rows.StrsAre.len_eq tx, Array.length_toList]
        refine wpAny_pyIter_tuple at3 (wpAny_bind (wpAny_runValue (loopU ((Walks.tuple (A := A.in1.in1.in1) (by simp [calm]) _ p ne1 us).toS) s.heap.objs.size nf ts len room (fun i v hv => SS.strs_at tx i v (by rw [Array.getElem?_toList]; exact hv)) us.size 0 _ (by omega) (Nat.zero_le _) ⟨⟨_, Heap.get?_push_size _ rfl, rfl, rfl⟩, at3.push _⟩ ?b0 ?b1)))
        case b0 =>
          exact PyProof.Rows.SetOf_congr ((PyProof.Rows.setObjOf_fresh (knd := PySem.strKind pg w) g).setOf (Heap.get?_push_of_some _ born) (by unfold scanBound; omega)) (fun _ => rfl) rfl
        case b1 =>
          rintro ⟨h1, g1, d1, t1, o1⟩ mv set1
          obtain rfl : g1 = s.gens := mv.gens
          obtain rfl : d1 = s.drawn := mv.drawn
          obtain rfl : o1 = s.os := mv.os
          show wpAny _ _ _ _ _ _
          refine wpAny_pure ?_
          show wpAny _ _ (ret Value.none) _ _ _
          refine wpAny_pure ⟨rfl, h1, t1, rfl, set1, fun b o hb e => mv.heap b o (fun z => (List.mem_cons.mp z).elim (fun z => Nat.ne_of_lt hb z) fun z => Nat.ne_of_lt (Nat.lt.step hb) ((List.mem_singleton.mp z).trans (Heap.size_push _ _))) (Heap.get?_push_of_some _ (Heap.get?_push_of_some _ e))⟩))) fun r2 z2 hz2 => ?_
      cases r2 with
      | error e => exact hz2
      | ok fl2 => _
      cases fl2 <;> first | exact hz2.elim | skip
      obtain ⟨rfl, h3, t3, rfl, set3, keep⟩ := hz2
      repeat (any_goals first | assumption | wp_step)
      exact go _ _ set3 keep)⟩))
end Mi

set_option autoImplicit false
/-! MiT: the rule of len(set(texts)). -/
namespace Mi
open PySem PySem.Spec L2
open PyProof.Rows (Fr News StrsAre)
section
variable {T : Tb} {X : Cx} {a : Expr} {p p2 q pos : Pos}
theorem pe_lenset (hK : X.K = T.K) (calm : X.calm = true) (hg : Gl X "len") (hm : X.mg "len" = none) (hg2 : Gl X "set") (hm2 : X.mg "set" = none) {ta : TA} (ha : PA X [a] ta) (na : starEach [a] X.env = (false, eval a X.env) :: starEach [] X.env) :
    PE X (.Call (.Name "len" p) [.Call (.Name "set" p2) [a] [] q] [] pos) (tCB (rB T (biD .setlen)) ta) := by
  refine ⟨fun pins s σ H Q I h => ?_⟩
  refine PySem.wpAny_Call_Name_kw (ld_blt I hg hm (u := .builtin "len") (by decide +kernel) (PyProof.Rows.callWith_builtin1 (PyProof.Rows.args_cons ?_ rfl) rfl rfl))
  refine PySem.wpAny_Call_Name_kw (ld_blt I hg2 hm2 (u := .type "set") (by decide +kernel) (PyProof.Rows.callWith_type1 (thn (ha.run q pins s σ H _ I h) fun us s1 ⟨vs, H1, I1, rv, g, ds, c, fs, hv, hc, k⟩ => ?_) na rfl))
  have fin : ∀ (bs : List Str) (us : Array Value), us.size = bs.length → bs.length ≤ 4000 → c = .int (unlike bs) → ∀ (h : Heap) (t : Nat), h.SetOf (PySem.strKind X.prog X.w) s1.heap.objs.size (fun y => (bs.take us.size).any (· == y)) (unlikeL [] (bs.take us.size)) → (∀ b o, b < s1.heap.objs.size → s1.heap.get? b = some o → h.get? b = some o) →
      wpAny (model X.prog X.w) X.A (spliced (backTo pos (starEach [] X.env))) (fun ws z => wpAny (model X.prog X.w) X.A (call (.builtin "len") (Value.ref s1.heap.objs.size :: ws)) (EP X pins σ Q) X.xe z) X.xe { s1 with heap := h, toks := t } := fun bs us e1 e2 e3 h t st keep => by
    rw [e1, List.take_length] at st
    obtain ⟨o, es, ep, tb, ho, hex, hd, _, _, _, hf, hn⟩ := st
    have small := unl_le bs []
    refine PyProof.Rows.args_nil (call_len_set ho hex hd hf (by rw [hn]; omega) ⟨.int (unlike bs), H1, Inv.tok (I1.kept fun b o z => keep b o (Heap.lt_size z) z) _, ⟨_, by rw [hn]; rfl⟩, ?_⟩)
    subst e3
    exact k _ _ (outI _)
  match ds, hc with
  | [.tup xs], hc =>
    obtain ⟨v, rfl, hd⟩ := dw1 hv
    have hc' : (if decide (xs.length ≤ 4000) then (strsOf xs).map (fun ys => D.int (unlike ys)) else none) = some c := hc
    clear hc
    rename _ => hc
    split at hc
    · rename_i small
      cases e : strsOf xs with
      | none => rw [e] at hc; cases hc
      | some bs =>
        rw [e] at hc
        cases hc
        obtain ⟨l, ws, rfl, h1, h2, _⟩ := hd.tup fs
        have e2 := strs_map e h2
        subst e2
        cases rv with
        | cons r1 rn =>
          cases rn
          cases r1
          obtain ⟨its, r, pl, hz⟩ := I1.tuple (by rw [hK]; exact h1)
          have n1 : its.toArray.size = bs.length := by rw [List.size_toArray, ← r.length, List.length_map]
          have n2 : bs.length ≤ 4000 := by
            have := h2.length
            rw [List.length_map] at this
            rw [this]; exact of_decide_eq_true small
          exact setU_t (I1.ok.hd calm) pl (by simpa using strsAre_of r) (by rw [n1]; unfold scanBound; omega) (fin bs _ n1 n2 rfl)
    · cases hc
  | [.lst xs], hc =>
    obtain ⟨v, rfl, hd⟩ := dw1 hv
    have hc' : (if decide (xs.length ≤ 4000) then (strsOf xs).map (fun ys => D.int (unlike ys)) else none) = some c := hc
    clear hc
    rename _ => hc
    split at hc
    · rename_i small
      cases e : strsOf xs with
      | none => rw [e] at hc; cases hc
      | some bs =>
        rw [e] at hc
        cases hc
        obtain ⟨l, ws, rfl, h1, h2⟩ := hd.lst fs
        have e2 := strs_map e h2
        subst e2
        cases rv with
        | cons r1 rn =>
          cases rn
          cases r1
          obtain ⟨its, r, pl, hz⟩ := I1.list (.inl (.inl h1))
          have n1 : its.toArray.size = bs.length := by rw [List.size_toArray, ← r.length, List.length_map]
          have n2 : bs.length ≤ 4000 := by
            have := h2.length
            rw [List.length_map] at this
            rw [this]; exact of_decide_eq_true small
          exact setU_l (I1.ok.hd calm) pl.isList (by simpa using strsAre_of r) (by rw [n1]; unfold scanBound; omega) (fin bs _ n1 n2 rfl)
    · cases hc
end
end Mi

set_option autoImplicit false
/-! MiK: sorted(xs, key=f), f a def of the program: the walk. -/
namespace Mi
section
open PySem PySem.Calls PyProof.Rows PySem.W
variable {prog : Program} {w : World} {A : Around} {E : Value → Shared → Prop} {s : Shared} {a kS : Addr} {vs : List Value} {keys : Array Value} {e e1 : Nat} {P : PySem.Fin → Shared → Prop}
/-- the end: the keys forgotten, the items put back -/
theorem sk_tail {st : SortSt} {out : List Value} (nk : s.heap.get? kS = some (seqObj "list" keys e)) (na : s.heap.get? a = some (seqObj "list" #[] e1)) (ne : a ≠ kS) (z1 : keys.size ≤ sizeLine) (z2 : out.length ≤ sizeLine) (fl : failedOf st = none) (ho : (arrOf st).map (·.2) = out.toArray)
    (go : ∀ h t c, (∀ b o, b ∉ [a, kS] → s.heap.get? b = some o → h.get? b = some o) → h.get? a = some (seqObj "list" out.toArray c) → P (.done (.ret .none)) { s with heap := h, toks := t }) :
    wpAny (model prog w) A (ksk_tail a false e1 (.ref kS) st) P E s := by
  have u1 := Heap.SameBut.update s.heap kS (Obj.mapSeq fun _ => (#[] : Array Value))
  have na1 := (u1.2 a ne).trans na
  have u2 := Heap.SameBut.update (s.heap.update kS (Obj.mapSeq fun _ => (#[] : Array Value))) a (Obj.mapSeq fun _ => out.toArray)
  unfold ksk_tail
  simp only [Bool.false_eq_true, if_false]
  rw [ho]
  refine wpAny_bind (listUpdate_at nk rfl (wpAny_bind (wpAny_letGo (wpAny_bind (seqEpoch_at na1 rfl (wpAny_bind (listUpdate_at na1 rfl ?_ (Nat.zero_le _) (by rw [List.size_toArray]; exact Nat.le_succ_of_le z2))))))) z1 (Nat.zero_le _))
  rw [fl]
  simp only [bne_self_eq_false, Bool.false_eq_true, if_false]
  exact wpAny_pure (go _ _ _ (fun b o hb e => (u2.2 b fun z => hb (by simp [z])).trans ((u1.2 b fun z => hb (by simp [z])).trans e)) (get?_update_seq na1 fun _ => out.toArray))
/-- the sorting itself -/
theorem sk_end {κ : PyProof.Rows.KeyKind} (nk : s.heap.get? kS = some (seqObj "list" keys e)) (na : s.heap.get? a = some (seqObj "list" #[] e1)) (ne : a ≠ kS) (S : SortsAt prog w A s κ keys.toList) (len : keys.size = vs.length) (hz : vs.length ≤ sizeLine)
    (go : ∀ h t c, (∀ b o, b ∉ [a, kS] → s.heap.get? b = some o → h.get? b = some o) → h.get? a = some (seqObj "list" (sortVals κ false keys.toList vs).toArray c) → P (.done (.ret .none)) { s with heap := h, toks := t }) :
    wpAny (model prog w) A (ksk_end a false vs.toArray e1 (.ref kS) keys) P E s := by
  obtain ⟨kd, q1, q2⟩ := S.kind
  have kz : (keys.zip vs.toArray).size = vs.length := by rw [Array.size_zip, len, List.size_toArray, Nat.min_self]
  have all : PyProof.Rows.KeysOf κ (keys.zip vs.toArray) := keysOf_zip S.keys
  have ol : (sortVals κ false keys.toList vs).length = vs.length := sortVals_length false (by rw [Array.length_toList]; exact len)
  have fin : ∀ st : SortSt, (arrOf st).Perm (keys.zip vs.toArray) → SortedToK κ (arrOf st) (keys.zip vs.toArray).size → Stable κ (arrOf st) (keys.zip vs.toArray) → (arrOf st).map (·.2) = (sortVals κ false keys.toList vs).toArray := fun st p1 p2 p3 => by
    have q := congrArg List.toArray (sort_out (rev := false) (keys := keys) (items := vs.toArray) (xs := arrOf st) (κ := κ) all p1 p2 p3)
    rw [Array.toArray_toList] at q
    exact q
  unfold ksk_end
  simp only [Bool.false_eq_true, if_false]
  by_cases few : vs.toArray.size < 2
  · rw [if_pos few, if_pos few]
    refine wpAny_bind (wpAny_pure ?_)
    rw [StateT.run_pure]
    refine wpAny_bind (wpAny_pure (sk_tail (st := SortSt.mk' general' (keys.zip vs.toArray) #[] 7 none) nk na ne (by rw [len]; exact hz) (by rw [ol]; exact hz) rfl (fin _ (Array.Perm.refl _) (fun i j ij hj => ?_) (Stable.refl _)) go))
    rw [kz] at hj
    rw [List.size_toArray] at few
    obtain rfl : i = j := by omega
    exact KeyOrd.kle_refl _
  · rw [if_neg few, if_neg few]
    rw [List.size_toArray] at few
    refine wpAny_bind (q2 (by rw [Array.length_toList, len]; omega) _ (wpAny_bind (wpAny_mono (H.wpS_sortRunsSt (κ := κ) (kd := kd) (a₀ := keys.zip vs.toArray) (st := SortSt.mk' kd (keys.zip vs.toArray) #[] 7 none)
      (Q := fun _ st => failedOf st = none ∧ (arrOf st).map (·.2) = (sortVals κ false keys.toList vs).toArray) q1 all ⟨Array.Perm.refl _, rfl, rfl⟩ rfl (Stable.refl _) (by rw [kz]; omega) fun st b1 b2 b3 b4 => ⟨b2, fin st b1 b3 b4⟩) (fun r z hr => ?_) fun _ _ q => q)))
    obtain ⟨⟨⟩, st⟩ := r
    obtain ⟨rfl, f1, f2⟩ := hr
    exact sk_tail nk na ne (by rw [len]; exact hz) (by rw [ol]; exact hz) f1 f2 go
end
end Mi

set_option autoImplicit false
/-! MiK2: sorted(xs, key=f): the keys, one call behind another. -/
namespace Mi
open PySem PySem.Spec L2
open PyProof.Rows (Fr News seqObj)
section
variable {T : Tb} {C : Cn} {X : Cx} {k n : Nat} {f : Addr} {fd : FuncData} {ps : List Str} {pins : List (Addr × Obj)} {σ : L2.St} {H : Hp} {s : Shared} {A : Around}
/-- the same frame, seen from within a built-in's call; no exception leaves -/
abbrev inn (X : Cx) (A : Around) : Cx := { X with A := A, xe := fun _ _ => False }
theorem ok_inn (hh : A.handled = X.A.handled) (hf : A.frames = X.A.frames) (ok : X.Ok) : (inn X A).Ok :=
  ⟨ok.mod, ok.kind, ok.glob, ok.blt, ok.above, ok.inj, ok.has, ok.cab, fun c => hh.trans (ok.hd c), hf.trans ok.frames, ok.stk, ok.exf, ok.bs, ok.bsz, ok.noex, ok.exfs, ok.funs, ok.frf⟩
theorem inv_inn (hh : A.handled = X.A.handled) (hf : A.frames = X.A.frames) (I : L2.Inv X pins σ H s) : L2.Inv (inn X A) pins σ H s :=
  ⟨ok_inn hh hf I.ok, I.os, I.bare, I.base, I.loc, I.cell, I.free, I.freeC, I.pin, I.hok, I.len⟩
theorem inv_out (ok : X.Ok) (I : L2.Inv (inn X A) pins σ H s) : L2.Inv X pins σ H s :=
  ⟨ok, I.os, I.bare, I.base, I.loc, I.cell, I.free, I.freeC, I.pin, I.hok, I.len⟩
theorem keysL_len {Φ : Nat → List D → HP → Mi.CR} : ∀ {xs ks : List D} {hp hp' : HP}, keysL Φ n xs hp = some (ks, hp') → ks.length = xs.length
  | [], _, _, _, h => by cases h; rfl
  | d :: xs, ks, hp, hp', h => by
    unfold keysL at h
    split at h
    · split at h
      · rename_i r
        cases h
        rw [List.length_cons, List.length_cons, keysL_len r]
      · cases h
    · cases h
theorem keysL_cons {Φ : Nat → List D → HP → Mi.CR} {d : D} {xs ks : List D} {hp hp' : HP} (h : keysL Φ n (d :: xs) hp = some (ks, hp')) : ∃ kd hp1 ks1, Φ n [d] hp = .ok kd hp1 ∧ keysL Φ n xs hp1 = some (ks1, hp') ∧ ks = kd :: ks1 := by
  unfold keysL at h
  split at h
  · rename_i kd hp1 r1
    split at h
    · rename_i ks1 hp2 r2
      cases h
      exact ⟨kd, hp1, ks1, r1, r2, rfl⟩
    · cases h
  · cases h
/-- values that read as data, one by one -/
theorem dvl_each {g : Gh} (I : L2.Inv X pins σ H s) (hK : X.K = T.K) (fs : Fs g H) : ∀ {ds : List D} {vs : List V} {us : List Value}, D.pls ds = true → DvL T g vs ds → Vals vs us → PySem.W.EachIs (fun v d => ∃ as, Reads s.heap v d as) us (D.pys ds)
  | [], _, _, _, hv, r => by cases hv; cases r; exact .nil
  | d :: ds, _, _, p, hv, r => by
    cases hv with
    | cons h1 h2 =>
      cases r with
      | cons r1 r2 =>
        have p' : d.pl = true ∧ D.pls ds = true := by simpa [D.pls] using p
        exact .cons (Dp.reads I _ _ _ (by rw [hK]; exact (h1.dp fs d p'.1).1) r1) (dvl_each I hK fs p'.2 h2 r2)
/-- the state behind i keys -/
def KeyAt (T : Tb) (C : Cn) (X : Cx) (pins : List (Addr × Obj)) (σ : L2.St) (S : Sg) (Z : Addr → Prop) (g0 : Gh) (H0 : Hp) (n : Nat) (a kS : Addr) (e1 : Nat) (xs ks : List D) (hpE : HP) (i : Nat) (s : Shared) : Prop :=
  ∃ (H : Hp) (g : Gh) (hp : HP) (kA : Array Value) (e : Nat) (kvs : List V), L2.Inv X pins σ H s ∧ FpOk X pins H kS ∧ FpOk X pins H a ∧ s.heap.get? kS = some (seqObj "list" kA e) ∧ s.heap.get? a = some (seqObj "list" #[] e1) ∧
    Rep T Z g H σ ⟨S.sl, hp⟩ ∧ g0.le g ∧ Zp Z H0 H ∧ Vals kvs kA.toList ∧ DvL T g kvs (ks.take i) ∧ keysL C.Φ n (xs.drop i) hp = some (ks.drop i, hpE)
theorem fp_re {H' : Hp} {b : Addr} (f : FpOk X pins H b) (h : H' b = none) : FpOk X pins H' b := ⟨h, f.2⟩
theorem key_step (hK : X.K = T.K) (F : CalG T X.prog X.w X.mg X.base C.Φ k n f fd ps) (bo : ∀ d hp r hp1, C.Φ n [d] hp = .ok r hp1 → ps.length = 1 ∧ BdP T.K fd ps 1 [] [0]) (hA : RmG k A) (hh : A.handled = X.A.handled) (hf : A.frames = X.A.frames)
    {S : Sg} {Z : Addr → Prop} {g0 : Gh} {H0 : Hp} {a kS : Addr} {e1 j : Nat} {xs ks : List D} {hpE : HP} {ws : List V} {us : List Value} {x : Value} (ne : a ≠ kS) (rv : Vals ws us) (hv : DvL T g0 ws xs) (hz : us.length ≤ sizeLine) (hx : us[j]? = some x)
    (h : KeyAt T C X pins σ S Z g0 H0 n a kS e1 xs ks hpE j s) :
    wpAny (model X.prog X.w) A (call (.ref f) [x]) (fun v s2 => ∃ kA e, s2.heap.get? kS = some (seqObj "list" kA e) ∧ kA.size + 1 ≤ sizeLine ∧ KeyAt T C X pins σ S Z g0 H0 n a kS e1 xs ks hpE (j + 1) { s2 with heap := s2.heap.update kS (Obj.mapSeq (·.push v)) }) (fun _ _ => False) s := by
  obtain ⟨H, g, hp, kA, e, kvs, I, fk, fa, nk, na, rep, gl, zp, rk, dk, kl⟩ := h
  have lj : j < us.length := (List.getElem?_eq_some_iff.mp hx).1
  have lw : ws.length = us.length := rv.length
  have lx : ws.length = xs.length := hv.length
  obtain ⟨d, hd⟩ : ∃ d, xs[j]? = some d := ⟨_, List.getElem?_eq_getElem (by omega)⟩
  obtain ⟨wj, hw⟩ : ∃ v, ws[j]? = some v := ⟨_, List.getElem?_eq_getElem (by omega)⟩
  obtain ⟨x', hx', rx⟩ := rv.get hw
  obtain rfl : x' = x := Option.some.inj (hx'.symm.trans hx)
  obtain ⟨wj', hw', hdv0⟩ := hv.get j d hd
  obtain rfl : wj' = wj := Option.some.inj (hw'.symm.trans hw)
  have hdv : Dv T g wj' d := hdv0.up gl
  have dr : xs.drop j = d :: xs.drop (j + 1) := by rw [List.drop_eq_getElem?_toList_append, hd]; rfl
  rw [dr] at kl
  obtain ⟨kd, hp1, ks1, hphi, kl1, ek⟩ := keysL_cons kl
  have e1' : ks.drop (j + 1) = ks1 := by rw [← List.drop_drop, ek]; rfl
  have kj : ks[j]? = some kd := by rw [← List.head?_drop, ek]; rfl
  have e2 : ks.take (j + 1) = ks.take j ++ [kd] := by rw [List.take_add_one, kj]; rfl
  have kz : kA.size ≤ j := by
    have q : kvs.length = kA.size := by rw [← Array.length_toList]; exact rk.length
    have q2 := dk.length
    rw [List.length_take] at q2
    omega
  have I1 := (inv_inn hh hf I).pinned (fp := [kS, a]) (fun b hb => by
    rcases List.mem_cons.mp hb with z | z
    · rw [z]; exact fk
    · rw [List.mem_singleton.mp z]; exact fa) (fun b hb => by
    rcases List.mem_cons.mp hb with z | z
    · rw [z]; exact ⟨_, nk, fun v q => by cases q⟩
    · rw [List.mem_singleton.mp z]; exact ⟨_, na, fun v q => by cases q⟩)
  obtain ⟨one, bd⟩ := bo _ _ _ _ hphi
  have bt : BindsTo s fd ⟨[x'], []⟩ (ps.zip [x']) := bd s [x'] [] [x'] (by rw [← hK]; exact I.kIn) rfl rfl rfl
  refine wpAny_mono (run_cal (X := inn X A) hK F hA (Q := fun v H' => ∃ g', Rep T Z g' H' σ ⟨S.sl, hp1⟩ ∧ g.le g' ∧ Zp Z H H' ∧ Dv T g' v kd) bt I1 (.cons rx .nil) (by rw [one]; rfl) rep (.cons hdv .nil) hphi fun g' H' r' l' z' v v' => ⟨g', r', l', z', v'⟩) (fun v s2 ⟨y, H2, I2, ry, g2, r2, l2, z2, v2⟩ => ?_) fun _ _ z => z
  have p1 := I2.pin (kS, seqObj "list" kA e) (List.mem_append_right _ (List.mem_append_right _ (by simp [pinsAt, nk, na])))
  have p2 := I2.pin (a, seqObj "list" #[] e1) (List.mem_append_right _ (List.mem_append_right _ (by simp [pinsAt, nk, na])))
  have I3 : L2.Inv X pins σ H2 s2 := inv_out I.ok I2.unpinned
  have u1 := Heap.SameBut.update s2.heap kS (Obj.mapSeq (·.push v))
  refine ⟨kA, e, p1.1, by omega, H2, g2, hp1, kA.push v, _, kvs ++ [y], I3.turnedL (t' := s2.toks) (ch := [kS]) (fun b o hb q => (u1.2 b fun z => hb (by simp [z])).trans q) (fun b hb => by rw [List.mem_singleton.mp hb]; exact fp_re fk p1.2.1), fp_re fk p1.2.1, fp_re fa p2.2.1,
    PyProof.Rows.get?_update_seq p1.1 (·.push v), (u1.2 a ne).trans p2.1, r2, gl.trans l2, zp.trans z2, ?_, ?_, ?_⟩
  · rw [Array.toList_push]
    exact rk.append (.cons ry .nil)
  · rw [e2]
    exact (dk.up l2).app (.cons v2 .nil)
  · rw [e1']
    exact kl1
end
end Mi

set_option autoImplicit false
/-! MiK3: sorted(xs, key=f): the call. -/
namespace Mi
open PySem PySem.Spec L2
open PyProof.Rows (Fr News seqObj)
section
variable {T : Tb} {C : Cn} {X : Cx} {k n : Nat} {f : Addr} {fd : FuncData} {ps : List Str} {pins : List (Addr × Obj)} {σ : L2.St} {H : Hp} {s : Shared} {A : Around} {g : Gh} {Z : Addr → Prop} {S : Sg} {hp' : HP} {xs ks : List D} {ws : List V} {us : List Value} {E : Value → Shared → Prop}
theorem keys_alike (h : keysOk xs ks = true) : PySem.W.AllAlike (D.pys ks) ∧ PySem.W.Sortable (D.pys ks) ∧ D.pls ks = true ∧ PyData.depthAll (D.pys ks) ≤ 60 ∧ xs.length ≤ 4000 := by
  unfold keysOk at h
  simp only [Bool.and_eq_true, decide_eq_true_eq, List.all_eq_true, Bool.or_eq_true] at h
  obtain ⟨⟨⟨⟨h1, h2⟩, h3⟩, h4⟩, h5⟩ := h
  refine ⟨fun d hd e he => h2 d hd e he, ?_, h1, h4, h5⟩
  rcases h3 with q | q
  · refine .inl fun d hd => ?_
    have z := q d hd
    unfold someTup at z
    split at z
    · exact ⟨_, _, rfl⟩
    · cases z
  · refine .inr fun d hd => ?_
    have z := q d hd
    unfold noTup at z
    split at z
    · cases z
    · cases z
    · rename_i w1 w2
      exact ⟨w1, w2⟩
theorem depth_mem : ∀ {ds : List PyData} {d : PyData}, d ∈ ds → d.depth ≤ PyData.depthAll ds
  | x :: ds, d, h => by
    rcases List.mem_cons.mp h with z | z
    · rw [z, PyData.depthAll]; omega
    · have := depth_mem z
      rw [PyData.depthAll]; omega
/-- what is sorted, behind the keys -/
def SkEnd (T : Tb) (X : Cx) (pins : List (Addr × Obj)) (σ : L2.St) (S : Sg) (Z : Addr → Prop) (g : Gh) (H : Hp) (a : Addr) (hp' : HP) (ks : List D) (us : List Value) (s' : Shared) : Prop :=
  ∃ (g' : Gh) (H' : Hp) (out : List Value) (c : Nat), L2.Inv X pins σ H' s' ∧ FpOk X pins H' a ∧ s'.heap.get? a = some (seqObj "list" (List.toArray out) c) ∧ Rep T Z g' H' σ ⟨S.sl, hp'⟩ ∧ g.le g' ∧ Zp Z H H' ∧ PySem.W.KeyedOut false (D.pys ks) us out
open PySem.Calls PyProof.Rows in
theorem sk_rest (hK : X.K = T.K) (F : CalG T X.prog X.w X.mg X.base C.Φ k n f fd ps) (bo : ∀ d hp r hp1, C.Φ n [d] hp = .ok r hp1 → ps.length = 1 ∧ BdP T.K fd ps 1 [] [0]) (hA : RmG k A) (hh : A.handled = X.A.handled) (hf : A.frames = X.A.frames) (hu : A.units + 100 < cLine)
    {a kS : Addr} {e1 : Nat} {P : PySem.Fin → Shared → Prop} (ne : a ≠ kS) (rv : Vals ws us) (hv : DvL T g ws xs) (hok : keysOk xs ks = true) (hz : us.length ≤ sizeLine)
    (h : KeyAt T C X pins σ S Z g H n a kS e1 xs ks hp' 0 s) (go : ∀ s', SkEnd T X pins σ S Z g H a hp' ks us s' → P (.done (.ret .none)) s') :
    wpAny (model X.prog X.w) A (ksk_rest a (.ref f) false us.toArray e1 (.ref kS)) P E s := by
  obtain ⟨k1, k2, k3, k4, k5⟩ := keys_alike hok
  have kn : ks.length = xs.length := by
    obtain ⟨_, _, _, _, _, _, _, _, _, _, _, _, _, _, _, _, kl⟩ := h
    exact keysL_len kl
  unfold ksk_rest
  refine wpAny_bind (wpAny_rule ?_)
  rw [List.forIn_toArray]
  refine wpAny_bind (ksk_fold (fun i z => KeyAt T C X pins σ S Z g H n a kS e1 xs ks hp' i z) us 0 s h (fun j x z hx hj => ?_) fun z hz2 => ?_)
  · rw [Nat.zero_add] at hj ⊢
    refine wpAny_bind (wpAny_attempt (wpAny_mono (key_step hK F bo hA hh hf ne rv hv hz hx hj) (fun v z2 ⟨kA, e, nk, sz, nx⟩ => ?_) fun _ _ q => q.elim))
    exact wpAny_bind (listUpdate_at nk rfl (wpAny_pure ⟨rfl, nx⟩) (by omega) (by rw [Array.size_push]; omega))
  · rw [Nat.zero_add] at hz2
    obtain ⟨H2, g2, hp2, kA, e, kvs, I, fk, fa, nk, na, rep, gl, zp, rk, dk, kl⟩ := hz2
    have len : xs.length = us.length := by rw [← hv.length]; exact rv.length
    rw [List.drop_of_length_le (by omega)] at kl
    have kl' : some (([] : List D), hp2) = some (ks.drop us.length, hp') := kl
    have kd : ks.drop us.length = [] := by injection kl' with q; injection q with q1 q2; exact q1.symm
    have eh : hp2 = hp' := by injection kl' with q; injection q
    have kt : ks.take us.length = ks := by
      have q := List.take_append_drop us.length ks
      rw [kd, List.append_nil] at q
      exact q
    rw [kt] at dk
    subst eh
    have each := dvl_each I hK rep.fsub k3 dk rk
    have kz : kA.size = us.length := by
      have q1 : kvs.length = kA.size := by rw [← Array.length_toList]; exact rk.length
      have q2 := dk.length
      omega
    refine wpAny_bind (listItems_at nk rfl ?_)
    refine sk_end (κ := PySem.W.dataKind z.heap (D.pys ks)) nk na ne (PySem.W.SortsAt.data each k1 k2 fun d hd => ?_) kz hz fun h2 t c keep ha => go _ ⟨g2, H2, _, c, I.turnedL (ch := [a, kS]) keep (fun b hb => ?_), fa, ha, rep, gl, zp, ⟨z.heap, kA.toList, k1, rfl, each⟩⟩
    · have := depth_mem hd
      omega
    · rcases List.mem_cons.mp hb with q | q
      · rw [q]; exact fa
      · rw [List.mem_singleton.mp q]; exact fk
/-- values, things and keys side by side -/
def Tri (T : Tb) (g : Gh) (u : Value) (b : V × D × PyData) : Prop := RelV b.1 u ∧ Dv T g b.1 b.2.1
theorem tri_each : ∀ {ws : List V} {us : List Value} {xs : List D} {ds : List PyData}, Vals ws us → DvL T g ws xs → ds.length = xs.length → PySem.W.EachIs (Tri T g) us (ws.zip (xs.zip ds))
  | [], _, _, _, r, h, _ => by cases r; cases h; exact .nil
  | w :: ws, _, _, [], r, h, e => by cases h; cases e
  | w :: ws, _, _, d :: ds, r, h, e => by
    cases r with
    | cons r1 r2 => cases h with
      | cons h1 h2 => exact .cons ⟨r1, h1⟩ (tri_each r2 h2 (by simpa using e))
theorem tri_back : ∀ {us : List Value} {bs : List (V × D × PyData)}, PySem.W.EachIs (Tri T g) us bs → Vals (bs.map (·.1)) us ∧ DvL T g (bs.map (·.1)) (bs.map (·.2.1))
  | _, _, .nil => ⟨.nil, .nil⟩
  | _, _, .cons h t => ⟨.cons h.1 (tri_back t).1, .cons h.2 (tri_back t).2⟩
theorem pys_len : ∀ (ds : List D), (D.pys ds).length = ds.length
  | [] => rfl
  | d :: ds => by rw [D.pys, List.length_cons, List.length_cons, pys_len ds]
theorem zip_maps {ws : List V} {l : List (D × PyData)} (h : ws.length = l.length) : (ws.zip l).map Prod.snd = l := List.map_snd_zip (by omega)
theorem srt_out {out : List Value} (hv : DvL T g ws xs) (rv : Vals ws us) (kn : ks.length = xs.length) (ko : PySem.W.KeyedOut false (D.pys ks) us out) : ∃ ys, Vals ys out ∧ DvL T g ys (srt xs ks) ∧ ys.length = us.length := by
  have lz : ws.length = (xs.zip (D.pys ks)).length := by rw [List.length_zip, pys_len, kn, Nat.min_self, hv.length]
  have m2 : (ws.zip (xs.zip (D.pys ks))).map (fun b => b.2.2) = D.pys ks := by
    have e : (ws.zip (xs.zip (D.pys ks))).map (fun b => b.2.2) = ((ws.zip (xs.zip (D.pys ks))).map Prod.snd).map Prod.snd := by rw [List.map_map]; rfl
    rw [e, zip_maps lz]
    exact List.map_snd_zip (by rw [pys_len]; omega)
  have ko' : PySem.W.KeyedOut false ((ws.zip (xs.zip (D.pys ks))).map fun b => b.2.2) us out := by rw [m2]; exact ko
  have each := PySem.W.keyedOut_each (fun b : V × D × PyData => b.2.2) ko' (tri_each rv hv (by rw [pys_len]; exact kn))
  obtain ⟨r1, r2⟩ := tri_back each
  refine ⟨_, r1, ?_, ?_⟩
  · have e : (((ws.zip (xs.zip (D.pys ks))).mergeSort (PySem.W.dataLe false fun b => b.2.2)).map fun b => b.2.1) = srt xs ks := by
      have e2 : ((ws.zip (xs.zip (D.pys ks))).mergeSort (PySem.W.dataLe false fun b => b.2.2)).map Prod.snd = (xs.zip (D.pys ks)).mergeSort (PySem.W.dataLe false Prod.snd) := by
        have q := List.map_mergeSort (r := PySem.W.dataLe false fun b : V × D × PyData => b.2.2) (s := PySem.W.dataLe false (Prod.snd : D × PyData → PyData)) (f := Prod.snd) (l := ws.zip (xs.zip (D.pys ks))) (fun _ _ _ _ => rfl)
        rw [q, zip_maps lz]
      unfold srt
      rw [← e2, List.map_map]
      rfl
    rw [← e]
    exact r2
  · rw [List.length_map, (List.mergeSort_perm _ _).length_eq, List.length_zip, ← lz, Nat.min_self]
    exact rv.length
open PySem.Calls PyProof.Rows in
/-- sorted(xs, key=f), xs a list or a tuple -/
theorem sk_call (hK : X.K = T.K) (F : CalG T X.prog X.w X.mg X.base C.Φ k n f fd ps) (bo : ∀ d hp r hp1, C.Φ n [d] hp = .ok r hp1 → ps.length = 1 ∧ BdP T.K fd ps 1 [] [0]) (hA : RmG k X.A.in1.in1) (hu : X.A.units + 102 < cLine)
    {l : Addr} {o : Obj} {Ty : String} {n0 : Nat} {Q : VK} (hT : Ty = "list" ∨ Ty = "tuple") (ho : s.heap.get? l = some o) (hc : o.cls = .type Ty) (hd : o.data = .seq us.toArray n0) (rv : Vals ws us) (hv : DvL T g ws xs) (hok : keysOk xs ks = true)
    (I : L2.Inv X pins σ H s) (rep : Rep T Z g H σ S) (hks : keysL C.Φ n xs S.hp = some (ks, hp'))
    (hq : ∀ v g' H' H2, Rep T Z g' H' σ ⟨S.sl, hp'⟩ → g.le g' → Zp Z H H' → OutN T g' H' v H2 (.lst (srt xs ks)) → Q v H2) :
    wpAny (model X.prog X.w) X.A (call (.builtin "sorted") [.ref l] [(Str.ofString "key", .ref f)]) (EP X pins σ Q) E s := by
  have small : us.length ≤ 4000 := by
    have q := (keys_alike hok).2.2.2.2
    rw [← rv.length, hv.length]
    exact q
  have hz : us.length ≤ sizeLine := by rw [sizeLine_eq]; omega
  have kn := keysL_len hks
  refine call_function_entry_kw kind_sorted plain_sorted entry_sorted (ksk_s1 _ _) ?_
  unfold Builtin.«sorted»
  refine wpAny_bind (m := checkCount "sorted" 1 1 _) (wpAny_pure ?_)
  refine wpAny_bind (wpAny_collect_seq l hT ho hc hd (fun h1 keep1 => ?_) (by rw [List.size_toArray]; exact hz))
  rw [List.toList_toArray]
  refine wpAny_bind (wpAny_newList ?_ hz)
  have I0 : L2.Inv X pins σ H { s with heap := h1 } := I.kept (t' := s.toks) keep1
  have fa : FpOk X pins H h1.objs.size := I0.fpOk (Nat.le_refl _) (I0.hok.fresh (Nat.le_refl _))
  have I1 : L2.Inv X pins σ H { s with heap := h1.push (seqObj "list" us.toArray 0) } := I0.kept (t' := s.toks) fun b o e => Heap.get?_push_of_some _ e
  have at1 : (h1.push (seqObj "list" us.toArray 0)).get? h1.objs.size = some (seqObj "list" us.toArray 0) := Heap.get?_push_size _ rfl
  refine wpAny_bind (wpAny_holding (wpAny_call_entry_kw slot_list_sort ⟨_, at1, rfl⟩ entry_list_sort ?body (ksk_l1 _ _)))
  case body =>
    show wpAny (model X.prog X.w) X.A.in1.in1 (Builtin.«list.sort» ⟨[.ref h1.objs.size], [(Str.ofString "key", .ref f)]⟩) _ _ { s with heap := h1.push (seqObj "list" us.toArray 0) }
    rw [ksk_t1]
    unfold ksk_tree
    have u1 := Heap.SameBut.update (h1.push (seqObj "list" us.toArray 0)) h1.objs.size (Obj.mapSeq fun _ => (#[] : Array Value))
    obtain ⟨e1, at2⟩ : ∃ e1, ((h1.push (seqObj "list" us.toArray 0)).update h1.objs.size (Obj.mapSeq fun _ => (#[] : Array Value))).get? h1.objs.size = some (seqObj "list" #[] e1) := ⟨_, get?_update_seq at1 fun _ => #[]⟩
    refine wpAny_bind (listItems_at at1 rfl ?_)
    refine wpAny_bind (listUpdate_at at1 rfl ?_ (by rw [List.size_toArray]; exact hz) (Nat.zero_le _))
    refine wpAny_bind (seqEpoch_at at2 rfl ?_)
    refine wpAny_bind (wpAny_newTuple ?_ hz)
    refine wpAny_bind (wpAny_newList ?_ (Nat.zero_le _))
    refine wpAny_holding ?_
    have I2 : L2.Inv X pins σ H { s with heap := (h1.push (seqObj "list" us.toArray 0)).update h1.objs.size (Obj.mapSeq fun _ => (#[] : Array Value)) } :=
      L2.Inv.turnedL (s := { s with heap := h1.push (seqObj "list" us.toArray 0) }) (t' := s.toks) (ch := [h1.objs.size]) I1 (fun b o hb e => (u1.2 b fun z => hb (by simp [z])).trans e) (fun b hb => by rw [List.mem_singleton.mp hb]; exact fa)
    have I3 : L2.Inv X pins σ H { s with heap := ((h1.push (seqObj "list" us.toArray 0)).update h1.objs.size (Obj.mapSeq fun _ => (#[] : Array Value))).push (seqObj "tuple" us.toArray 0) } := I2.kept (t' := s.toks) fun b o e => Heap.get?_push_of_some _ e
    have I4 : L2.Inv X pins σ H { s with heap := (((h1.push (seqObj "list" us.toArray 0)).update h1.objs.size (Obj.mapSeq fun _ => (#[] : Array Value))).push (seqObj "tuple" us.toArray 0)).push (seqObj "list" #[] 0) } := I3.kept (t' := s.toks) fun b o e => Heap.get?_push_of_some _ e
    have fk : FpOk X pins H (((h1.push (seqObj "list" us.toArray 0)).update h1.objs.size (Obj.mapSeq fun _ => (#[] : Array Value))).push (seqObj "tuple" us.toArray 0)).objs.size := I3.fpOk (Nat.le_refl _) (I3.hok.fresh (Nat.le_refl _))
    have at3 : (((h1.push (seqObj "list" us.toArray 0)).update h1.objs.size (Obj.mapSeq fun _ => (#[] : Array Value))).push (seqObj "tuple" us.toArray 0)).get? h1.objs.size = some (seqObj "list" #[] e1) := Heap.get?_push_of_some _ at2
    refine sk_rest (A := X.A.in1.in1) (S := S) (g := g) (Z := Z) (H := H) (ks := ks) (xs := xs) (hp' := hp') hK F bo hA rfl rfl (by show X.A.units + 1 + 1 + 100 < _; omega) (Nat.ne_of_lt (Heap.lt_size at3)) rv hv hok hz
      ⟨H, g, S.hp, #[], 0, [], I4, fk, fa, Heap.get?_push_size _ rfl, Heap.get?_push_of_some _ at3, rep, .rfl, .rfl, .nil, .nil, hks⟩ fun z hz2 => ?_
    obtain ⟨g', H', out, c, I5, fa5, at5, rep5, l5, z5, ko⟩ := hz2
    obtain ⟨ys, y1, y2, y3⟩ := srt_out (DvL.up l5 _ hv) rv kn ko
    refine ⟨_, rfl, wpAny_pure ⟨_, rfl, .ref h1.objs.size, upd H' h1.objs.size (.lst ys), I5.take (t' := z.toks) (fun b ob _ e => e) fa5 ⟨by rw [y3]; exact hz, out, c, y1, at5⟩, rfl, hq _ g' H' _ rep5 l5 z5 (.lst fa5.1 y2)⟩⟩
end
end Mi

set_option autoImplicit false
/-! MiK4: sorted(xs, key=f): the rule. -/
namespace Mi
open PySem PySem.Spec L2
open PyProof.Rows (Fr News seqObj)
section
variable {T : Tb} {C : Cn} {X : Cx} {k n : Nat} {f : Addr} {e : Expr} {m : M} {p q kp pos : Pos} {y : Str}
def tSk (T : Tb) (C : Cn) (n : Nat) (te : TE) : TE := fun σ H Q => te σ H fun x H1 => ∃ (Z : Addr → Prop) (g : Gh) (S : Sg) (d : D) (xs ks : List D) (hp' : HP), Rep T Z g H1 σ S ∧ Dw T g H1 x d ∧ srcOf d = some xs ∧ keysL C.Φ n xs S.hp = some (ks, hp') ∧ keysOk xs ks = true ∧
  ∀ v g' H' H2, Rep T Z g' H' σ ⟨S.sl, hp'⟩ → g.le g' → Zp Z H1 H' → OutN T g' H' v H2 (.lst (srt xs ks)) → Q v H2
def SkQ (T : Tb) (C : Cn) (n : Nat) (σ : L2.St) (Q : VK) : List V → Hp → Prop
  | [x], H1 => ∃ (Z : Addr → Prop) (g : Gh) (S : Sg) (d : D) (xs ks : List D) (hp' : HP), Rep T Z g H1 σ S ∧ Dw T g H1 x d ∧ srcOf d = some xs ∧ keysL C.Φ n xs S.hp = some (ks, hp') ∧ keysOk xs ks = true ∧
    ∀ v g' H' H2, Rep T Z g' H' σ ⟨S.sl, hp'⟩ → g.le g' → Zp Z H1 H' → OutN T g' H' v H2 (.lst (srt xs ks)) → Q v H2
  | _, _ => False
theorem pe_sk (hK : X.K = T.K) (all : ∀ n f, T.fa n = some f → ∃ fd ps, PySem.W.keepIn T.K (.ref f) = true ∧ CalG T X.prog X.w X.mg X.base C.Φ k n f fd ps ∧ BdP T.K fd ps ps.length [] (List.range ps.length) ∧ ∀ ds hp d hp', C.Φ n ds hp = .ok d hp' → ds.length = ps.length)
    (hA : RmG k X.A.in1.in1) (hu : X.A.units + 102 < cLine) (hg : Gl X "sorted") (hm : X.mg "sorted" = none) (hg2 : Gl X y) (hm2 : X.mg y = some (.ref f)) (hfa : T.fa n = some f) (hdb : (y == ("__debug__" : Str)) = false) {te : TE} (he : PE X e te) (hs : starEach [e] X.env = (false, eval e X.env) :: starEach [] X.env) :
    PE X (.Call (.Name "sorted" p) [e] [⟨some (Str.ofString "key"), .Name y q, kp⟩] pos) (tSk T C n te) := by
  obtain ⟨fd, ps, kpt, F, bd, ln⟩ := all n f hfa
  refine ⟨fun pins s σ H Q I h => ?_⟩
  refine wpAny_Call_Name_kw (ld_blt I hg hm (u := .builtin "sorted") (by decide +kernel) ?_)
  have hk : PK X [⟨some (Str.ofString "key"), .Name y q, kp⟩] (tCons (fun σ H Q => Q (.ref f) H) tNil) := pk_cons ⟨fun pins s σ H Q I h => ld_glob I hg2 hm2 ⟨.ref f, H, I, rfl, h⟩ hdb⟩ pk_nil
  have ha : PA X [e] (tCons te tNil) := pa_cons he pa_nil hs
  refine PyProof.Rows.callWith_kw (thn (ha.run pos pins s σ H (SkQ T C n σ Q) I ?_) fun us s1 ⟨vs, H1, I1, rv, hx⟩ => thn (hk.run pos pins s1 σ H1 (fun zs H2 => zs = [.ref f] ∧ H2 = H1) I1 ⟨rfl, rfl⟩) fun ws s2 ⟨zs, H2, I2, r2, ez, eH⟩ => ?_) (by rw [hs]; rfl) (by rw [hs]; rfl) rfl rfl
  · exact h
  · subst ez eH
    cases rv with
    | nil => exact False.elim hx
    | cons r1 r0 =>
      cases r0 with
      | cons _ _ => exact False.elim hx
      | nil =>
      obtain ⟨Z, g, S, d, xs, ks, hp', rep, hd, e1, e2, e3, fin⟩ := hx
      cases r2 with
      | cons r3 r4 =>
        cases r4
        cases r3
        have bo : ∀ d hp r hp1, C.Φ n [d] hp = .ok r hp1 → ps.length = 1 ∧ BdP T.K fd ps 1 [] [0] := fun d hp r hp1 hphi => by
          have l1 : ps.length = 1 := (ln _ _ _ _ hphi).symm
          rw [l1] at bd
          exact ⟨l1, bd⟩
        cases d <;> try (cases e1; done)
        · cases e1
          obtain ⟨l, vs, rfl, h1, h2, _⟩ := hd.tup rep.fsub
          cases r1
          obtain ⟨its, r, pl, hz⟩ := I2.tuple (by rw [hK]; exact h1)
          obtain ⟨o, ho, hc, n0, hdt⟩ := pl
          exact sk_call hK F bo hA hu (.inr rfl) ho hc hdt r h2 e3 I2 rep e2 fin
        · cases e1
          obtain ⟨l, vs, rfl, h1, h2⟩ := hd.lst rep.fsub
          cases r1
          obtain ⟨its, r, pl, hz⟩ := I2.list (.inl (.inl h1))
          obtain ⟨o, ho, hc, n0, hdt⟩ := pl.isList
          exact sk_call hK F bo hA hu (.inl rfl) ho hc hdt r h2 e3 I2 rep e2 fin
theorem e_sortk (hK : X.K = T.K) (all : ∀ n f, T.fa n = some f → ∃ fd ps, PySem.W.keepIn T.K (.ref f) = true ∧ CalG T X.prog X.w X.mg X.base C.Φ k n f fd ps ∧ BdP T.K fd ps ps.length [] (List.range ps.length) ∧ ∀ ds hp d hp', C.Φ n ds hp = .ok d hp' → ds.length = ps.length)
    (hA : RmG k X.A.in1.in1) (hu : X.A.units + 102 < cLine) (hg : Gl X "sorted") (hm : X.mg "sorted" = none) (hg2 : Gl X y) (hm2 : X.mg y = some (.ref f)) (hfa : T.fa n = some f) (hdb : (y == ("__debug__" : Str)) = false) (he : PE X e (tG T C m)) (hs : starEach [e] X.env = (false, eval e X.env) :: starEach [] X.env) :
    PE X (.Call (.Name "sorted" p) [e] [⟨some (Str.ofString "key"), .Name y q, kp⟩] pos) (tE T C true (.sortk n m)) :=
  pe_imp (pe_sk hK all hA hu hg hm hg2 hm2 hfa hdb he hs) fun σ H Q ⟨Z, g, S, r, q⟩ => by
    have p' : Pst T Z g H σ ((argOf m (ev C m) S).bind fun x s => match s.res x with
        | some d => match srcOf d with
          | some xs => match keysL C.Φ n xs s.hp with
            | some (ks, hp') => if keysOk xs ks then R.ok (D.lst (srt xs ks)) { s with hp := hp' } else .bad
            | none => .bad
          | none => .bad
        | none => .bad) _ := q
    refine ⟨Z, g, S, r, p'.bind.mono fun x S1 g1 H1 r1 l1 z1 k1 v hv => ?_⟩
    cases e1 : S1.res x with
    | none => simp only [e1] at k1; exact False.elim k1
    | some d =>
      simp only [e1] at k1
      cases e2 : srcOf d with
      | none => simp only [e2] at k1; exact False.elim k1
      | some xs =>
        simp only [e2] at k1
        cases e3 : keysL C.Φ n xs S1.hp with
        | none => simp only [e3] at k1; exact False.elim k1
        | some pr =>
          obtain ⟨ks, hp'⟩ := pr
          simp only [e3] at k1
          by_cases e4 : keysOk xs ks = true
          · rw [if_pos e4] at k1
            refine ⟨Z, g1, S1, d, xs, ks, hp', r1, hv.dw r1 e1, e2, e3, e4, fun w g' H' H2 r' l' z' o => ?_⟩
            obtain ⟨g2, r2, l2, z2, v2⟩ := o.new r'
            exact k1 g2 H2 r2 (l'.trans l2) (z'.trans z2) w v2
          · rw [if_neg e4] at k1
            exact False.elim k1
end
end Mi

set_option autoImplicit false
/-! Mi13: from the text to the small language. -/
namespace Mi
open PySem

structure Pat where
  np : Nat
  ks : List Str
  perm : List Nat
structure FI where
  n : Nat
  pats : List Pat
structure Cc where
  N : List Str
  sc : Scope
  fn : Str → Bool
  fns : List (Str × FI)
  gls : List (Str × Nat)
  blt : List Str
  own : List Nat
  obj : List Nat

def visB (sc : Scope) (x : Str) : Bool := match sc.names.lookup x with
  | some .local => true
  | some .cell => true
  | some .free => true
  | _ => false
def slotOf (c : Cc) (x : Str) : Option Nat :=
  let i := c.N.idxOf x
  if decide (c.N[i]? = some x) && visB c.sc x && !(x == ("__debug__" : Str)) && !(x == ("__classdict__" : Str)) then some i else none
def isGl (c : Cc) (x : Str) : Bool := decide (c.sc.names.lookup x = some .globalImplicit) && !(x == ("__debug__" : Str))
def isBlt (c : Cc) (x : Str) : Bool := isGl c x && c.blt.contains x
/-- a name that is stored to: its slot -/
def stoOf (c : Cc) (x : Str) : Option Nat := match slotOf c x with
  | some i => if decide (c.sc.names.lookup x = some .local) || (decide (c.sc.names.lookup x = some .cell) && c.fn x) then some i else none
  | none => none
def isStar : Expr → Bool
  | .Starred _ _ => true
  | _ => false
def isSet : Expr → Bool
  | .Set _ _ _ => true
  | _ => false
def isPeek : M → Bool
  | .peek _ => true
  | _ => false
def isNil : M → Bool
  | .nil => true
  | _ => false
def cEs (f : Expr → Option M) : List Expr → Option M
  | [] => some .nil
  | e :: es => if isStar e then none else match f e, cEs f es with
    | some m, some r => some (.cons m r)
    | _, _ => none
def cKs (f : Expr → Option M) : List Keyword → Option (M × List Str)
  | [] => some (.nil, [])
  | ⟨some k, e, _⟩ :: ks => match f e, cKs f ks with
    | some m, some (r, l) => some (.cons m r, k :: l)
    | _, _ => none
  | _ => none
def cG (f : Cc → Expr → Option M) (c : Cc) (e : Expr) : Option M := match e with
  | .Name x p => match slotOf c x with
    | some i => some (.peek i)
    | none => match f c (.Name x p) with
      | some m => if isPeek m then none else some m
      | none => none
  | e => match f c e with
    | some m => if isPeek m then none else some m
    | none => none
def cP (f : Cc → Expr → Option M) (c : Cc) : Option Expr → Option M
  | none => some .nil
  | some e => match f c e with
    | some m => if isNil m then none else some m
    | none => none
def cNames (c : Cc) : List Expr → Option (List Nat)
  | [] => some []
  | .Name x _ :: es => match stoOf c x, cNames c es with
    | some i, some r => some (i :: r)
    | _, _ => none
  | _ => none
def cTg (c : Cc) : Expr → Option Tg
  | .Name x _ => (stoOf c x).map .one
  | .Tuple es _ _ => (cNames c es).map .many
  | _ => none
def opOf : Operator → Option O2
  | .Add => some .add
  | .Sub => some .sub
  | .Mult => some .mul
  | .FloorDiv => some .fdiv
  | .Mod => some .mod
  | .Pow => some .pow
  | _ => none
def cmpOf : CmpOp → Option O2
  | .Eq => some .eq
  | .NotEq => some .ne
  | .Lt => some .lt
  | .LtE => some .le
  | .Gt => some .gt
  | .GtE => some .ge
  | .Is => some .is_
  | .IsNot => some .isnot
  | .In => some .in_
  | .NotIn => some .notin
def tyOf (x : Str) : Option Ty := if x == ("int" : Str) then some .int else if x == ("bool" : Str) then some .bool else if x == ("str" : Str) then some .str else if x == ("tuple" : Str) then some .tuple else if x == ("list" : Str) then some .list
  else if x == ("dict" : Str) then some .dict else none
/-- built-ins of one value -/
def bi1 (x : Str) : Option Bi := if x == ("len" : Str) then some .len else if x == ("abs" : Str) then some .abs else if x == ("int" : Str) then some .int else if x == ("str" : Str) then some .str else if x == ("tuple" : Str) then some .tuple
  else if x == ("list" : Str) then some .list else if x == ("all" : Str) then some .all else if x == ("any" : Str) then some .any else if x == ("sum" : Str) then some .sum else if x == ("repr" : Str) then some .repr else if x == ("ord" : Str) then some .ord else none
def bi2 (x : Str) : Option Bi := if x == ("max" : Str) then some .max2 else if x == ("min" : Str) then some .min2 else none
/-- what is walked -/
def cI (f : Cc → Expr → Option M) (c : Cc) (tup : Bool) (e : Expr) : Option M := match e with
  | .Call (.Name x p) [a] [] pos =>
    if x == ("range" : Str) && isBlt c x && !isStar a then (f c a).map .sRng
    else if x == ("enumerate" : Str) && isBlt c x && !isStar a && tup then (f c a).map .sEnum
    else (f c (.Call (.Name x p) [a] [] pos)).map .sSeq
  | .Call (.Name x p) [a, b] [] pos =>
    if x == ("range" : Str) && isBlt c x && !isStar a && !isStar b then match f c a, f c b with
      | some m, some r => some (.sRng2 m r)
      | _, _ => none
    else if x == ("zip" : Str) && isBlt c x && !isStar a && !isStar b && tup then match f c a, f c b with
      | some m, some r => some (.sZip m r)
      | _, _ => none
    else (f c (.Call (.Name x p) [a, b] [] pos)).map .sSeq
  | e => if isSet e then none else (f c e).map .sSeq
def isTup : Expr → Bool
  | .Tuple _ _ _ => true
  | _ => false
/-- the scope of a comprehension's block, as it is run -/
def rlb (scope sc : Scope) : Scope := { scope with names := scope.names.map fun (n, k) => if (k == .free && sc.kind == .function && sc.names.lookup n == some .cell) then (n, .cell) else (n, k) }
def blk (c : Cc) (scope : Scope) : Cc := { c with sc := rlb scope c.sc, fn := fun x => scope.names.lookup x == some .cell }
def ownOf (c : Cc) (scope : Scope) (is : List Nat) : List (Str × Nat) := is.map fun i => (c.N.getD i default, i)
def isMark : CmpOp → Bool
  | .In => true
  | .NotIn => true
  | _ => false
def strC : Expr → Option Str
  | .Constant (.str k) _ _ => some k
  | _ => none
def cDk : List (Option Expr) → Option (List Str)
  | [] => some []
  | some (.Constant (.str k) _ _) :: r => (cDk r).map (k :: ·)
  | _ => none
def patOf (l : List Pat) (np : Nat) (ks : List Str) : Option Pat := l.find? fun p => decide (p.np = np) && decide (p.ks = ks)
def supOk (o : Expr) : Bool := match o with
  | .Call _ _ _ _ => false
  | _ => true
def cM0 (name : Str) : Option Mm := if name == ("pop" : Str) then some .pop else none
def cM1 (name : Str) : Option Mm := if name == ("append" : Str) then some .append else if name == ("pop" : Str) then some .popAt else if name == ("extend" : Str) then some .extend else if name == ("remove" : Str) then some .remove else none
def isC0 : Expr → Bool
  | .Constant (.int i) _ _ => i == 0
  | _ => false
def isSub : Expr → Bool
  | .Subscript _ (.Constant (.str _) _ _) _ => true
  | _ => false
/-- a def called by its name, or a def that a local holds -/
def cFn (f : Cc → Expr → Option M) (c : Cc) (x : Str) (args : List Expr) (kws : List Keyword) : Option M := match c.fns.lookup x with
  | some fi => if isGl c x then match cEs (f c) args, cKs (f c) kws with
      | some m, some (m2, ks) => match patOf fi.pats args.length ks with
        | some pt => some (.callk fi.n pt.perm (m.app m2))
        | none => none
      | _, _ => none
    else none
  | none => match slotOf c x, args, kws with
    | some i, a :: r, [] => match cEs (f c) (a :: r) with
      | some m => some (.callv i m)
      | none => none
    | _, _, _ => none
/-- the own list among the arguments -/
def ownArg (own : List Nat) : M → Option Nat
  | .cons (.var j) r => if own.contains j then some j else ownArg own r
  | .cons _ r => ownArg own r
  | _ => none
/-- an own list given to a def is lent to it -/
def lendOf (own : List Nat) (m : M) : M := match m with
  | .callk n p es => match ownArg own es with
    | some i => .lend i (.callk n p es)
    | none => .callk n p es
  | m => m
/-- a method that changes a list of the frame's own -/
def cOwn (f : Cc → Expr → Option M) (c : Cc) (o : Expr) (name : Str) (args : List Expr) (kws : List Keyword) : Option M := match o with
  | .Name x _ => match slotOf c x, args, kws with
    | some i, [], [] => if c.own.contains i then (cM0 name).map fun mm => .mut mm i .nil else none
    | some i, [a], [] => if c.own.contains i then match cM1 name, cEs (f c) [a] with
        | some mm, some m => some (.mut mm i m)
        | _, _ => none
      else none
    | _, _, _ => none
  | _ => none
def cMeth (f : Cc → Expr → Option M) (c : Cc) (o : Expr) (name : Str) (args : List Expr) (kws : List Keyword) : Option M :=
  match args, kws with
  | [a], [] => if (name == ("pop" : Str)) && isSub o then (if isC0 a then (f c o).map .opop0 else none)
    else if (name == ("index" : Str)) && supOk o then match f c o, cEs (f c) [a] with
      | some m, some r => some (.meth .index m r)
      | _, _ => none
    else none
  | _, _ => none
/-- sorted(e, key=f) -/
def sortKey (x : Str) (args : List Expr) (kws : List Keyword) : Option (Expr × Str) := match args, kws with
  | [a], [⟨some kn, .Name y _, _⟩] => if x == ("sorted" : Str) && kn == ("key" : Str) then some (a, y) else none
  | _, _ => none
/-- len(set(e)) -/
def lenSet (x : Str) (args : List Expr) (kws : List Keyword) : Option (Str × Expr) := match args, kws with
  | [.Call (.Name t _) [e] [] _], [] => if x == ("len" : Str) && t == ("set" : Str) then some (t, e) else none
  | _, _ => none
def cCall (f : Cc → Expr → Option M) (c : Cc) (fe : Expr) (args : List Expr) (kws : List Keyword) (pos : Pos) : Option M := match fe with
  | .Name x p =>
    if x == ("isinstance" : Str) then match args, kws with
      | [e, .Name t q], [] => if isBlt c x && isBlt c t && !isStar e then match tyOf t, f c e with
        | some ty, some m => some (.isi m ty)
        | _, _ => none else none
      | _, _ => none
    else match sortKey x args kws with
    | some (a, y) => if isBlt c x && isGl c y && !isStar a then match c.fns.lookup y, cG f c a with
        | some fi, some m => some (.sortk fi.n m)
        | _, _ => none else none
    | none => match lenSet x args kws with
    | some (t, e) => if isBlt c x && isBlt c t && !isStar e then (cG f c e).map fun m => .bi .setlen (.cons m .nil) else none
    | none => match args, kws, bi1 x, bi2 x, isBlt c x with
    | [a], [], some b, _, true => if isStar a then none else (cG f c a).map fun m => .bi b (.cons m .nil)
    | [a, b'], [], _, some b, true => match cEs (f c) [a, b'] with
      | some m => some (.bi b m)
      | none => none
    | args, kws, _, _, _ => (cFn f c x args kws).map (lendOf c.own)
  | .Attribute o name apos => if apos.endLine == pos.line then match cOwn f c o name args kws with
      | some m => some m
      | none => cMeth f c o name args kws
    else none
  | _ => none
def cB (f : Cc → Expr → Option M) (c : Cc) (op : BoolOp) : List Expr → Option M
  | [] => none
  | [a] => f c a
  | a :: b :: r => match f c a, cB f c op (b :: r) with
    | some m, some r => some (match op with | .And => .andv m r | .Or => .orv m r)
    | _, _ => none
/-- does it name a slot? -/
def M.has (i : Nat) : M → Bool
  | .cons a r => a.has i || r.has i
  | .var j => i == j
  | .peek j => i == j
  | .tup a => a.has i
  | .lst a => a.has i
  | .op2 _ a b => a.has i || b.has i
  | .op1 _ a => a.has i
  | .chain _ _ a b c => a.has i || b.has i || c.has i
  | .andv a b => a.has i || b.has i
  | .orv a b => a.has i || b.has i
  | .notv a => a.has i
  | .ifx a b c => a.has i || b.has i || c.has i
  | .sub a b => a.has i || b.has i
  | .slc a b c => a.has i || b.has i || c.has i
  | .rev a => a.has i
  | .comp a _ b c => a.has i || b.has i || c.has i
  | .compO a _ j c => a.has i || i == j || c.has i
  | .lend j a => i == j || a.has i
  | .sSeq a => a.has i
  | .sRng a => a.has i
  | .sRng2 a b => a.has i || b.has i
  | .sEnum a => a.has i
  | .sZip a b => a.has i || b.has i
  | .call _ a => a.has i
  | .callk _ _ a => a.has i
  | .callv j a => i == j || a.has i
  | .bi _ a => a.has i
  | .isi a _ => a.has i
  | .meth _ a b => a.has i || b.has i
  | .mut _ j a => i == j || a.has i
  | .odict _ a => a.has i
  | .oget a _ => a.has i
  | .opop0 a => a.has i
  | .sortk _ a => a.has i
  | _ => false
/-- the own list that is walked -/
def ownIt (c : Cc) (iter : Expr) : Option (Str × Nat) := match iter with
  | .Name x _ => match slotOf c x with
    | some i => if c.own.contains i then some (x, i) else none
    | none => none
  | _ => none
def cO (c : Cc) (iter : Expr) (m : M) (t : Tg) (src mc : M) : M := match ownIt c iter with
  | some (_, i) => if m.has i || mc.has i then .comp m t src mc else .compO m t i mc
  | none => .comp m t src mc
def cE1 (f : Cc → Expr → Option M) (c : Cc) (e : Expr) : Option M := match e with
  | .Constant (.int i) _ _ => some (.const (.int i))
  | .Constant (.bool b) _ _ => some (.const (.bl b))
  | .Constant .none _ _ => some (.const .non)
  | .Constant (.str x) _ _ => if decide (x.length ≤ lim) && PyData.strOk x then some (.const (.str x)) else none
  | .Name x p => match slotOf c x with
    | some i => some (.var i)
    | none => if isGl c x then match c.gls.lookup x with
        | some n => some (.glob n)
        | none => match c.fns.lookup x with
          | some fi => some (.fnv fi.n)
          | none => none
      else none
  | .BinOp a op b _ => match opOf op, cG f c a, cG f c b with
    | some o, some m, some r => some (.op2 o m r)
    | _, _, _ => none
  | .Compare a [op] [b] _ => if isSet b then none else match cmpOf op, cG f c a, cG f c b with
    | some o, some m, some r => some (.op2 o m r)
    | _, _, _ => none
  | .Compare a [op, op'] [b, d] _ => if isSet d then none else match cmpOf op, cmpOf op', f c a, f c b, f c d with
    | some o, some o', some m, some r, some q => some (.chain o o' m r q)
    | _, _, _, _, _ => none
  | .BoolOp op es _ => cB f c op es
  | .UnaryOp .Not a _ => (f c a).map .notv
  | .UnaryOp .USub a _ => (cG f c a).map (.op1 .neg)
  | .IfExp t a b _ => match f c t, f c a, f c b with
    | some m, some r, some q => some (.ifx m r q)
    | _, _, _ => none
  | .Tuple es _ _ => (cEs (f c) es).map .tup
  | .List es _ => (cEs (f c) es).map .lst
  | .Dict [] [] _ => some .edct
  | .Dict keys values _ => match cDk keys, cEs (f c) values with
    | some ks, some m => if decide (ks.length = values.length) && decide (ks.length ≤ 15) && decide ks.Nodup then some (.odict ks m) else none
    | _, _ => none
  | .Subscript a (.Slice lo hi none _) _ => match cG f c a, cP f c lo, cP f c hi with
    | some m, some r, some q => some (.slc m r q)
    | _, _, _ => none
  | .Subscript a (.Slice none none (some (.UnaryOp .USub (.Constant (.int j) _ _) _)) _) _ => if j == 1 then (cG f c a).map .rev else none
  | .Subscript a (.Slice _ _ (some _) _) _ => none
  | .Subscript a (.Constant (.str k) _ _) _ => (f c a).map fun m => .oget m k
  | .Subscript a b _ => match cG f c a, cG f c b with
    | some m, some r => some (.sub m r)
    | _, _ => none
  | .ListComp elt [⟨tg, iter, ifs, 0⟩] scope _ =>
    let c' := blk c scope
    match cTg c' tg, cI f c (isTup tg) iter, f c' elt with
    | some t, some src, some m => if L2.blkC c.N c.sc scope (ownOf c scope t.slots) && decide (t.slots.Nodup) then match ifs with
        | [] => some (cO c iter m t src .nil)
        | [q] => match f c' q with
          | some mc => if isNil mc then none else some (cO c iter m t src mc)
          | none => none
        | _ => none
      else none
    | _, _, _ => none
  | .Call fe args kws pos => cCall f c fe args kws pos
  | _ => none
def cE : Nat → Cc → Expr → Option M
  | 0, _, _ => none
  | n + 1, c, e => cE1 (cE n) c e

/-! ### statements -/
/-- does the value's block swap with the name? -/
def swB (c : Cc) (e : Expr) (x : Str) (p : Pos) : Bool := match e with
  | .ListComp _ _ s pos => decide (c.sc.names.lookup x = some .local) && (p.line == pos.line) && !(s.names.any fun (n, k) => n == x && (k == .local || k == .cell))
  | _ => false
def isComp : Expr → Bool
  | .ListComp _ _ _ _ => true
  | .SetComp _ _ _ _ => true
  | .DictComp _ _ _ _ _ => true
  | _ => false
def isTupE : Expr → Bool
  | .Tuple _ _ _ => true
  | .List _ _ => true
  | _ => false
def cSs (f : Cc → Stmt → Option S) (c : Cc) : List Stmt → Option S
  | [] => some .skip
  | [s] => f c s
  | s :: r => match f c s, cSs f c r with
    | some a, some b => some (.seq a b)
    | _, _ => none
def cS1 (n : Nat) (f : Cc → Stmt → Option S) (c : Cc) (st : Stmt) : Option S := match st with
  | .Pass _ => some .skip
  | .Break _ => some .brk
  | .Continue _ => some .cont
  | .Return none _ => some (.ret (.const .non))
  | .Return (some e) _ => (cE n c e).map .ret
  | .Expr (.Constant (.str _) _ _) _ => some .skip
  | .Expr e _ => if isComp e then none else (cE n c e).map .expr
  | .If t a b _ => match cE n c t, cSs f c a, cSs f c b with
    | some m, some r, some q => some (.ite m r q)
    | _, _, _ => none
  | .For tg iter body [] _ => match cTg c tg, cI (cE n) c (isTup tg) iter, cSs f c body with
    | some t, some m, some b => some (.for_ t m b)
    | _, _, _ => none
  | .While t body [] _ => match cE n c t, cSs f c body with
    | some m, some b => some (.while_ m b)
    | _, _ => none
  | .Assign [.Name x p] e _ => match stoOf c x, cE n c e with
    | some i, some m => if c.own.contains i then (if m.fresh then some (.setOwn i m) else none) else if c.obj.contains i then (if m.fresh then some (.setObj i m) else none) else some (.set (.one i) m)
    | _, _ => none
  | .Assign [.Tuple [.Name x px, .Name y py] kt pt] (.Tuple [a, b] k2 pt2) _ => match stoOf c x, stoOf c y, cE n c a, cE n c b with
    | some i, some j, some m, some r => if decide (c.sc.names.lookup x = some .local) && decide (c.sc.names.lookup y = some .local) && (px.line == py.line) && !(x == y) && !isStar a && !isStar b
        && !([a, b].all (foldedForSure 8)) && !([a, b].all (constantsAlone 8)) && decide (i ≠ j) && (!c.own.contains i || m.fresh) && (!c.own.contains j || r.fresh) then some (.par i (c.own.contains i) m j (c.own.contains j) r) else none
    | _, _, _, _ => none
  | .Assign [.Tuple es kt pt] e _ => if isTupE e || isComp e then none else match cTg c (.Tuple es kt pt), cE n c e with
    | some t, some m => if t.slots.all fun i => !c.own.contains i then some (.set t m) else none
    | _, _ => none
  | .Assign [.Subscript (.Name x p) (.Constant (.str k) _ _) _] e _ => if isComp e || isTupE e then none else match cE n c (.Name x p), cE n c e with
    | some o, some m => some (.oset o k m)
    | _, _ => none
  | .Assign [.Subscript (.Name x p) ix _] e _ => if isComp e || isTupE e then none else match slotOf c x, cE n c ix, cE n c e with
    | some i, some mk, some m => if c.own.contains i then some (.setIdx i mk m) else none
    | _, _, _ => none
  | _ => none
def cS (n : Nat) : Nat → Cc → Stmt → Option S
  | 0, _, _ => none
  | k + 1, c, st => cS1 n (cS n k) c st
def cD (n : Nat) (c : Cc) (body : List Stmt) : Option S := cSs (cS n n) c body
end Mi

set_option autoImplicit false
/-! Mi14: what is compiled runs as the text does: expressions. -/
namespace Mi
open PySem PySem.Spec L2
open PyProof.Rows (Fr News)

structure Ok (T : Tb) (C : Cn) (k : Nat) (X : Cx) (c : Cc) : Prop where
  K : X.K = T.K
  N : X.N = c.N
  nd : X.N.Nodup
  sc : X.env.scope = c.sc
  kind : c.sc.kind = .function
  fn : ∀ x, X.fn x = c.fn x
  calm : X.calm = true
  rm : RmG k X.A
  blt : ∀ x, c.blt.contains x = true → X.mg x = none
  gls : ∀ x n, c.gls.lookup x = some n → ∃ d v u, C.gl[n]? = some d ∧ X.mg x = some u ∧ RelV v u ∧ ∀ Z g H σ S, Rep T Z g H σ S → Dv T g v d
  fns : ∀ x fi, c.fns.lookup x = some fi → ∃ f fd ps, X.mg x = some (.ref f) ∧ T.fa fi.n = some f ∧ PySem.W.keepIn T.K (.ref f) = true ∧ CalG T X.prog X.w X.mg X.base C.Φ k fi.n f fd ps ∧
    ∀ pt ∈ fi.pats, pt.perm.length = ps.length ∧ BdP T.K fd ps pt.np pt.ks pt.perm
  all : ∀ n f, T.fa n = some f → ∃ fd ps, PySem.W.keepIn T.K (.ref f) = true ∧ CalG T X.prog X.w X.mg X.base C.Φ k n f fd ps ∧ BdP T.K fd ps ps.length [] (List.range ps.length) ∧ ∀ ds hp d hp', C.Φ n ds hp = .ok d hp' → ds.length = ps.length
  rm2 : RmG k X.A.in1.in1
structure Good (T : Tb) (C : Cn) (X : Cx) (e : Expr) (m : M) : Prop where
  pe : PE X e (tE T C false m)
  pn : m.fresh = true → PE X e (tE T C true m)
  pt : PT X e (tT T C m)
section
variable {T : Tb} {C : Cn} {k : Nat} {X : Cx} {c : Cc} {e a b : Expr} {m : M}
theorem Ok.un (ok : Ok T C k X c) : X.A.units + 100 < cLine := by have := ok.rm.r.un; omega
theorem Good.ofT (hK : X.K = T.K) (h : PE X e (tE T C true m)) (hp : ∀ whole, isTrue e X.env whole = (do let v ← whole; standAt e.pos; holding [v] (truthy v))) : Good T C X e m := ⟨frz h, fun _ => h, t_truth hK (frz h) hp⟩
theorem Good.ofF (hK : X.K = T.K) (h : PE X e (tE T C false m)) (hm : m.fresh = false) (hp : ∀ whole, isTrue e X.env whole = (do let v ← whole; standAt e.pos; holding [v] (truthy v))) : Good T C X e m := ⟨h, fun w => (by rw [hm] at w; cases w), t_truth hK h hp⟩
theorem slot_ok (ok : Ok T C k X c) {x : Str} {i : Nat} (h : slotOf c x = some i) : X.N[i]? = some x ∧ Vis X.env.scope x ∧ (x == ("__debug__" : Str)) = false ∧ (x == ("__classdict__" : Str)) = false := by
  unfold slotOf at h
  simp only at h
  split at h
  · rename_i hc
    simp only [Bool.and_eq_true, decide_eq_true_eq, Bool.not_eq_true'] at hc
    cases h
    refine ⟨by rw [ok.N]; exact hc.1.1.1, ?_, hc.1.2, hc.2⟩
    rw [ok.sc]
    have hv := hc.1.1.2
    unfold visB at hv
    unfold Vis
    split at hv
    · rename_i h1; exact .inl h1
    · rename_i h1; exact .inr (.inl h1)
    · rename_i h1; exact .inr (.inr h1)
    · cases hv
  · cases h
theorem gl_ok (ok : Ok T C k X c) {x : Str} (h : isGl c x = true) : Gl X x ∧ (x == ("__debug__" : Str)) = false := by
  unfold isGl at h
  simp only [Bool.and_eq_true, decide_eq_true_eq, Bool.not_eq_true'] at h
  refine ⟨?_, h.2⟩
  show X.env.scope.names.lookup x = some .globalImplicit
  rw [ok.sc]
  exact h.1
theorem blt_ok (ok : Ok T C k X c) {x : Str} (h : isBlt c x = true) : Gl X x ∧ X.mg x = none := by
  unfold isBlt at h
  rw [Bool.and_eq_true] at h
  exact ⟨(gl_ok ok h.1).1, ok.blt x h.2⟩
theorem sto_of (ok : Ok T C k X c) {x : Str} {i : Nat} (h : stoOf c x = some i) : X.N[i]? = some x ∧ Loc X.env.scope x ∧ (X.fn x = true ∨ X.env.scope.names.lookup x = some .local) := by
  unfold stoOf at h
  split at h
  · rename_i j hj
    split at h
    · rename_i hc
      cases h
      refine ⟨(slot_ok ok hj).1, ?_⟩
      rw [ok.sc, ok.fn]
      simp only [Bool.or_eq_true, Bool.and_eq_true, decide_eq_true_eq] at hc
      rcases hc with hc | ⟨hc, hf⟩
      · exact ⟨.inl hc, .inr hc⟩
      · exact ⟨.inr hc, .inl hf⟩
    · cases h
  · cases h
theorem noStar {es : List Expr} {env : Env} (h : isStar e = false) : starEach (e :: es) env = (false, eval e env) :: starEach es env := by cases e <;> first | rfl | cases h
abbrev Sound (T : Tb) (C : Cn) (k : Nat) (f : Cc → Expr → Option M) : Prop := ∀ X c e m, Ok T C k X c → f c e = some m → Good T C X e m
variable {f : Cc → Expr → Option M} (hf : Sound T C k f)
include hf
theorem cG_ok (ok : Ok T C k X c) (h : cG f c e = some m) : PE X e (tG T C m) := by
  have key : ∀ {e : Expr}, (match f c e with | some m => if isPeek m then none else some m | none => none) = some m → PE X e (tG T C m) := fun {e} h => by
    cases q : f c e with
    | none => rw [q] at h; cases h
    | some r =>
      rw [q] at h
      simp only at h
      split at h
      · cases h
      · rename_i hp
        cases h
        exact tG_of (fun i w => hp (by rw [w]; rfl)) (hf X c e _ ok q).pe
  cases e
  case Name x p =>
    unfold cG at h
    simp only at h
    split at h
    · rename_i i hi
      cases h
      obtain ⟨h1, h2, h3, h4⟩ := slot_ok ok hi
      exact tG_peek h1 h2 h3 h4
    · exact key h
  all_goals exact key h
theorem cP_ok {oe : Option Expr} (ok : Ok T C k X c) (h : cP f c oe = some m) : PO X oe (tO T C m) := by
  cases oe with
  | none => cases h; exact o_none
  | some e =>
    unfold cP at h
    simp only at h
    cases q : f c e with
    | none => rw [q] at h; cases h
    | some r =>
      rw [q] at h
      simp only at h
      split at h
      · cases h
      · rename_i hp
        cases h
        exact o_some (fun w => hp (by rw [w]; rfl)) (hf X c e _ ok q).pe
theorem cEs_ok (ok : Ok T C k X c) : ∀ {es : List Expr} {m : M}, cEs (f c) es = some m → PA X es (tA T C m) ∧ m.isL = true ∧ (∀ e ∈ es, isStar e = false) ∧ ∀ S ds S', evs C m S = .ok ds S' → ds.length = es.length
  | [], m, h => by
    cases h
    exact ⟨a_nil, rfl, by simp, fun S ds S' h => by cases h; rfl⟩
  | e :: es, m, h => by
    unfold cEs at h
    split at h
    · cases h
    · rename_i hs
      split at h
      · rename_i m1 r h1 h2
        cases h
        obtain ⟨q1, q2, q3, q4⟩ := cEs_ok ok h2
        have hs' : isStar e = false := by simpa using hs
        refine ⟨a_cons (hf X c e _ ok h1).pe q1 (noStar hs'), q2, fun e' he => ?_, fun S ds S' h => ?_⟩
        · rcases List.mem_cons.mp he with w | w
          · rw [w]; exact hs'
          · exact q3 e' w
        · have h' : ((ev C m1 S).bind fun d s => (evs C r s).bind fun ds s => R.ok (d :: ds) s) = .ok ds S' := h
          obtain ⟨d, S1, e1, e2⟩ := bind_ok h'
          obtain ⟨ds', S2, e3, e4⟩ := bind_ok e2
          cases e4
          rw [List.length_cons, List.length_cons, q4 S1 ds' _ e3]
      · cases h
theorem stars {es : List Expr} (h : ∀ e ∈ es, isStar e = false) {pos : Pos} {env : Env} : (backTo pos (starEach es env)).any (·.1) = false := by
  induction es with
  | nil => rfl
  | cons e es ih =>
    rw [noStar (h e (by simp))]
    show (false || _) = false
    rw [Bool.false_or]
    exact ih fun e' he => h e' (by simp [he])
theorem stars_all {es : List Expr} (h : ∀ e ∈ es, isStar e = false) {pos : Pos} {env : Env} : (backTo pos (starEach es env)).all (fun x => !x.1) = true := by
  induction es with
  | nil => rfl
  | cons e es ih =>
    rw [noStar (h e (by simp))]
    show (true && _) = true
    rw [Bool.true_and]
    exact ih fun e' he => h e' (by simp [he])
theorem cKs_ok (ok : Ok T C k X c) : ∀ {kws : List Keyword} {m : M} {ks : List Str}, cKs (f c) kws = some (m, ks) → PK X kws (tA T C m) ∧ (∀ pos : Pos, (backToKw pos (keywordEach kws X.env)).all (·.1.isSome) = true ∧ (backToKw pos (keywordEach kws X.env)).filterMap (·.1) = ks ∧ (backToKw pos (keywordEach kws X.env)).any (·.1.isNone) = false) ∧
    ∀ S ds S', evs C m S = .ok ds S' → ds.length = ks.length
  | [], m, ks, h => by
    cases h
    exact ⟨k_nil, fun pos => ⟨rfl, rfl, rfl⟩, fun S ds S' h => by cases h; rfl⟩
  | ⟨some kn, e, kp⟩ :: kws, m, ks, h => by
    unfold cKs at h
    split at h
    · rename_i m1 r l h1 h2
      cases h
      obtain ⟨q1, q2, q3⟩ := cKs_ok ok h2
      refine ⟨k_cons (hf X c e _ ok h1).pe q1, fun pos => ⟨?_, ?_, ?_⟩, fun S ds S' h => ?_⟩
      · exact (q2 pos).1
      · show kn :: _ = _
        rw [← (q2 pos).2.1]
        rfl
      · exact (q2 pos).2.2
      · have h' : ((ev C m1 S).bind fun d s => (evs C r s).bind fun ds s => R.ok (d :: ds) s) = .ok ds S' := h
        obtain ⟨d, S1, e1, e2⟩ := bind_ok h'
        obtain ⟨ds', S2, e3, e4⟩ := bind_ok e2
        cases e4
        rw [List.length_cons, List.length_cons, q3 S1 ds' _ e3]
    · cases h
  | ⟨none, e, kp⟩ :: kws, m, ks, h => by cases h
omit hf
theorem cNames_ok (ok : Ok T C k X c) : ∀ {es : List Expr} {is : List Nat}, cNames c es = some is → PGs X es (gs is) ∧ is.length = es.length ∧ (assignEach es X.env).length = es.length ∧ (assignEach es X.env).findIdx? (·.1) = none
  | [], is, h => by cases h; exact ⟨pgs_nil, rfl, rfl, rfl⟩
  | .Name x p :: es, is, h => by
    unfold cNames at h
    split at h
    · rename_i i r h1 h2
      cases h
      obtain ⟨q1, q2, q3, q4⟩ := cNames_ok ok h2
      obtain ⟨w1, w2, w3⟩ := sto_of ok h1
      refine ⟨pgs_cons (pg_name ok.nd w1 w2 w3) q1, by simp [q2], ?_, ?_⟩
      · show ((false, _) :: assignEach es X.env).length = _
        simp [q3]
      · show ((false, _) :: assignEach es X.env).findIdx? (·.1) = none
        rw [List.findIdx?_cons]
        simp [q4]
    · cases h
  | .BoolOp _ _ _ :: es, is, h => by cases h
  | .NamedExpr _ _ _ :: es, is, h => by cases h
  | .BinOp _ _ _ _ :: es, is, h => by cases h
  | .UnaryOp _ _ _ :: es, is, h => by cases h
  | .Lambda _ _ _ _ :: es, is, h => by cases h
  | .IfExp _ _ _ _ :: es, is, h => by cases h
  | .Dict _ _ _ :: es, is, h => by cases h
  | .Set _ _ _ :: es, is, h => by cases h
  | .ListComp _ _ _ _ :: es, is, h => by cases h
  | .SetComp _ _ _ _ :: es, is, h => by cases h
  | .DictComp _ _ _ _ _ :: es, is, h => by cases h
  | .GeneratorExp _ _ _ _ :: es, is, h => by cases h
  | .Await _ _ :: es, is, h => by cases h
  | .Yield _ _ :: es, is, h => by cases h
  | .YieldFrom _ _ :: es, is, h => by cases h
  | .Compare _ _ _ _ :: es, is, h => by cases h
  | .Call _ _ _ _ :: es, is, h => by cases h
  | .FormattedValue _ _ _ _ :: es, is, h => by cases h
  | .JoinedStr _ _ :: es, is, h => by cases h
  | .Constant _ _ _ :: es, is, h => by cases h
  | .Attribute _ _ _ :: es, is, h => by cases h
  | .Subscript _ _ _ :: es, is, h => by cases h
  | .Starred _ _ :: es, is, h => by cases h
  | .List _ _ :: es, is, h => by cases h
  | .Tuple _ _ _ :: es, is, h => by cases h
  | .Slice _ _ _ _ :: es, is, h => by cases h
theorem cTg_ok {tg : Tg} (ok : Ok T C k X c) (h : cTg c e = some tg) : PG X e (tgt T tg) := by
  cases e
  case Name x p =>
    have h' : (stoOf c x).map Tg.one = some tg := h
    cases q : stoOf c x with
    | none => rw [q] at h'; cases h'
    | some i =>
      rw [q] at h'
      cases h'
      obtain ⟨w1, w2, w3⟩ := sto_of ok q
      exact g_one ok.nd w1 w2 w3
  case Tuple es kk pos =>
    have h' : (cNames c es).map Tg.many = some tg := h
    cases q : cNames c es with
    | none => rw [q] at h'; cases h'
    | some is =>
      rw [q] at h'
      cases h'
      obtain ⟨q1, q2, q3, q4⟩ := cNames_ok ok q
      exact g_many ok.K ok.calm q1 q2 q3 q4
  all_goals cases h
/-- the rules of the operators -/
theorem op_of {op : Operator} {o : O2} (ok : Ok T C k X c) (h : opOf op = some o) : OpR X (binaryOp op) (rO T (op2 o)) := by
  cases op <;> cases h
  · exact o_add ok.K ok.un
  · exact o_sub ok.K ok.un
  · exact o_mul ok.K ok.un
  · exact o_mod ok.K ok.un
  · exact o_pow ok.K ok.un
  · exact o_fdiv ok.K ok.un
end
end Mi

set_option autoImplicit false
/-! Mi15: what is compiled runs as the text does: the rest of the expressions. -/
namespace Mi
open PySem PySem.Spec L2
open PyProof.Rows (Fr News)
section
variable {T : Tb} {C : Cn} {k : Nat} {X : Cx} {c : Cc} {e a b : Expr} {m : M}
theorem like_ok {xs ys : List D} (h : likeOk xs ys = true) : D.pls xs = true ∧ D.pls ys = true ∧ PySem.W.alikeAll (D.pys xs) (D.pys ys) = true ∧ PyData.depthAll (D.pys xs) ≤ 60 := by
  unfold likeOk at h
  simp only [Bool.and_eq_true, decide_eq_true_eq] at h
  exact ⟨h.1.1.1, h.1.1.2, h.1.2, h.2⟩
theorem o_lt (hK : X.K = T.K) (hu : X.A.units + 100 < cLine) : OpR X (compareOp .Lt) (rO T (op2 .lt)) := by
  rintro pins s σ H x y v u Q I rx ry ⟨g, d, e, c, fs, hd, he, hc, q⟩
  have hc' : b2 id (dlt d e) = some c := hc
  unfold dlt at hc'
  split at hc'
  · cases hc'
    obtain rfl := hd.int
    obtain rfl := he.int
    exact op_lt pins s σ H _ _ v u Q I rx ry ⟨_, _, rfl, rfl, q _ _ (outB _)⟩
  · cases hc'
    obtain ⟨rfl, _⟩ := hd.str
    obtain ⟨rfl, _⟩ := he.str
    exact op_lt_str pins s σ H _ _ v u Q I rx ry ⟨_, _, rfl, rfl, q _ _ (outB _)⟩
  · rename_i xs ys
    split at hc'
    · rename_i ok
      cases hc'
      obtain ⟨k1, k2, k3, k4⟩ := like_ok ok
      obtain ⟨p1, c1⟩ := hd.dp fs (by rw [D.pl]; exact k1)
      obtain ⟨p2, c2⟩ := he.dp fs (by rw [D.pl]; exact k2)
      obtain ⟨as, r1⟩ := Dp.reads I _ x v (by rw [hK]; exact p1) rx
      obtain ⟨bs, r2⟩ := Dp.reads I _ y u (by rw [hK]; exact p2) ry
      exact PySem.W.rcLt_alike _ _ _ _ _ _ _ _ r1 r2 (by rw [D.py, D.py, PySem.W.alike]; exact k3) (by rw [D.py]; exact fun z => by cases z) (by
        have e1 : (D.tup xs).py.depth = PyData.depthAll (D.pys xs) + 1 := by rw [D.py, PyData.depth]
        omega) X.prog X.w X.xe _ ⟨.bl _, H, I, rfl, q _ _ (outB _)⟩
    · cases hc'
  · rename_i xs ys
    split at hc'
    · rename_i ok
      cases hc'
      obtain ⟨k1, k2, k3, k4⟩ := like_ok ok
      obtain ⟨p1, c1⟩ := hd.dp fs (by rw [D.pl]; exact k1)
      obtain ⟨p2, c2⟩ := he.dp fs (by rw [D.pl]; exact k2)
      obtain ⟨as, r1⟩ := Dp.reads I _ x v (by rw [hK]; exact p1) rx
      obtain ⟨bs, r2⟩ := Dp.reads I _ y u (by rw [hK]; exact p2) ry
      exact PySem.W.rcLt_alike _ _ _ _ _ _ _ _ r1 r2 (by rw [D.py, D.py, PySem.W.alike]; exact k3) (by rw [D.py]; exact fun z => by cases z) (by
        have e1 : (D.lst xs).py.depth = PyData.depthAll (D.pys xs) + 1 := by rw [D.py, PyData.depth]
        omega) X.prog X.w X.xe _ ⟨.bl _, H, I, rfl, q _ _ (outB _)⟩
    · cases hc'
  · cases hc'
theorem cmp_of {op : CmpOp} {o : O2} (ok : Ok T C k X c) (h : cmpOf op = some o) : OpR X (compareOp op) (rO T (op2 o)) ∧ ∀ d e c, op2 o d e = some c → ∃ k, c = .bl k := by
  cases op <;> cases h
  · exact ⟨o_eq ok.K ok.un, op2_bl (by simp)⟩
  · exact ⟨o_ne ok.K ok.un, op2_bl (by simp)⟩
  · exact ⟨o_lt ok.K ok.un, op2_bl (by simp)⟩
  · exact ⟨o_le ok.K ok.un, op2_bl (by simp)⟩
  · exact ⟨o_gt ok.K ok.un, op2_bl (by simp)⟩
  · exact ⟨o_ge ok.K ok.un, op2_bl (by simp)⟩
  · exact ⟨o_is ok.K ok.un, op2_bl (by simp)⟩
  · exact ⟨o_isnot ok.K ok.un, op2_bl (by simp)⟩
  · exact ⟨o_in ok.K ok.un, op2_bl (by simp)⟩
  · exact ⟨o_notin ok.K ok.un, op2_bl (by simp)⟩
theorem no_mark {op : CmpOp} (h : isSet b = false) : behindInMarks op b = false := by cases b <;> first | rfl | cases h
theorem plain_ix {ix : Expr} (h : ∀ lo hi p, ix ≠ .Slice lo hi none p) : PlainIx ix := by
  intro o i
  cases ix <;> try rfl
  rename_i lo hi st p
  cases st with
  | none => exact absurd rfl (h lo hi p)
  | some _ => rfl
theorem c_repr (hK : X.K = T.K) (hg : X.A.guards = some []) (hu : X.A.units + 100 < cLine) : CallR X (.builtin "repr") (rB T (biD .repr)) := by
  rintro pins s σ H vs us Q I rv ⟨g, ds, c, fs, hv, hc, q⟩
  match ds, hc with
  | [d], hc =>
    obtain ⟨v, rfl, hd⟩ := dw1 hv
    simp only [biD] at hc
    split at hc
    · rename_i hl
      simp only [Bool.and_eq_true, decide_eq_true_eq] at hl
      cases hc
      obtain ⟨⟨⟨⟨h1, h2⟩, h3⟩, h4⟩, h5⟩ := hl
      obtain ⟨u, rfl, ru⟩ := vals1 rv
      obtain ⟨p1, c1⟩ := hd.dp fs h1
      obtain ⟨as, r1⟩ := Dp.reads I _ v u (by rw [hK]; exact p1) ru
      have hz : d.py.shown.length ≤ sizeLine := by rw [lim_eq]; exact h4
      have fin : ∀ (h' : Heap) (t : Tok) (tk : Nat), (∀ b o, s.heap.get? b = some o → h'.get? b = some o) → EP X pins σ Q (.str d.py.shown t) { s with heap := h', toks := tk } := fun h' t tk hk =>
        ⟨.str d.py.shown, H, I.kept hk, ⟨t, rfl⟩, q _ _ (outS _ h4 h5)⟩
      have refs : ∀ {a : Addr}, u = .ref a → wpAny (model X.prog X.w) X.A (call (.builtin "repr") [u]) (EP X pins σ Q) X.xe s := fun {a} e => by
        subst e
        exact repr_of_reads' r1 h2 (PyData.noDict_hsm (PyData.hasDict_of_canLay _ c1)) hg (by omega) (fun _ _ e => e) (fun h' u tk hk => fin h' u tk hk) hz
      cases d with
      | non => obtain rfl := hd.non; cases ru; exact P.repr_of_none (fin s.heap _ _ fun _ _ e => e)
      | bl k => obtain rfl := hd.bl; cases ru; exact P.repr_of_bool (fin s.heap _ _ fun _ _ e => e)
      | int k =>
        obtain rfl := hd.int
        obtain ⟨t, rfl⟩ := ru
        exact P.repr_of_int (by simpa [D.py, PyData.showable] using h2) (fin s.heap _ _ fun _ _ e => e)
      | str k =>
        obtain ⟨rfl, _⟩ := hd.str
        obtain ⟨t, rfl⟩ := ru
        exact P.repr_of_str (fin s.heap _ _ fun _ _ e => e) hz
      | tup ys =>
        obtain ⟨l, ws, rfl, _⟩ := hd.tup fs
        exact refs ru
      | lst ys =>
        obtain ⟨l, ws, rfl, _⟩ := hd.lst fs
        exact refs ru
      | _ => cases h1
    · cases hc
section
variable {f : Cc → Expr → Option M} (hf : Sound T C k f)
include hf
theorem map_some' {α β : Type} {o : Option α} {g : α → β} {b : β} (h : o.map g = some b) : ∃ a, o = some a ∧ g a = b := by
  cases o with
  | none => cases h
  | some a => cases h; exact ⟨a, rfl, rfl⟩
theorem cI_ok {tg : Expr} (ok : Ok T C k X c) (h : cI f c (isTup tg) e = some m) : PI X tg e (tI T C m) := by
  have seq : ∀ {e : Expr}, (f c e).map M.sSeq = some m → PI X tg e (tI T C m) := fun {e} h => by
    obtain ⟨a, h1, rfl⟩ := map_some' hf h
    exact i_seq ok.K (hf X c e _ ok h1).pe
  unfold cI at h
  split at h
  · rename_i x p a pos
    split at h
    · rename_i hc
      simp only [Bool.and_eq_true, beq_iff_eq, Bool.not_eq_true'] at hc
      obtain ⟨⟨rfl, hb⟩, hs⟩ := hc
      obtain ⟨h1, h2⟩ := blt_ok ok hb
      obtain ⟨m1, q1, rfl⟩ := map_some' hf h
      exact i_rng h1 h2 (hf X c a _ ok q1).pe (noStar hs)
    · split at h
      · rename_i hc
        simp only [Bool.and_eq_true, beq_iff_eq, Bool.not_eq_true'] at hc
        obtain ⟨⟨⟨rfl, hb⟩, hs⟩, ht⟩ := hc
        obtain ⟨h1, h2⟩ := blt_ok ok hb
        obtain ⟨m1, q1, rfl⟩ := map_some' hf h
        cases tg <;> try (cases ht; done)
        exact i_enumA ok.K h1 h2 (hf X c a _ ok q1).pe (noStar hs)
      · exact seq h
  · rename_i x p a b pos
    split at h
    · rename_i hc
      simp only [Bool.and_eq_true, beq_iff_eq, Bool.not_eq_true'] at hc
      obtain ⟨⟨⟨rfl, hb⟩, hs⟩, hs2⟩ := hc
      obtain ⟨h1, h2⟩ := blt_ok ok hb
      split at h
      · rename_i m1 r1 q1 q2
        cases h
        have e2 : starEach [b] X.env = [(false, eval b X.env)] := noStar hs2
        exact i_rng2 h1 h2 (hf X c a _ ok q1).pe (hf X c b _ ok q2).pe (by rw [noStar hs, e2]) e2
      · cases h
    · split at h
      · rename_i hc
        simp only [Bool.and_eq_true, beq_iff_eq, Bool.not_eq_true'] at hc
        obtain ⟨⟨⟨⟨rfl, hb⟩, hs⟩, hs2⟩, ht⟩ := hc
        obtain ⟨h1, h2⟩ := blt_ok ok hb
        split at h
        · rename_i m1 r1 q1 q2
          cases h
          cases tg <;> try (cases ht; done)
          exact i_zip ok.K h1 h2 (hf X c a _ ok q1).pe (hf X c b _ ok q2).pe (noStar hs) (noStar hs2) (by rw [noStar hs2]; rfl)
        · cases h
      · exact seq h
  · split at h
    · cases h
    · exact seq h
theorem cB_ok {op : BoolOp} {pos : Pos} (ok : Ok T C k X c) : ∀ {es : List Expr} {m : M}, cB f c op es = some m → PE X (.BoolOp op es pos) (tE T C false m) ∧ PW X (.BoolOp op es pos) (tT T C m) ∧ (es.length ≠ 1 → m.fresh = false)
  | [], m, h => by cases h
  | [a], m, h => by
    have g := hf X c a m ok h
    exact ⟨pe_one g.pe, w_one g.pt, fun h => absurd rfl h⟩
  | a :: b :: r, m, h => by
    unfold cB at h
    split at h
    · rename_i m1 r1 h1 h2
      have g := hf X c a m1 ok h1
      obtain ⟨q1, q2, _⟩ := cB_ok (pos := pos) ok h2
      cases op with
      | And => cases h; exact ⟨e_and ok.K g.pe q1, w_and g.pt q2, fun _ => rfl⟩
      | Or => cases h; exact ⟨e_or ok.K g.pe q1, w_or g.pt q2, fun _ => rfl⟩
    · cases h
end
end
end Mi

set_option autoImplicit false
/-! Mi16: what is compiled runs as the text does: calls; all expressions. -/
namespace Mi
open PySem PySem.Spec L2
open PyProof.Rows (Fr News)
section
variable {T : Tb} {C : Cn} {k : Nat} {X : Cx} {c : Cc} {e a b : Expr} {m : M}
theorem callB_ok {x : Str} {p pos : Pos} {es : List Expr} {id : String} {bi : Bi} (hc : CallR X (.builtin id) (rB T (biD bi))) (hg : Gl X x) (hm : X.mg x = none) (hv : bootBuiltins x = some (.builtin id)) (ha : PA X (e :: es) (tB' T C m)) (hn : x ≠ "__name__") (hd : (x == ("__debug__" : Str)) = false)
    (hs : starEach (e :: es) X.env = (false, eval e X.env) :: starEach es X.env) (hpl : (backTo pos (starEach es X.env)).any (·.1) = false) : PE X (.Call (.Name x p) (e :: es) [] pos) (tE T C true (.bi bi m)) :=
  pe_imp (pe_callB hc hg hm hv ha hn hd hs hpl) fun σ H Q h => tCB_imp (fun _ => rfl) h
theorem callT_ok {x : Str} {p pos : Pos} {es : List Expr} {id : String} {bi : Bi} (hc : CallR X (.type id) (rB T (biD bi))) (hg : Gl X x) (hm : X.mg x = none) (hv : bootBuiltins x = some (.type id)) (ha : PA X (e :: es) (tB' T C m)) (hn : x ≠ "__name__") (hd : (x == ("__debug__" : Str)) = false)
    (hs : starEach (e :: es) X.env = (false, eval e X.env) :: starEach es X.env) (hpl : (backTo pos (starEach es X.env)).any (·.1) = false) : PE X (.Call (.Name x p) (e :: es) [] pos) (tE T C true (.bi bi m)) :=
  pe_imp (pe_callTy hc hg hm hv ha hn hd hs hpl) fun σ H Q h => tCB_imp (fun _ => rfl) h
theorem bi1_ok {x : Str} {b : Bi} {p pos : Pos} (ok : Ok T C k X c) (h : bi1 x = some b) (hb : isBlt c x = true) (ha : PE X a (tG T C m)) (hs : isStar a = false) : PE X (.Call (.Name x p) [a] [] pos) (tE T C true (.bi b (.cons m .nil))) := by
  obtain ⟨hg, hm⟩ := blt_ok ok hb
  have A : PA X [a] (tB' T C (.cons m .nil)) := b_one ha (noStar hs)
  have s1 : starEach [a] X.env = (false, eval a X.env) :: starEach [] X.env := noStar hs
  unfold bi1 at h
  split at h
  · rename_i hx; rw [beq_iff_eq] at hx; subst hx; cases h
    exact callB_ok (c_len ok.K) hg hm (by decide +kernel) A (by decide) (by decide) s1 rfl
  split at h
  · rename_i hx; rw [beq_iff_eq] at hx; subst hx; cases h
    exact callB_ok (c_abs ok.K) hg hm PyProof.Rows.boot_abs A (by decide) (by decide) s1 rfl
  split at h
  · rename_i hx; rw [beq_iff_eq] at hx; subst hx; cases h
    exact callT_ok (c_int ok.K) hg hm PyProof.Rows.boot_int A (by decide) (by decide) s1 rfl
  split at h
  · rename_i hx; rw [beq_iff_eq] at hx; subst hx; cases h
    exact callT_ok (c_str ok.K) hg hm PyProof.Rows.boot_str A (by decide) (by decide) s1 rfl
  split at h
  · rename_i hx; rw [beq_iff_eq] at hx; subst hx; cases h
    exact callT_ok (c_tuple ok.K) hg hm PyProof.Rows.boot_tuple A (by decide) (by decide) s1 rfl
  split at h
  · rename_i hx; rw [beq_iff_eq] at hx; subst hx; cases h
    exact callT_ok (c_list ok.K) hg hm PyProof.Rows.boot_list A (by decide) (by decide) s1 rfl
  split at h
  · rename_i hx; rw [beq_iff_eq] at hx; subst hx; cases h
    exact callB_ok (c_all ok.K ok.calm) hg hm PyProof.Rows.boot_all A (by decide) (by decide) s1 rfl
  split at h
  · rename_i hx; rw [beq_iff_eq] at hx; subst hx; cases h
    exact callB_ok (c_any ok.K ok.calm) hg hm PyProof.Rows.boot_any A (by decide) (by decide) s1 rfl
  split at h
  · rename_i hx; rw [beq_iff_eq] at hx; subst hx; cases h
    exact callB_ok (c_sum ok.K ok.calm) hg hm PyProof.Rows.boot_sum A (by decide) (by decide) s1 rfl
  split at h
  · rename_i hx; rw [beq_iff_eq] at hx; subst hx; cases h
    exact callB_ok (c_repr ok.K ok.rm.g ok.un) hg hm PyProof.Rows.boot_repr A (by decide) (by decide) s1 rfl
  split at h
  · rename_i hx; rw [beq_iff_eq] at hx; subst hx; cases h
    exact callB_ok (c_ord ok.K) hg hm PyProof.Rows.boot_ord A (by decide) (by decide) s1 rfl
  cases h
theorem ty_ok {x : Str} {t : Ty} (h : tyOf x = some t) : x = (tyN t : Str) := by
  unfold tyOf at h
  split at h
  · rename_i hx; rw [beq_iff_eq] at hx; subst hx; cases h; rfl
  split at h
  · rename_i hx; rw [beq_iff_eq] at hx; subst hx; cases h; rfl
  split at h
  · rename_i hx; rw [beq_iff_eq] at hx; subst hx; cases h; rfl
  split at h
  · rename_i hx; rw [beq_iff_eq] at hx; subst hx; cases h; rfl
  split at h
  · rename_i hx; rw [beq_iff_eq] at hx; subst hx; cases h; rfl
  split at h
  · rename_i hx; rw [beq_iff_eq] at hx; subst hx; cases h; rfl
  cases h
theorem cM0_ok {o : Expr} {name : Str} {mm : Mm} {i : Nat} {apos pos : Pos} (h : cM0 name = some mm) (ho : PE X o (tVar i)) (hb : ∀ nm, attributeBase o nm X.env (eval o X.env) = eval o X.env) (hline : (apos.endLine == pos.line) = true) : PE X (.Call (.Attribute o name apos) [] [] pos) (tE T C false (.mut mm i .nil)) := by
  unfold cM0 at h
  split at h
  · rename_i hx; rw [beq_iff_eq] at hx; subst hx; cases h
    exact e_mut0 PySem.F.slot_list_pop PySem.F.type_list_pop m_pop ho (hb _) hline
  · cases h
theorem cM1_ok {o : Expr} {name : Str} {mm : Mm} {i : Nat} {apos pos : Pos} (ok : Ok T C k X c) (h : cM1 name = some mm) (ho : PE X o (tVar i)) (ha : PA X [a] (tA T C m)) (hs : isStar a = false) (hb : ∀ nm, attributeBase o nm X.env (eval o X.env) = eval o X.env) (hline : (apos.endLine == pos.line) = true) : PE X (.Call (.Attribute o name apos) [a] [] pos) (tE T C false (.mut mm i m)) := by
  have s1 : starEach [a] X.env = (false, eval a X.env) :: starEach [] X.env := noStar hs
  have hfew : ((backTo pos (starEach [a] X.env)).all (fun x => !x.1) && (backToKw pos (keywordEach [] X.env)).all (fun x => x.1.isSome)
      && decide (([a] : List Expr).length + ([] : List Keyword).length + (if ([] : List Keyword).isEmpty then 0 else 1) < 30)) = true := by rw [s1]; rfl
  unfold cM1 at h
  split at h
  · rename_i hx; rw [beq_iff_eq] at hx; subst hx; cases h
    exact e_mut PySem.F.slot_list_append PySem.F.type_list_append m_append ho ha (hb _) hfew hline s1 rfl
  split at h
  · rename_i hx; rw [beq_iff_eq] at hx; subst hx; cases h
    exact e_mut PySem.F.slot_list_pop PySem.F.type_list_pop m_popAt ho ha (hb _) hfew hline s1 rfl
  split at h
  · rename_i hx; rw [beq_iff_eq] at hx; subst hx; cases h
    exact e_mut PySem.F.slot_list_extend PySem.F.type_list_extend m_extend ho ha (hb _) hfew hline s1 rfl
  split at h
  · rename_i hx; rw [beq_iff_eq] at hx; subst hx; cases h
    exact e_mut PySem.F.slot_list_remove PySem.F.type_list_remove (m_remove ok.K ok.un) ho ha (hb _) hfew hline s1 rfl
  cases h
theorem app_nil : ∀ {m : M}, m.isL = true → m.app .nil = m
  | .nil, _ => rfl
  | .cons a r, h => by show M.cons a (r.app .nil) = _; rw [app_nil (m := r) h]
section
variable {f : Cc → Expr → Option M} (hf : Sound T C k f)
include hf
theorem fnc_ok {x : Str} {p pos : Pos} {args : List Expr} {kws : List Keyword} (ok : Ok T C k X c) (h : cFn f c x args kws = some m) : PE X (.Call (.Name x p) args kws pos) (tE T C false m) ∧ m.fresh = false := by
  unfold cFn at h
  split at h
  · rename_i fi hfi
    split at h
    · rename_i hgl
      obtain ⟨hg, hdb⟩ := gl_ok ok hgl
      obtain ⟨fa, fd, ps, h1, h2, h3, h4, h5⟩ := ok.fns x fi hfi
      split at h
      · rename_i m1 m2 ks e1 e2
        split at h
        · rename_i pt hp
          cases h
          refine ⟨?_, rfl⟩
          unfold patOf at hp
          have hpt := List.find?_some hp
          have hpm := List.mem_of_find?_eq_some hp
          simp only [Bool.and_eq_true, decide_eq_true_eq] at hpt
          obtain ⟨w1, w2⟩ := h5 pt hpm
          rw [hpt.1, hpt.2] at w2
          obtain ⟨q1, q2, q3, q4⟩ := cEs_ok hf ok e1
          obtain ⟨r1, r2, r3⟩ := cKs_ok hf ok e2
          cases args with
          | nil =>
            cases e1
            have w2' : BdP T.K fd ps 0 ks pt.perm := w2
            show PE X _ (tE T C false (.callk fi.n pt.perm m2))
            exact e_callK0 ok.K h4 ok.rm hg h1 h3 w1 w2' r1 hdb (r2 pos).1 (r2 pos).2.1 (by rw [(r2 pos).2.2]; rfl) r3
          | cons a0 args =>
            have hs0 : starEach (a0 :: args) X.env = (false, eval a0 X.env) :: starEach args X.env := noStar (q3 a0 (by simp))
            have hpl : (backTo pos (starEach args X.env)).any (·.1) = false := stars hf fun e he => q3 e (by simp [he])
            refine e_callK ok.K h4 ok.rm hg h1 h3 w1 w2 q2 q1 r1 hdb hs0 (r2 pos).1 (r2 pos).2.1 ?_ q4 r3
            rw [stars hf q3, (r2 pos).2.2]
            rfl
        · cases h
      · cases h
    · cases h
  · split at h
    · rename_i i a r hi
      split at h
      · rename_i m1 e1
        cases h
        obtain ⟨w1, w2, w3, w4⟩ := slot_ok ok hi
        obtain ⟨q1, q2, q3, q4⟩ := cEs_ok hf ok e1
        exact ⟨e_callv ok.K ok.rm ok.all w1 w2 w3 w4 q1 (noStar (q3 a (by simp))) (stars hf fun e he => q3 e (by simp [he])), rfl⟩
      · cases h
    · cases h
theorem isi_plain {fe : Expr} {args : List Expr} {kws : List Keyword} {pos : Pos} : ∀ whole, isTrue (.Call fe args kws pos) X.env whole = (do let v ← whole; standAt (Expr.Call fe args kws pos).pos; holding [v] (truthy v)) := fun _ => rfl
theorem cCall_ok {fe : Expr} {args : List Expr} {kws : List Keyword} {pos : Pos} (ok : Ok T C k X c) (h : cCall f c fe args kws pos = some m) : Good T C X (.Call fe args kws pos) m := by
  unfold cCall at h
  split at h
  · rename_i x p
    split at h
    · rename_i hx
      rw [beq_iff_eq] at hx
      subst hx
      split at h
      · rename_i e t q
        split at h
        · rename_i hc
          simp only [Bool.and_eq_true, Bool.not_eq_true'] at hc
          obtain ⟨⟨hb, hb2⟩, hs⟩ := hc
          obtain ⟨hg, hm⟩ := blt_ok ok hb
          obtain ⟨hg2, hm2⟩ := blt_ok ok hb2
          split at h
          · rename_i ty m1 h1 h2
            cases h
            exact .ofT ok.K (e_isi ok.K hg hm (ty_ok h1) hg2 hm2 (hf X c e _ ok h2).pe (noStar hs)) (fun _ => rfl)
          · cases h
        · cases h
      · cases h
    · split at h
      · rename_i a y hl
        split at h
        · rename_i hc
          simp only [Bool.and_eq_true, Bool.not_eq_true'] at hc
          obtain ⟨⟨hb, hb2⟩, hs⟩ := hc
          obtain ⟨hg, hm⟩ := blt_ok ok hb
          obtain ⟨hg2, hdb⟩ := gl_ok ok hb2
          split at h
          · rename_i fi m1 hfi h1
            cases h
            obtain ⟨fa, fd, ps, w1, w2, w3, w4, w5⟩ := ok.fns y fi hfi
            unfold sortKey at hl
            split at hl
            · split at hl
              · rename_i hh
                simp only [Bool.and_eq_true, beq_iff_eq] at hh
                obtain ⟨rfl, rfl⟩ := hh
                cases hl
                exact .ofT ok.K (e_sortk ok.K ok.all ok.rm2 (by have := ok.rm.r.un; omega) hg hm hg2 w1 w2 hdb (cG_ok hf ok h1) (noStar hs)) (fun _ => rfl)
              · cases hl
            · cases hl
          · cases h
        · cases h
      · rename_i hl1
        clear hl1
        split at h
        · rename_i t e hl
          split at h
          · rename_i hc
            simp only [Bool.and_eq_true, Bool.not_eq_true'] at hc
            obtain ⟨⟨hb, hb2⟩, hs⟩ := hc
            obtain ⟨hg, hm⟩ := blt_ok ok hb
            obtain ⟨hg2, hm2⟩ := blt_ok ok hb2
            obtain ⟨m1, h1, rfl⟩ := map_some' hf h
            unfold lenSet at hl
            split at hl
            · split at hl
              · rename_i hh
                simp only [Bool.and_eq_true, beq_iff_eq] at hh
                obtain ⟨rfl, rfl⟩ := hh
                cases hl
                exact .ofT ok.K (pe_imp (pe_lenset ok.K ok.calm hg hm hg2 hm2 (b_one (cG_ok hf ok h1) (noStar hs)) (noStar hs)) fun σ H Q h => tCB_imp (fun _ => rfl) h) (fun _ => rfl)
              · cases hl
            · cases hl
          · cases h
        · rename_i hl0
          clear hl0
          split at h
          · rename_i a b hb1 hbl
            split at h
            · cases h
            · rename_i hs
              have hs' : isStar a = false := by simpa using hs
              obtain ⟨m1, h1, rfl⟩ := map_some' hf h
              exact .ofT ok.K (bi1_ok ok hb1 hbl (cG_ok hf ok h1) hs') (fun _ => rfl)
          · rename_i a b' b hb2 hbl
            split at h
            · rename_i m1 h1
              cases h
              obtain ⟨hg, hm⟩ := blt_ok ok hbl
              obtain ⟨q1, q2, q3, q4⟩ := cEs_ok hf ok h1
              have hs1 := q3 a (by simp)
              have hs2 := q3 b' (by simp)
              have hmm : ∀ S, evb C m1 S = evs C m1 S := fun S => by
                unfold cEs at h1
                rw [if_neg (by simp [hs1])] at h1
                split at h1
                · rename_i u1 u2 w1 w2
                  cases h1
                  unfold cEs at w2
                  rw [if_neg (by simp [hs2])] at w2
                  split at w2
                  · cases w2; rfl
                  · cases w2
                · cases h1
              have A := b_many q1 hmm
              have s2 : (backTo pos (starEach [b'] X.env)).any (·.1) = false := by rw [noStar hs2]; rfl
              unfold bi2 at hb2
              split at hb2
              · rename_i hx; rw [beq_iff_eq] at hx; subst hx; cases hb2
                exact .ofT ok.K (callB_ok (c_max2 ok.K ok.calm) hg hm PyProof.Rows.boot_max A (by decide) (by decide) (noStar hs1) s2) (fun _ => rfl)
              split at hb2
              · rename_i hx; rw [beq_iff_eq] at hx; subst hx; cases hb2
                exact .ofT ok.K (callB_ok (c_min2 ok.K ok.calm) hg hm PyProof.Rows.boot_min A (by decide) (by decide) (noStar hs1) s2) (fun _ => rfl)
              cases hb2
            · cases h
          · obtain ⟨m1, h1, rfl⟩ := map_some' hf h
            obtain ⟨q1, q2⟩ := fnc_ok (p := p) (pos := pos) hf ok h1
            have q3 : ∀ {e : Expr}, PE X e (tE T C false m1) → PE X e (tE T C false (lendOf c.own m1)) ∧ (lendOf c.own m1).fresh = false := fun {e} q => by
              unfold lendOf
              split
              · split
                · exact ⟨e_lend q, rfl⟩
                · exact ⟨q, rfl⟩
              · exact ⟨q, q2⟩
            exact .ofF ok.K (q3 q1).1 (q3 q1).2 (fun _ => rfl)
  · rename_i o name apos
    split at h
    · rename_i hline
      split at h
      · rename_i m1 h1
        cases h
        unfold cOwn at h1
        split at h1
        · rename_i x p
          split at h1
          · rename_i i hi
            split at h1
            · obtain ⟨mm, h2, rfl⟩ := map_some' hf h1
              obtain ⟨w1, w2, w3, w4⟩ := slot_ok ok hi
              exact .ofF ok.K (cM0_ok h2 (pe_var w1 w2 w3 w4) (fun _ => rfl) hline) rfl (fun _ => rfl)
            · cases h1
          · rename_i i a hi
            split at h1
            · split at h1
              · rename_i mm m2 h2 h3
                cases h1
                obtain ⟨w1, w2, w3, w4⟩ := slot_ok ok hi
                obtain ⟨q1, q2, q3, q4⟩ := cEs_ok hf ok h3
                exact .ofF ok.K (cM1_ok ok h2 (pe_var w1 w2 w3 w4) q1 (q3 a (by simp)) (fun _ => rfl) hline) rfl (fun _ => rfl)
              · cases h1
            · cases h1
          · cases h1
        · cases h1
      · unfold cMeth at h
        split at h
        · rename_i a _
          split at h
          · rename_i hc
            simp only [Bool.and_eq_true, beq_iff_eq] at hc
            obtain ⟨rfl, hsub⟩ := hc
            split at h
            · rename_i h0
              obtain ⟨m1, h1, rfl⟩ := map_some' hf h
              have ha : ∃ kk pp, a = .Constant (.int 0) kk pp := by
                unfold isC0 at h0
                split at h0
                · rename_i i kk pp
                  rw [beq_iff_eq] at h0
                  subst h0
                  exact ⟨_, _, rfl⟩
                · cases h0
              obtain ⟨kk, pp, rfl⟩ := ha
              have hb : attributeBase o "pop" X.env (eval o X.env) = eval o X.env := by
                cases o <;> first | rfl | cases hsub
              exact .ofF ok.K (e_opop0 (hf X c o _ ok h1).pe (pa_cons pe_int pa_nil rfl) hb rfl hline rfl rfl) rfl (fun _ => rfl)
            · cases h
          · split at h
            · rename_i hc
              simp only [Bool.and_eq_true, beq_iff_eq] at hc
              obtain ⟨rfl, hsup⟩ := hc
              split at h
              · rename_i m1 r1 h1 h2
                cases h
                obtain ⟨q1, q2, q3, q4⟩ := cEs_ok hf ok h2
                have hs1 := q3 a (by simp)
                have s1 : starEach [a] X.env = (false, eval a X.env) :: starEach [] X.env := noStar hs1
                have hb : attributeBase o "index" X.env (eval o X.env) = eval o X.env := by
                  cases o <;> first | rfl | cases hsup
                exact .ofT ok.K (e_meth PySem.F.plainAttrs_list PySem.F.slot_list_index PySem.F.type_list_index (m_index ok.K ok.un) (ty_index ok.K) (hf X c o _ ok h1).pe q1 hb (by rw [s1]; rfl) hline s1 rfl) (fun _ => rfl)
              · cases h
            · cases h
        · cases h
    · cases h
  · cases h
end
end
end Mi

set_option autoImplicit false
/-! Mi17: what is compiled runs as the text does: all expressions. -/
namespace Mi
open PySem PySem.Spec L2
open PyProof.Rows (Fr News)
section
variable {T : Tb} {C : Cn} {k : Nat} {X : Cx} {c : Cc} {e a b : Expr} {m : M}
theorem ok_blk {scope : Scope} {is : List Nat} {s : Shared} {H : Hp} {cl : List (Str × Addr)} {C' : Addr} {fp : List Addr} (ok : Ok T C k X c) (h : blkC c.N c.sc scope (ownOf c scope is) = true) : Ok T C k (X.blk s H scope (compEnvC scope cl C' X.env) fp) (blk c scope) := by
  refine ⟨ok.K, ok.N, ok.nd, ?_, ?_, fun x => rfl, ok.calm, ok.rm, ok.blt, ok.gls, ok.fns, ok.all, ok.rm2⟩
  · show relabel scope X.env = rlb scope c.sc
    rw [← ok.sc]
    rfl
  · show scope.kind = .function
    exact (blkOk_by h).kind
theorem ownIt_ok {c : Cc} {iter : Expr} {x : Str} {i : Nat} (h : ownIt c iter = some (x, i)) : ∃ p, iter = .Name x p ∧ slotOf c x = some i := by
  unfold ownIt at h
  split at h
  · rename_i y p
    split at h
    · rename_i j hj
      split at h
      · cases h
        exact ⟨p, rfl, hj⟩
      · cases h
    · cases h
  · cases h
theorem own_slots {scope : Scope} {is : List Nat} : (ownOf c scope is).map (·.2) = is := by
  unfold ownOf
  rw [List.map_map]
  have : ((fun x : Str × Nat => x.2) ∘ fun i => (c.N.getD i default, i)) = id := by funext i; rfl
  rw [this, List.map_id]
theorem cDk_ok : ∀ {keys : List (Option Expr)} {ks : List Str}, cDk keys = some ks → keys.length = ks.length ∧ keys.all (·.isSome) = true
  | [], ks, h => by cases h; exact ⟨rfl, rfl⟩
  | none :: r, ks, h => by cases h
  | some e :: r, ks, h => by
    have h' : ∃ kk n p, e = .Constant (.str kk) n p := by
      cases e <;> try (cases h; done)
      rename_i v n p
      cases v <;> try (cases h; done)
      exact ⟨_, _, _, rfl⟩
    obtain ⟨kk, n, p, rfl⟩ := h'
    have h2 : (cDk r).map (kk :: ·) = some ks := h
    cases q : cDk r with
    | none => rw [q] at h2; cases h2
    | some ks' =>
      rw [q] at h2
      cases h2
      obtain ⟨q1, q2⟩ := cDk_ok q
      exact ⟨by simp [q1], by simp [q2]⟩
section
variable {f : Cc → Expr → Option M} (hf : Sound T C k f)
include hf
theorem disp_ok {pos : Pos} (ok : Ok T C k X c) : ∀ {keys : List (Option Expr)} {values : List Expr} {ks : List Str} {m : M}, cDk keys = some ks → cEs (f c) values = some m → ks.length = values.length → PPs X pos keys values (prs T C ks m)
  | [], [], ks, m, h1, h2, _ => by cases h1; cases h2; exact pps_nil
  | [], _ :: _, ks, m, h1, h2, hl => by cases h1; simp at hl
  | none :: r, _, ks, m, h1, h2, hl => by cases h1
  | some e :: r, vs, ks, m, h1, h2, hl => by
    have h' : ∃ kk n p, e = .Constant (.str kk) n p := by
      cases e <;> try (cases h1; done)
      rename_i v n p
      cases v <;> try (cases h1; done)
      exact ⟨_, _, _, rfl⟩
    obtain ⟨kk, n, p, rfl⟩ := h'
    have h3 : (cDk r).map (kk :: ·) = some ks := h1
    cases q : cDk r with
    | none => rw [q] at h3; cases h3
    | some ks' =>
      rw [q] at h3
      cases h3
      cases vs with
      | nil => simp at hl
      | cons v vs =>
        unfold cEs at h2
        split at h2
        · cases h2
        · split at h2
          · rename_i m1 m2 w1 w2
            cases h2
            exact pps_cons' (hf X c v _ ok w1).pe (disp_ok ok q w2 (by simpa using hl))
          · cases h2
theorem cE1_ok (ok : Ok T C k X c) (h : cE1 f c e = some m) : Good T C X e m := by
  unfold cE1 at h
  split at h
  · cases h
    exact .ofF ok.K (tE_const pe_int (fun _ => rfl) fun _ _ _ _ _ _ => .int _) rfl (fun _ => rfl)
  · cases h
    exact .ofF ok.K (tE_const pe_bl (fun _ => rfl) fun _ _ _ _ _ _ => .bl _) rfl (fun _ => rfl)
  · cases h
    exact .ofF ok.K (tE_const pe_non (fun _ => rfl) fun _ _ _ _ _ _ => .non) rfl (fun _ => rfl)
  · split at h
    · rename_i hc
      rw [Bool.and_eq_true, decide_eq_true_eq] at hc
      cases h
      exact .ofF ok.K (tE_const pe_str (fun _ => rfl) fun _ _ _ _ _ _ => .str _ hc.1 hc.2) rfl (fun _ => rfl)
    · cases h
  · rename_i x p
    split at h
    · rename_i i hi
      cases h
      obtain ⟨w1, w2, w3, w4⟩ := slot_ok ok hi
      exact .ofF ok.K (e_var w1 w2 w3 w4) rfl (fun _ => rfl)
    · split at h
      · rename_i hgl
        obtain ⟨hg, hdb⟩ := gl_ok ok hgl
        split at h
        · rename_i n hn
          cases h
          obtain ⟨d, v, u, q1, q2, q3, q4⟩ := ok.gls _ _ hn
          refine .ofF ok.K (tE_const (d := d) (v := v) (pe_glob hg q2 q3 hdb) (fun S => ?_) q4) rfl (fun _ => rfl)
          show R.ofO C.gl[n]? S = _
          rw [q1]
          rfl
        · split at h
          · rename_i fi hfi
            cases h
            obtain ⟨fa, fd, ps, h1, h2, _⟩ := ok.fns _ _ hfi
            exact .ofF ok.K (tE_const (d := .fn fi.n) (v := .ref fa) (pe_glob hg h1 rfl hdb) (fun S => rfl) fun _ _ _ _ _ _ => .fn h2) rfl (fun _ => rfl)
          · cases h
      · cases h
  · split at h
    · rename_i o m1 r1 h1 h2 h3
      cases h
      exact .ofT ok.K (e_op (op_of ok h1) (cG_ok hf ok h2) (cG_ok hf ok h3)) (fun _ => rfl)
    · cases h
  · rename_i a' op b' pos'
    split at h
    · cases h
    · rename_i hs
      have hs' : isSet b' = false := by simpa using hs
      split at h
      · rename_i o m1 r1 h1 h2 h3
        cases h
        obtain ⟨q1, q2⟩ := cmp_of ok h1
        have pe := e_cmp (pos := pos') q1 (cG_ok hf ok h2) (cG_ok hf ok h3) (no_mark hs')
        exact ⟨frz pe, fun _ => pe, t_cmp q1 (cG_ok hf ok h2) (cG_ok hf ok h3) (no_mark hs') q2⟩
      · cases h
  · rename_i a' op op' b' d' pos'
    split at h
    · cases h
    · rename_i hs
      have hs' : isSet d' = false := by simpa using hs
      split at h
      · rename_i o o' m1 r1 q1 h1 h2 h3 h4 h5
        cases h
        obtain ⟨w1, w2⟩ := cmp_of ok h1
        obtain ⟨w3, w4⟩ := cmp_of ok h2
        have hm : lastMarks [op, op'] [b', d'] = false := no_mark hs'
        have pe := e_chain (pos := pos') w1 w3 w2 (hf X c a' _ ok h3).pe (hf X c b' _ ok h4).pe (hf X c d' _ ok h5).pe hm
        exact ⟨frz pe, fun _ => pe, t_chain w1 w3 w2 w4 (hf X c a' _ ok h3).pe (hf X c b' _ ok h4).pe (hf X c d' _ ok h5).pe hm⟩
      · cases h
  · rename_i op es pos'
    obtain ⟨q1, q2, q3⟩ := cB_ok hf (pos := pos') ok h
    refine ⟨q1, fun hfr => ?_, q2.pt⟩
    match es, h, q3 with
    | [a'], h, _ => exact pe_one ((hf X c a' _ ok h).pn hfr)
    | [], h, q3 => have := q3 (by simp); rw [this] at hfr; cases hfr
    | _ :: _ :: _, h, q3 => have := q3 (by simp); rw [this] at hfr; cases hfr
  · obtain ⟨m1, h1, rfl⟩ := map_some' hf h
    rename_i a' pos'
    have g := hf X c a' _ ok h1
    have pe := e_not (pos := pos') ok.K g.pe
    exact ⟨frz pe, fun _ => pe, t_not g.pt⟩
  · obtain ⟨m1, h1, rfl⟩ := map_some' hf h
    exact .ofT ok.K (e_neg (cG_ok hf ok h1)) (fun _ => rfl)
  · split at h
    · rename_i m1 r1 q1 h1 h2 h3
      cases h
      have g1 := hf X c _ _ ok h1
      have g2 := hf X c _ _ ok h2
      have g3 := hf X c _ _ ok h3
      refine ⟨e_if g1.pt g2.pe g3.pe, fun w => (by cases w), t_ifx g1.pt g2.pt g3.pt⟩
    · cases h
  · obtain ⟨m1, h1, rfl⟩ := map_some' hf h
    exact .ofT ok.K (e_tup (cEs_ok hf ok h1).1) (fun _ => rfl)
  · obtain ⟨m1, h1, rfl⟩ := map_some' hf h
    exact .ofT ok.K (e_lst (cEs_ok hf ok h1).1) (fun _ => rfl)
  · cases h
    exact .ofF ok.K e_edct rfl (fun _ => rfl)
  · rename_i keys values pos' hne
    split at h
    · rename_i ks m1 h1 h2
      split at h
      · rename_i hc
        simp only [Bool.and_eq_true, decide_eq_true_eq] at hc
        cases h
        obtain ⟨q1, q2⟩ := cDk_ok h1
        refine .ofF ok.K (e_odict (disp_ok hf ok h1 h2 hc.1.1) q2 (by rw [q1, hc.1.1]) (fun w => ?_) (by rw [q1]; exact hc.1.2) hc.1.2 hc.2) rfl (fun _ => rfl)
        subst w
        cases h1
        have : values = [] := by
          cases values with
          | nil => rfl
          | cons _ _ => simp at hc
        exact hne rfl this
      · cases h
    · cases h
  · split at h
    · rename_i m1 r1 q1 h1 h2 h3
      cases h
      exact .ofT ok.K (e_slc ok.K (cG_ok hf ok h1) (cP_ok hf ok h2) (cP_ok hf ok h3)) (fun _ => rfl)
    · cases h
  · split at h
    · rename_i hj
      rw [beq_iff_eq] at hj
      subst hj
      obtain ⟨m1, h1, rfl⟩ := map_some' hf h
      exact .ofT ok.K (e_rev ok.K (cG_ok hf ok h1)) (fun _ => rfl)
    · cases h
  · cases h
  · obtain ⟨m1, h1, rfl⟩ := map_some' hf h
    exact .ofF ok.K (e_oget (by have := ok.un; omega) (hf X c _ _ ok h1).pe) rfl (fun _ => rfl)
  · rename_i a' b' pos' n1 ns n2 n3
    split at h
    · rename_i m1 r1 h1 h2
      cases h
      refine .ofF ok.K (e_sub ok.K (cG_ok hf ok h1) (cG_ok hf ok h2) (plain_ix fun lo hi p w => ?_)) rfl (fun _ => rfl)
      exact n1 lo hi p w
    · cases h
  · rename_i elt tg iter ifs scope pos'
    simp only at h
    split at h
    · rename_i t src me h1 h2 h3
      split at h
      · rename_i hc
        rw [Bool.and_eq_true] at hc
        have bk : BlkOk X.N X.env.scope scope (ownOf c scope t.slots) := by rw [ok.N, ok.sc]; exact blkOk_by hc.1
        have hset : ∀ x, foldedSetIterable iter X.env x = pure x := by
          intro x
          cases iter <;> first | rfl | cases h2
        split at h
        · cases h
          have pe : Good T C X (.ListComp elt [⟨tg, iter, [], 0⟩] scope pos') (.comp me t src .nil) := .ofT ok.K (e_comp (pos := pos') ok.calm ok.nd (cI_ok hf ok h2) bk own_slots (fun s H C' cl fp => cTg_ok (ok_blk ok hc.1) h1) (fun s H C' cl fp => (hf _ _ _ _ (ok_blk ok hc.1) h3).pe) hset) (fun _ => rfl)
          unfold cO
          split
          · rename_i x i hoi
            split
            · exact pe
            · obtain ⟨p, rfl, hs⟩ := ownIt_ok hoi
              obtain ⟨q1, q2, q3, q4⟩ := slot_ok ok hs
              exact .ofT ok.K (e_compO (pos := pos') ok.K ok.calm ok.nd q1 q2 q3 q4 bk own_slots (fun s H C' cl fp => cTg_ok (ok_blk ok hc.1) h1) (fun s H C' cl fp => (hf _ _ _ _ (ok_blk ok hc.1) h3).pe)) (fun _ => rfl)
          · exact pe
        · split at h
          · rename_i q _ mc h4
            split at h
            · cases h
            · rename_i hn
              cases h
              have pe : Good T C X (.ListComp elt [⟨tg, iter, [q], 0⟩] scope pos') (.comp me t src mc) := .ofT ok.K (e_compIf (pos := pos') ok.calm ok.nd (cI_ok hf ok h2) bk own_slots (fun w => hn (by rw [w]; rfl)) (fun s H C' cl fp => cTg_ok (ok_blk ok hc.1) h1) (fun s H C' cl fp => (hf _ _ _ _ (ok_blk ok hc.1) h4).pt) (fun s H C' cl fp => (hf _ _ _ _ (ok_blk ok hc.1) h3).pe) hset) (fun _ => rfl)
              unfold cO
              split
              · rename_i x i hoi
                split
                · exact pe
                · obtain ⟨p, rfl, hs⟩ := ownIt_ok hoi
                  obtain ⟨q1, q2, q3, q4⟩ := slot_ok ok hs
                  exact .ofT ok.K (e_compOIf (pos := pos') ok.K ok.calm ok.nd q1 q2 q3 q4 bk own_slots (fun w => hn (by rw [w]; rfl)) (fun s H C' cl fp => cTg_ok (ok_blk ok hc.1) h1) (fun s H C' cl fp => (hf _ _ _ _ (ok_blk ok hc.1) h4).pt) (fun s H C' cl fp => (hf _ _ _ _ (ok_blk ok hc.1) h3).pe)) (fun _ => rfl)
              · exact pe
          · cases h
        · cases h
      · cases h
    · cases h
  · exact cCall_ok hf ok h
  · cases h
end
theorem cE_ok : ∀ n, Sound T C k (cE n)
  | 0 => fun X c e m ok h => by cases h
  | n + 1 => fun X c e m ok h => cE1_ok (cE_ok n) ok h
end
end Mi

set_option autoImplicit false
/-! Mi18: what is compiled runs as the text does: statements. -/
namespace Mi
open PySem PySem.Spec L2
open PyProof.Rows (Fr News)
section
variable {T : Tb} {C : Cn} {k : Nat} {X : Cx} {c : Cc} {e a b : Expr} {m : M}
theorem sw_none {o : Option Expr} {l : Nat} {env : Env} (h : isComp e = false) : swapsWith e o l env = pure false := by
  cases e <;> first | (cases h; done) | (cases o <;> rfl)
theorem sw_name {x : Str} {p : Pos} {l : Nat} (hk : X.env.scope.kind = .function) (h : ∀ elt gs sc pos, e = .ListComp elt gs sc pos → ¬ (X.env.scope.names.lookup x = some .local ∧ (p.line == pos.line) = true ∧ (sc.names.any fun (n, k) => n == x && (k == .local || k == .cell)) = false)) (h2 : isComp e = true → ∃ elt gs sc pos, e = .ListComp elt gs sc pos) :
    swapsWith e (some (.Name x p)) l X.env = pure false := by
  by_cases hc : isComp e = true
  · obtain ⟨elt, gs, sc, pos, rfl⟩ := h2 hc
    have h' := h elt gs sc pos rfl
    have hb : X.env.blockKind = .function := by unfold Env.blockKind; rw [hk]; rfl
    show (pure _ : Sem Bool) = pure false
    congr 1
    simp only [hb, Expr.pos]
    have hkind : X.env.kindOf x = X.env.scope.names.lookup x := rfl
    rw [hkind]
    by_cases h1 : X.env.scope.names.lookup x = some .local
    · rw [h1]
      by_cases h3 : (p.line == pos.line) = true
      · rw [h3]
        have h4 : (sc.names.any fun (n, k) => n == x && (k == .local || k == .cell)) = true := by
          cases q : (sc.names.any fun (n, k) => n == x && (k == .local || k == .cell)) with
          | true => rfl
          | false => exact absurd ⟨h1, h3, q⟩ h'
        rw [h4]
        rfl
      · have h3' : (p.line == pos.line) = false := by simpa using h3
        rw [h3']
        simp
    · have h1' : (X.env.scope.names.lookup x == some .local) = false := by simpa using h1
      rw [h1']
      simp
  · exact sw_none (by simpa using hc)
theorem gname_imp {te : TE} {st : Stmt} {i : Nat} (h : PS X st (tAsg te (gName i))) (mono : ∀ σ H Q Q', (∀ v H', Q v H' → Q' v H') → te σ H Q → te σ H Q') : PS X st (tAsg te (tgt T (.one i))) :=
  ps_imp h fun E σ H q => mono σ H _ _ (fun v H' ⟨Z, g, S, d, r, hv, p⟩ => PsS.ok (r := r.setVal i hv) p rfl rfl (by show ((σ.set i (some v)).set i none : L2.St) = σ.set i none; rw [List.set_set])) q
theorem tE_mono {fr : Bool} (σ : L2.St) (H : Hp) (Q Q' : VK) (h : ∀ v H', Q v H' → Q' v H') (t : tE T C fr m σ H Q) : tE T C fr m σ H Q' := by
  obtain ⟨Z, g, S, r, p⟩ := t
  exact ⟨Z, g, S, r, p.mono fun d S' g' H' _ _ _ k v hv => h v H' (k v hv)⟩
/-- name = value, the value no block that swaps -/
theorem setN_ok {x : Str} {i : Nat} {p pos : Pos} (ok : Ok T C k X c) (hx : stoOf c x = some i) (g : Good T C X e m) (hs : swapsWith e (some (.Name x p)) pos.line X.env = pure false) :
    PS X (.Assign [.Name x p] e pos) (tS T C (.set (.one i) m)) ∧ (m.fresh = true → PS X (.Assign [.Name x p] e pos) (tS T C (.setOwn i m)) ∧ PS X (.Assign [.Name x p] e pos) (tS T C (.setObj i m))) := by
  obtain ⟨w1, w2, w3⟩ := sto_of ok hx
  refine ⟨s_set (gname_imp (ps_set ok.nd w1 w2 g.pe hs w3) tE_mono) fun _ _ _ h => h, fun hf => ⟨s_setOwn (ps_set ok.nd w1 w2 (g.pn hf) hs w3) fun _ _ _ h => h, s_setObj (ps_set ok.nd w1 w2 (g.pn hf) hs w3) fun _ _ _ h => h⟩⟩
/-- name = [..], stored from within the block's row -/
theorem setC_ok {f : Cc → Expr → Option M} (hf : Sound T C k f) {x : Str} {i : Nat} {py spos pos : Pos} {elt : Expr} {gens : List Comprehension} {scope : Scope} (ok : Ok T C k X c) (hx : X.N[i]? = some x) (hl : X.env.scope.names.lookup x = some .local)
    (h : cE1 f c (.ListComp elt gens scope pos) = some m) (hs : swapsWith (.ListComp elt gens scope pos) (some (.Name x py)) spos.line X.env = pure true) :
    ∃ te, PS X (.Assign [.Name x py] (.ListComp elt gens scope pos) spos) (tAsg te (gName i)) ∧ (∀ σ H Q, tE T C true m σ H Q → te σ H Q) ∧ m.fresh = true := by
  match gens, h, hs with
  | [⟨tg, iter, ifs, 0⟩], h, hs =>
    simp only [cE1] at h
    split at h
    · rename_i t src me h1 h2 h3
      split at h
      · rename_i hc
        rw [Bool.and_eq_true] at hc
        have bk : BlkOk X.N X.env.scope scope (ownOf c scope t.slots) := by rw [ok.N, ok.sc]; exact blkOk_by hc.1
        have hset : ∀ x, foldedSetIterable iter X.env x = pure x := by
          intro x
          cases iter <;> first | rfl | cases h2
        split at h
        · cases h
          have pe : ∃ te, PS X (.Assign [.Name x py] (.ListComp elt [⟨tg, iter, [], 0⟩] scope pos) spos) (tAsg te (gName i)) ∧ (∀ σ H Q, tE T C true (.comp me t src .nil) σ H Q → te σ H Q) ∧ (M.comp me t src .nil).fresh = true := by
            refine ⟨_, ps_setLc ok.calm ok.nd hx hl hs (cI_ok hf ok h2) bk (fun s H C' cl fp => cTg_ok (ok_blk ok hc.1) h1) (fun _ _ _ _ _ => pts_nil) (fun s H C' cl fp => (hf _ _ _ _ (ok_blk ok hc.1) h3).pe) hset, fun σ H Q h => ?_, rfl⟩
            rw [own_slots]
            exact tLc_imp step_all (fun _ => rfl) h
          unfold cO
          split
          · rename_i y j hoi
            split
            · exact pe
            · obtain ⟨p, rfl, hso⟩ := ownIt_ok hoi
              obtain ⟨q1, q2, q3, q4⟩ := slot_ok ok hso
              refine ⟨_, ps_setLc ok.calm ok.nd hx hl hs (pi_list (pe_var q1 q2 q3 q4)) bk (fun s H C' cl fp => cTg_ok (ok_blk ok hc.1) h1) (fun _ _ _ _ _ => pts_nil) (fun s H C' cl fp => (hf _ _ _ _ (ok_blk ok hc.1) h3).pe) hset, fun σ H Q h => ?_, rfl⟩
              rw [own_slots]
              exact tLcO_imp step_all (compO_all (me := me) (tg := t)) ok.K h
          · exact pe
        · split at h
          · rename_i q _ mc h4
            split at h
            · cases h
            · rename_i hn
              cases h
              have pe : ∃ te, PS X (.Assign [.Name x py] (.ListComp elt [⟨tg, iter, [q], 0⟩] scope pos) spos) (tAsg te (gName i)) ∧ (∀ σ H Q, tE T C true (.comp me t src mc) σ H Q → te σ H Q) ∧ (M.comp me t src mc).fresh = true := by
                refine ⟨_, ps_setLc ok.calm ok.nd hx hl hs (cI_ok hf ok h2) bk (fun s H C' cl fp => cTg_ok (ok_blk ok hc.1) h1) (fun s H C' cl fp => pts_one (hf _ _ _ _ (ok_blk ok hc.1) h4).pt) (fun s H C' cl fp => (hf _ _ _ _ (ok_blk ok hc.1) h3).pe) hset, fun σ H Q h => ?_, rfl⟩
                rw [own_slots]
                exact tLc_imp step_if (comp_eq fun w => hn (by rw [w]; rfl)) h
              unfold cO
              split
              · rename_i y j hoi
                split
                · exact pe
                · obtain ⟨p, rfl, hso⟩ := ownIt_ok hoi
                  obtain ⟨q1, q2, q3, q4⟩ := slot_ok ok hso
                  refine ⟨_, ps_setLc ok.calm ok.nd hx hl hs (pi_list (pe_var q1 q2 q3 q4)) bk (fun s H C' cl fp => cTg_ok (ok_blk ok hc.1) h1) (fun s H C' cl fp => pts_one (hf _ _ _ _ (ok_blk ok hc.1) h4).pt) (fun s H C' cl fp => (hf _ _ _ _ (ok_blk ok hc.1) h3).pe) hset, fun σ H Q h => ?_, rfl⟩
                  rw [own_slots]
                  exact tLcO_imp step_if (compO_eq fun w => hn (by rw [w]; rfl)) ok.K h
              · exact pe
          · cases h
        · cases h
      · cases h
    · cases h
theorem tLc_mono {wi : TI} {g : TG} {tt : TT} {te : TE} {vs : List Nat} (hw : ∀ σ H R R', (∀ J H', R J H' → R' J H') → wi σ H R → wi σ H R') (σ : L2.St) (H : Hp) (Q Q' : VK) (h : ∀ v H', Q v H' → Q' v H') (t : tLc wi g tt te vs σ H Q) : tLc wi g tt te vs σ H Q' := by
  refine hw σ H _ _ (fun J H1 k D hD => ?_) t
  obtain ⟨W, w0, step⟩ := k D hD
  refine ⟨W, w0, fun i m H hW => ?_⟩
  rcases step i m H hW with ⟨s1, q⟩ | r
  · exact .inl ⟨s1, h _ _ q⟩
  · exact .inr r
theorem swap_par {x y : Str} {px py pt pt2 : Pos} {kt k2 : Nat} (hk : X.env.scope.kind = .function) (hx : X.env.scope.names.lookup x = some .local) (hy : X.env.scope.names.lookup y = some .local) (hl : (px.line == py.line) = true) (hxy : (x == y) = false) (h1 : isStar a = false) (h2 : isStar b = false)
    (h3 : [a, b].all (foldedForSure 8) = false) (h4 : [a, b].all (constantsAlone 8) = false) : swappedStores [.Tuple [.Name x px, .Name y py] kt pt] (.Tuple [a, b] k2 pt2) X.env = pure (some [x, y]) := by
  have hb : X.env.blockKind = .function := by unfold Env.blockKind; rw [hk]; rfl
  have kx : X.env.kindOf x = some .local := hx
  have ky : X.env.kindOf y = some .local := hy
  have s1 : ([a, b].any fun | .Starred .. => true | _ => false) = false := by
    cases a <;> cases b <;> first | rfl | (cases h1; done) | (cases h2; done)
  have hl2 : (py.line == px.line) = true := by rw [beq_iff_eq] at hl ⊢; exact hl.symm
  have hne : ¬ x = y := by simpa using hxy
  have n1 : ([Expr.Name x px, .Name y py].filterMap fun
    | .Name id pos => if X.env.kindOf id == some .local && pos.line == px.line then some id else none
    | _ => none) = [x, y] := by
    simp only [List.filterMap, kx, ky, hl2, beq_self_eq_true, Bool.and_self, if_true]
  have n2 : [x, y].eraseDups.length = 2 := by
    have hyx : (y == x) = false := by simpa using fun w => hne w.symm
    simp [List.eraseDups, List.eraseDupsBy, List.eraseDupsBy.loop, hyx]
  have main : swappedStores [.Tuple [.Name x px, .Name y py] kt pt] (.Tuple [a, b] k2 pt2) X.env = (if !([Expr.Name x px, .Name y py].length == 2 || [Expr.Name x px, .Name y py].length == 3) || [a, b].length != [Expr.Name x px, .Name y py].length || X.env.blockKind != .function then pure none
    else if [a, b].any (fun | .Starred .. => true | _ => false) then pure none
    else if ([Expr.Name x px, .Name y py].filterMap fun
    | .Name id pos => if X.env.kindOf id == some .local && pos.line == px.line then some id else none
    | _ => none).length != 2 || ([Expr.Name x px, .Name y py].filterMap fun
    | .Name id pos => if X.env.kindOf id == some .local && pos.line == px.line then some id else none
    | _ => none).eraseDups.length != ([Expr.Name x px, .Name y py].filterMap fun
    | .Name id pos => if X.env.kindOf id == some .local && pos.line == px.line then some id else none
    | _ => none).length then pure none
    else if [a, b].all (foldedForSure 8) then pure none
    else do
      if [a, b].all (constantsAlone 8) then unsupported "assign.tuple-of-constant-expressions:order-of-the-stores"
      return some ([Expr.Name x px, .Name y py].filterMap fun
    | .Name id pos => if X.env.kindOf id == some .local && pos.line == px.line then some id else none
    | _ => none)) := rfl
  rw [main, n1, n2, s1, h3, h4, hb]
  rfl
end
end Mi

set_option autoImplicit false
/-! Mi19: what is compiled runs as the text does: statements, defs. -/
namespace Mi
open PySem PySem.Spec L2
open PyProof.Rows (Fr News)
section
variable {T : Tb} {C : Cn} {k : Nat} {X : Cx} {c : Cc} {e a b : Expr} {m : M}
abbrev SoundS (T : Tb) (C : Cn) (k : Nat) (f : Cc → Stmt → Option S) : Prop := ∀ X c st s, Ok T C k X c → PassesOwn (model X.prog X.w) X.A X.env X.xe → f c st = some s → PS X st (tS T C s)
theorem cSs_ok {f : Cc → Stmt → Option S} (hf : SoundS T C k f) (ok : Ok T C k X c) (hp : PassesOwn (model X.prog X.w) X.A X.env X.xe) : ∀ {sts : List Stmt} {s : S}, cSs f c sts = some s → PSs X sts (tS T C s)
  | [], s, h => by cases h; exact ss_nil
  | [st], s, h => ss_one (hf X c st s ok hp h)
  | st :: st2 :: r, s, h => by
    unfold cSs at h
    split at h
    · rename_i s1 s2 h1 h2
      cases h
      exact ss_cons (hf X c st s1 ok hp h1) (cSs_ok hf ok hp h2)
    · cases h
theorem comp_form (h : isComp e = true) (n : Nat) (hm : cE n c e = some m) : ∃ elt gs sc pos, e = .ListComp elt gs sc pos := by
  cases e <;> try (cases h; done)
  · exact ⟨_, _, _, _, rfl⟩
  · cases n <;> cases hm
  · cases n <;> cases hm
theorem iter_fold {n : Nat} {iter : Expr} {tup : Bool} {src : M} (h : cI (cE n) c tup iter = some src) : ∀ x, foldedSetIterable iter X.env x = pure x := by
  intro x
  cases iter <;> first | rfl | cases h
theorem sole_none {t : Expr} {l : Nat} {env : Env} (h : isComp e = false) : swapsWithSole [t] e l env = pure false := by cases e <;> first | (cases h; done) | (cases t <;> rfl)
theorem s_doc {x : Str} {j : Nat} {p p' : Pos} : PS X (.Expr (.Constant (.str x) j p) p') (tS T C .skip) := ps_imp ps_doc fun E σ H ⟨Z, g, s, r, q⟩ => PsS.ok (r := r) q
theorem cS1_ok {n : Nat} {f : Cc → Stmt → Option S} (hf : SoundS T C k f) : SoundS T C k (cS1 n f) := by
  intro X c st s ok hp h
  have hE := cE_ok (T := T) (C := C) (k := k) n
  unfold cS1 at h
  split at h
  · cases h; exact s_pass
  · cases h; exact s_break
  · cases h; exact s_cont
  · cases h; exact s_retN
  · rename_i e pos'
    cases q : cE n c e with
    | none => rw [q] at h; cases h
    | some m =>
      rw [q] at h
      cases h
      exact s_ret (hE X c e m ok q).pe
  · cases h; exact s_doc
  · rename_i e pos' _
    split at h
    · cases h
    · rename_i hc
      cases q : cE n c e with
      | none => rw [q] at h; cases h
      | some m =>
        rw [q] at h
        cases h
        exact s_expr (hE X c e m ok q).pe (sw_none (by simpa using hc))
  · split at h
    · rename_i m1 r1 q1 h1 h2 h3
      cases h
      exact s_if (hE X c _ _ ok h1).pt (cSs_ok hf ok hp h2) (cSs_ok hf ok hp h3)
    · cases h
  · split at h
    · rename_i t1 m1 b1 h1 h2 h3
      cases h
      exact s_for hp ok.calm (cI_ok hE ok h2) (cTg_ok ok h1) (cSs_ok hf ok hp h3) (iter_fold h2)
    · cases h
  · split at h
    · rename_i m1 b1 h1 h2
      cases h
      exact s_while hp (hE X c _ _ ok h1).pt (cSs_ok hf ok hp h2)
    · cases h
  · rename_i x p e pos'
    split at h
    · rename_i i m1 h1 h2
      have kd : X.env.scope.kind = .function := by rw [ok.sc]; exact ok.kind
      obtain ⟨w1, w2, w3⟩ := sto_of ok h1
      have all3 : PS X (.Assign [.Name x p] e pos') (tS T C (.set (.one i) m1)) ∧ (m1.fresh = true → PS X (.Assign [.Name x p] e pos') (tS T C (.setOwn i m1)) ∧ PS X (.Assign [.Name x p] e pos') (tS T C (.setObj i m1))) := by
        by_cases hcomp : isComp e = true
        · obtain ⟨elt, gs, sc, lp, rfl⟩ := comp_form hcomp n h2
          by_cases hsw : X.env.scope.names.lookup x = some .local ∧ (p.line == lp.line) = true ∧ (sc.names.any fun (n, k) => n == x && (k == .local || k == .cell)) = false
          · cases n with
            | zero => cases h2
            | succ n =>
              obtain ⟨te, p1, p2, p3⟩ := setC_ok (cE_ok n) ok w1 hsw.1 h2 (sw_true (l := pos'.line) kd hsw.1 hsw.2.1 hsw.2.2)
              have pst := p1
              refine ⟨?_, fun _ => ⟨s_setOwn p1 p2, s_setObj p1 p2⟩⟩
              refine ps_imp p1 fun E σ H q => ?_
              have q' := set_imp (te := tE T C true m1) (E := E) (σ := σ) (H := H) (fun Q h => frz_imp h) q
              exact p2 σ H _ (tE_mono σ H _ _ (fun v H' ⟨Z, g, S, d, r, hv, p⟩ => PsS.ok (r := r.setVal i hv) p rfl rfl (by show ((σ.set i (some v)).set i none : L2.St) = σ.set i none; rw [List.set_set])) q')
          · exact setN_ok ok h1 (hE X c _ _ ok h2) (sw_name kd (fun elt' gs' sc' pos'' w => by cases w; exact hsw) fun _ => ⟨_, _, _, _, rfl⟩)
        · exact setN_ok ok h1 (hE X c _ _ ok h2) (sw_none (by simpa using hcomp))
      split at h
      · split at h
        · rename_i hfr
          cases h
          exact (all3.2 hfr).1
        · cases h
      · split at h
        · split at h
          · rename_i hfr
            cases h
            exact (all3.2 hfr).2
          · cases h
        · cases h
          exact all3.1
    · cases h
  · split at h
    · rename_i i j m1 r1 h1 h2 h3 h4
      split at h
      · rename_i hc
        simp only [Bool.and_eq_true, decide_eq_true_eq, Bool.not_eq_true', Bool.or_eq_true] at hc
        cases h
        obtain ⟨⟨⟨⟨⟨⟨⟨⟨⟨⟨c1, c2⟩, c3⟩, c4⟩, c5⟩, c6⟩, c7⟩, c8⟩, c9⟩, c10⟩, c11⟩ := hc
        have g1 := hE X c _ _ ok h3
        have g2 := hE X c _ _ ok h4
        have kd : X.env.scope.kind = .function := by rw [ok.sc]; exact ok.kind
        have vis : ∀ {own : Bool} {e : Expr} {m : M}, Good T C X e m → (own = false ∨ m.fresh = true) → PE X e (tE T C own m) := fun {own e m} g w => by
          cases own with
          | false => exact g.pe
          | true => exact g.pn (w.resolve_left (by simp))
        have e1 : X.env.scope.names = c.sc.names := by rw [ok.sc]
        have c1' := c1
        have c2' := c2
        rw [← e1] at c1' c2'
        exact s_par ok.calm ok.nd (sto_of ok h1).1 (sto_of ok h2).1 c9 c1' c2' (vis g1 c10) (vis g2 c11) (noStar c5) (noStar c6) (swap_par kd c1' c2' c3 c4 c5 c6 c7 c8) rfl
      · cases h
    · cases h
  · rename_i es kt pt e pos' _
    split at h
    · cases h
    · rename_i hc
      simp only [Bool.or_eq_true, not_or, Bool.not_eq_true] at hc
      split at h
      · rename_i t1 m1 h1 h2
        split at h
        · cases h
          have g := hE X c _ _ ok h2
          have hsw : swappedStores [.Tuple es kt pt] e X.env = pure none := by
            have := hc.1
            cases e <;> first | rfl | cases this
          exact s_set (ps_asg g.pe (cTg_ok ok h1) (sole_none hc.2) hsw rfl) fun _ _ _ h => h
        · cases h
      · cases h
  · rename_i x p kk n1 p1 p2 e pos'
    split at h
    · cases h
    · rename_i hc
      simp only [Bool.or_eq_true, not_or, Bool.not_eq_true] at hc
      split at h
      · rename_i o1 m1 h1 h2
        cases h
        exact s_oset (by have := ok.un; omega) (hE X c _ _ ok h1).pe (hE X c _ _ ok h2).pe (sw_none hc.1)
      · cases h
  · rename_i x p ix p1 e pos' _
    split at h
    · cases h
    · rename_i hc
      simp only [Bool.or_eq_true, not_or, Bool.not_eq_true] at hc
      split at h
      · rename_i i mk m1 h1 h2 h3
        split at h
        · cases h
          obtain ⟨w1, w2, w3, w4⟩ := slot_ok ok h1
          have hsw : swappedStores [.Subscript (.Name x p) ix p1] e X.env = pure none := by
            have := hc.2
            cases e <;> first | rfl | cases this
          exact s_setIdx (pe_var w1 w2 w3 w4) (hE X c _ _ ok h2).pe (hE X c _ _ ok h3).pe (fun _ => by cases ix <;> first | rfl | (cases n <;> cases h2)) (sole_none hc.1) hsw rfl
        · cases h
      · cases h
  · cases h
theorem cS_ok (n : Nat) : ∀ j, SoundS T C k (cS n j)
  | 0 => fun X c st s ok hp h => by cases h
  | j + 1 => cS1_ok (cS_ok n j)
theorem cD_ok {n : Nat} {body : List Stmt} {s : S} (ok : Ok T C k X c) (hp : PassesOwn (model X.prog X.w) X.A X.env X.xe) (h : cD n c body = some s) : PSs X body (tS T C s) := cSs_ok (cS_ok n n) ok hp h
end
end Mi

set_option autoImplicit false
/-! Mi20: all defs at once; the law's call. -/
namespace Mi
open PySem PySem.Spec L2
open PyProof.Rows

/-- a def as compiled: its number's data -/
structure En where
  name : Str
  ps : List Str
  N : List Str
  own : List Nat
  obj : List Nat
  params : Arguments
  txt : List Stmt
  scope : Scope
  body : S
def En.cc (E : En) (fns : List (Str × FI)) (gls : List (Str × Nat)) (blt : List Str) : Cc := ⟨E.N, E.scope, fun _ => true, fns, gls, blt, E.own, E.obj⟩
def En.df (E : En) : Df := ⟨E.ps.length, E.N.length, E.body⟩
/-- what must be seen of each def, of the text alone -/
abbrev En.okB (E : En) (fns : List (Str × FI)) (gls : List (Str × Nat)) (blt : List Str) (fuel : Nat) : Prop := cD fuel (E.cc fns gls blt) E.txt = some E.body
def prog (es : List En) : Nat → Option Df := fun n => (es[n]?).map En.df
/-- where the defs stand -/
structure Lay (T : Tb) (mg : Str → Option Value) (es : List En) (fns : List (Str × FI)) (gls : List (Str × Nat)) (blt : List Str) (gl : List D) : Prop where
  fun_ : ∀ (n : Nat) (E : En), es[n]? = some E → ∃ f fd, T.fa n = some f ∧ FunD T.K E.name E.name E.params E.txt E.scope [] [] f fd
  sc : ∀ (n : Nat) (E : En), es[n]? = some E → FnScope E.N E.ps E.scope
  fns : ∀ x fi, fns.lookup x = some fi → ∃ E f, es[fi.n]? = some E ∧ T.fa fi.n = some f ∧ mg x = some (.ref f) ∧ ∀ pt ∈ fi.pats, pt.perm.length = E.ps.length ∧ ∀ fd, FunD T.K E.name E.name E.params E.txt E.scope [] [] f fd → BdP T.K fd E.ps pt.np pt.ks pt.perm
  gls : ∀ x n, gls.lookup x = some n → ∃ d v u, gl[n]? = some d ∧ mg x = some u ∧ RelV v u ∧ ∀ Z g H σ S, Rep T Z g H σ S → Dv T g v d
  blt : ∀ x, blt.contains x = true → mg x = none
  fa : ∀ n f, T.fa n = some f → ∃ E, es[n]? = some E
  pos : ∀ (n : Nat) (E : En) (f : Addr) (fd : FuncData), es[n]? = some E → FunD T.K E.name E.name E.params E.txt E.scope [] [] f fd → BdP T.K fd E.ps E.ps.length [] (List.range E.ps.length)
theorem phi_len {es : List En} {gl : List D} {W k n : Nat} {E : En} {ds : List D} {hp hp' : HP} {d : D} (hn : es[n]? = some E) (h : Phi (prog es) gl W k n ds hp = .ok d hp') : ds.length = E.ps.length := by
  cases k with
  | zero => cases h
  | succ k =>
    have h' : (match prog es n with | some d => run1 (Phi (prog es) gl W k) gl W d ds hp | none => .bad) = Mi.CR.ok d hp' := h
    have hp : prog es n = some E.df := by unfold prog; rw [hn]; rfl
    rw [hp] at h'
    simp only [run1] at h'
    split at h'
    · rename_i hl
      exact hl
    · cases h'
theorem all_cal {T : Tb} {P : Program} {w : World} {mg : Str → Option Value} {base : Heap} {es : List En} {fns : List (Str × FI)} {gls : List (Str × Nat)} {blt : List Str} {gl : List D} {W fuel : Nat} (L : Lay T mg es fns gls blt gl)
    (hes : ∀ (n : Nat) (E : En), es[n]? = some E → E.okB fns gls blt fuel) : ∀ (k n : Nat) (E : En) (f : Addr) (fd : FuncData), es[n]? = some E → T.fa n = some f → FunD T.K E.name E.name E.params E.txt E.scope [] [] f fd → CalG T P w mg base (Phi (prog es) gl W k) k n f fd E.ps
  | 0, n, E, f, fd, _, _, _ => by
    intro A outer s H args us vs Q hr e0 hb r hl Z g hp ds d hp' rep hv hphi hq
    cases hphi
  | k + 1, n, E, f, fd, hn, hfa, F => by
    refine cal_of F (L.sc n E hn) (gl := gl) (W := W) (body := E.body) (Φ := Phi (prog es) gl W k) (fun X hP hw hK hmg hbase hN hcalm hsc hrm hfn hpo => ?_) fun ds hp => ?_
    · refine cD_ok (k := k) (c := E.cc fns gls blt) ?_ hpo (hes n E hn)
      refine ⟨hK, hN, by rw [hN]; exact (L.sc n E hn).nd, hsc, (L.sc n E hn).kind, fun x => hfn x, hcalm, hrm.1, fun x hx => by rw [hmg]; exact L.blt x hx, fun x i hx => ?_, fun x fi hx => ?_, fun n2 f2 hf2 => ?_, hrm.2⟩
      · obtain ⟨d, v, u, h1, h2, h3, h4⟩ := L.gls x i hx
        exact ⟨d, v, u, h1, by rw [hmg]; exact h2, h3, h4⟩
      · obtain ⟨E2, f2, h1, h2, h3, h4⟩ := L.fns x fi hx
        obtain ⟨f3, fd2, h5, h6⟩ := L.fun_ fi.n E2 h1
        rw [h2] at h5
        cases h5
        refine ⟨f2, fd2, E2.ps, by rw [hmg]; exact h3, h2, h6.kp, ?_, fun pt hpt => ⟨(h4 pt hpt).1, (h4 pt hpt).2 fd2 h6⟩⟩
        rw [hP, hw, hmg, hbase]
        exact all_cal L hes k fi.n E2 f2 fd2 h1 h2 h6
      · obtain ⟨E2, h1⟩ := L.fa n2 f2 hf2
        obtain ⟨f3, fd2, h5, h6⟩ := L.fun_ n2 E2 h1
        rw [hf2] at h5
        cases h5
        refine ⟨fd2, E2.ps, h6.kp, ?_, L.pos n2 E2 f2 fd2 h1 h6, fun ds hp d hp' h => phi_len h1 h⟩
        rw [hP, hw, hmg, hbase]
        exact all_cal L hes k n2 E2 f2 fd2 h1 hf2 h6
    · show (match prog es n with | some d => _ | none => _) = _
      unfold prog
      rw [hn]
      rfl
/-- at the law's own call: the script known to the heap -/
theorem lawG {P : Program} {w : World} {T : Tb} {mg mb : Str → Option Value} {k li : Nat} {Φ : Nat → List D → HP → Mi.CR} {fa a : Addr} {fd : FuncData} {x : Str} {t : Shared} {its : List Value} {ns : List Int} {hp' : HP}
    (inK : T.K.In t.heap) (gns : t.heap.Ns mainGlobals mg) (bns : t.heap.Ns builtinsNs mb) (boot : ∀ y : Str, y ≠ "__name__" → mb y = bootBuiltins y) (nl : t.heap.NoLimit) (ng : t.gens = #[])
    (la : t.heap.get? a = some { cls := .type "list", data := .seq its.toArray }) (hints : IntsAre its ns) (hz : ns.length ≤ sizeLine) (room : RmG k callerA)
    (F : ∀ bs : Heap, T.K.In bs → bs.Ns mainGlobals mg → CalG T P w mg bs Φ k li fa fd [x]) (bd : ∀ (s : Shared) (u : Value), BindsTo s fd ⟨[u], []⟩ [(x, u)])
    (run : Φ li [.rol (ns.map .int)] [] = .ok (.bl true) hp') :
    codeAny (model P w) callerA (.call (.ref fa) ⟨[.ref a], []⟩) (fun r s' => r = .ok (.ret (.bool true)) ∧ OldK t.heap s'.heap ∧ s'.os = t.os ∧ AllBare s'.gens) t := by
  have rel := L2.vals_ints hints
  have len := hints.length
  have step : ∀ H : Hp, Only H → SqL T.K H a (ns.map V.int) → HOk P w H t.heap → (∀ b, H b ≠ none → b = a) → (H a ≠ none → T.K.lookup a = none) →
      codeAny (model P w) callerA (.call (.ref fa) ⟨[.ref a], []⟩) (fun r s' => r = .ok (.ret (.bool true)) ∧ OldK t.heap s'.heap ∧ s'.os = t.os ∧ AllBare s'.gens) t := by
    intro H only sq okH onlyA notK
    have back : ∀ {b : Addr} {o : Obj}, t.heap.get? b = some o → H b = none → (L2.hidT t.heap H).get? b = some o := fun e n => hidT_get e n
    have dictN : ∀ {b : Addr} {o : Obj} {es : Array DictEntry} {ep : Nat}, t.heap.get? b = some o → o.data = .dict es ep → H b = none := by
      intro b o es ep e d
      by_cases z : H b = none
      · exact z
      · have := onlyA b z
        subst this
        rw [la] at e
        cases e
        cases d
    have nsB : ∀ {b : Addr} {m : Str → Option Value}, t.heap.Ns b m → (L2.hidT t.heap H).Ns b m := by
      rintro b m ⟨o, es, ep, e, d, rest⟩
      exact ⟨o, es, ep, back e (dictN e d), d, rest⟩
    have inB : T.K.In (L2.hidT t.heap H) := by
      intro b o e
      refine back (inK b o e) ?_
      by_cases z : H b = none
      · exact z
      · have := onlyA b z
        subst this
        rw [notK z] at e
        cases e
    obtain ⟨mc, l1, l2⟩ := id nl
    have md : Mod T.K mg (L2.hidT t.heap H) := ⟨inB, nsB gns, ⟨mb, nsB bns, boot⟩, ⟨mc, nsB l1, l2⟩⟩
    have none_ : ∀ b : Addr, b ∉ frs ([] : List Env) := fun b z => absurd (show b ∈ ([] : List Addr) from z) (by simp)
    have env : Env0 P w T.K mg (L2.hidT t.heap H) callerA [] t H := ⟨rfl, md, fun b o e => of_hidT e, Nat.le_of_eq (hidT_size _ _), trivial, fun b z => absurd z (none_ b), okH, .of_eq ng⟩
    have rep : Rep T (fun _ => False) ⟨H, []⟩ H [] ⟨[], []⟩ := ⟨fun _ _ e => e, rfl, fun i x e => (by cases e), fun i j xs ys n e => (by cases e), rfl, fun n a o e => (by cases e), fun n m a e => (by cases e), fun b z => z.elim⟩
    have dvl : ∀ ms : List Int, DvL T ⟨H, []⟩ (ms.map V.int) (ms.map .int) := fun ms => by
      induction ms with
      | nil => exact .nil
      | cons m ms ih => exact .cons (.int m) ih
    refine codeAny_mono (F _ inB (nsB gns) callerA [] t H ⟨[.ref a], []⟩ [.ref a] [.ref a] (fun v _ => v = .bl true) room env (bd t (.ref a)) (.cons rfl .nil) rfl (fun _ => False) ⟨H, []⟩ [] _ _ hp' rep (.cons (.rol sq (dvl ns)) .nil) run fun v g' H' _ _ _ hv => by cases hv; rfl) fun r s' h => ?_
    cases r with
    | error e => exact False.elim h
    | ok fl =>
      cases fl with
      | next => exact False.elim h
      | brk => exact False.elim h
      | cont => exact False.elim h
      | ret u =>
        obtain ⟨v, H', eo, eb, eu, eh, er, ev⟩ := h
        have ev' : v = .bl true := ev
        subst ev'
        obtain rfl : u = Value.bool true := er
        refine ⟨rfl, OldK.of_keep fun b o e => ?_, eo, eb⟩
        rcases only b with z | ⟨ob, xs, z⟩
        · exact eu.keep b o e z (none_ b) (by simp)
        · obtain ⟨q1, _⟩ := okH b _ z
          obtain ⟨q2, _⟩ := eh b _ (eu.frzs b ob _ z)
          rw [e] at q1
          cases q1
          exact q2
  cases at_ : T.K.lookup a with
  | some o =>
    have e := inK a o at_
    rw [la] at e
    cases e
    refine step (fun _ => none) (fun _ => .inl rfl) (.inr ⟨_, its.toArray, _, at_, rfl, rfl, rfl, by rw [List.size_toArray, len]; exact hz, by simpa using rel⟩) (fun b u z => nomatch z) (fun b z => absurd rfl z) fun z => absurd rfl z
  | none =>
    have there : (fun b => if b = a then some (HO.frz { cls := .type "list", data := .seq its.toArray } (.lst (ns.map V.int))) else none : Hp) a = some (.frz { cls := .type "list", data := .seq its.toArray } (.lst (ns.map V.int))) := if_pos rfl
    refine step (fun b => if b = a then some (.frz { cls := .type "list", data := .seq its.toArray } (.lst (ns.map V.int))) else none) (fun b => ?_) (.inl (.inr ⟨_, there⟩)) (fun b u z => ?_) (fun b z => ?_) fun _ => at_
    · by_cases hb : b = a
      · subst hb; exact .inr ⟨_, _, there⟩
      · exact .inl (if_neg hb)
    · by_cases hb : b = a
      · subst hb
        rw [there] at z
        cases z
        exact ⟨la, by rw [List.length_map]; exact hz, its, _, rel, la⟩
      · simp [hb] at z
    · by_cases hb : b = a
      · exact hb
      · exact absurd (if_neg hb) z
/-- a law's walk -/
theorem walkG {l : PySem.W.OpenLaw} {n k li : Nat} {q : Program} {loose : List Str} {XP : (Str → Option Value) → Heap → Prop} {YP : World → Heap → Prop} {d : DefRec} {x : Str} {Φ : Nat → List D → HP → Mi.CR}
    (most : l.most = some n) (small : n ≤ sizeLine) (nodef : d.params.defaults = []) (room : RmG k callerA)
    (F : ∀ (w : World) (mg : Str → Option Value) (fa : Addr) (h : Heap), YP w h → h.Ns mainGlobals mg → mg d.name = some (.ref fa) →
      ∃ (T : Tb) (fd : FuncData), T.K.In h ∧ (∀ (s : Shared) (u : Value), BindsTo s fd ⟨[u], []⟩ [(x, u)]) ∧ ∀ bs : Heap, T.K.In bs → bs.Ns mainGlobals mg → CalG T l.prog w mg bs Φ k li fa fd [x])
    (run : ∀ ns : List Int, ns.length ≤ n → ∃ hp', Φ li [.rol (ns.map .int)] [] = .ok (.bl true) hp') :
    PySem.W.WalkO q loose XP YP l.row.toRowW d [] (fun f vs => PySem.call f vs) := by
  refine Att.attach_call most nodef fun w s₀ t mg mb fa o pm cd doc a its ns G Y ho hd hcd hmg la hints hlen ng => ?_
  obtain ⟨T, fd, inK, bd, hF⟩ := F w mg fa _ Y G.T.g hmg
  obtain ⟨hp', hrun⟩ := run ns hlen
  exact lawG inK G.T.g G.T.b G.T.builtins G.T.nolimit ng la hints (Nat.le_trans hlen small) room hF bd hrun
end Mi

set_option autoImplicit false
/-! Mi21: from the head's facts to the defs' places. -/
namespace Mi
open PySem PySem.Spec L2
open PyProof.Rows

/-- the parts of FnScope, as a test -/
def scB (N P : List Str) (sc : Scope) : Bool := decide (sc.kind = .function) && !sc.isCoroutine && !sc.isGenerator && decide N.Nodup && decide (N.take P.length = P) && (P.all fun x => decide (sc.names.lookup x = some .local) || decide (sc.names.lookup x = some .cell)) && (sc.names.all fun y => decide (y.2 ≠ .free))
theorem sc_ok {N P : List Str} {sc : Scope} (h : scB N P sc = true) : FnScope N P sc := by
  unfold scB at h
  simp only [Bool.and_eq_true, decide_eq_true_eq, Bool.not_eq_true', List.all_eq_true, Bool.or_eq_true] at h
  obtain ⟨⟨⟨⟨⟨⟨h1, h2⟩, h3⟩, h4⟩, h5⟩, h6⟩, h7⟩ := h
  exact ⟨h1, h2, h3, h4, h5, fun x hx => h6 x hx, fun y hy => h7 y hy⟩
def dOf (E : En) : He.DefD := ⟨(E.name, none), E.name, E.name, E.params, E.txt, E.scope, [], []⟩
/-- a call's form binds as told, whatever object the def is -/
def PatOk (E : En) (pt : Pat) : Prop := pt.perm.length = E.ps.length ∧ ∀ (K : PySem.W.Frag) (f : Addr) (fd : FuncData), FunD K E.name E.name E.params E.txt E.scope [] [] f fd → BdP K fd E.ps pt.np pt.ks pt.perm
theorem bd_of {E : En} {np : Nat} {ks : List Str} {perm : List Nat} (h : ∀ (kV doc pm : Value) (an : Option Addr) (cdv ct : Value) (us ws ys : List Value), us.length = np → ws.length = ks.length → pick perm (us ++ ws) = some ys → bindArgs (PySem.W.fnOf E.name E.name E.params E.txt E.scope .none kV doc pm an cdv ct) ⟨us, ks.zip ws⟩ = pure (E.ps.zip ys))
    (K : PySem.W.Frag) (f : Addr) (fd : FuncData) (F : FunD K E.name E.name E.params E.txt E.scope [] [] f fd) : BdP K fd E.ps np ks perm := by
  obtain ⟨oc, od, dV, kV, doc, pm, an, cdv, ct, osl, rfl, lk, hcd, hD, hK⟩ := F.ex
  intro s us ws ys _ h1 h2 h3
  rcases hD with ⟨_, rfl⟩ | ⟨e, _⟩
  · exact .of_eq (h kV doc pm an cdv ct us ws ys h1 h2 h3)
  · exact absurd rfl e
def fnsOk (es : List En) (fns : List (Str × FI)) : Prop := ∀ q ∈ fns, ∃ E, es[q.2.n]? = some E ∧ E.name = q.1 ∧ ∀ pt ∈ q.2.pats, PatOk E pt
/-- a constant of the module -/
inductive Cf where
  | int (x : Str) (i : Int)
  | str (x z : Str)
  | tup (x : Str) (vs : List Str)
def Cf.name : Cf → Str
  | .int x _ => x
  | .str x _ => x
  | .tup x _ => x
def Cf.d : Cf → D
  | .int _ i => .int i
  | .str _ z => .str z
  | .tup _ vs => .tup (vs.map .str)
def Cf.fa : Cf → He.Fa
  | .int x i => .int x i
  | .str x z => .str x z
  | .tup x _ => .glo x
def Cf.ex (K : PySem.W.Frag) : Cf → Bool
  | .tup x vs => He.tupB K x (vs.map .str)
  | _ => true
def Cf.fit : Cf → Bool
  | .str _ z => decide (z.length ≤ lim) && PyData.strOk z
  | .tup _ vs => vs.all fun z => decide (z.length ≤ lim) && PyData.strOk z
  | _ => true
def faOf (es : List En) (cs : List Cf) (blt : List Str) : List He.Fa := es.map (fun E => .glo E.name) ++ (cs.map Cf.fa ++ blt.map .free)
/-- the hook: the facts, and the tuples of texts -/
def obX (n : Nat) (fa : List He.Fa) (fn : List He.DefD) (ex : PySem.W.Frag → Bool) (s : Addr → Option Obj) : He.AlD × Bool := (He.obsDG n fa fn s, ex (He.frG s (He.asD s n)))
def hookX (n : Nat) (fa : List He.Fa) (fn : List He.DefD) (ex : PySem.W.Frag → Bool) : PySem.W.Hook where
  α := He.AlD × Bool
  obs := fun s => obX n fa fn ex s.heap.get?
  val := fun _ => (He.valD fn, true)
  says := fun _ h => ∃ K : PySem.W.Frag, K.In h ∧ He.SaysD fa fn K ∧ ex K = true
  of := fun _ _ e => ⟨_, He.frG_in, congrArg Prod.fst e, congrArg Prod.snd e⟩
  keeps := fun _ _ _ ⟨K, hK, c⟩ k => ⟨K, PySem.W.Frag.In.keeps hK k, c⟩
theorem obX_eq {n : Nat} {fa : List He.Fa} {fn : List He.DefD} {ex : PySem.W.Frag → Bool} {g : Addr → Option Obj} {s : Shared} (h : ∀ a, g a = s.heap.get? a) : obX n fa fn ex g = (hookX n fa fn ex).obs s := by
  have e : g = s.heap.get? := funext h
  rw [e]
  rfl
def exOf (cs : List Cf) (K : PySem.W.Frag) : Bool := cs.all (Cf.ex K)
def tbOf (K : PySem.W.Frag) (es : List En) : Tb := ⟨K, fun n => (es[n]?).map fun E => He.ga K E.name⟩
def glsOf (cs : List Cf) : Nat → List (Str × Nat)
  | k => match cs with
    | [] => []
    | c :: r => (c.name, k) :: glsOf r (k + 1)
theorem glsOf_get : ∀ {cs : List Cf} {k : Nat} {x : Str} {n : Nat}, (glsOf cs k).lookup x = some n → ∃ j c, cs[j]? = some c ∧ n = k + j ∧ c.name = x
  | [], k, x, n, h => by cases h
  | c :: r, k, x, n, h => by
    rw [glsOf, List.lookup_cons] at h
    by_cases hx : x = c.name
    · subst hx
      simp at h
      exact ⟨0, c, rfl, by omega, rfl⟩
    · have hb : (x == c.name) = false := by simpa using hx
      rw [hb] at h
      obtain ⟨j, c', h1, h2, h3⟩ := glsOf_get h
      exact ⟨j + 1, c', by simpa using h1, by omega, h3⟩
theorem lookup_mem {α : Type} {l : List (Str × α)} {x : Str} {v : α} (h : l.lookup x = some v) : (x, v) ∈ l := by
  induction l with
  | nil => cases h
  | cons p l ih =>
    obtain ⟨k, w⟩ := p
    rw [List.lookup_cons] at h
    by_cases hx : x = k
    · subst hx
      simp at h
      subst h
      simp
    · have hb : (x == k) = false := by simpa using hx
      rw [hb] at h
      exact List.mem_cons_of_mem _ (ih h)
theorem sayK {es : List En} {cs : List Cf} {blt : List Str} {K : PySem.W.Frag} (c : He.SaysD (faOf es cs blt) (es.map dOf) K) {f : He.Fa} (hf : f ∈ faOf es cs blt) : f.ok K = true := by
  obtain ⟨i, hi⟩ := List.mem_iff_getElem?.mp hf
  exact c.fact i hi
theorem lay_of {es : List En} {fns : List (Str × FI)} {cs : List Cf} {blt : List Str} {K : PySem.W.Frag} {h : Heap} {mg : Str → Option Value} (X : K.In h) (G : h.Ns mainGlobals mg) (c : He.SaysD (faOf es cs blt) (es.map dOf) K) (ex : exOf cs K = true)
    (hsc : (es.all fun E => scB E.N E.ps E.scope) = true) (hf : fnsOk es fns) (hfit : cs.all Cf.fit = true) (hpos : ∀ E ∈ es, PatOk E ⟨E.ps.length, [], List.range E.ps.length⟩) : Lay (tbOf K es) mg es fns (glsOf cs 0) blt (cs.map Cf.d) := by
  have glo : ∀ {E : En}, E ∈ es → mg E.name = some (.ref (He.ga K E.name)) := fun {E} hE =>
    He.glo_ok X G (sayK c (List.mem_append_left _ (List.mem_map_of_mem (f := fun E => He.Fa.glo E.name) hE)))
  refine ⟨fun n E hn => ?_, fun n E hn => ?_, fun x fi hx => ?_, fun x n hx => ?_, fun x hx => ?_, fun n f hf => ?_, fun n E f fd hn F => (hpos E (List.mem_of_getElem? hn)).2 K f fd F⟩
  · have hd : (es.map dOf)[n]? = some (dOf E) := by rw [List.getElem?_map, hn]; rfl
    obtain ⟨fd, F⟩ := c.def_ n hd
    exact ⟨He.ga K E.name, fd, by show (es[n]?).map _ = _; rw [hn]; rfl, F⟩
  · exact sc_ok (List.all_eq_true.mp hsc E (List.mem_of_getElem? hn))
  · obtain ⟨E, h1, h2, h3⟩ := hf (x, fi) (lookup_mem hx)
    have h2' : E.name = x := h2
    subst h2'
    refine ⟨E, He.ga K E.name, h1, by show (es[fi.n]?).map _ = _; rw [h1]; rfl, glo (List.mem_of_getElem? h1), fun pt hpt => ⟨(h3 pt hpt).1, fun fd F => ?_⟩⟩
    exact (h3 pt hpt).2 K _ fd F
  · obtain ⟨j, cf, h1, h2, h3⟩ := glsOf_get hx
    have hj : n = j := by omega
    subst hj
    subst h3
    have hc := sayK c (f := cf.fa) (List.mem_append_right _ (List.mem_append_left _ (List.mem_map_of_mem (f := Cf.fa) (List.mem_of_getElem? h1))))
    have hE := List.all_eq_true.mp ex cf (List.mem_of_getElem? h1)
    have hF := List.all_eq_true.mp hfit cf (List.mem_of_getElem? h1)
    have gd : (cs.map Cf.d)[n]? = some cf.d := by rw [List.getElem?_map, h1]; rfl
    cases cf with
    | int y i =>
      obtain ⟨t, ht⟩ := He.int_ok X G hc
      exact ⟨_, .int i, _, gd, ht, ⟨t, rfl⟩, fun _ _ _ _ _ _ => .int i⟩
    | str y z =>
      obtain ⟨t, ht⟩ := He.str_ok X G hc
      have hz : z.length ≤ lim ∧ PyData.strOk z = true := by simpa [Cf.fit] using hF
      exact ⟨_, .str z, _, gd, ht, ⟨t, rfl⟩, fun _ _ _ _ _ _ => .str z hz.1 hz.2⟩
    | tup y vs =>
      have ht := He.glo_ok X G hc
      refine ⟨_, .ref (He.ga K y), _, gd, ht, rfl, fun Z g H σ S _ => .tup (He.tupB_ok (vs := vs.map .str) hE g.F) ?_⟩
      have hz : ∀ z ∈ vs, z.length ≤ lim ∧ PyData.strOk z = true := by simpa [Cf.fit] using hF
      clear gd hc hE hF h1 ht hx h2
      induction vs with
      | nil => exact .nil
      | cons z vs ih => exact .cons (.str z (hz z (by simp)).1 (hz z (by simp)).2) (ih fun w hw => hz w (by simp [hw]))
  · have hm : x ∈ blt := by simpa using hx
    exact He.free_ok X G (sayK c (List.mem_append_right _ (List.mem_append_right _ (List.mem_map_of_mem (f := He.Fa.free) hm))))
  · have hf' : (es[n]?).map (fun E => He.ga K E.name) = some f := hf
    cases q : es[n]? with
    | none => rw [q] at hf'; cases hf'
    | some E => exact ⟨E, rfl⟩
end Mi

set_option autoImplicit false
/-! MiD: plain mathematics: what is drawn (begun, blended, draw, pick, mixed of every law). -/
namespace Mw
open PySem Mi

/-! ### loops -/
theorem forL_inv {f : D → Sg → R Fl} (I : Sg → Prop) : ∀ (ds : List D) (s : Sg), I s → (∀ d ∈ ds, ∀ s, I s → ∃ s', f d s = .ok .next s' ∧ I s') → ∃ s', forL f ds s = .ok .next s' ∧ I s'
  | [], s, h, _ => ⟨s, rfl, h⟩
  | d :: ds, s, h, st => by
    obtain ⟨s1, e1, h1⟩ := st d (by simp) s h
    obtain ⟨s2, e2, h2⟩ := forL_inv I ds s1 h1 fun x hx => st x (by simp [hx])
    exact ⟨s2, by rw [forL, e1]; exact e2, h2⟩

theorem forL_idx {f : D → Sg → R Fl} (I : Nat → Sg → Prop) : ∀ (ds : List D) (k : Nat) (s : Sg), I k s → (∀ j d s, ds[j]? = some d → I (k + j) s → ∃ s', f d s = .ok .next s' ∧ I (k + j + 1) s') → ∃ s', forL f ds s = .ok .next s' ∧ I (k + ds.length) s'
  | [], k, s, h, _ => ⟨s, rfl, h⟩
  | d :: ds, k, s, h, st => by
    obtain ⟨s1, e1, h1⟩ := st 0 d s rfl h
    obtain ⟨s2, e2, h2⟩ := forL_idx I ds (k + 1) s1 h1 fun j x s hj hJ => by
      have e : k + 1 + j = k + (j + 1) := by omega
      rw [e] at hJ ⊢
      exact st (j + 1) x s hj hJ
    exact ⟨s2, by rw [forL, e1]; exact e2, by rw [List.length_cons, show k + (ds.length + 1) = k + 1 + ds.length by omega]; exact h2⟩
/-- the law's state: what is left to draw from -/
def stD (G C : List Int) (l t : Int) : HP := [.list (G.map .int), .dict [("great", .obj 0), ("cells", .lst (C.map .int)), ("left", .int l), ("turn", .int t)]]
def Good0 (hp : HP) : Prop := ∃ G C l t, hp = stD G C l t ∧ (∀ x ∈ G, 0 ≤ x) ∧ (∀ x ∈ C, 0 ≤ x) ∧ 0 ≤ l ∧ 0 ≤ t

def bBlended : S := (.seq (.par 1 false (.op2 .add (.oget (.var 0) "turn") (.const (.int 1))) 2 false (.const (.int 0)))
  (.seq (.oset (.var 0) "turn" (.var 1))
  (.seq (.for_ (.one 3) (.sSeq (.lst (.cons (.const (.int 2147481949)) (.cons (.const (.int 2147481937)) (.cons (.const (.int 2147481907)) .nil)))))
  (.seq (.set (.one 4) (.op2 .add (.op2 .mul (.const (.int 41491)) (.peek 1)) (.op2 .fdiv (.peek 3) (.const (.int 71)))))
  (.seq (.for_ (.one 5) (.sSeq (.oget (.var 0) "cells"))
  (.set (.one 4) (.op2 .mod (.bi .int (.cons (.op2 .add (.op2 .add (.op2 .mul (.peek 4) (.const (.int 68909))) (.peek 5)) (.peek 1)) .nil)) (.peek 3))))
  (.set (.one 2) (.op2 .add (.op2 .mul (.peek 2) (.const (.int 2147483647))) (.op2 .mod (.bi .int (.cons (.op2 .pow (.peek 4) (.const (.int 5))) .nil)) (.peek 3)))))))
  (.ret (.var 2)))))

section
variable {Φ : Nat → List D → HP → CR} {gl : List D} {W : Nat} {l0 t0 : D}
@[simp] theorem bind_ok {α β : Type} (a : α) (s : Sg) (f : α → Sg → R β) : (R.ok a s).bind f = f a s := rfl
@[simp] theorem ofO_some {α : Type} (a : α) (s : Sg) : R.ofO (some a) s = .ok a s := rfl
theorem mul_r (i j : Int) (h : small j = true) : mulD (.int i) (.int j) = some (.int (i * j)) := by
  show (if small i || small j then _ else _) = _
  rw [h, Bool.or_true]; rfl
theorem mul_l (i j : Int) (h : small i = true) : mulD (.int i) (.int j) = some (.int (i * j)) := by
  show (if small i || small j then _ else _) = _
  rw [h, Bool.true_or]; rfl
theorem mod_pos (i j : Int) (h : 0 < j) : op2 .mod (.int i) (.int j) = some (.int (i % j)) := by
  show (if decide (0 < j) then _ else _) = _
  rw [decide_eq_true h]; rfl
theorem fdiv_pos (i j : Int) (h : 0 < j) (h2 : j < 1073741824) : op2 .fdiv (.int i) (.int j) = some (.int (i / j)) := by
  show (if decide (0 < j) && decide (j < 1073741824) then _ else _) = _
  rw [decide_eq_true h, decide_eq_true h2]; rfl
theorem blend_in (t f p b c : Int) (x : Sl) (hp : HP) (hb : 0 < p) :
    ex ⟨Φ, gl, W⟩ (.set (.one 4) (.op2 .mod (.bi .int (.cons (.op2 .add (.op2 .add (.op2 .mul (.peek 4) (.const (.int 68909))) (.peek 5)) (.peek 1)) .nil)) (.peek 3))) ⟨[.val (.obj 1), .val (.int t), .val (.int f), .val (.int p), .val (.int b), .val (.int c)], hp⟩
      = .ok .next ⟨[.val (.obj 1), .val (.int t), .val (.int f), .val (.int p), .val (.int ((b * 68909 + c + t) % p)), .val (.int c)], hp⟩ := by
  simp [ex, ev, evb, argOf, two, one, Sg.res, mul_r b 68909 (by decide), addD, biD, asg, Sg.set, op2, hb]
theorem seq_next {C : Cn} {a b : S} {s s1 : Sg} (h : ex C a s = .ok .next s1) : ex C (.seq a b) s = ex C b s1 := by
  show (ex C a s).bind _ = _
  rw [h]; rfl
theorem for_eq {C : Cn} {tg : Tg} {src : M} {body : S} {s s1 : Sg} {ds : List D} (h : evI C src s = .ok ds s1) : ex C (.for_ tg src body) s = forL (fun d s => (asg tg d s).bind fun _ s => ex C body s) ds s1 := by
  show (evI C src s).bind _ = _
  rw [h]; rfl
theorem small_of {i : Int} (h1 : 0 ≤ i) (h2 : i < 2 ^ 64) : small i = true := by
  unfold small
  rw [decide_eq_true_eq]
  omega
/-- the dict of the law's state -/
def stO (C : List Int) (l t : Int) : HObj := .dict [("great", .obj 0), ("cells", .lst (C.map .int)), ("left", .int l), ("turn", .int t)]
theorem blend_cells {src : M} {S0 : Sg} (C : List Int) (l t' t f p b : Int) (z : Sl) (hp : HP) (h1 : hp[1]? = some (stO C l t')) :
    evI ⟨Φ, gl, W⟩ (.sSeq (.oget (.var 0) "cells")) ⟨[.val (.obj 1), .val (.int t), .val (.int f), .val (.int p), .val (.int b), z], hp⟩ = .ok (C.map .int) ⟨[.val (.obj 1), .val (.int t), .val (.int f), .val (.int p), .val (.int b), z], hp⟩ := by
  simp [evI, ev, h1, stO, List.lookup, D.items]
  rfl
theorem blend_first (t f p : Int) (y z : Sl) (hp : HP) : ex ⟨Φ, gl, W⟩ (.set (.one 4) (.op2 .add (.op2 .mul (.const (.int 41491)) (.peek 1)) (.op2 .fdiv (.peek 3) (.const (.int 71))))) ⟨[.val (.obj 1), .val (.int t), .val (.int f), .val (.int p), y, z], hp⟩
      = .ok .next ⟨[.val (.obj 1), .val (.int t), .val (.int f), .val (.int p), .val (.int (41491 * t + p / 71)), z], hp⟩ := by
  simp [ex, ev, evb, argOf, two, one, Sg.res, mul_l 41491 t (by decide), addD, asg, Sg.set, op2]
theorem blend_last (t f p b : Int) (z : Sl) (hp : HP) (hb : 0 < p) (h0 : 0 ≤ b) (h2 : b < 2 ^ 64) : ex ⟨Φ, gl, W⟩ (.set (.one 2) (.op2 .add (.op2 .mul (.peek 2) (.const (.int 2147483647))) (.op2 .mod (.bi .int (.cons (.op2 .pow (.peek 4) (.const (.int 5))) .nil)) (.peek 3)))) ⟨[.val (.obj 1), .val (.int t), .val (.int f), .val (.int p), .val (.int b), z], hp⟩
      = .ok .next ⟨[.val (.obj 1), .val (.int t), .val (.int (f * 2147483647 + b ^ 5 % p)), .val (.int p), .val (.int b), z], hp⟩ := by
  simp [ex, ev, evb, argOf, two, one, Sg.res, mul_r f 2147483647 (by decide), addD, asg, Sg.set, op2, small_of h0 h2, biD, hb]
/-- one prime -/
theorem blend_mid (C : List Int) (hC : ∀ x ∈ C, 0 ≤ x) (l t' t f p : Int) (y z : Sl) (hp : HP) (hb : 0 < p) (hp71 : p < 2 ^ 40) (h1 : hp[1]? = some (stO C l t')) (hf : 0 ≤ f) (ht : 0 ≤ t) (ht2 : t < 2 ^ 40) :
    ∃ f' y' z', ex ⟨Φ, gl, W⟩ (.seq (.set (.one 4) (.op2 .add (.op2 .mul (.const (.int 41491)) (.peek 1)) (.op2 .fdiv (.peek 3) (.const (.int 71)))))
  (.seq (.for_ (.one 5) (.sSeq (.oget (.var 0) "cells"))
  (.set (.one 4) (.op2 .mod (.bi .int (.cons (.op2 .add (.op2 .add (.op2 .mul (.peek 4) (.const (.int 68909))) (.peek 5)) (.peek 1)) .nil)) (.peek 3))))
  (.set (.one 2) (.op2 .add (.op2 .mul (.peek 2) (.const (.int 2147483647))) (.op2 .mod (.bi .int (.cons (.op2 .pow (.peek 4) (.const (.int 5))) .nil)) (.peek 3)))))) ⟨[.val (.obj 1), .val (.int t), .val (.int f), .val (.int p), y, z], hp⟩
      = .ok .next ⟨[.val (.obj 1), .val (.int t), .val (.int f'), .val (.int p), y', z'], hp⟩ ∧ 0 ≤ f' := by
  rw [seq_next (blend_first t f p y z hp)]
  have q0 : 0 ≤ p / 71 := Int.ediv_nonneg (by omega) (by omega)
  have q1 : p / 71 ≤ p := Int.ediv_le_self _ (by omega)
  obtain ⟨s2, e2, b2, z2, es, g1, g2⟩ := forL_inv (f := fun d s => (asg (.one 5) d s).bind fun _ s => ex ⟨Φ, gl, W⟩ (.set (.one 4) (.op2 .mod (.bi .int (.cons (.op2 .add (.op2 .add (.op2 .mul (.peek 4) (.const (.int 68909))) (.peek 5)) (.peek 1)) .nil)) (.peek 3))) s)
    (fun s => ∃ b z, s = ⟨[.val (.obj 1), .val (.int t), .val (.int f), .val (.int p), .val (.int b), z], hp⟩ ∧ 0 ≤ b ∧ b < 2 ^ 64) (C.map .int) _ ⟨41491 * t + p / 71, z, rfl, by omega, by omega⟩ (fun d hd s ⟨b, z, es, g1, g2⟩ => by
      obtain ⟨c, hc, rfl⟩ := List.mem_map.mp hd
      subst es
      refine ⟨_, blend_in t f p b c z hp hb, _, _, rfl, Int.emod_nonneg _ (by omega), ?_⟩
      have := Int.emod_lt_of_pos (b * 68909 + c + t) hb
      omega)
  subst es
  rw [seq_next (by rw [for_eq (blend_cells (src := .nil) (S0 := ⟨[], []⟩) C l t' t f p _ z hp h1)]; exact e2), blend_last t f p b2 z2 hp hb g1 g2]
  refine ⟨_, _, _, rfl, ?_⟩
  have := Int.emod_nonneg (b2 ^ 5) (show p ≠ 0 by omega)
  omega
theorem stD_1 {G C : List Int} {l t : Int} : (stD G C l t)[1]? = some (stO C l t) := rfl
theorem blend_a (G C : List Int) (l t : Int) : ex ⟨Φ, gl, W⟩ (.par 1 false (.op2 .add (.oget (.var 0) "turn") (.const (.int 1))) 2 false (.const (.int 0))) ⟨[.val (.obj 1), .emp, .emp, .emp, .emp, .emp], stD G C l t⟩
    = .ok .next ⟨[.val (.obj 1), .val (.int (t + 1)), .val (.int 0), .emp, .emp, .emp], stD G C l t⟩ := rfl
theorem blend_b (G C : List Int) (l t u : Int) (a b c d : Sl) : ex ⟨Φ, gl, W⟩ (.oset (.var 0) "turn" (.var 1)) ⟨[.val (.obj 1), .val (.int u), a, b, c, d], stD G C l t⟩
    = .ok .next ⟨[.val (.obj 1), .val (.int u), a, b, c, d], stD G C l u⟩ := rfl
theorem blended_ok {G C : List Int} {l t : Int} (hC : ∀ x ∈ C, 0 ≤ x) (ht : 0 ≤ t) (ht2 : t + 1 < 2 ^ 40) : ∃ r : Int, 0 ≤ r ∧ run1 Φ gl W ⟨1, 6, bBlended⟩ [.obj 1] (stD G C l t) = .ok (.int r) (stD G C l (t + 1)) := by
  have e : run1 Φ gl W ⟨1, 6, bBlended⟩ [.obj 1] (stD G C l t) = fin (ex ⟨Φ, gl, W⟩ bBlended ⟨[.val (.obj 1), .emp, .emp, .emp, .emp, .emp], stD G C l t⟩) := rfl
  obtain ⟨s2, e2, f, p, y, z, es, hf⟩ := forL_inv (f := fun d s => (asg (.one 3) d s).bind fun _ s => ex ⟨Φ, gl, W⟩ (.seq (.set (.one 4) (.op2 .add (.op2 .mul (.const (.int 41491)) (.peek 1)) (.op2 .fdiv (.peek 3) (.const (.int 71)))))
  (.seq (.for_ (.one 5) (.sSeq (.oget (.var 0) "cells"))
  (.set (.one 4) (.op2 .mod (.bi .int (.cons (.op2 .add (.op2 .add (.op2 .mul (.peek 4) (.const (.int 68909))) (.peek 5)) (.peek 1)) .nil)) (.peek 3))))
  (.set (.one 2) (.op2 .add (.op2 .mul (.peek 2) (.const (.int 2147483647))) (.op2 .mod (.bi .int (.cons (.op2 .pow (.peek 4) (.const (.int 5))) .nil)) (.peek 3)))))) s)
    (fun s => ∃ (f : Int) (p y z : Sl), s = ⟨[.val (.obj 1), .val (.int (t + 1)), .val (.int f), p, y, z], stD G C l (t + 1)⟩ ∧ 0 ≤ f) [.int 2147481949, .int 2147481937, .int 2147481907] ⟨[.val (.obj 1), .val (.int (t + 1)), .val (.int 0), .emp, .emp, .emp], stD G C l (t + 1)⟩ ⟨0, _, _, _, rfl, by omega⟩ (fun d hd s ⟨f, p, y, z, es, hf⟩ => by
      subst es
      have : ∃ q : Int, d = .int q ∧ 0 < q ∧ q < 2 ^ 40 := by
        simp only [List.mem_cons, List.not_mem_nil, or_false] at hd
        rcases hd with rfl | rfl | rfl
        · exact ⟨_, rfl, by decide, by decide⟩
        · exact ⟨_, rfl, by decide, by decide⟩
        · exact ⟨_, rfl, by decide, by decide⟩
      obtain ⟨q, rfl, q1, q2⟩ := this
      obtain ⟨f', y', z', e3, hf'⟩ := blend_mid (Φ := Φ) (gl := gl) (W := W) C hC l (t + 1) (t + 1) f q y z (stD G C l (t + 1)) q1 q2 rfl hf (by omega) ht2
      exact ⟨_, e3, f', _, y', z', rfl, hf'⟩)
  refine ⟨f, hf, ?_⟩
  rw [e]
  unfold bBlended
  rw [seq_next (blend_a G C l t), seq_next (blend_b G C l t (t + 1) _ _ _ _)]
  subst es
  rw [seq_next (by rw [for_eq (s1 := ⟨[.val (.obj 1), .val (.int (t + 1)), .val (.int 0), .emp, .emp, .emp], stD G C l (t + 1)⟩) (ds := [.int 2147481949, .int 2147481937, .int 2147481907]) rfl]; exact e2)]
  rfl

def bDraw (nb : Nat) : S := (.seq (.ite (.op2 .eq (.oget (.var 0) "left") (.const (.int 0)))
  (.oset (.var 0) "left" (.ifx (.op2 .ne (.oget (.var 0) "great") (.lst .nil)) (.opop0 (.oget (.var 0) "great")) (.callk nb [0] (.cons (.var 0) .nil))))
  .skip)
  (.seq (.set (.one 2) (.op2 .mod (.bi .int (.cons (.oget (.var 0) "left") .nil)) (.peek 1)))
  (.seq (.oset (.var 0) "left" (.op2 .fdiv (.oget (.var 0) "left") (.peek 1)))
  (.ret (.var 2)))))
/-- a state that can be drawn from n times behind its turn -/
def Dr (n : Nat) (hp : HP) : Prop := ∃ (G C : List Int) (l t : Int), hp = stD G C l t ∧ (∀ x ∈ G, 0 ≤ x) ∧ (∀ x ∈ C, 0 ≤ x) ∧ 0 ≤ l ∧ 0 ≤ t ∧ t ≤ n
theorem Dr.up {m n : Nat} {hp : HP} (h : Dr m hp) (l : m ≤ n) : Dr n hp := by
  obtain ⟨G, C, a, t, e, h1, h2, h3, h4, h5⟩ := h
  exact ⟨G, C, a, t, e, h1, h2, h3, h4, by omega⟩
theorem pls_ints : ∀ (G : List Int), D.pls (G.map D.int) = true
  | [] => rfl
  | x :: G => by rw [List.map_cons, D.pls, pls_ints G]; rfl
theorem deq_int (i j : Int) : deq (.int i) (.int j) = some (decide (i = j)) := by
  show some (PyData.eqv (.int i) (.int j)) = _
  congr 1
theorem deq_nil (xs : List D) (h : D.pls xs = true) : deq (.lst xs) (.lst []) = some xs.isEmpty := by
  unfold deq
  have h1 : ((D.lst xs).pl && (D.lst []).pl && decide (min (D.lst xs).py.depth (D.lst []).py.depth ≤ 60)) = true := by
    have e1 : (D.lst xs).pl = true := by rw [D.pl]; exact h
    have e2 : (D.lst []).py.depth = 1 := rfl
    rw [e1, e2]
    simp only [Bool.true_and, Bool.and_eq_true, decide_eq_true_eq]
    exact ⟨rfl, by omega⟩
  rw [if_pos h1]
  cases xs with
  | nil => rfl
  | cons x xs => rfl
theorem ifx_t {C : Cn} {c a b : M} {s s1 : Sg} (h : ev C c s = .ok (.bl true) s1) : ev C (.ifx c a b) s = ev C a s1 := by
  show (ev C c s).bind _ = _
  rw [h]; rfl
theorem ifx_f {C : Cn} {c a b : M} {s s1 : Sg} (h : ev C c s = .ok (.bl false) s1) : ev C (.ifx c a b) s = ev C b s1 := by
  show (ev C c s).bind _ = _
  rw [h]; rfl
theorem oset_left {e : M} {s : Sg} {d l t m : Int} {G C : List Int} (h : ev ⟨Φ, gl, W⟩ e s = .ok (.int d) ⟨[.val (.obj 1), .val (.int m), .emp], stD G C l t⟩) : ex ⟨Φ, gl, W⟩ (.oset (.var 0) "left" e) s = .ok .next ⟨[.val (.obj 1), .val (.int m), .emp], stD G C d t⟩ := by
  show (ev _ e s).bind _ = _
  rw [h]; rfl
theorem draw_ok {nb n : Nat} {hp : HP} {m : Int} (hΦ : ∀ (G C : List Int) (l t : Int), (∀ x ∈ C, 0 ≤ x) → 0 ≤ t → t + 1 < 2 ^ 40 → ∃ r : Int, 0 ≤ r ∧ Φ nb [.obj 1] (stD G C l t) = .ok (.int r) (stD G C l (t + 1)))
    (h : Dr n hp) (hn : n + 1 < 2 ^ 40) (m0 : 0 < m) (m1 : m < 2 ^ 30) : ∃ r hp', run1 Φ gl W ⟨2, 3, bDraw nb⟩ [.obj 1, .int m] hp = .ok (.int r) hp' ∧ 0 ≤ r ∧ r < m ∧ Dr (n + 1) hp' := by
  obtain ⟨G, C, l, t, rfl, hG, hC, hl, ht, htn⟩ := h
  have e : run1 Φ gl W ⟨2, 3, bDraw nb⟩ [.obj 1, .int m] (stD G C l t) = fin (ex ⟨Φ, gl, W⟩ (bDraw nb) ⟨[.val (.obj 1), .val (.int m), .emp], stD G C l t⟩) := rfl
  have first : ∃ (G' : List Int) (l' t' : Int), ex ⟨Φ, gl, W⟩ (.ite (.op2 .eq (.oget (.var 0) "left") (.const (.int 0)))
  (.oset (.var 0) "left" (.ifx (.op2 .ne (.oget (.var 0) "great") (.lst .nil)) (.opop0 (.oget (.var 0) "great")) (.callk nb [0] (.cons (.var 0) .nil))))
  .skip) ⟨[.val (.obj 1), .val (.int m), .emp], stD G C l t⟩ = .ok .next ⟨[.val (.obj 1), .val (.int m), .emp], stD G' C l' t'⟩ ∧ (∀ x ∈ G', 0 ≤ x) ∧ 0 ≤ l' ∧ 0 ≤ t' ∧ t' ≤ n + 1 := by
    have c1 : tst (ev ⟨Φ, gl, W⟩ (.op2 .eq (.oget (.var 0) "left") (.const (.int 0))) ⟨[.val (.obj 1), .val (.int m), .emp], stD G C l t⟩) = .ok (decide (l = 0)) ⟨[.val (.obj 1), .val (.int m), .emp], stD G C l t⟩ := by
      show tst (R.ofO (b2 id (deq (.int l) (.int 0))) _) = _
      rw [deq_int]; rfl
    have c2 : ∀ a b : S, ex ⟨Φ, gl, W⟩ (.ite (.op2 .eq (.oget (.var 0) "left") (.const (.int 0))) a b) ⟨[.val (.obj 1), .val (.int m), .emp], stD G C l t⟩ = if decide (l = 0) = true then ex ⟨Φ, gl, W⟩ a ⟨[.val (.obj 1), .val (.int m), .emp], stD G C l t⟩ else ex ⟨Φ, gl, W⟩ b ⟨[.val (.obj 1), .val (.int m), .emp], stD G C l t⟩ := fun a b => by
      show (tst (ev _ _ _)).bind _ = _
      rw [c1]; rfl
    rw [c2]
    by_cases hl0 : l = 0
    · rw [if_pos (decide_eq_true hl0)]
      subst hl0
      have ne : ev ⟨Φ, gl, W⟩ (.op2 .ne (.oget (.var 0) "great") (.lst .nil)) ⟨[.val (.obj 1), .val (.int m), .emp], stD G C 0 t⟩ = .ok (.bl (!(G.map D.int).isEmpty)) ⟨[.val (.obj 1), .val (.int m), .emp], stD G C 0 t⟩ := by
        show R.ofO (b2 not (deq (.lst (G.map .int)) (.lst []))) _ = _
        rw [deq_nil _ (pls_ints G)]; rfl
      cases G with
      | nil =>
        obtain ⟨r, hr, e1⟩ := hΦ [] C 0 t hC ht (by omega)
        exact ⟨[], r, t + 1, oset_left (by rw [ifx_f ne]; show (Φ nb [.obj 1] (stD [] C 0 t)).lift _ = _; rw [e1]; rfl), hG, hr, by omega, by omega⟩
      | cons g G' =>
        exact ⟨G', g, t, oset_left (by rw [ifx_t ne]; rfl), fun x hx => hG x (by simp [hx]), hG g (by simp), ht, by omega⟩
    · rw [if_neg (by simpa using hl0)]
      exact ⟨G, l, t, rfl, hG, hl, ht, by omega⟩
  obtain ⟨G', l', t', e1, h1, h2, h3, h4⟩ := first
  have m2 : 0 < m := m0
  refine ⟨l' % m, stD G' C (l' / m) t', ?_, Int.emod_nonneg _ (by omega), Int.emod_lt_of_pos _ m0, G', C, l' / m, t', rfl, h1, hC, Int.ediv_nonneg h2 (by omega), h3, by omega⟩
  rw [e]
  unfold bDraw
  rw [seq_next e1]
  have e2 : ex ⟨Φ, gl, W⟩ (.set (.one 2) (.op2 .mod (.bi .int (.cons (.oget (.var 0) "left") .nil)) (.peek 1))) ⟨[.val (.obj 1), .val (.int m), .emp], stD G' C l' t'⟩ = .ok .next ⟨[.val (.obj 1), .val (.int m), .val (.int (l' % m))], stD G' C l' t'⟩ := by
    show (R.ofO (op2 .mod (.int l') (.int m)) _).bind _ = _
    rw [mod_pos _ _ m0]; rfl
  have e3 : ex ⟨Φ, gl, W⟩ (.oset (.var 0) "left" (.op2 .fdiv (.oget (.var 0) "left") (.peek 1))) ⟨[.val (.obj 1), .val (.int m), .val (.int (l' % m))], stD G' C l' t'⟩ = .ok .next ⟨[.val (.obj 1), .val (.int m), .val (.int (l' % m))], stD G' C (l' / m) t'⟩ := by
    show (R.ofO (op2 .fdiv (.int l') (.int m)) _).bind _ = _
    rw [fdiv_pos _ _ m0 (by omega)]; rfl
  rw [seq_next e2, seq_next e3]
  rfl
theorem ixN_nat {n : Nat} {r : Int} (h0 : 0 ≤ r) (h1 : r < n) : L2.ixN n r = some r.toNat := by
  unfold L2.ixN
  rw [if_pos h0, if_pos h1]
theorem atI_nat {α : Type} (xs : List α) (r : Int) (h0 : 0 ≤ r) (h1 : r < xs.length) : ∃ x ∈ xs, L2.atI xs r = some x ∧ xs[r.toNat]? = some x := by
  have h2 : r.toNat < xs.length := by omega
  refine ⟨xs[r.toNat], List.getElem_mem h2, ?_, List.getElem?_eq_getElem h2⟩
  unfold L2.atI
  rw [ixN_nat h0 h1]
  exact List.getElem?_eq_getElem h2
def DrawOk (Φ : Nat → List D → HP → CR) (nd : Nat) : Prop := ∀ (n : Nat) (hp : HP) (m : Int), Dr n hp → n + 1 < 2 ^ 40 → 0 < m → m < 2 ^ 30 → ∃ r hp', Φ nd [.obj 1, .int m] hp = .ok (.int r) hp' ∧ 0 ≤ r ∧ r < m ∧ Dr (n + 1) hp'
def bPick (nd : Nat) : S := (.ret (.sub (.peek 1) (.callk nd [0, 1] (.cons (.var 0) (.cons (.bi .len (.cons (.peek 1) .nil)) .nil)))))
theorem pick_ok {nd n : Nat} {hp : HP} {xs : List D} (hD : DrawOk Φ nd) (h : Dr n hp) (hn : n + 1 < 2 ^ 40) (m0 : 0 < xs.length) (m1 : xs.length < 2 ^ 30) : ∃ x ∈ xs, ∃ hp', run1 Φ gl W ⟨2, 2, bPick nd⟩ [.obj 1, .lst xs] hp = .ok x hp' ∧ Dr (n + 1) hp' := by
  obtain ⟨r, hp', e1, r0, r1, hd⟩ := hD n hp xs.length h hn (by omega) (by omega)
  obtain ⟨x, hx, e2, _⟩ := atI_nat xs r r0 (by omega)
  refine ⟨x, hx, hp', ?_, hd⟩
  show fin (((((Φ nd [.obj 1, .int xs.length] hp).lift ⟨[.val (.obj 1), .val (.lst xs)], hp⟩).bind fun d s => R.ok (Ag.done d) s).bind fun y s => two s (.late 1) y subD).bind fun d s => .ok (.ret d) s) = _
  rw [e1]
  show fin ((R.ofO (L2.atI xs r) _).bind fun d s => R.ok (Fl.ret d) s) = _
  rw [e2]; rfl
def bMixed (nd : Nat) : S := (.seq (.par 2 true (.bi .list (.cons (.peek 1) .nil)) 3 true (.lst .nil))
  (.seq (.while_ (.op2 .ne (.peek 2) (.lst .nil))
  (.expr (.mut .append 3 (.cons (.mut .popAt 2 (.cons (.callk nd [0, 1] (.cons (.var 0) (.cons (.bi .len (.cons (.peek 2) .nil)) .nil))) .nil)) .nil))))
  (.ret (.var 3))))
theorem pls_erase : ∀ (xs : List D) (i : Nat), D.pls xs = true → D.pls (xs.eraseIdx i) = true
  | [], _, _ => rfl
  | x :: xs, 0, h => by
    have h' : x.pl = true ∧ D.pls xs = true := by simpa [D.pls] using h
    exact h'.2
  | x :: xs, i + 1, h => by
    have h' : x.pl = true ∧ D.pls xs = true := by simpa [D.pls] using h
    rw [List.eraseIdx_cons_succ, D.pls, h'.1, pls_erase xs i h'.2]; rfl
theorem erase_perm {α : Type} : ∀ (xs : List α) (i : Nat) (h : i < xs.length), (xs[i] :: xs.eraseIdx i).Perm xs
  | [], _, h => absurd h (Nat.not_lt_zero _)
  | x :: xs, 0, _ => .refl _
  | x :: xs, i + 1, h => by
    rw [List.eraseIdx_cons_succ, List.getElem_cons_succ]
    exact (List.Perm.swap x _ _).trans ((erase_perm xs i (by simpa using h)).cons x)
/-- the turns: what is left, what is found -/
theorem mixed_go {nd : Nat} (hD : DrawOk Φ nd) (a : D) : ∀ (m : Nat) (left found : List D) (n : Nat) (hp : HP) (k : Nat), left.length = m → m < k → Dr n hp → n + m < 2 ^ 40 → m < 2 ^ 30 → D.pls left = true → found.length + m ≤ 1000 →
    ∃ (out : List D) (hp' : HP), whileL (fun s => tst (ev ⟨Φ, gl, W⟩ (.op2 .ne (.peek 2) (.lst .nil)) s)) (fun s => ex ⟨Φ, gl, W⟩ (.expr (.mut .append 3 (.cons (.mut .popAt 2 (.cons (.callk nd [0, 1] (.cons (.var 0) (.cons (.bi .len (.cons (.peek 2) .nil)) .nil))) .nil)) .nil))) s) k ⟨[.val (.obj 1), .val a, .own left, .own found], hp⟩
      = .ok .next ⟨[.val (.obj 1), .val a, .own [], .own out], hp'⟩ ∧ Dr (n + m) hp' ∧ out.Perm (found ++ left)
  | 0, left, found, n, hp, k, hl, hk, hd, hn, hm, hp1, hf => by
    obtain rfl : left = [] := List.length_eq_zero_iff.mp hl
    obtain ⟨k, rfl⟩ : ∃ j, k = j + 1 := ⟨k - 1, by omega⟩
    exact ⟨found, hp, rfl, hd, by rw [List.append_nil]⟩
  | m + 1, left, found, n, hp, k, hl, hk, hd, hn, hm, hp1, hf => by
    obtain ⟨k, rfl⟩ : ∃ j, k = j + 1 := ⟨k - 1, by omega⟩
    obtain ⟨r, hp', e1, r0, r1, hd'⟩ := hD n hp left.length hd (by omega) (by omega) (by omega)
    obtain ⟨x, hx, _, e2⟩ := atI_nat left r r0 r1
    have hix := ixN_nat r0 r1
    have c1 : tst (ev ⟨Φ, gl, W⟩ (.op2 .ne (.peek 2) (.lst .nil)) ⟨[.val (.obj 1), .val a, .own left, .own found], hp⟩) = .ok true ⟨[.val (.obj 1), .val a, .own left, .own found], hp⟩ := by
      show tst (R.ofO (b2 not (deq (.lst left) (.lst []))) _) = _
      rw [deq_nil _ hp1]
      cases left with
      | nil => cases hl
      | cons y ys => rfl
    have lim1 : 1001 ≤ lim := by decide
    have c2 : ex ⟨Φ, gl, W⟩ (.expr (.mut .append 3 (.cons (.mut .popAt 2 (.cons (.callk nd [0, 1] (.cons (.var 0) (.cons (.bi .len (.cons (.peek 2) .nil)) .nil))) .nil)) .nil))) ⟨[.val (.obj 1), .val a, .own left, .own found], hp⟩ = .ok .next ⟨[.val (.obj 1), .val a, .own (left.eraseIdx r.toNat), .own (found ++ [x])], hp'⟩ := by
      have p1 : mmD .popAt left [.int r] = some (x, left.eraseIdx r.toNat) := by
        show (if decide (r.natAbs < 9223372036854775808) then _ else _) = _
        rw [decide_eq_true (show r.natAbs < 9223372036854775808 by omega)]
        show (match L2.ixN left.length r with | some k => (match left[k]? with | some d => some (d, left.eraseIdx k) | none => none) | none => none) = _
        rw [hix]
        show (match left[r.toNat]? with | some d => some (d, left.eraseIdx r.toNat) | none => none) = _
        rw [e2]
      have p2 : mmD .append found [x] = some (.non, found ++ [x]) := by
        show (if found.length < lim then _ else _) = _
        rw [if_pos (by omega)]
      have q1 : ev ⟨Φ, gl, W⟩ (.callk nd [0, 1] (.cons (.var 0) (.cons (.bi .len (.cons (.peek 2) .nil)) .nil))) ⟨[.val (.obj 1), .val a, .own left, .own found], hp⟩ = .ok (.int r) ⟨[.val (.obj 1), .val a, .own left, .own found], hp'⟩ := by
        show (Φ nd [.obj 1, .int left.length] hp).lift _ = _
        rw [e1]; rfl
      have q2 : ev ⟨Φ, gl, W⟩ (.mut .popAt 2 (.cons (.callk nd [0, 1] (.cons (.var 0) (.cons (.bi .len (.cons (.peek 2) .nil)) .nil))) .nil)) ⟨[.val (.obj 1), .val a, .own left, .own found], hp⟩ = .ok x ⟨[.val (.obj 1), .val a, .own (left.eraseIdx r.toNat), .own found], hp'⟩ := by
        show (((ev ⟨Φ, gl, W⟩ (.callk nd [0, 1] _) _).bind _).bind _) = _
        rw [q1]
        show (match mmD .popAt left [.int r] with | some (d, ys) => R.ok d _ | none => .bad) = _
        rw [p1]; rfl
      show (((ev ⟨Φ, gl, W⟩ (.mut .popAt 2 _) _).bind _).bind _).bind _ = _
      rw [q2]
      show R.bind (match mmD .append found [x] with | some (d, ys) => R.ok d _ | none => .bad) _ = _
      rw [p2]; rfl
    have r2 : r.toNat < left.length := by omega
    obtain ⟨out, hp2, e3, hd2, pm⟩ := mixed_go hD a m (left.eraseIdx r.toNat) (found ++ [x]) (n + 1) hp' k (by rw [List.length_eraseIdx_of_lt r2]; omega) (by omega) hd' (by omega) (by omega) (pls_erase _ _ hp1) (by rw [List.length_append, List.length_singleton]; omega)
    refine ⟨out, hp2, ?_, hd2.up (by omega), pm.trans ?_⟩
    · show (tst (ev _ _ _)).bind _ = _
      rw [c1]
      show (ex _ _ _).bind _ = _
      rw [c2]
      exact e3
    · have e4 : left[r.toNat] = x := by
        have := List.getElem?_eq_getElem r2
        rw [e2] at this
        exact (Option.some.inj this).symm
      rw [List.append_assoc]
      refine List.Perm.append_left _ ?_
      rw [← e4]
      exact erase_perm left r.toNat r2
theorem mixed_ok {nd n : Nat} {hp : HP} {xs : List D} (hD : DrawOk Φ nd) (h : Dr n hp) (hn : n + xs.length < 2 ^ 40) (hx : xs.length < W) (hz : xs.length ≤ 1000) (hpl : D.pls xs = true) :
    ∃ out hp', run1 Φ gl W ⟨2, 4, bMixed nd⟩ [.obj 1, .lst xs] hp = .ok (.lst out) hp' ∧ Dr (n + xs.length) hp' ∧ out.Perm xs := by
  obtain ⟨out, hp', e, hd, pm⟩ := mixed_go (gl := gl) (W := W) hD (.lst xs) xs.length xs [] n hp W rfl hx h (by omega) (by omega) hpl (by simpa using hz)
  refine ⟨out, hp', ?_, hd, by simpa using pm⟩
  show fin (((whileL _ _ W ⟨[.val (.obj 1), .val (.lst xs), .own xs, .own []], hp⟩).bind _)) = _
  rw [e]; rfl
/-! ### list comprehensions -/
def cbody (C : Cn) (elt cond : M) (s : Sg) : R (Option D) := match cond with
  | .nil => (ev C elt s).bind fun x s => .ok (some x) s
  | c => (tst (ev C c s)).bind fun b s => if b then (ev C elt s).bind fun x s => .ok (some x) s else .ok none s
inductive All2 {α β : Type} (P : α → β → Prop) : List α → List β → Prop
  | nil : All2 P [] []
  | cons {a : α} {b : β} {as : List α} {bs : List β} : P a b → All2 P as bs → All2 P (a :: as) (b :: bs)
theorem All2.length {α β : Type} {P : α → β → Prop} : ∀ {as : List α} {bs : List β}, All2 P as bs → bs.length = as.length
  | _, _, .nil => rfl
  | _, _, .cons _ t => by rw [List.length_cons, List.length_cons, t.length]
theorem compL_run {C : Cn} {elt cond : M} {i : Nat} {sl : List Sl} (J : Nat → HP → Prop) (P : D → Option D → Prop) : ∀ (ds : List D) (k : Nat) (z : Sl) (hp : HP), J k hp →
    (∀ j d hp, ds[j]? = some d → J (k + j) hp → ∃ o hp', cbody C elt cond ⟨sl.set i (.val d), hp⟩ = .ok o ⟨sl.set i (.val d), hp'⟩ ∧ J (k + j + 1) hp' ∧ P d o) →
    ∃ os hp' z', All2 P ds os ∧ compL (fun d s => (asg (.one i) d (wipe [i] s)).bind fun _ s => cbody C elt cond s) ds ⟨sl.set i z, hp⟩ = .ok (os.filterMap id) ⟨sl.set i z', hp'⟩ ∧ J (k + ds.length) hp'
  | [], k, z, hp, h, _ => ⟨[], hp, z, .nil, rfl, h⟩
  | d :: ds, k, z, hp, h, st => by
    obtain ⟨o, hp1, e1, h1, p1⟩ := st 0 d hp rfl h
    obtain ⟨os, hp2, z2, a2, e2, h2⟩ := compL_run J P ds (k + 1) (.val d) hp1 h1 fun j x hp hj hJ => by
      have e : k + 1 + j = k + (j + 1) := by omega
      rw [e] at hJ ⊢
      exact st (j + 1) x hp hj hJ
    refine ⟨o :: os, hp2, z2, .cons p1 a2, ?_, by rw [List.length_cons, show k + (ds.length + 1) = k + 1 + ds.length by omega]; exact h2⟩
    have w : asg (.one i) d (wipe [i] ⟨sl.set i z, hp⟩) = .ok () ⟨sl.set i (.val d), hp⟩ := by
      show R.ok () (Sg.mk (((sl.set i z).set i .emp).set i (.val d)) hp) = _
      rw [List.set_set, List.set_set]
    rw [compL, w]
    show (R.bind (cbody C elt cond ⟨sl.set i (.val d), hp⟩) _) = _
    rw [e1]
    show (R.bind (compL _ ds ⟨sl.set i (.val d), hp1⟩) _) = _
    rw [e2]
    cases o <;> rfl
theorem comp_run {C : Cn} {elt src cond : M} {i : Nat} {s : Sg} {sl : List Sl} {hp : HP} {ds : List D} (hsrc : evI C src s = .ok ds ⟨sl, hp⟩) (hown : noOwn [i] ⟨sl, hp⟩ = true) (hi : i < sl.length) (J : Nat → HP → Prop) (P : D → Option D → Prop) (h0 : J 0 hp)
    (step : ∀ j d hp, ds[j]? = some d → J j hp → ∃ o hp', cbody C elt cond ⟨sl.set i (.val d), hp⟩ = .ok o ⟨sl.set i (.val d), hp'⟩ ∧ J (j + 1) hp' ∧ P d o) (hl : ds.length ≤ lim) :
    ∃ os hp', All2 P ds os ∧ ev C (.comp elt (.one i) src cond) s = .ok (.lst (os.filterMap id)) ⟨sl, hp'⟩ ∧ J ds.length hp' := by
  have e0 : sl.set i (sl.getD i .emp) = sl := by
    rw [List.getD_eq_getElem?_getD, List.getElem?_eq_getElem hi]
    exact List.set_getElem_self hi
  obtain ⟨os, hp', z', a, e, h⟩ := compL_run (C := C) (elt := elt) (cond := cond) (i := i) (sl := sl) J P ds 0 (sl.getD i .emp) hp h0 fun j d hp hj hJ => by
    rw [Nat.zero_add] at hJ ⊢
    exact step j d hp hj hJ
  rw [e0] at e
  rw [Nat.zero_add] at h
  refine ⟨os, hp', a, ?_, h⟩
  have len : (os.filterMap id).length ≤ lim := Nat.le_trans (List.length_filterMap_le _ _) (by rw [a.length]; exact hl)
  rw [ev, hsrc]
  show (if noOwn [i] ⟨sl, hp⟩ then (compL (fun d s => (asg (.one i) d (wipe [i] s)).bind fun _ s => cbody C elt cond s) ds ⟨sl, hp⟩).bind fun xs s' => if xs.length ≤ lim then R.ok (D.lst xs) (back [i] ⟨sl, hp⟩ s') else .bad else .bad) = _
  rw [if_pos hown, e]
  show (if (os.filterMap id).length ≤ lim then R.ok (D.lst (os.filterMap id)) (back [i] ⟨sl, hp⟩ ⟨sl.set i z', hp'⟩) else .bad) = _
  rw [if_pos len]
  show R.ok (D.lst (os.filterMap id)) (Sg.mk ((sl.set i z').set i (sl.getD i .emp)) hp') = _
  rw [List.set_set, e0]
theorem All2.out {α : Type} {Q : D → Prop} : ∀ {as : List α} {os : List (Option D)}, All2 (fun _ o => ∀ d, o = some d → Q d) as os → ∀ d ∈ os.filterMap id, Q d
  | _, _, .nil, d, h => by simp at h
  | _, _, .cons (b := o) (bs := bs) p t, d, h => by
    cases o with
    | none => exact t.out d (by simpa using h)
    | some x =>
      have h' : d = x ∨ d ∈ List.filterMap id bs := by simpa using h
      rcases h' with rfl | h'
      · exact p d rfl
      · exact t.out d (by simpa using h')
theorem ints_of : ∀ (l : List D), (∀ d ∈ l, ∃ x : Int, 0 ≤ x ∧ d = .int x) → ∃ G : List Int, l = G.map .int ∧ ∀ x ∈ G, 0 ≤ x
  | [], _ => ⟨[], rfl, by simp⟩
  | d :: l, h => by
    obtain ⟨x, h1, rfl⟩ := h d (by simp)
    obtain ⟨G, e, h2⟩ := ints_of l fun d hd => h d (by simp [hd])
    exact ⟨x :: G, by rw [e]; rfl, fun y hy => by rcases List.mem_cons.mp hy with rfl | hy; exact h1; exact h2 y hy⟩
def bBegun : S := (.seq (.setObj 1 (.comp (.op2 .sub (.bi .abs (.cons (.peek 2) .nil)) (.op2 .pow (.const (.int 10)) (.const (.int 18)))) (.one 2) (.sSeq (.var 0)) (.op2 .ge (.bi .abs (.cons (.peek 2) .nil)) (.op2 .pow (.const (.int 10)) (.const (.int 18))))))
  (.ret (.odict ["great", "cells", "left", "turn"] (.cons (.var 1) (.cons (.comp (.bi .abs (.cons (.peek 2) .nil)) (.one 2) (.sSeq (.var 0)) .nil) (.cons (.const (.int 0)) (.cons (.const (.int 0)) .nil)))))))
theorem setObj_ok {C : Cn} {i : Nat} {m : M} {s s1 : Sg} {xs : List D} (hf : m.fresh = true) (h : ev C m s = .ok (.lst xs) s1) : ex C (.setObj i m) s = .ok .next ({ s1 with hp := s1.hp ++ [HObj.list xs] }.set i (.val (.obj s1.hp.length))) := by
  show (if m.fresh then (ev C m s).bind _ else .bad) = _
  rw [if_pos hf, h]; rfl
theorem begun_ok (ns : List Int) (hn : ns.length ≤ 63) : ∃ hp', run1 Φ gl W ⟨1, 3, bBegun⟩ [.rol (ns.map .int)] [] = .ok (.obj 1) hp' ∧ Dr 0 hp' := by
  have lim1 : 63 ≤ lim := by decide
  obtain ⟨os, hp1, a1, e1, h1⟩ := comp_run (C := ⟨Φ, gl, W⟩) (elt := .op2 .sub (.bi .abs (.cons (.peek 2) .nil)) (.op2 .pow (.const (.int 10)) (.const (.int 18)))) (cond := .op2 .ge (.bi .abs (.cons (.peek 2) .nil)) (.op2 .pow (.const (.int 10)) (.const (.int 18)))) (src := .sSeq (.var 0)) (i := 2)
    (s := ⟨[.val (.rol (ns.map .int)), .emp, .emp], []⟩) (sl := [.val (.rol (ns.map .int)), .emp, .emp]) (hp := []) (ds := ns.map .int) rfl rfl (by simp) (fun _ hp => hp = []) (fun _ o => ∀ d, o = some d → ∃ x : Int, 0 ≤ x ∧ d = .int x) rfl (fun j d hp hd hJ => by
      subst hJ
      obtain ⟨x, _, rfl⟩ := List.mem_map.mp (List.mem_of_getElem? hd)
      have e : cbody ⟨Φ, gl, W⟩ (.op2 .sub (.bi .abs (.cons (.peek 2) .nil)) (.op2 .pow (.const (.int 10)) (.const (.int 18)))) (.op2 .ge (.bi .abs (.cons (.peek 2) .nil)) (.op2 .pow (.const (.int 10)) (.const (.int 18)))) ⟨[.val (.rol (ns.map .int)), .emp, .val (.int x)], []⟩
          = if decide ((10 : Int) ^ 18 ≤ if x < 0 then -x else x) = true then .ok (some (.int ((if x < 0 then -x else x) - 10 ^ 18))) ⟨[.val (.rol (ns.map .int)), .emp, .val (.int x)], []⟩ else .ok none ⟨[.val (.rol (ns.map .int)), .emp, .val (.int x)], []⟩ := rfl
      by_cases h : (10 : Int) ^ 18 ≤ if x < 0 then -x else x
      · exact ⟨some (.int ((if x < 0 then -x else x) - 10 ^ 18)), [], by show cbody _ _ _ ⟨[.val (.rol (ns.map .int)), .emp, .val (.int x)], []⟩ = _; rw [e, if_pos (decide_eq_true h)]; rfl, rfl, fun d hd => ⟨_, by omega, (Option.some.inj hd).symm⟩⟩
      · exact ⟨none, [], by show cbody _ _ _ ⟨[.val (.rol (ns.map .int)), .emp, .val (.int x)], []⟩ = _; rw [e, if_neg (by simpa using h)]; rfl, rfl, fun d hd => by cases hd⟩) (by rw [List.length_map]; omega)
  obtain rfl : hp1 = [] := h1
  obtain ⟨G, eG, hG⟩ := ints_of _ a1.out
  rw [eG] at e1
  obtain ⟨os2, hp2, a2, e2, h2⟩ := comp_run (C := ⟨Φ, gl, W⟩) (elt := .bi .abs (.cons (.peek 2) .nil)) (cond := .nil) (src := .sSeq (.var 0)) (i := 2)
    (s := ⟨[.val (.rol (ns.map .int)), .val (.obj 0), .emp], [.list (G.map .int)]⟩) (sl := [.val (.rol (ns.map .int)), .val (.obj 0), .emp]) (hp := [.list (G.map .int)]) (ds := ns.map .int) rfl rfl (by simp) (fun _ hp => hp = [.list (G.map .int)]) (fun _ o => ∀ d, o = some d → ∃ x : Int, 0 ≤ x ∧ d = .int x) rfl (fun j d hp hd hJ => by
      subst hJ
      obtain ⟨x, _, rfl⟩ := List.mem_map.mp (List.mem_of_getElem? hd)
      refine ⟨some (.int (if x < 0 then -x else x)), _, rfl, rfl, fun d hd => ⟨_, ?_, (Option.some.inj hd).symm⟩⟩
      split <;> omega) (by rw [List.length_map]; omega)
  obtain rfl : hp2 = [.list (G.map .int)] := h2
  obtain ⟨Cs, eC, hC⟩ := ints_of _ a2.out
  rw [eC] at e2
  refine ⟨stD G Cs 0 0, ?_, G, Cs, 0, 0, rfl, hG, hC, by omega, by omega, by omega⟩
  show fin (ex ⟨Φ, gl, W⟩ bBegun ⟨[.val (.rol (ns.map .int)), .emp, .emp], []⟩) = _
  unfold bBegun
  have f1 : ex ⟨Φ, gl, W⟩ (.setObj 1 (.comp (.op2 .sub (.bi .abs (.cons (.peek 2) .nil)) (.op2 .pow (.const (.int 10)) (.const (.int 18)))) (.one 2) (.sSeq (.var 0)) (.op2 .ge (.bi .abs (.cons (.peek 2) .nil)) (.op2 .pow (.const (.int 10)) (.const (.int 18)))))) ⟨[.val (.rol (ns.map .int)), .emp, .emp], []⟩ = .ok .next ⟨[.val (.rol (ns.map .int)), .val (.obj 0), .emp], [.list (G.map .int)]⟩ := setObj_ok rfl e1
  rw [seq_next f1]
  show fin ((R.bind (R.bind (R.bind (R.ok (D.obj 0) _) fun d s => (R.bind (R.bind (ev ⟨Φ, gl, W⟩ (.comp (.bi .abs (.cons (.peek 2) .nil)) (.one 2) (.sSeq (.var 0)) .nil) s) _) _)) _) _)) = _
  rw [bind_ok, e2]
  rfl
end
end Mw

set_option autoImplicit false
/-! MiW: weakest conditions of the small language: a computation is stepped through by simp (walk_at "go"). What follows stands as an instance, so simp does not look into it. -/
namespace Mw
open PySem Mi
/-- what is wanted behind a computation -/
class Post (α : Type) where
  p : α → Sg → Prop
  e : Nat → List D → Sg → Prop
def wp {α : Type} (r : R α) [Q : Post α] : Prop := match r with
  | .ok a s => Q.p a s
  | .err c fs s => Q.e c fs s
  | .bad => False
class PostC where
  p : D → HP → Prop
  e : Nat → List D → HP → Prop
def cwp (r : CR) [Q : PostC] : Prop := match r with
  | .ok a s => Q.p a s
  | .err c fs s => Q.e c fs s
  | .bad => False
class Pk (α : Type) where
  k : α → Prop
def oo {α : Type} (o : Option α) [K : Pk α] : Prop := match o with
  | some a => K.k a
  | none => False
section
variable {α β : Type} {C : Cn} {s : Sg} {e : Nat → List D → Sg → Prop}
theorem wp_ok (a : α) (s : Sg) (f : α → Sg → Prop) : @wp α (.ok a s) ⟨f, e⟩ = f a s := rfl
theorem wp_err (c : Nat) (fs : List D) (s : Sg) (f : α → Sg → Prop) : @wp α (.err c fs s) ⟨f, e⟩ = e c fs s := rfl
theorem wp_bad (f : α → Sg → Prop) : @wp α .bad ⟨f, e⟩ = False := rfl
theorem wp_bind (r : R α) (g : α → Sg → R β) (f : β → Sg → Prop) : @wp β (r.bind g) ⟨f, e⟩ = @wp α r ⟨fun a s => @wp β (g a s) ⟨f, e⟩, e⟩ := by cases r <;> rfl
theorem wp_bind' {r : R α} {g : α → Sg → R β} {f : β → Sg → Prop} {k : α → Sg → Prop} (h : ∀ a s, @wp β (g a s) ⟨f, e⟩ = k a s) : @wp β (r.bind g) ⟨f, e⟩ = @wp α r ⟨k, e⟩ := by
  cases r with
  | ok a s => exact h a s
  | err c fs s => rfl
  | bad => rfl
theorem wp_ite (c : Prop) [Decidable c] (a b : R α) (f : α → Sg → Prop) : @wp α (if c then a else b) ⟨f, e⟩ = if c then @wp α a ⟨f, e⟩ else @wp α b ⟨f, e⟩ := by split <;> rfl
theorem wp_guard (c : Prop) [Decidable c] (r : R α) (f : α → Sg → Prop) : @wp α (if c then r else .bad) ⟨f, e⟩ = (c ∧ @wp α r ⟨f, e⟩) := by
  by_cases h : c
  · rw [if_pos h]; exact propext ⟨fun q => ⟨h, q⟩, fun q => q.2⟩
  · rw [if_neg h]; exact propext ⟨fun q => q.elim, fun q => h q.1⟩
theorem oo_some (a : α) (k : α → Prop) : @oo α (some a) ⟨k⟩ = k a := rfl
theorem oo_none (k : α → Prop) : @oo α none ⟨k⟩ = False := rfl
theorem oo_map (o : Option α) (g : α → β) (k : β → Prop) : @oo β (o.map g) ⟨k⟩ = @oo α o ⟨fun a => k (g a)⟩ := by cases o <;> rfl
theorem oo_ite (c : Prop) [Decidable c] (a b : Option α) (k : α → Prop) : @oo α (if c then a else b) ⟨k⟩ = if c then @oo α a ⟨k⟩ else @oo α b ⟨k⟩ := by split <;> rfl
theorem wp_ofO (o : Option α) (s : Sg) (f : α → Sg → Prop) : @wp α (R.ofO o s) ⟨f, e⟩ = @oo α o ⟨fun a => f a s⟩ := by cases o <;> rfl
theorem wp_lift (c : CR) (s : Sg) (f : D → Sg → Prop) : @wp D (c.lift s) ⟨f, e⟩ = @cwp c ⟨fun d h => f d ⟨s.sl, h⟩, fun n fs h => e n fs ⟨s.sl, h⟩⟩ := by cases c <;> rfl
theorem cwp_ok (d : D) (h : HP) (f : D → HP → Prop) (e : Nat → List D → HP → Prop) : @cwp (.ok d h) ⟨f, e⟩ = f d h := rfl
theorem cwp_fin (r : R Fl) (f : D → HP → Prop) (e : Nat → List D → HP → Prop) : @cwp (fin r) ⟨f, e⟩ = @wp Fl r ⟨fun fl s => match fl with | .next => f .non s.hp | .ret d => f d s.hp | _ => False, fun c fs s => e c fs s.hp⟩ := by
  cases r with
  | ok a s => cases a <;> rfl
  | err c fs s => rfl
  | bad => rfl
/-- how a def ends -/
def fnO2 (fl : Fl) (s : Sg) (f : D → HP → Prop) : Prop := match fl with
  | .next => f .non s.hp
  | .ret d => f d s.hp
  | _ => False
theorem fnO2_next (s : Sg) (f : D → HP → Prop) : fnO2 .next s f = f .non s.hp := rfl
theorem fnO2_ret (d : D) (s : Sg) (f : D → HP → Prop) : fnO2 (.ret d) s f = f d s.hp := rfl
theorem cwp_fin2 (r : R Fl) (f : D → HP → Prop) (e : Nat → List D → HP → Prop) : @cwp (fin r) ⟨f, e⟩ = @wp Fl r ⟨fun fl s => fnO2 fl s f, fun c fs s => e c fs s.hp⟩ := by
  cases r with
  | ok a s => cases a <;> rfl
  | err c fs s => rfl
  | bad => rfl
theorem wp_mono {r : R α} {f f' : α → Sg → Prop} {e e' : Nat → List D → Sg → Prop} (h : @wp α r ⟨f, e⟩) (hf : ∀ a s, f a s → f' a s) (he : ∀ c fs s, e c fs s → e' c fs s) : @wp α r ⟨f', e'⟩ := by
  cases r with
  | ok a s => exact hf a s h
  | err c fs s => exact he c fs s h
  | bad => exact h
theorem cwp_mono {r : CR} {f f' : D → HP → Prop} {e e' : Nat → List D → HP → Prop} (h : @cwp r ⟨f, e⟩) (hf : ∀ a s, f a s → f' a s) (he : ∀ c fs s, e c fs s → e' c fs s) : @cwp r ⟨f', e'⟩ := by
  cases r with
  | ok a s => exact hf a s h
  | err c fs s => exact he c fs s h
  | bad => exact h
/-- no error leaves -/
abbrev noE : Nat → List D → HP → Prop := fun _ _ _ => False
theorem cwp_eq {c : CR} {d : D} {h : HP} (w : @cwp c ⟨fun d' h' => d' = d ∧ h' = h, noE⟩) : c = .ok d h := by
  cases c with
  | ok a s => obtain ⟨rfl, rfl⟩ := w; rfl
  | err c fs s => exact False.elim w
  | bad => exact False.elim w
theorem cwp_of_eq {c : CR} {d : D} {h : HP} {f : D → HP → Prop} {e : Nat → List D → HP → Prop} (w : c = .ok d h) (k : f d h) : @cwp c ⟨f, e⟩ := by rw [w]; exact k
theorem cwp_ex {c : CR} {P : D → HP → Prop} (w : @cwp c ⟨P, noE⟩) : ∃ d h, c = .ok d h ∧ P d h := by
  cases c with
  | ok a s => exact ⟨a, s, rfl, w⟩
  | err c fs s => exact False.elim w
  | bad => exact False.elim w
theorem cwp_ex' {c : CR} {P : D → HP → Prop} (w : ∃ d h, c = .ok d h ∧ P d h) : @cwp c ⟨P, noE⟩ := by
  obtain ⟨d, h, rfl, p⟩ := w
  exact p

/-! ### expressions -/
variable {f : D → Sg → Prop}
theorem wp_const (d : D) : @wp D (ev C (.const d) s) ⟨f, e⟩ = f d s := rfl
theorem wp_glob (n : Nat) : @wp D (ev C (.glob n) s) ⟨f, e⟩ = @oo D C.gl[n]? ⟨fun d => f d s⟩ := wp_ofO _ _ _
theorem wp_fnv (n : Nat) : @wp D (ev C (.fnv n) s) ⟨f, e⟩ = f (.fn n) s := rfl
/-- a slot is read -/
def rdS (x : Sl) (i : Nat) (s : Sg) (f : D → Sg → Prop) : Prop := match x with
  | .val d => f d s
  | .own xs => f (.lst xs) (s.set i (.val (.lst xs)))
  | .emp => False
theorem rdS_val (d : D) (i : Nat) (s : Sg) : rdS (.val d) i s f = f d s := rfl
theorem rdS_own (xs : List D) (i : Nat) (s : Sg) : rdS (.own xs) i s f = f (.lst xs) (s.set i (.val (.lst xs))) := rfl
theorem wp_var (i : Nat) : @wp D (ev C (.var i) s) ⟨f, e⟩ = @oo Sl s.sl[i]? ⟨fun x => rdS x i s f⟩ := by
  rw [ev]
  cases s.sl[i]? with
  | none => rfl
  | some x => cases x <;> rfl
theorem wp_tup (es : M) : @wp D (ev C (.tup es) s) ⟨f, e⟩ = @wp (List D) (evs C es s) ⟨fun ds s => ds.length ≤ lim ∧ f (.tup ds) s, e⟩ := by
  rw [ev, wp_bind]
  congr; funext ds s
  rw [wp_ite]
  by_cases h : ds.length ≤ lim
  · rw [if_pos h, wp_ok]; simp [h]
  · rw [if_neg h, wp_bad]; simp [h]
theorem wp_lst (es : M) : @wp D (ev C (.lst es) s) ⟨f, e⟩ = @wp (List D) (evs C es s) ⟨fun ds s => ds.length ≤ lim ∧ f (.lst ds) s, e⟩ := by
  rw [ev, wp_bind]
  congr; funext ds s
  rw [wp_ite]
  by_cases h : ds.length ≤ lim
  · rw [if_pos h, wp_ok]; simp [h]
  · rw [if_neg h, wp_bad]; simp [h]
theorem wp_edct : @wp D (ev C .edct s) ⟨f, e⟩ = f (.dct [] []) s := rfl
def rs (s : Sg) (x : Ag) [K : Pk D] : Prop := @oo D (s.res x) K
theorem wp_two (x y : Ag) (g : D → D → Option D) : @wp D (two s x y g) ⟨f, e⟩ = @rs s x ⟨fun d => @rs s y ⟨fun d' => @oo D (g d d') ⟨fun v => f v s⟩⟩⟩ := by
  unfold two rs
  cases s.res x with
  | none => rfl
  | some d =>
    cases s.res y with
    | none => rfl
    | some d' => exact wp_ofO _ _ _
theorem wp_one (x : Ag) (g : D → Option D) : @wp D (one s x g) ⟨f, e⟩ = @rs s x ⟨fun d => @oo D (g d) ⟨fun v => f v s⟩⟩ := by
  unfold one rs
  cases s.res x with
  | none => rfl
  | some d => exact wp_ofO _ _ _
/-- a slot as an operand -/
def slO (x : Sl) [K : Pk D] : Prop := match x with
  | .val d => K.k d
  | .own xs => K.k (.lst xs)
  | .emp => False
theorem slO_val (d : D) (k : D → Prop) : @slO (.val d) ⟨k⟩ = k d := rfl
theorem slO_own (xs : List D) (k : D → Prop) : @slO (.own xs) ⟨k⟩ = k (.lst xs) := rfl
theorem rs_late (i : Nat) (k : D → Prop) : @rs s (.late i) ⟨k⟩ = @oo Sl s.sl[i]? ⟨fun x => @slO x ⟨k⟩⟩ := by
  unfold rs
  simp only [Sg.res]
  cases s.sl[i]? with
  | none => rfl
  | some x => cases x <;> rfl
/-- a value as an operand: an object is read as its list -/
def dnO (s : Sg) (d : D) [K : Pk D] : Prop := match d with
  | .obj n => (match s.hp[n]? with | some (.list xs) => K.k (.lst xs) | _ => False)
  | d => K.k d
theorem rs_done (d : D) (k : D → Prop) : @rs s (.done d) ⟨k⟩ = @dnO s d ⟨k⟩ := by
  unfold rs dnO
  cases d with
  | obj n =>
    simp only [Sg.res]
    cases s.hp[n]? with
    | none => rfl
    | some o => cases o <;> rfl
  | _ => rfl
theorem dnO_non (k : D → Prop) : @dnO s .non ⟨k⟩ = k .non := rfl
theorem dnO_bl (b : Bool) (k : D → Prop) : @dnO s (.bl b) ⟨k⟩ = k (.bl b) := rfl
theorem dnO_int (b : Int) (k : D → Prop) : @dnO s (.int b) ⟨k⟩ = k (.int b) := rfl
theorem dnO_str (b : Str) (k : D → Prop) : @dnO s (.str b) ⟨k⟩ = k (.str b) := rfl
theorem dnO_tup (b : List D) (k : D → Prop) : @dnO s (.tup b) ⟨k⟩ = k (.tup b) := rfl
theorem dnO_lst (b : List D) (k : D → Prop) : @dnO s (.lst b) ⟨k⟩ = k (.lst b) := rfl
theorem dnO_dct (a b : List D) (k : D → Prop) : @dnO s (.dct a b) ⟨k⟩ = k (.dct a b) := rfl
theorem dnO_list {n : Nat} {xs : List D} (k : D → Prop) (h : s.hp[n]? = some (.list xs)) : @dnO s (.obj n) ⟨k⟩ = k (.lst xs) := by
  show (match s.hp[n]? with | some (.list xs) => k (.lst xs) | _ => False) = _
  rw [h]
/-- no object -/
def D.noO : D → Bool
  | .obj _ => false
  | _ => true
theorem dnO_no {d : D} (k : D → Prop) (h : D.noO d = true) : @dnO s d ⟨k⟩ = k d := by
  cases d <;> first | rfl | cases h
def isPk : M → Bool
  | .peek _ => true
  | _ => false
def isNl : M → Bool
  | .nil => true
  | _ => false
theorem wp_arg_peek (i : Nat) (r : Sg → R D) (f : Ag → Sg → Prop) : @wp Ag (argOf (.peek i) r s) ⟨f, e⟩ = @oo Sl s.sl[i]? ⟨fun x => @slO x ⟨fun _ => f (.late i) s⟩⟩ := by
  show @wp Ag (match s.sl[i]? with | some .emp => .bad | some _ => .ok (.late i) s | none => .bad) ⟨f, e⟩ = _
  cases s.sl[i]? with
  | none => rfl
  | some x => cases x <;> rfl
theorem wp_arg {m : M} (r : Sg → R D) (f : Ag → Sg → Prop) (h : isPk m = false) : @wp Ag (argOf m r s) ⟨f, e⟩ = @wp D (r s) ⟨fun d s => f (.done d) s, e⟩ := by
  have : argOf m r s = (r s).bind fun d s => .ok (.done d) s := by
    cases m <;> first | rfl | cases h
  rw [this, wp_bind]
  rfl
theorem wpA_nil  (r : Sg → R D) (f : Ag → Sg → Prop) : @wp Ag (argOf M.nil r s) ⟨f, e⟩ = @wp D (r s) ⟨fun d s => f (.done d) s, e⟩ := wp_arg _ _ rfl
theorem wpA_cons {a : _} {b : _} (r : Sg → R D) (f : Ag → Sg → Prop) : @wp Ag (argOf (M.cons a b) r s) ⟨f, e⟩ = @wp D (r s) ⟨fun d s => f (.done d) s, e⟩ := wp_arg _ _ rfl
theorem wpA_const {a : _} (r : Sg → R D) (f : Ag → Sg → Prop) : @wp Ag (argOf (M.const a) r s) ⟨f, e⟩ = @wp D (r s) ⟨fun d s => f (.done d) s, e⟩ := wp_arg _ _ rfl
theorem wpA_glob {a : _} (r : Sg → R D) (f : Ag → Sg → Prop) : @wp Ag (argOf (M.glob a) r s) ⟨f, e⟩ = @wp D (r s) ⟨fun d s => f (.done d) s, e⟩ := wp_arg _ _ rfl
theorem wpA_fnv {a : _} (r : Sg → R D) (f : Ag → Sg → Prop) : @wp Ag (argOf (M.fnv a) r s) ⟨f, e⟩ = @wp D (r s) ⟨fun d s => f (.done d) s, e⟩ := wp_arg _ _ rfl
theorem wpA_var {a : _} (r : Sg → R D) (f : Ag → Sg → Prop) : @wp Ag (argOf (M.var a) r s) ⟨f, e⟩ = @wp D (r s) ⟨fun d s => f (.done d) s, e⟩ := wp_arg _ _ rfl
theorem wpA_tup {a : _} (r : Sg → R D) (f : Ag → Sg → Prop) : @wp Ag (argOf (M.tup a) r s) ⟨f, e⟩ = @wp D (r s) ⟨fun d s => f (.done d) s, e⟩ := wp_arg _ _ rfl
theorem wpA_lst {a : _} (r : Sg → R D) (f : Ag → Sg → Prop) : @wp Ag (argOf (M.lst a) r s) ⟨f, e⟩ = @wp D (r s) ⟨fun d s => f (.done d) s, e⟩ := wp_arg _ _ rfl
theorem wpA_edct  (r : Sg → R D) (f : Ag → Sg → Prop) : @wp Ag (argOf M.edct r s) ⟨f, e⟩ = @wp D (r s) ⟨fun d s => f (.done d) s, e⟩ := wp_arg _ _ rfl
theorem wpA_op2 {a : _} {b : _} {c : _} (r : Sg → R D) (f : Ag → Sg → Prop) : @wp Ag (argOf (M.op2 a b c) r s) ⟨f, e⟩ = @wp D (r s) ⟨fun d s => f (.done d) s, e⟩ := wp_arg _ _ rfl
theorem wpA_op1 {a : _} {b : _} (r : Sg → R D) (f : Ag → Sg → Prop) : @wp Ag (argOf (M.op1 a b) r s) ⟨f, e⟩ = @wp D (r s) ⟨fun d s => f (.done d) s, e⟩ := wp_arg _ _ rfl
theorem wpA_chain {a : _} {b : _} {c : _} {d : _} {g : _} (r : Sg → R D) (f : Ag → Sg → Prop) : @wp Ag (argOf (M.chain a b c d g) r s) ⟨f, e⟩ = @wp D (r s) ⟨fun d s => f (.done d) s, e⟩ := wp_arg _ _ rfl
theorem wpA_andv {a : _} {b : _} (r : Sg → R D) (f : Ag → Sg → Prop) : @wp Ag (argOf (M.andv a b) r s) ⟨f, e⟩ = @wp D (r s) ⟨fun d s => f (.done d) s, e⟩ := wp_arg _ _ rfl
theorem wpA_orv {a : _} {b : _} (r : Sg → R D) (f : Ag → Sg → Prop) : @wp Ag (argOf (M.orv a b) r s) ⟨f, e⟩ = @wp D (r s) ⟨fun d s => f (.done d) s, e⟩ := wp_arg _ _ rfl
theorem wpA_notv {a : _} (r : Sg → R D) (f : Ag → Sg → Prop) : @wp Ag (argOf (M.notv a) r s) ⟨f, e⟩ = @wp D (r s) ⟨fun d s => f (.done d) s, e⟩ := wp_arg _ _ rfl
theorem wpA_ifx {a : _} {b : _} {c : _} (r : Sg → R D) (f : Ag → Sg → Prop) : @wp Ag (argOf (M.ifx a b c) r s) ⟨f, e⟩ = @wp D (r s) ⟨fun d s => f (.done d) s, e⟩ := wp_arg _ _ rfl
theorem wpA_sub {a : _} {b : _} (r : Sg → R D) (f : Ag → Sg → Prop) : @wp Ag (argOf (M.sub a b) r s) ⟨f, e⟩ = @wp D (r s) ⟨fun d s => f (.done d) s, e⟩ := wp_arg _ _ rfl
theorem wpA_slc {a : _} {b : _} {c : _} (r : Sg → R D) (f : Ag → Sg → Prop) : @wp Ag (argOf (M.slc a b c) r s) ⟨f, e⟩ = @wp D (r s) ⟨fun d s => f (.done d) s, e⟩ := wp_arg _ _ rfl
theorem wpA_rev {a : _} (r : Sg → R D) (f : Ag → Sg → Prop) : @wp Ag (argOf (M.rev a) r s) ⟨f, e⟩ = @wp D (r s) ⟨fun d s => f (.done d) s, e⟩ := wp_arg _ _ rfl
theorem wpA_comp {a : _} {b : _} {c : _} {d : _} (r : Sg → R D) (f : Ag → Sg → Prop) : @wp Ag (argOf (M.comp a b c d) r s) ⟨f, e⟩ = @wp D (r s) ⟨fun d s => f (.done d) s, e⟩ := wp_arg _ _ rfl
theorem wpA_compO {a : _} {b : _} {c : _} {d : _} (r : Sg → R D) (f : Ag → Sg → Prop) : @wp Ag (argOf (M.compO a b c d) r s) ⟨f, e⟩ = @wp D (r s) ⟨fun d s => f (.done d) s, e⟩ := wp_arg _ _ rfl
theorem wpA_sSeq {a : _} (r : Sg → R D) (f : Ag → Sg → Prop) : @wp Ag (argOf (M.sSeq a) r s) ⟨f, e⟩ = @wp D (r s) ⟨fun d s => f (.done d) s, e⟩ := wp_arg _ _ rfl
theorem wpA_sRng {a : _} (r : Sg → R D) (f : Ag → Sg → Prop) : @wp Ag (argOf (M.sRng a) r s) ⟨f, e⟩ = @wp D (r s) ⟨fun d s => f (.done d) s, e⟩ := wp_arg _ _ rfl
theorem wpA_sRng2 {a : _} {b : _} (r : Sg → R D) (f : Ag → Sg → Prop) : @wp Ag (argOf (M.sRng2 a b) r s) ⟨f, e⟩ = @wp D (r s) ⟨fun d s => f (.done d) s, e⟩ := wp_arg _ _ rfl
theorem wpA_sEnum {a : _} (r : Sg → R D) (f : Ag → Sg → Prop) : @wp Ag (argOf (M.sEnum a) r s) ⟨f, e⟩ = @wp D (r s) ⟨fun d s => f (.done d) s, e⟩ := wp_arg _ _ rfl
theorem wpA_sZip {a : _} {b : _} (r : Sg → R D) (f : Ag → Sg → Prop) : @wp Ag (argOf (M.sZip a b) r s) ⟨f, e⟩ = @wp D (r s) ⟨fun d s => f (.done d) s, e⟩ := wp_arg _ _ rfl
theorem wpA_call {a : _} {b : _} (r : Sg → R D) (f : Ag → Sg → Prop) : @wp Ag (argOf (M.call a b) r s) ⟨f, e⟩ = @wp D (r s) ⟨fun d s => f (.done d) s, e⟩ := wp_arg _ _ rfl
theorem wpA_callk {a : _} {b : _} {c : _} (r : Sg → R D) (f : Ag → Sg → Prop) : @wp Ag (argOf (M.callk a b c) r s) ⟨f, e⟩ = @wp D (r s) ⟨fun d s => f (.done d) s, e⟩ := wp_arg _ _ rfl
theorem wpA_callv {a : _} {b : _} (r : Sg → R D) (f : Ag → Sg → Prop) : @wp Ag (argOf (M.callv a b) r s) ⟨f, e⟩ = @wp D (r s) ⟨fun d s => f (.done d) s, e⟩ := wp_arg _ _ rfl
theorem wpA_bi {a : _} {b : _} (r : Sg → R D) (f : Ag → Sg → Prop) : @wp Ag (argOf (M.bi a b) r s) ⟨f, e⟩ = @wp D (r s) ⟨fun d s => f (.done d) s, e⟩ := wp_arg _ _ rfl
theorem wpA_isi {a : _} {b : _} (r : Sg → R D) (f : Ag → Sg → Prop) : @wp Ag (argOf (M.isi a b) r s) ⟨f, e⟩ = @wp D (r s) ⟨fun d s => f (.done d) s, e⟩ := wp_arg _ _ rfl
theorem wpA_meth {a : _} {b : _} {c : _} (r : Sg → R D) (f : Ag → Sg → Prop) : @wp Ag (argOf (M.meth a b c) r s) ⟨f, e⟩ = @wp D (r s) ⟨fun d s => f (.done d) s, e⟩ := wp_arg _ _ rfl
theorem wpA_mut {a : _} {b : _} {c : _} (r : Sg → R D) (f : Ag → Sg → Prop) : @wp Ag (argOf (M.mut a b c) r s) ⟨f, e⟩ = @wp D (r s) ⟨fun d s => f (.done d) s, e⟩ := wp_arg _ _ rfl
theorem wpA_odict {a : _} {b : _} (r : Sg → R D) (f : Ag → Sg → Prop) : @wp Ag (argOf (M.odict a b) r s) ⟨f, e⟩ = @wp D (r s) ⟨fun d s => f (.done d) s, e⟩ := wp_arg _ _ rfl
theorem wpA_oget {a : _} {b : _} (r : Sg → R D) (f : Ag → Sg → Prop) : @wp Ag (argOf (M.oget a b) r s) ⟨f, e⟩ = @wp D (r s) ⟨fun d s => f (.done d) s, e⟩ := wp_arg _ _ rfl
theorem wpA_opop0 {a : _} (r : Sg → R D) (f : Ag → Sg → Prop) : @wp Ag (argOf (M.opop0 a) r s) ⟨f, e⟩ = @wp D (r s) ⟨fun d s => f (.done d) s, e⟩ := wp_arg _ _ rfl
theorem wpA_sortk {a : _} {b : _} (r : Sg → R D) (f : Ag → Sg → Prop) : @wp Ag (argOf (M.sortk a b) r s) ⟨f, e⟩ = @wp D (r s) ⟨fun d s => f (.done d) s, e⟩ := wp_arg _ _ rfl
theorem wp_op2 (o : O2) (a b : M) : @wp D (ev C (.op2 o a b) s) ⟨f, e⟩ = @wp Ag (argOf a (ev C a) s) ⟨fun x s => @wp Ag (argOf b (ev C b) s) ⟨fun y s => @rs s x ⟨fun d => @rs s y ⟨fun d' => @oo D (op2 o d d') ⟨fun v => f v s⟩⟩⟩, e⟩, e⟩ := by
  rw [ev]
  exact wp_bind' fun x s => wp_bind' fun y s => wp_two _ _ _
theorem wp_op1 (o : O1) (a : M) : @wp D (ev C (.op1 o a) s) ⟨f, e⟩ = @wp Ag (argOf a (ev C a) s) ⟨fun x s => @rs s x ⟨fun d => @oo D (op1 o d) ⟨fun v => f v s⟩⟩, e⟩ := by
  rw [ev]
  exact wp_bind' fun x s => wp_one _ _
theorem wp_chain (o o' : O2) (a b c : M) : @wp D (ev C (.chain o o' a b c) s) ⟨f, e⟩ = @wp D (ev C a s) ⟨fun x s => @wp D (ev C b s) ⟨fun y s => @oo D (op2 o x y) ⟨fun t => match t with
    | .bl b => if b then @wp D (ev C c s) ⟨fun z s => @oo D (op2 o' y z) ⟨fun v => f v s⟩, e⟩ else f (.bl false) s
    | _ => False⟩, e⟩, e⟩ := by
  rw [ev]
  refine wp_bind' fun x s => wp_bind' fun y s => ?_
  cases op2 o x y with
  | none => rfl
  | some t =>
    cases t with
    | bl b => cases b with
      | true => exact wp_bind' fun z s => wp_ofO _ _ _
      | false => rfl
    | _ => rfl
theorem wp_andv (a b : M) : @wp D (ev C (.andv a b) s) ⟨f, e⟩ = @wp D (ev C a s) ⟨fun d s => @oo Bool (truth d) ⟨fun t => if t then @wp D (ev C b s) ⟨f, e⟩ else f d s⟩, e⟩ := by
  rw [ev, wp_bind]
  congr; funext d s
  cases truth d with
  | none => rfl
  | some b => cases b <;> rfl
theorem wp_orv (a b : M) : @wp D (ev C (.orv a b) s) ⟨f, e⟩ = @wp D (ev C a s) ⟨fun d s => @oo Bool (truth d) ⟨fun t => if t then f d s else @wp D (ev C b s) ⟨f, e⟩⟩, e⟩ := by
  rw [ev, wp_bind]
  congr; funext d s
  cases truth d with
  | none => rfl
  | some b => cases b <;> rfl
theorem wp_notv (a : M) : @wp D (ev C (.notv a) s) ⟨f, e⟩ = @wp D (ev C a s) ⟨fun d s => @oo Bool (truth d) ⟨fun t => f (.bl (!t)) s⟩, e⟩ := by
  rw [ev, wp_bind]
  congr; funext d s
  cases truth d with
  | none => rfl
  | some b => cases b <;> rfl
theorem wp_ifx (c a b : M) : @wp D (ev C (.ifx c a b) s) ⟨f, e⟩ = @wp D (ev C c s) ⟨fun d s => @oo Bool (truth d) ⟨fun t => if t then @wp D (ev C a s) ⟨f, e⟩ else @wp D (ev C b s) ⟨f, e⟩⟩, e⟩ := by
  rw [ev, wp_bind]
  congr; funext d s
  cases truth d with
  | none => rfl
  | some b => cases b <;> rfl
theorem wp_sub (a i : M) : @wp D (ev C (.sub a i) s) ⟨f, e⟩ = @wp Ag (argOf a (ev C a) s) ⟨fun x s => @wp Ag (argOf i (ev C i) s) ⟨fun y s => @rs s x ⟨fun d => @rs s y ⟨fun d' => @oo D (subD d d') ⟨fun v => f v s⟩⟩⟩, e⟩, e⟩ := by
  rw [ev]
  exact wp_bind' fun x s => wp_bind' fun y s => wp_two _ _ _
/-- a part of a slice -/
def bdO (d : D) [K : Pk Int] : Prop := match d with
  | .int i => K.k i
  | _ => False
theorem bdO_int (i : Int) (k : Int → Prop) : @bdO (.int i) ⟨k⟩ = k i := rfl
theorem wp_part_nil (r : Sg → R D) (f : Option Int → Sg → Prop) : @wp (Option Int) (part .nil r s) ⟨f, e⟩ = f none s := rfl
theorem wp_part {m : M} (r : Sg → R D) (f : Option Int → Sg → Prop) (h : isNl m = false) : @wp (Option Int) (part m r s) ⟨f, e⟩ = @wp D (r s) ⟨fun d s => @bdO d ⟨fun i => f (some i) s⟩, e⟩ := by
  have : part m r s = (r s).bind fun d s => match d with | .int i => .ok (some i) s | _ => .bad := by
    cases m <;> first | rfl | cases h
  rw [this, wp_bind]
  congr; funext d s
  cases d <;> rfl
theorem wpP_cons {a : _} {b : _} (r : Sg → R D) (f : Option Int → Sg → Prop) : @wp (Option Int) (part (M.cons a b) r s) ⟨f, e⟩ = @wp D (r s) ⟨fun d s => @bdO d ⟨fun i => f (some i) s⟩, e⟩ := wp_part _ _ rfl
theorem wpP_const {a : _} (r : Sg → R D) (f : Option Int → Sg → Prop) : @wp (Option Int) (part (M.const a) r s) ⟨f, e⟩ = @wp D (r s) ⟨fun d s => @bdO d ⟨fun i => f (some i) s⟩, e⟩ := wp_part _ _ rfl
theorem wpP_glob {a : _} (r : Sg → R D) (f : Option Int → Sg → Prop) : @wp (Option Int) (part (M.glob a) r s) ⟨f, e⟩ = @wp D (r s) ⟨fun d s => @bdO d ⟨fun i => f (some i) s⟩, e⟩ := wp_part _ _ rfl
theorem wpP_fnv {a : _} (r : Sg → R D) (f : Option Int → Sg → Prop) : @wp (Option Int) (part (M.fnv a) r s) ⟨f, e⟩ = @wp D (r s) ⟨fun d s => @bdO d ⟨fun i => f (some i) s⟩, e⟩ := wp_part _ _ rfl
theorem wpP_var {a : _} (r : Sg → R D) (f : Option Int → Sg → Prop) : @wp (Option Int) (part (M.var a) r s) ⟨f, e⟩ = @wp D (r s) ⟨fun d s => @bdO d ⟨fun i => f (some i) s⟩, e⟩ := wp_part _ _ rfl
theorem wpP_peek {a : _} (r : Sg → R D) (f : Option Int → Sg → Prop) : @wp (Option Int) (part (M.peek a) r s) ⟨f, e⟩ = @wp D (r s) ⟨fun d s => @bdO d ⟨fun i => f (some i) s⟩, e⟩ := wp_part _ _ rfl
theorem wpP_tup {a : _} (r : Sg → R D) (f : Option Int → Sg → Prop) : @wp (Option Int) (part (M.tup a) r s) ⟨f, e⟩ = @wp D (r s) ⟨fun d s => @bdO d ⟨fun i => f (some i) s⟩, e⟩ := wp_part _ _ rfl
theorem wpP_lst {a : _} (r : Sg → R D) (f : Option Int → Sg → Prop) : @wp (Option Int) (part (M.lst a) r s) ⟨f, e⟩ = @wp D (r s) ⟨fun d s => @bdO d ⟨fun i => f (some i) s⟩, e⟩ := wp_part _ _ rfl
theorem wpP_edct  (r : Sg → R D) (f : Option Int → Sg → Prop) : @wp (Option Int) (part M.edct r s) ⟨f, e⟩ = @wp D (r s) ⟨fun d s => @bdO d ⟨fun i => f (some i) s⟩, e⟩ := wp_part _ _ rfl
theorem wpP_op2 {a : _} {b : _} {c : _} (r : Sg → R D) (f : Option Int → Sg → Prop) : @wp (Option Int) (part (M.op2 a b c) r s) ⟨f, e⟩ = @wp D (r s) ⟨fun d s => @bdO d ⟨fun i => f (some i) s⟩, e⟩ := wp_part _ _ rfl
theorem wpP_op1 {a : _} {b : _} (r : Sg → R D) (f : Option Int → Sg → Prop) : @wp (Option Int) (part (M.op1 a b) r s) ⟨f, e⟩ = @wp D (r s) ⟨fun d s => @bdO d ⟨fun i => f (some i) s⟩, e⟩ := wp_part _ _ rfl
theorem wpP_chain {a : _} {b : _} {c : _} {d : _} {g : _} (r : Sg → R D) (f : Option Int → Sg → Prop) : @wp (Option Int) (part (M.chain a b c d g) r s) ⟨f, e⟩ = @wp D (r s) ⟨fun d s => @bdO d ⟨fun i => f (some i) s⟩, e⟩ := wp_part _ _ rfl
theorem wpP_andv {a : _} {b : _} (r : Sg → R D) (f : Option Int → Sg → Prop) : @wp (Option Int) (part (M.andv a b) r s) ⟨f, e⟩ = @wp D (r s) ⟨fun d s => @bdO d ⟨fun i => f (some i) s⟩, e⟩ := wp_part _ _ rfl
theorem wpP_orv {a : _} {b : _} (r : Sg → R D) (f : Option Int → Sg → Prop) : @wp (Option Int) (part (M.orv a b) r s) ⟨f, e⟩ = @wp D (r s) ⟨fun d s => @bdO d ⟨fun i => f (some i) s⟩, e⟩ := wp_part _ _ rfl
theorem wpP_notv {a : _} (r : Sg → R D) (f : Option Int → Sg → Prop) : @wp (Option Int) (part (M.notv a) r s) ⟨f, e⟩ = @wp D (r s) ⟨fun d s => @bdO d ⟨fun i => f (some i) s⟩, e⟩ := wp_part _ _ rfl
theorem wpP_ifx {a : _} {b : _} {c : _} (r : Sg → R D) (f : Option Int → Sg → Prop) : @wp (Option Int) (part (M.ifx a b c) r s) ⟨f, e⟩ = @wp D (r s) ⟨fun d s => @bdO d ⟨fun i => f (some i) s⟩, e⟩ := wp_part _ _ rfl
theorem wpP_sub {a : _} {b : _} (r : Sg → R D) (f : Option Int → Sg → Prop) : @wp (Option Int) (part (M.sub a b) r s) ⟨f, e⟩ = @wp D (r s) ⟨fun d s => @bdO d ⟨fun i => f (some i) s⟩, e⟩ := wp_part _ _ rfl
theorem wpP_slc {a : _} {b : _} {c : _} (r : Sg → R D) (f : Option Int → Sg → Prop) : @wp (Option Int) (part (M.slc a b c) r s) ⟨f, e⟩ = @wp D (r s) ⟨fun d s => @bdO d ⟨fun i => f (some i) s⟩, e⟩ := wp_part _ _ rfl
theorem wpP_rev {a : _} (r : Sg → R D) (f : Option Int → Sg → Prop) : @wp (Option Int) (part (M.rev a) r s) ⟨f, e⟩ = @wp D (r s) ⟨fun d s => @bdO d ⟨fun i => f (some i) s⟩, e⟩ := wp_part _ _ rfl
theorem wpP_comp {a : _} {b : _} {c : _} {d : _} (r : Sg → R D) (f : Option Int → Sg → Prop) : @wp (Option Int) (part (M.comp a b c d) r s) ⟨f, e⟩ = @wp D (r s) ⟨fun d s => @bdO d ⟨fun i => f (some i) s⟩, e⟩ := wp_part _ _ rfl
theorem wpP_compO {a : _} {b : _} {c : _} {d : _} (r : Sg → R D) (f : Option Int → Sg → Prop) : @wp (Option Int) (part (M.compO a b c d) r s) ⟨f, e⟩ = @wp D (r s) ⟨fun d s => @bdO d ⟨fun i => f (some i) s⟩, e⟩ := wp_part _ _ rfl
theorem wpP_sSeq {a : _} (r : Sg → R D) (f : Option Int → Sg → Prop) : @wp (Option Int) (part (M.sSeq a) r s) ⟨f, e⟩ = @wp D (r s) ⟨fun d s => @bdO d ⟨fun i => f (some i) s⟩, e⟩ := wp_part _ _ rfl
theorem wpP_sRng {a : _} (r : Sg → R D) (f : Option Int → Sg → Prop) : @wp (Option Int) (part (M.sRng a) r s) ⟨f, e⟩ = @wp D (r s) ⟨fun d s => @bdO d ⟨fun i => f (some i) s⟩, e⟩ := wp_part _ _ rfl
theorem wpP_sRng2 {a : _} {b : _} (r : Sg → R D) (f : Option Int → Sg → Prop) : @wp (Option Int) (part (M.sRng2 a b) r s) ⟨f, e⟩ = @wp D (r s) ⟨fun d s => @bdO d ⟨fun i => f (some i) s⟩, e⟩ := wp_part _ _ rfl
theorem wpP_sEnum {a : _} (r : Sg → R D) (f : Option Int → Sg → Prop) : @wp (Option Int) (part (M.sEnum a) r s) ⟨f, e⟩ = @wp D (r s) ⟨fun d s => @bdO d ⟨fun i => f (some i) s⟩, e⟩ := wp_part _ _ rfl
theorem wpP_sZip {a : _} {b : _} (r : Sg → R D) (f : Option Int → Sg → Prop) : @wp (Option Int) (part (M.sZip a b) r s) ⟨f, e⟩ = @wp D (r s) ⟨fun d s => @bdO d ⟨fun i => f (some i) s⟩, e⟩ := wp_part _ _ rfl
theorem wpP_call {a : _} {b : _} (r : Sg → R D) (f : Option Int → Sg → Prop) : @wp (Option Int) (part (M.call a b) r s) ⟨f, e⟩ = @wp D (r s) ⟨fun d s => @bdO d ⟨fun i => f (some i) s⟩, e⟩ := wp_part _ _ rfl
theorem wpP_callk {a : _} {b : _} {c : _} (r : Sg → R D) (f : Option Int → Sg → Prop) : @wp (Option Int) (part (M.callk a b c) r s) ⟨f, e⟩ = @wp D (r s) ⟨fun d s => @bdO d ⟨fun i => f (some i) s⟩, e⟩ := wp_part _ _ rfl
theorem wpP_callv {a : _} {b : _} (r : Sg → R D) (f : Option Int → Sg → Prop) : @wp (Option Int) (part (M.callv a b) r s) ⟨f, e⟩ = @wp D (r s) ⟨fun d s => @bdO d ⟨fun i => f (some i) s⟩, e⟩ := wp_part _ _ rfl
theorem wpP_bi {a : _} {b : _} (r : Sg → R D) (f : Option Int → Sg → Prop) : @wp (Option Int) (part (M.bi a b) r s) ⟨f, e⟩ = @wp D (r s) ⟨fun d s => @bdO d ⟨fun i => f (some i) s⟩, e⟩ := wp_part _ _ rfl
theorem wpP_isi {a : _} {b : _} (r : Sg → R D) (f : Option Int → Sg → Prop) : @wp (Option Int) (part (M.isi a b) r s) ⟨f, e⟩ = @wp D (r s) ⟨fun d s => @bdO d ⟨fun i => f (some i) s⟩, e⟩ := wp_part _ _ rfl
theorem wpP_meth {a : _} {b : _} {c : _} (r : Sg → R D) (f : Option Int → Sg → Prop) : @wp (Option Int) (part (M.meth a b c) r s) ⟨f, e⟩ = @wp D (r s) ⟨fun d s => @bdO d ⟨fun i => f (some i) s⟩, e⟩ := wp_part _ _ rfl
theorem wpP_mut {a : _} {b : _} {c : _} (r : Sg → R D) (f : Option Int → Sg → Prop) : @wp (Option Int) (part (M.mut a b c) r s) ⟨f, e⟩ = @wp D (r s) ⟨fun d s => @bdO d ⟨fun i => f (some i) s⟩, e⟩ := wp_part _ _ rfl
theorem wpP_odict {a : _} {b : _} (r : Sg → R D) (f : Option Int → Sg → Prop) : @wp (Option Int) (part (M.odict a b) r s) ⟨f, e⟩ = @wp D (r s) ⟨fun d s => @bdO d ⟨fun i => f (some i) s⟩, e⟩ := wp_part _ _ rfl
theorem wpP_oget {a : _} {b : _} (r : Sg → R D) (f : Option Int → Sg → Prop) : @wp (Option Int) (part (M.oget a b) r s) ⟨f, e⟩ = @wp D (r s) ⟨fun d s => @bdO d ⟨fun i => f (some i) s⟩, e⟩ := wp_part _ _ rfl
theorem wpP_opop0 {a : _} (r : Sg → R D) (f : Option Int → Sg → Prop) : @wp (Option Int) (part (M.opop0 a) r s) ⟨f, e⟩ = @wp D (r s) ⟨fun d s => @bdO d ⟨fun i => f (some i) s⟩, e⟩ := wp_part _ _ rfl
theorem wpP_sortk {a : _} {b : _} (r : Sg → R D) (f : Option Int → Sg → Prop) : @wp (Option Int) (part (M.sortk a b) r s) ⟨f, e⟩ = @wp D (r s) ⟨fun d s => @bdO d ⟨fun i => f (some i) s⟩, e⟩ := wp_part _ _ rfl
theorem wp_slc (a lo hi : M) : @wp D (ev C (.slc a lo hi) s) ⟨f, e⟩ = @wp Ag (argOf a (ev C a) s) ⟨fun x s => @wp (Option Int) (part lo (ev C lo) s) ⟨fun l s => @wp (Option Int) (part hi (ev C hi) s) ⟨fun h s => @rs s x ⟨fun d => @oo D (slcD d l h) ⟨fun v => f v s⟩⟩, e⟩, e⟩, e⟩ := by
  rw [ev]
  exact wp_bind' fun x s => wp_bind' fun l s => wp_bind' fun h s => wp_one _ _
theorem wp_rev (a : M) : @wp D (ev C (.rev a) s) ⟨f, e⟩ = @wp Ag (argOf a (ev C a) s) ⟨fun x s => @rs s x ⟨fun d => @oo D (revD d) ⟨fun v => f v s⟩⟩, e⟩ := by
  rw [ev]
  exact wp_bind' fun x s => wp_one _ _
theorem wp_call (n : Nat) (es : M) : @wp D (ev C (.call n es) s) ⟨f, e⟩ = @wp (List D) (evs C es s) ⟨fun ds s => @cwp (C.Φ n ds s.hp) ⟨fun d h => f d ⟨s.sl, h⟩, fun c fs h => e c fs ⟨s.sl, h⟩⟩, e⟩ := by
  rw [ev]
  exact wp_bind' fun ds s => wp_lift _ _ _
theorem wp_callk (n : Nat) (perm : List Nat) (es : M) : @wp D (ev C (.callk n perm es) s) ⟨f, e⟩ = @wp (List D) (evs C es s) ⟨fun ds s => @oo (List D) (pick perm ds) ⟨fun ds => @cwp (C.Φ n ds s.hp) ⟨fun d h => f d ⟨s.sl, h⟩, fun c fs h => e c fs ⟨s.sl, h⟩⟩⟩, e⟩ := by
  rw [ev, wp_bind]
  congr; funext ds s
  cases pick perm ds with
  | none => rfl
  | some ds => exact wp_lift _ _ _
/-- the own list of a slot -/
def owO (x : Sl) [K : Pk (List D)] : Prop := match x with
  | .own xs => K.k xs
  | _ => False
theorem owO_own (xs : List D) (k : List D → Prop) : @owO (.own xs) ⟨k⟩ = k xs := rfl
theorem wp_lend (i : Nat) (m : M) : @wp D (ev C (.lend i m) s) ⟨f, e⟩ = @oo Sl s.sl[i]? ⟨fun x => @owO x ⟨fun xs => @wp D (ev C m ⟨(s.sl.map hideO).set i (.val (.rol xs)), s.hp⟩) ⟨fun d s' => (d.noR && s'.hp.all HObj.noR) = true ∧ f d ⟨s.sl, s'.hp⟩, e⟩⟩⟩ := by
  rw [ev]
  cases s.sl[i]? with
  | none => rfl
  | some x =>
    cases x with
    | emp => rfl
    | val d => rfl
    | own xs => exact wp_bind' fun d s' => wp_guard _ _ _
/-- the def that a slot holds -/
def fnO (x : Sl) [K : Pk Nat] : Prop := match x with
  | .val (.fn n) => K.k n
  | _ => False
theorem fnO_fn (n : Nat) (k : Nat → Prop) : @fnO (.val (.fn n)) ⟨k⟩ = k n := rfl
theorem wp_callv (i : Nat) (es : M) : @wp D (ev C (.callv i es) s) ⟨f, e⟩ = @oo Sl s.sl[i]? ⟨fun x => @fnO x ⟨fun n => @wp (List D) (evs C es s) ⟨fun ds s => @cwp (C.Φ n ds s.hp) ⟨fun d h => f d ⟨s.sl, h⟩, fun c fs h => e c fs ⟨s.sl, h⟩⟩, e⟩⟩⟩ := by
  rw [ev]
  cases s.sl[i]? with
  | none => rfl
  | some x =>
    cases x with
    | emp => rfl
    | own xs => rfl
    | val d =>
      cases d with
      | fn n =>
        show @wp D ((evs C es s).bind fun ds s => (C.Φ n ds s.hp).lift s) ⟨f, e⟩ = @wp (List D) (evs C es s) ⟨fun ds s => @cwp (C.Φ n ds s.hp) ⟨fun d h => f d ⟨s.sl, h⟩, fun c fs h => e c fs ⟨s.sl, h⟩⟩, e⟩
        exact wp_bind' fun ds s => wp_lift _ _ _
      | _ => rfl
theorem wp_bi (b : Bi) (es : M) : @wp D (ev C (.bi b es) s) ⟨f, e⟩ = @wp (List D) (evb C es s) ⟨fun ds s => @oo D (biD b ds) ⟨fun v => f v s⟩, e⟩ := by
  rw [ev]
  exact wp_bind' fun ds s => wp_ofO _ _ _
theorem wp_isi (a : M) (t : Ty) : @wp D (ev C (.isi a t) s) ⟨f, e⟩ = @wp D (ev C a s) ⟨fun d s => @oo Bool (isiD d t) ⟨fun b => f (.bl b) s⟩, e⟩ := by
  rw [ev]
  exact wp_bind' fun ds s => (wp_ofO _ _ _).trans (oo_map _ _ _)
theorem wp_meth (m : Mt) (a es : M) : @wp D (ev C (.meth m a es) s) ⟨f, e⟩ = @wp D (ev C a s) ⟨fun d s => @wp (List D) (evs C es s) ⟨fun ds s => @oo D (mtD m d ds) ⟨fun v => f v s⟩, e⟩, e⟩ := by
  rw [ev]
  exact wp_bind' fun d s => wp_bind' fun ds s => wp_ofO _ _ _
theorem wp_mut (m : Mm) (i : Nat) (es : M) : @wp D (ev C (.mut m i es) s) ⟨f, e⟩ = @oo Sl s.sl[i]? ⟨fun x => @owO x ⟨fun _ => @wp (List D) (evs C es s) ⟨fun ds s => @oo Sl s.sl[i]? ⟨fun x => @owO x ⟨fun xs => @oo (D × List D) (mmD m xs ds) ⟨fun p => f p.1 (s.set i (.own p.2))⟩⟩⟩, e⟩⟩⟩ := by
  rw [ev]
  cases s.sl[i]? with
  | none => rfl
  | some x =>
    cases x with
    | emp => rfl
    | val d => rfl
    | own xs =>
      refine wp_bind' fun ds s => ?_
      cases s.sl[i]? with
      | none => rfl
      | some x =>
        cases x with
        | emp => rfl
        | val d => rfl
        | own xs =>
          have h : ∀ o : Option (D × List D), @wp D (match o with | some (d, ys) => .ok d (s.set i (.own ys)) | none => .bad) ⟨f, e⟩ = @oo (D × List D) o ⟨fun p => f p.1 (s.set i (.own p.2))⟩ := fun o => by cases o <;> rfl
          exact h _
theorem wp_sortk (n : Nat) (a : M) : @wp D (ev C (.sortk n a) s) ⟨f, e⟩ = @wp Ag (argOf a (ev C a) s) ⟨fun x s => @rs s x ⟨fun d => @oo (List D) (srcOf d) ⟨fun xs => @oo (List D × HP) (keysL C.Φ n xs s.hp) ⟨fun p => keysOk xs p.1 = true ∧ f (.lst (srt xs p.1)) ⟨s.sl, p.2⟩⟩⟩⟩, e⟩ := by
  rw [ev, wp_bind]
  congr; funext x s
  unfold rs
  cases s.res x with
  | none => rfl
  | some d =>
    have h3 : ∀ (xs : List D) (o : Option (List D × HP)), @wp D (match o with | some (ks, hp') => if keysOk xs ks then .ok (.lst (srt xs ks)) { s with hp := hp' } else .bad | none => .bad) ⟨f, e⟩ = @oo (List D × HP) o ⟨fun p => keysOk xs p.1 = true ∧ f (.lst (srt xs p.1)) ⟨s.sl, p.2⟩⟩ := fun xs o => by
      cases o with
      | none => rfl
      | some p =>
        obtain ⟨ks, hp'⟩ := p
        show @wp D (if keysOk xs ks = true then R.ok (D.lst (srt xs ks)) ⟨s.sl, hp'⟩ else R.bad) ⟨f, e⟩ = (keysOk xs ks = true ∧ f (.lst (srt xs ks)) ⟨s.sl, hp'⟩)
        exact wp_guard _ _ _
    have h2 : ∀ o : Option (List D), @wp D (match o with | some xs => (match keysL C.Φ n xs s.hp with | some (ks, hp') => if keysOk xs ks then .ok (.lst (srt xs ks)) { s with hp := hp' } else .bad | none => .bad) | none => .bad) ⟨f, e⟩ = @oo (List D) o ⟨fun xs => @oo (List D × HP) (keysL C.Φ n xs s.hp) ⟨fun p => keysOk xs p.1 = true ∧ f (.lst (srt xs p.1)) ⟨s.sl, p.2⟩⟩⟩ := fun o => by
      cases o with
      | none => rfl
      | some xs => exact h3 xs _
    exact h2 _
theorem wp_odict (ks : List Str) (es : M) : @wp D (ev C (.odict ks es) s) ⟨f, e⟩ = @wp (List D) (evs C es s) ⟨fun ds s => ks.length = ds.length ∧ f (.obj s.hp.length) ⟨s.sl, s.hp ++ [.dict (ks.zip ds)]⟩, e⟩ := by
  rw [ev, wp_bind]
  congr; funext ds s
  exact wp_guard _ _ _

/-! ### arguments -/
theorem wp_nil (f : List D → Sg → Prop) : @wp (List D) (evs C .nil s) ⟨f, e⟩ = f [] s := rfl
theorem wp_cons (a r : M) (f : List D → Sg → Prop) : @wp (List D) (evs C (.cons a r) s) ⟨f, e⟩ = @wp D (ev C a s) ⟨fun d s => @wp (List D) (evs C r s) ⟨fun ds s => f (d :: ds) s, e⟩, e⟩ := by
  rw [evs]
  exact wp_bind' fun d s => wp_bind' fun ds s => rfl
theorem wp_bnil (f : List D → Sg → Prop) : @wp (List D) (evb C .nil s) ⟨f, e⟩ = f [] s := rfl
theorem wp_bone (a : M) (f : List D → Sg → Prop) : @wp (List D) (evb C (.cons a .nil) s) ⟨f, e⟩ = @wp Ag (argOf a (ev C a) s) ⟨fun x s => @rs s x ⟨fun d => f [d] s⟩, e⟩ := by
  rw [evb]
  exact wp_bind' fun x s => (wp_bind' fun d s => rfl).trans (wp_one _ _)
theorem wp_btwo (a b r : M) (f : List D → Sg → Prop) : @wp (List D) (evb C (.cons a (.cons b r)) s) ⟨f, e⟩ = @wp D (ev C a s) ⟨fun d s => @wp (List D) (evs C (.cons b r) s) ⟨fun ds s => f (d :: ds) s, e⟩, e⟩ := by
  rw [evb]
  · exact wp_bind' fun d s => wp_bind' fun ds s => rfl
  · intro h; cases h

/-! ### what is walked -/
theorem wp_sSeq (a : M) (f : List D → Sg → Prop) : @wp (List D) (evI C (.sSeq a) s) ⟨f, e⟩ = @wp D (ev C a s) ⟨fun d s => @oo (List D) d.items ⟨fun ds => f ds s⟩, e⟩ := by
  rw [evI]
  exact wp_bind' fun d s => wp_ofO _ _ _
def rgO (d : D) [K : Pk Int] : Prop := match d with
  | .int i => K.k i
  | _ => False
theorem rgO_int (i : Int) (k : Int → Prop) : @rgO (.int i) ⟨k⟩ = k i := rfl
theorem wp_sRng (a : M) (f : List D → Sg → Prop) : @wp (List D) (evI C (.sRng a) s) ⟨f, e⟩ = @wp D (ev C a s) ⟨fun d s => @rgO d ⟨fun i => rngOk 0 i = true ∧ f (rng 0 i) s⟩, e⟩ := by
  rw [evI, wp_bind]
  congr; funext d s
  cases d with
  | int i =>
    show @wp (List D) (if rngOk 0 i = true then R.ok (rng 0 i) s else R.bad) ⟨f, e⟩ = (rngOk 0 i = true ∧ f (rng 0 i) s)
    exact wp_guard _ _ _
  | _ => rfl
theorem wp_sRng2 (a b : M) (f : List D → Sg → Prop) : @wp (List D) (evI C (.sRng2 a b) s) ⟨f, e⟩ = @wp D (ev C a s) ⟨fun d s => @wp D (ev C b s) ⟨fun d' s => @rgO d ⟨fun i => @rgO d' ⟨fun j => rngOk i j = true ∧ f (rng i j) s⟩⟩, e⟩, e⟩ := by
  rw [evI, wp_bind]
  congr; funext d s
  rw [wp_bind]
  congr; funext d' s
  cases d with
  | int i => cases d' with
    | int j =>
      show @wp (List D) (if rngOk i j = true then R.ok (rng i j) s else R.bad) ⟨f, e⟩ = (rngOk i j = true ∧ f (rng i j) s)
      exact wp_guard _ _ _
    | _ => rfl
  | _ => rfl
theorem wp_sEnum (a : M) (f : List D → Sg → Prop) : @wp (List D) (evI C (.sEnum a) s) ⟨f, e⟩ = @wp D (ev C a s) ⟨fun d s => @oo (List D) d.items ⟨fun ds => f (enumL 0 ds) s⟩, e⟩ := by
  rw [evI, wp_bind]
  congr; funext d s
  cases d.items <;> rfl
def zpO (d d' : D) [K : Pk (List D)] : Prop := match d, d' with
  | .lst xs, .lst ys => K.k (zipL xs ys)
  | .tup xs, .tup ys => K.k (zipL xs ys)
  | _, _ => False
theorem zpO_lst (xs ys : List D) (k : List D → Prop) : @zpO (.lst xs) (.lst ys) ⟨k⟩ = k (zipL xs ys) := rfl
theorem zpO_tup (xs ys : List D) (k : List D → Prop) : @zpO (.tup xs) (.tup ys) ⟨k⟩ = k (zipL xs ys) := rfl
theorem wp_sZip (a b : M) (f : List D → Sg → Prop) : @wp (List D) (evI C (.sZip a b) s) ⟨f, e⟩ = @wp D (ev C a s) ⟨fun d s => @wp D (ev C b s) ⟨fun d' s => @zpO d d' ⟨fun ds => f ds s⟩, e⟩, e⟩ := by
  rw [evI, wp_bind]
  congr; funext d s
  rw [wp_bind]
  congr; funext d' s
  cases d <;> cases d' <;> rfl

/-! ### comprehensions -/
/-- what a comprehension's block does -/
def cbd (C : Cn) (elt cond : M) (s : Sg) : R (Option D) := match cond with
  | .nil => (ev C elt s).bind fun x s => .ok (some x) s
  | c => (tst (ev C c s)).bind fun b s => if b then (ev C elt s).bind fun x s => .ok (some x) s else .ok none s
theorem wp_tst (r : R D) (f : Bool → Sg → Prop) : @wp Bool (tst r) ⟨f, e⟩ = @wp D r ⟨fun d s => @oo Bool (truth d) ⟨fun b => f b s⟩, e⟩ := by
  unfold tst
  exact wp_bind' fun d s => wp_ofO _ _ _
theorem wp_cbd_nil (elt : M) (f : Option D → Sg → Prop) : @wp (Option D) (cbd C elt .nil s) ⟨f, e⟩ = @wp D (ev C elt s) ⟨fun x s => f (some x) s, e⟩ := by
  exact wp_bind' fun d s => rfl
theorem wp_cbd (elt : M) {cond : M} (f : Option D → Sg → Prop) (h : isNl cond = false) : @wp (Option D) (cbd C elt cond s) ⟨f, e⟩ = @wp D (ev C cond s) ⟨fun d s => @oo Bool (truth d) ⟨fun b => if b then @wp D (ev C elt s) ⟨fun x s => f (some x) s, e⟩ else f none s⟩, e⟩ := by
  have : cbd C elt cond s = (tst (ev C cond s)).bind fun b s => if b then (ev C elt s).bind fun x s => .ok (some x) s else .ok none s := by
    cases cond <;> first | rfl | cases h
  rw [this, wp_bind, wp_tst]
  congr; funext d s
  congr; funext b
  cases b
  · rfl
  · exact wp_bind' fun x s => rfl
theorem wpB_cons {a : _} {b : _} (elt : M) (f : Option D → Sg → Prop) : @wp (Option D) (cbd C elt (M.cons a b) s) ⟨f, e⟩ = @wp D (ev C (M.cons a b) s) ⟨fun d s => @oo Bool (truth d) ⟨fun b => if b then @wp D (ev C elt s) ⟨fun x s => f (some x) s, e⟩ else f none s⟩, e⟩ := wp_cbd _ _ rfl
theorem wpB_const {a : _} (elt : M) (f : Option D → Sg → Prop) : @wp (Option D) (cbd C elt (M.const a) s) ⟨f, e⟩ = @wp D (ev C (M.const a) s) ⟨fun d s => @oo Bool (truth d) ⟨fun b => if b then @wp D (ev C elt s) ⟨fun x s => f (some x) s, e⟩ else f none s⟩, e⟩ := wp_cbd _ _ rfl
theorem wpB_glob {a : _} (elt : M) (f : Option D → Sg → Prop) : @wp (Option D) (cbd C elt (M.glob a) s) ⟨f, e⟩ = @wp D (ev C (M.glob a) s) ⟨fun d s => @oo Bool (truth d) ⟨fun b => if b then @wp D (ev C elt s) ⟨fun x s => f (some x) s, e⟩ else f none s⟩, e⟩ := wp_cbd _ _ rfl
theorem wpB_fnv {a : _} (elt : M) (f : Option D → Sg → Prop) : @wp (Option D) (cbd C elt (M.fnv a) s) ⟨f, e⟩ = @wp D (ev C (M.fnv a) s) ⟨fun d s => @oo Bool (truth d) ⟨fun b => if b then @wp D (ev C elt s) ⟨fun x s => f (some x) s, e⟩ else f none s⟩, e⟩ := wp_cbd _ _ rfl
theorem wpB_var {a : _} (elt : M) (f : Option D → Sg → Prop) : @wp (Option D) (cbd C elt (M.var a) s) ⟨f, e⟩ = @wp D (ev C (M.var a) s) ⟨fun d s => @oo Bool (truth d) ⟨fun b => if b then @wp D (ev C elt s) ⟨fun x s => f (some x) s, e⟩ else f none s⟩, e⟩ := wp_cbd _ _ rfl
theorem wpB_peek {a : _} (elt : M) (f : Option D → Sg → Prop) : @wp (Option D) (cbd C elt (M.peek a) s) ⟨f, e⟩ = @wp D (ev C (M.peek a) s) ⟨fun d s => @oo Bool (truth d) ⟨fun b => if b then @wp D (ev C elt s) ⟨fun x s => f (some x) s, e⟩ else f none s⟩, e⟩ := wp_cbd _ _ rfl
theorem wpB_tup {a : _} (elt : M) (f : Option D → Sg → Prop) : @wp (Option D) (cbd C elt (M.tup a) s) ⟨f, e⟩ = @wp D (ev C (M.tup a) s) ⟨fun d s => @oo Bool (truth d) ⟨fun b => if b then @wp D (ev C elt s) ⟨fun x s => f (some x) s, e⟩ else f none s⟩, e⟩ := wp_cbd _ _ rfl
theorem wpB_lst {a : _} (elt : M) (f : Option D → Sg → Prop) : @wp (Option D) (cbd C elt (M.lst a) s) ⟨f, e⟩ = @wp D (ev C (M.lst a) s) ⟨fun d s => @oo Bool (truth d) ⟨fun b => if b then @wp D (ev C elt s) ⟨fun x s => f (some x) s, e⟩ else f none s⟩, e⟩ := wp_cbd _ _ rfl
theorem wpB_edct  (elt : M) (f : Option D → Sg → Prop) : @wp (Option D) (cbd C elt M.edct s) ⟨f, e⟩ = @wp D (ev C M.edct s) ⟨fun d s => @oo Bool (truth d) ⟨fun b => if b then @wp D (ev C elt s) ⟨fun x s => f (some x) s, e⟩ else f none s⟩, e⟩ := wp_cbd _ _ rfl
theorem wpB_op2 {a : _} {b : _} {c : _} (elt : M) (f : Option D → Sg → Prop) : @wp (Option D) (cbd C elt (M.op2 a b c) s) ⟨f, e⟩ = @wp D (ev C (M.op2 a b c) s) ⟨fun d s => @oo Bool (truth d) ⟨fun b => if b then @wp D (ev C elt s) ⟨fun x s => f (some x) s, e⟩ else f none s⟩, e⟩ := wp_cbd _ _ rfl
theorem wpB_op1 {a : _} {b : _} (elt : M) (f : Option D → Sg → Prop) : @wp (Option D) (cbd C elt (M.op1 a b) s) ⟨f, e⟩ = @wp D (ev C (M.op1 a b) s) ⟨fun d s => @oo Bool (truth d) ⟨fun b => if b then @wp D (ev C elt s) ⟨fun x s => f (some x) s, e⟩ else f none s⟩, e⟩ := wp_cbd _ _ rfl
theorem wpB_chain {a : _} {b : _} {c : _} {d : _} {g : _} (elt : M) (f : Option D → Sg → Prop) : @wp (Option D) (cbd C elt (M.chain a b c d g) s) ⟨f, e⟩ = @wp D (ev C (M.chain a b c d g) s) ⟨fun d s => @oo Bool (truth d) ⟨fun b => if b then @wp D (ev C elt s) ⟨fun x s => f (some x) s, e⟩ else f none s⟩, e⟩ := wp_cbd _ _ rfl
theorem wpB_andv {a : _} {b : _} (elt : M) (f : Option D → Sg → Prop) : @wp (Option D) (cbd C elt (M.andv a b) s) ⟨f, e⟩ = @wp D (ev C (M.andv a b) s) ⟨fun d s => @oo Bool (truth d) ⟨fun b => if b then @wp D (ev C elt s) ⟨fun x s => f (some x) s, e⟩ else f none s⟩, e⟩ := wp_cbd _ _ rfl
theorem wpB_orv {a : _} {b : _} (elt : M) (f : Option D → Sg → Prop) : @wp (Option D) (cbd C elt (M.orv a b) s) ⟨f, e⟩ = @wp D (ev C (M.orv a b) s) ⟨fun d s => @oo Bool (truth d) ⟨fun b => if b then @wp D (ev C elt s) ⟨fun x s => f (some x) s, e⟩ else f none s⟩, e⟩ := wp_cbd _ _ rfl
theorem wpB_notv {a : _} (elt : M) (f : Option D → Sg → Prop) : @wp (Option D) (cbd C elt (M.notv a) s) ⟨f, e⟩ = @wp D (ev C (M.notv a) s) ⟨fun d s => @oo Bool (truth d) ⟨fun b => if b then @wp D (ev C elt s) ⟨fun x s => f (some x) s, e⟩ else f none s⟩, e⟩ := wp_cbd _ _ rfl
theorem wpB_ifx {a : _} {b : _} {c : _} (elt : M) (f : Option D → Sg → Prop) : @wp (Option D) (cbd C elt (M.ifx a b c) s) ⟨f, e⟩ = @wp D (ev C (M.ifx a b c) s) ⟨fun d s => @oo Bool (truth d) ⟨fun b => if b then @wp D (ev C elt s) ⟨fun x s => f (some x) s, e⟩ else f none s⟩, e⟩ := wp_cbd _ _ rfl
theorem wpB_sub {a : _} {b : _} (elt : M) (f : Option D → Sg → Prop) : @wp (Option D) (cbd C elt (M.sub a b) s) ⟨f, e⟩ = @wp D (ev C (M.sub a b) s) ⟨fun d s => @oo Bool (truth d) ⟨fun b => if b then @wp D (ev C elt s) ⟨fun x s => f (some x) s, e⟩ else f none s⟩, e⟩ := wp_cbd _ _ rfl
theorem wpB_slc {a : _} {b : _} {c : _} (elt : M) (f : Option D → Sg → Prop) : @wp (Option D) (cbd C elt (M.slc a b c) s) ⟨f, e⟩ = @wp D (ev C (M.slc a b c) s) ⟨fun d s => @oo Bool (truth d) ⟨fun b => if b then @wp D (ev C elt s) ⟨fun x s => f (some x) s, e⟩ else f none s⟩, e⟩ := wp_cbd _ _ rfl
theorem wpB_rev {a : _} (elt : M) (f : Option D → Sg → Prop) : @wp (Option D) (cbd C elt (M.rev a) s) ⟨f, e⟩ = @wp D (ev C (M.rev a) s) ⟨fun d s => @oo Bool (truth d) ⟨fun b => if b then @wp D (ev C elt s) ⟨fun x s => f (some x) s, e⟩ else f none s⟩, e⟩ := wp_cbd _ _ rfl
theorem wpB_comp {a : _} {b : _} {c : _} {d : _} (elt : M) (f : Option D → Sg → Prop) : @wp (Option D) (cbd C elt (M.comp a b c d) s) ⟨f, e⟩ = @wp D (ev C (M.comp a b c d) s) ⟨fun d s => @oo Bool (truth d) ⟨fun b => if b then @wp D (ev C elt s) ⟨fun x s => f (some x) s, e⟩ else f none s⟩, e⟩ := wp_cbd _ _ rfl
theorem wpB_compO {a : _} {b : _} {c : _} {d : _} (elt : M) (f : Option D → Sg → Prop) : @wp (Option D) (cbd C elt (M.compO a b c d) s) ⟨f, e⟩ = @wp D (ev C (M.compO a b c d) s) ⟨fun d s => @oo Bool (truth d) ⟨fun b => if b then @wp D (ev C elt s) ⟨fun x s => f (some x) s, e⟩ else f none s⟩, e⟩ := wp_cbd _ _ rfl
theorem wpB_sSeq {a : _} (elt : M) (f : Option D → Sg → Prop) : @wp (Option D) (cbd C elt (M.sSeq a) s) ⟨f, e⟩ = @wp D (ev C (M.sSeq a) s) ⟨fun d s => @oo Bool (truth d) ⟨fun b => if b then @wp D (ev C elt s) ⟨fun x s => f (some x) s, e⟩ else f none s⟩, e⟩ := wp_cbd _ _ rfl
theorem wpB_sRng {a : _} (elt : M) (f : Option D → Sg → Prop) : @wp (Option D) (cbd C elt (M.sRng a) s) ⟨f, e⟩ = @wp D (ev C (M.sRng a) s) ⟨fun d s => @oo Bool (truth d) ⟨fun b => if b then @wp D (ev C elt s) ⟨fun x s => f (some x) s, e⟩ else f none s⟩, e⟩ := wp_cbd _ _ rfl
theorem wpB_sRng2 {a : _} {b : _} (elt : M) (f : Option D → Sg → Prop) : @wp (Option D) (cbd C elt (M.sRng2 a b) s) ⟨f, e⟩ = @wp D (ev C (M.sRng2 a b) s) ⟨fun d s => @oo Bool (truth d) ⟨fun b => if b then @wp D (ev C elt s) ⟨fun x s => f (some x) s, e⟩ else f none s⟩, e⟩ := wp_cbd _ _ rfl
theorem wpB_sEnum {a : _} (elt : M) (f : Option D → Sg → Prop) : @wp (Option D) (cbd C elt (M.sEnum a) s) ⟨f, e⟩ = @wp D (ev C (M.sEnum a) s) ⟨fun d s => @oo Bool (truth d) ⟨fun b => if b then @wp D (ev C elt s) ⟨fun x s => f (some x) s, e⟩ else f none s⟩, e⟩ := wp_cbd _ _ rfl
theorem wpB_sZip {a : _} {b : _} (elt : M) (f : Option D → Sg → Prop) : @wp (Option D) (cbd C elt (M.sZip a b) s) ⟨f, e⟩ = @wp D (ev C (M.sZip a b) s) ⟨fun d s => @oo Bool (truth d) ⟨fun b => if b then @wp D (ev C elt s) ⟨fun x s => f (some x) s, e⟩ else f none s⟩, e⟩ := wp_cbd _ _ rfl
theorem wpB_call {a : _} {b : _} (elt : M) (f : Option D → Sg → Prop) : @wp (Option D) (cbd C elt (M.call a b) s) ⟨f, e⟩ = @wp D (ev C (M.call a b) s) ⟨fun d s => @oo Bool (truth d) ⟨fun b => if b then @wp D (ev C elt s) ⟨fun x s => f (some x) s, e⟩ else f none s⟩, e⟩ := wp_cbd _ _ rfl
theorem wpB_callk {a : _} {b : _} {c : _} (elt : M) (f : Option D → Sg → Prop) : @wp (Option D) (cbd C elt (M.callk a b c) s) ⟨f, e⟩ = @wp D (ev C (M.callk a b c) s) ⟨fun d s => @oo Bool (truth d) ⟨fun b => if b then @wp D (ev C elt s) ⟨fun x s => f (some x) s, e⟩ else f none s⟩, e⟩ := wp_cbd _ _ rfl
theorem wpB_callv {a : _} {b : _} (elt : M) (f : Option D → Sg → Prop) : @wp (Option D) (cbd C elt (M.callv a b) s) ⟨f, e⟩ = @wp D (ev C (M.callv a b) s) ⟨fun d s => @oo Bool (truth d) ⟨fun b => if b then @wp D (ev C elt s) ⟨fun x s => f (some x) s, e⟩ else f none s⟩, e⟩ := wp_cbd _ _ rfl
theorem wpB_bi {a : _} {b : _} (elt : M) (f : Option D → Sg → Prop) : @wp (Option D) (cbd C elt (M.bi a b) s) ⟨f, e⟩ = @wp D (ev C (M.bi a b) s) ⟨fun d s => @oo Bool (truth d) ⟨fun b => if b then @wp D (ev C elt s) ⟨fun x s => f (some x) s, e⟩ else f none s⟩, e⟩ := wp_cbd _ _ rfl
theorem wpB_isi {a : _} {b : _} (elt : M) (f : Option D → Sg → Prop) : @wp (Option D) (cbd C elt (M.isi a b) s) ⟨f, e⟩ = @wp D (ev C (M.isi a b) s) ⟨fun d s => @oo Bool (truth d) ⟨fun b => if b then @wp D (ev C elt s) ⟨fun x s => f (some x) s, e⟩ else f none s⟩, e⟩ := wp_cbd _ _ rfl
theorem wpB_meth {a : _} {b : _} {c : _} (elt : M) (f : Option D → Sg → Prop) : @wp (Option D) (cbd C elt (M.meth a b c) s) ⟨f, e⟩ = @wp D (ev C (M.meth a b c) s) ⟨fun d s => @oo Bool (truth d) ⟨fun b => if b then @wp D (ev C elt s) ⟨fun x s => f (some x) s, e⟩ else f none s⟩, e⟩ := wp_cbd _ _ rfl
theorem wpB_mut {a : _} {b : _} {c : _} (elt : M) (f : Option D → Sg → Prop) : @wp (Option D) (cbd C elt (M.mut a b c) s) ⟨f, e⟩ = @wp D (ev C (M.mut a b c) s) ⟨fun d s => @oo Bool (truth d) ⟨fun b => if b then @wp D (ev C elt s) ⟨fun x s => f (some x) s, e⟩ else f none s⟩, e⟩ := wp_cbd _ _ rfl
theorem wpB_odict {a : _} {b : _} (elt : M) (f : Option D → Sg → Prop) : @wp (Option D) (cbd C elt (M.odict a b) s) ⟨f, e⟩ = @wp D (ev C (M.odict a b) s) ⟨fun d s => @oo Bool (truth d) ⟨fun b => if b then @wp D (ev C elt s) ⟨fun x s => f (some x) s, e⟩ else f none s⟩, e⟩ := wp_cbd _ _ rfl
theorem wpB_oget {a : _} {b : _} (elt : M) (f : Option D → Sg → Prop) : @wp (Option D) (cbd C elt (M.oget a b) s) ⟨f, e⟩ = @wp D (ev C (M.oget a b) s) ⟨fun d s => @oo Bool (truth d) ⟨fun b => if b then @wp D (ev C elt s) ⟨fun x s => f (some x) s, e⟩ else f none s⟩, e⟩ := wp_cbd _ _ rfl
theorem wpB_opop0 {a : _} (elt : M) (f : Option D → Sg → Prop) : @wp (Option D) (cbd C elt (M.opop0 a) s) ⟨f, e⟩ = @wp D (ev C (M.opop0 a) s) ⟨fun d s => @oo Bool (truth d) ⟨fun b => if b then @wp D (ev C elt s) ⟨fun x s => f (some x) s, e⟩ else f none s⟩, e⟩ := wp_cbd _ _ rfl
theorem wpB_sortk {a : _} {b : _} (elt : M) (f : Option D → Sg → Prop) : @wp (Option D) (cbd C elt (M.sortk a b) s) ⟨f, e⟩ = @wp D (ev C (M.sortk a b) s) ⟨fun d s => @oo Bool (truth d) ⟨fun b => if b then @wp D (ev C elt s) ⟨fun x s => f (some x) s, e⟩ else f none s⟩, e⟩ := wp_cbd _ _ rfl
def cmb (C : Cn) (elt : M) (tg : Tg) (cond : M) (d : D) (s : Sg) : R (Option D) := (asg tg d (wipe tg.slots s)).bind fun _ s => cbd C elt cond s
/-- a comprehension over what is walked -/
def cmw (C : Cn) (elt : M) (tg : Tg) (cond : M) (ds : List D) (s : Sg) [Q : Post D] : Prop :=
  @wp D (if noOwn tg.slots s then (compL (cmb C elt tg cond) ds s).bind fun xs s' => if xs.length ≤ lim then .ok (.lst xs) (back tg.slots s s') else .bad else .bad) Q
theorem wp_comp (elt : M) (tg : Tg) (src cond : M) : @wp D (ev C (.comp elt tg src cond) s) ⟨f, e⟩ = @wp (List D) (evI C src s) ⟨fun ds s => @cmw C elt tg cond ds s ⟨f, e⟩, e⟩ := by
  rw [ev, wp_bind]
  rfl

/-- a comprehension over an own list, which is hidden meanwhile -/
def cmo (C : Cn) (elt : M) (tg : Tg) (i : Nat) (cond : M) (ds : List D) (s : Sg) [Q : Post D] : Prop :=
  @wp D (if noOwn tg.slots (s.set i .emp) && decide (i ∉ tg.slots) then (compL (cmb C elt tg cond) ds (s.set i .emp)).bind fun xs s' => if xs.length ≤ lim then .ok (.lst xs) ((back tg.slots (s.set i .emp) s').set i (.own ds)) else .bad else .bad) Q
theorem wp_compO (elt : M) (tg : Tg) (i : Nat) (cond : M) : @wp D (ev C (.compO elt tg i cond) s) ⟨f, e⟩ = @oo Sl s.sl[i]? ⟨fun x => @owO x ⟨fun ds => @cmo C elt tg i cond ds s ⟨f, e⟩⟩⟩ := by
  rw [ev]
  cases s.sl[i]? with
  | none => rfl
  | some x => cases x <;> rfl

/-! ### statements -/
variable {g : Fl → Sg → Prop}
def nx (fl : Fl) (A B : Prop) : Prop := match fl with
  | .next => A
  | _ => B
theorem nx_next (A B : Prop) : nx .next A B = A := rfl
theorem nx_brk (A B : Prop) : nx .brk A B = B := rfl
theorem nx_cont (A B : Prop) : nx .cont A B = B := rfl
theorem nx_ret (d : D) (A B : Prop) : nx (.ret d) A B = B := rfl
theorem wp_skip : @wp Fl (ex C .skip s) ⟨g, e⟩ = g .next s := rfl
theorem wp_seq (a b : S) : @wp Fl (ex C (.seq a b) s) ⟨g, e⟩ = @wp Fl (ex C a s) ⟨fun fl s => nx fl (@wp Fl (ex C b s) ⟨g, e⟩) (g fl s), e⟩ := by
  rw [ex, wp_bind]
  congr; funext fl s
  cases fl <;> rfl
theorem wp_expr (m : M) : @wp Fl (ex C (.expr m) s) ⟨g, e⟩ = @wp D (ev C m s) ⟨fun _ s => g .next s, e⟩ := by
  rw [ex]
  exact wp_bind' fun d s => rfl
/-- a target takes a value -/
theorem wp_set (tg : Tg) (m : M) : @wp Fl (ex C (.set tg m) s) ⟨g, e⟩ = @wp D (ev C m s) ⟨fun d s => @wp Unit (asg tg d s) ⟨fun _ s => g .next s, e⟩, e⟩ := by
  rw [ex]
  exact wp_bind' fun d s => wp_bind' fun _ s => rfl
theorem wp_asg1 (i : Nat) (d : D) (f : Unit → Sg → Prop) : @wp Unit (asg (.one i) d s) ⟨f, e⟩ = f () (s.set i (.val d)) := rfl
theorem wp_asgm (is : List Nat) (xs : List D) (f : Unit → Sg → Prop) : @wp Unit (asg (.many is) (.tup xs) s) ⟨f, e⟩ = @wp Unit (asgL is xs s) ⟨f, e⟩ := rfl
theorem wp_asgL_nil (f : Unit → Sg → Prop) : @wp Unit (asgL [] [] s) ⟨f, e⟩ = f () s := rfl
theorem wp_asgL_cons (i : Nat) (is : List Nat) (d : D) (ds : List D) (f : Unit → Sg → Prop) : @wp Unit (asgL (i :: is) (d :: ds) s) ⟨f, e⟩ = @wp Unit (asgL is ds (s.set i (.val d))) ⟨f, e⟩ := rfl
/-- a list's items -/
def lsO (d : D) [K : Pk (List D)] : Prop := match d with
  | .lst xs => K.k xs
  | _ => False
theorem lsO_lst (xs : List D) (k : List D → Prop) : @lsO (.lst xs) ⟨k⟩ = k xs := rfl
theorem wp_stOwn (i : Nat) (d : D) (f : Unit → Sg → Prop) : @wp Unit (stOwn i d s) ⟨f, e⟩ = @lsO d ⟨fun xs => f () (s.set i (.own xs))⟩ := by
  cases d <;> rfl
theorem wp_setOwn (i : Nat) (m : M) : @wp Fl (ex C (.setOwn i m) s) ⟨g, e⟩ = (m.fresh = true ∧ @wp D (ev C m s) ⟨fun d s => @lsO d ⟨fun xs => g .next (s.set i (.own xs))⟩, e⟩) := by
  rw [ex, wp_ite]
  by_cases h : m.fresh = true
  · rw [if_pos h]
    simp only [h, true_and]
    exact wp_bind' fun d s => (wp_bind' fun _ s => rfl).trans (wp_stOwn _ _ _)
  · rw [if_neg h]
    simp only [h]
    exact (Bool.false_eq_true ▸ (false_and _).symm)
theorem wp_setObj (i : Nat) (m : M) : @wp Fl (ex C (.setObj i m) s) ⟨g, e⟩ = (m.fresh = true ∧ @wp D (ev C m s) ⟨fun d s => @lsO d ⟨fun xs => g .next (Sg.set ⟨s.sl, s.hp ++ [HObj.list xs]⟩ i (.val (.obj s.hp.length)))⟩, e⟩) := by
  rw [ex, wp_ite]
  by_cases h : m.fresh = true
  · rw [if_pos h, wp_bind]
    simp only [h, true_and]
    congr; funext d s
    cases d <;> rfl
  · rw [if_neg h]
    simp only [h]
    exact (Bool.false_eq_true ▸ (false_and _).symm)
theorem wp_ites (c : M) (a b : S) : @wp Fl (ex C (.ite c a b) s) ⟨g, e⟩ = @wp D (ev C c s) ⟨fun d s => @oo Bool (truth d) ⟨fun t => if t then @wp Fl (ex C a s) ⟨g, e⟩ else @wp Fl (ex C b s) ⟨g, e⟩⟩, e⟩ := by
  rw [ex, wp_bind, wp_tst]
  congr; funext d s
  congr; funext b
  cases b <;> rfl
/-- a for's turn -/
def fb (C : Cn) (tg : Tg) (body : S) (d : D) (s : Sg) : R Fl := (asg tg d s).bind fun _ s => ex C body s
theorem wp_fb (tg : Tg) (body : S) (d : D) : @wp Fl (fb C tg body d s) ⟨g, e⟩ = @wp Unit (asg tg d s) ⟨fun _ s => @wp Fl (ex C body s) ⟨g, e⟩, e⟩ := by
  unfold fb
  rw [wp_bind]
theorem wp_for (tg : Tg) (src : M) (body : S) : @wp Fl (ex C (.for_ tg src body) s) ⟨g, e⟩ = @wp (List D) (evI C src s) ⟨fun ds s => @wp Fl (forL (fb C tg body) ds s) ⟨g, e⟩, e⟩ := by
  rw [ex, wp_bind]
  rfl
def wc (C : Cn) (c : M) (s : Sg) : R Bool := tst (ev C c s)
def wb (C : Cn) (body : S) (s : Sg) : R Fl := ex C body s
theorem wp_while (c : M) (body : S) : @wp Fl (ex C (.while_ c body) s) ⟨g, e⟩ = @wp Fl (whileL (wc C c) (wb C body) C.W s) ⟨g, e⟩ := rfl
theorem wp_wc (c : M) (f : Bool → Sg → Prop) : @wp Bool (wc C c s) ⟨f, e⟩ = @wp D (ev C c s) ⟨fun d s => @oo Bool (truth d) ⟨fun b => f b s⟩, e⟩ := wp_tst _ _
theorem wp_ret (m : M) : @wp Fl (ex C (.ret m) s) ⟨g, e⟩ = @wp D (ev C m s) ⟨fun d s => g (.ret d) s, e⟩ := by
  rw [ex]
  exact wp_bind' fun d s => rfl
theorem wp_brk : @wp Fl (ex C .brk s) ⟨g, e⟩ = g .brk s := rfl
theorem wp_cont : @wp Fl (ex C .cont s) ⟨g, e⟩ = g .cont s := rfl
/-- an own list's item stored -/
theorem wp_setIdx (i : Nat) (k m : M) : @wp Fl (ex C (.setIdx i k m) s) ⟨g, e⟩ = @wp D (ev C m s) ⟨fun d s => @oo Sl s.sl[i]? ⟨fun x => @owO x ⟨fun _ => @wp D (ev C k s) ⟨fun z s => @oo Sl s.sl[i]? ⟨fun x => @owO x ⟨fun xs => @rgO z ⟨fun z => @oo Nat (L2.ixN xs.length z) ⟨fun j => g .next (s.set i (.own (xs.set j d)))⟩⟩⟩⟩, e⟩⟩⟩, e⟩ := by
  rw [ex]
  refine wp_bind' fun d s => ?_
  cases s.sl[i]? with
  | none => rfl
  | some x =>
    cases x with
    | emp => rfl
    | val d => rfl
    | own xs =>
      refine wp_bind' fun z s => ?_
      cases s.sl[i]? with
      | none => rfl
      | some x =>
        cases x with
        | emp => rfl
        | val d => rfl
        | own xs =>
          cases z with
          | int z =>
            have h : ∀ o : Option Nat, @wp Fl (match o with | some j => .ok .next (s.set i (.own (xs.set j d))) | none => .bad) ⟨g, e⟩ = @oo Nat o ⟨fun j => g .next (s.set i (.own (xs.set j d)))⟩ := fun o => by cases o <;> rfl
            exact h _
          | _ => rfl
theorem wp_par (i : Nat) (oi : Bool) (a : M) (j : Nat) (oj : Bool) (b : M) : @wp Fl (ex C (.par i oi a j oj b) s) ⟨g, e⟩ = (((!oi || a.fresh) && (!oj || b.fresh) && decide (i ≠ j)) = true ∧
    @wp D (ev C a s) ⟨fun d s => @wp D (ev C b s) ⟨fun d' s => @wp Unit (if oi then stOwn i d s else asg (.one i) d s) ⟨fun _ s => @wp Unit (if oj then stOwn j d' s else asg (.one j) d' s) ⟨fun _ s => g .next s, e⟩, e⟩, e⟩, e⟩) := by
  rw [ex, wp_ite]
  by_cases h : ((!oi || a.fresh) && (!oj || b.fresh) && decide (i ≠ j)) = true
  · rw [if_pos h]
    simp only [h, true_and]
    exact wp_bind' fun d s => wp_bind' fun d' s => wp_bind' fun _ s => wp_bind' fun _ s => rfl
  · rw [if_neg h]
    simp only [h]
    exact (Bool.false_eq_true ▸ (false_and _).symm)

/-! ### loops by what holds between the turns -/
theorem forL_wp {F : D → Sg → R Fl} (I : List D → Sg → Prop) : ∀ (ds : List D) (s : Sg), I ds s →
    (∀ d r s, I (d :: r) s → @wp Fl (F d s) ⟨fun fl s => match fl with | .next => I r s | .cont => I r s | .brk => g .next s | .ret v => g (.ret v) s, e⟩) →
    (∀ s, I [] s → g .next s) → @wp Fl (forL F ds s) ⟨g, e⟩
  | [], s, h, _, en => en s h
  | d :: ds, s, h, st, en => by
    rw [forL, wp_bind]
    refine wp_mono (st d ds s h) (fun fl s h => ?_) fun _ _ _ h => h
    cases fl with
    | next => exact forL_wp I ds s h st en
    | cont => exact forL_wp I ds s h st en
    | brk => exact h
    | ret v => exact h
theorem whileL_wp {c : Sg → R Bool} {F : Sg → R Fl} (I : Nat → Sg → Prop) : ∀ (W m : Nat) (s : Sg), m < W → I m s →
    (∀ m s, I m s → @wp Bool (c s) ⟨fun b s => if b then @wp Fl (F s) ⟨fun fl s => match fl with | .next => ∃ j, j < m ∧ I j s | .cont => ∃ j, j < m ∧ I j s | .brk => g .next s | .ret v => g (.ret v) s, e⟩ else g .next s, e⟩) →
    @wp Fl (whileL c F W s) ⟨g, e⟩
  | 0, m, s, hm, _, _ => absurd hm (Nat.not_lt_zero _)
  | W + 1, m, s, hm, h, st => by
    rw [whileL, wp_bind]
    refine wp_mono (st m s h) (fun b s h => ?_) fun _ _ _ h => h
    cases b with
    | false => exact h
    | true =>
      rw [if_pos rfl] at h ⊢
      rw [wp_bind]
      refine wp_mono h (fun fl s h => ?_) fun _ _ _ h => h
      cases fl with
      | next => obtain ⟨j, hj, h⟩ := h; exact whileL_wp I W j s (by omega) h st
      | cont => obtain ⟨j, hj, h⟩ := h; exact whileL_wp I W j s (by omega) h st
      | brk => exact h
      | ret v => exact h
theorem compL_wp {F : D → Sg → R (Option D)} {f : List D → Sg → Prop} (I : List D → List D → Sg → Prop) : ∀ (ds acc : List D) (s : Sg), I ds acc s →
    (∀ d r acc s, I (d :: r) acc s → @wp (Option D) (F d s) ⟨fun o s => I r (acc ++ o.toList) s, e⟩) → (∀ xs s, I [] (acc ++ xs) s → f xs s) → @wp (List D) (compL F ds s) ⟨f, e⟩
  | [], acc, s, h, _, en => en [] s (by rw [List.append_nil]; exact h)
  | d :: ds, acc, s, h, st, en => by
    rw [compL, wp_bind]
    refine wp_mono (st d ds acc s h) (fun o s h => ?_) fun _ _ _ h => h
    rw [wp_bind]
    refine compL_wp I ds (acc ++ o.toList) s h st fun xs s h => ?_
    rw [wp_ok]
    refine en _ s ?_
    cases o with
    | none => simpa using h
    | some x => simpa using h
/-- slots emptied -/
def wps (is : List Nat) (sl : List Sl) : List Sl := is.foldr (fun i sl => sl.set i .emp) sl
theorem wipe_eq : ∀ (is : List Nat) (sl : List Sl) (hp : HP), wipe is ⟨sl, hp⟩ = ⟨wps is sl, hp⟩
  | [], sl, hp => rfl
  | i :: is, sl, hp => by
    show (wipe is ⟨sl, hp⟩).set i .emp = _
    rw [wipe_eq is sl hp]; rfl
/-- slots put back -/
def bks (is : List Nat) (old sl : List Sl) : List Sl := is.foldr (fun i sl => sl.set i (old.getD i .emp)) sl
theorem back_eq : ∀ (is : List Nat) (old : Sg) (sl : List Sl) (hp : HP), back is old ⟨sl, hp⟩ = ⟨bks is old.sl sl, hp⟩
  | [], old, sl, hp => rfl
  | i :: is, old, sl, hp => by
    show (back is old ⟨sl, hp⟩).set i _ = _
    rw [back_eq is old sl hp]; rfl
theorem wps_get : ∀ (is : List Nat) (sl : List Sl) (j : Nat), j < sl.length → (wps is sl)[j]? = if j ∈ is then some .emp else sl[j]?
  | [], sl, j, h => by simp [wps]
  | i :: is, sl, j, h => by
    show ((wps is sl).set i .emp)[j]? = _
    have hl : (wps is sl).length = sl.length := by
      clear h
      induction is with
      | nil => rfl
      | cons i is ih => show ((wps is sl).set i .emp).length = _; rw [List.length_set]; exact ih
    rw [List.getElem?_set, wps_get is sl j h]
    by_cases e : i = j
    · subst e; simp [hl, h]
    · have e' : ¬ j = i := fun q => e q.symm
      simp [e, e']
theorem wps_len : ∀ (is : List Nat) (sl : List Sl), (wps is sl).length = sl.length
  | [], sl => rfl
  | i :: is, sl => by show ((wps is sl).set i .emp).length = _; rw [List.length_set, wps_len is sl]
theorem bks_len : ∀ (is : List Nat) (old sl : List Sl), (bks is old sl).length = sl.length
  | [], old, sl => rfl
  | i :: is, old, sl => by show ((bks is old sl).set i _).length = _; rw [List.length_set, bks_len is old sl]
theorem bks_get : ∀ (is : List Nat) (old sl : List Sl) (j : Nat), j < sl.length → (bks is old sl)[j]? = if j ∈ is then some (old.getD j .emp) else sl[j]?
  | [], old, sl, j, h => by simp [bks]
  | i :: is, old, sl, j, h => by
    show ((bks is old sl).set i _)[j]? = _
    rw [List.getElem?_set, bks_get is old sl j h]
    by_cases e : i = j
    · subst e; simp [bks_len, h]
    · have e' : ¬ j = i := fun q => e q.symm
      simp [e, e']
/-- the same off some slots -/
def Off (is : List Nat) (sl sl' : List Sl) : Prop := sl'.length = sl.length ∧ ∀ j, j ∉ is → sl'[j]? = sl[j]?
theorem Off.wps {is : List Nat} {sl sl' : List Sl} (h : Off is sl sl') : wps is sl' = wps is sl := by
  apply List.ext_getElem?
  intro j
  by_cases hj : j < sl.length
  · rw [wps_get is sl' j (by rw [h.1]; exact hj), wps_get is sl j hj]
    by_cases e : j ∈ is
    · simp [e]
    · simp [e, h.2 j e]
  · rw [List.getElem?_eq_none (by rw [wps_len, h.1]; omega), List.getElem?_eq_none (by rw [wps_len]; omega)]
theorem Off.bks {is : List Nat} {sl sl' : List Sl} (h : Off is sl sl') : bks is sl sl' = sl := by
  apply List.ext_getElem?
  intro j
  by_cases hj : j < sl.length
  · rw [bks_get is sl sl' j (by rw [h.1]; exact hj)]
    by_cases e : j ∈ is
    · rw [if_pos e, List.getD_eq_getElem?_getD, List.getElem?_eq_getElem hj]; rfl
    · rw [if_neg e, h.2 j e]
  · rw [List.getElem?_eq_none (by rw [bks_len, h.1]; omega), List.getElem?_eq_none (by omega)]
theorem off_wps (is : List Nat) (sl : List Sl) : Off is sl (wps is sl) := by
  refine ⟨wps_len is sl, fun j hj => ?_⟩
  by_cases h : j < sl.length
  · rw [wps_get is sl j h, if_neg hj]
  · rw [List.getElem?_eq_none (by rw [wps_len]; omega), List.getElem?_eq_none (by omega)]
theorem Off.set {is : List Nat} {sl sl' : List Sl} (h : Off is sl sl') {i : Nat} (hi : i ∈ is) (x : Sl) : Off is sl (sl'.set i x) := by
  refine ⟨by rw [List.length_set]; exact h.1, fun j hj => ?_⟩
  rw [List.getElem?_set_ne (by rintro rfl; exact hj hi)]
  exact h.2 j hj
theorem asgL_off {is0 : List Nat} {sl : List Sl} : ∀ (is : List Nat) (ds : List D) (sl' : List Sl) (hp : HP) (s' : Sg) (u : Unit), (∀ i ∈ is, i ∈ is0) → Off is0 sl sl' → asgL is ds ⟨sl', hp⟩ = .ok u s' → Off is0 sl s'.sl ∧ s'.hp = hp
  | [], [], sl', hp, s', u, _, h, he => by cases he; exact ⟨h, rfl⟩
  | [], _ :: _, sl', hp, s', u, _, h, he => by cases he
  | _ :: _, [], sl', hp, s', u, _, h, he => by cases he
  | i :: is, d :: ds, sl', hp, s', u, hs, h, he => asgL_off is ds (sl'.set i (.val d)) hp s' u (fun i hi => hs i (by simp [hi])) (h.set (hs i (by simp)) _) he
theorem asg_off {tg : Tg} {sl sl' : List Sl} {d : D} {hp : HP} {s' : Sg} {u : Unit} (h : Off tg.slots sl sl') (he : asg tg d ⟨sl', hp⟩ = .ok u s') : Off tg.slots sl s'.sl ∧ s'.hp = hp := by
  cases tg with
  | one i => cases he; exact ⟨h.set (by simp [Tg.slots]) _, rfl⟩
  | many is =>
    cases d with
    | tup xs => exact asgL_off is xs sl' hp s' u (fun i hi => hi) h he
    | _ => cases he
/-- a comprehension: J of what is left, what is made, the objects; a turn begins at the slots as they stand ahead -/
theorem cmw_of {elt cond : M} {tg : Tg} {ds : List D} (J : List D → List D → HP → Prop) (ho : noOwn tg.slots s = true) (h0 : J ds [] s.hp) (hl : ds.length ≤ lim)
    (st : ∀ d r acc hp, J (d :: r) acc hp → @wp Unit (asg tg d ⟨wps tg.slots s.sl, hp⟩) ⟨fun _ s1 => @wp (Option D) (cbd C elt cond s1) ⟨fun o s2 => s2.sl = s1.sl ∧ J r (acc ++ o.toList) s2.hp, e⟩, e⟩)
    (en : ∀ xs hp, J [] xs hp → f (.lst xs) ⟨s.sl, hp⟩) : @cmw C elt tg cond ds s ⟨f, e⟩ := by
  unfold cmw
  rw [if_pos ho, wp_bind]
  refine compL_wp (fun r acc s' => Off tg.slots s.sl s'.sl ∧ acc.length + r.length ≤ lim ∧ J r acc s'.hp) ds [] s ⟨⟨rfl, fun _ _ => rfl⟩, by simpa using hl, h0⟩ (fun d r acc s' h => ?_) fun xs s' h => ?_
  · obtain ⟨ho', hl', hJ⟩ := h
    unfold cmb
    rw [wp_bind, wipe_eq, ho'.wps]
    have hst := st d r acc s'.hp hJ
    cases he : asg tg d ⟨wps tg.slots s.sl, s'.hp⟩ with
    | bad => rw [he] at hst; exact hst
    | err c fs s3 => rw [he] at hst; exact hst
    | ok u s1 =>
      rw [he, wp_ok] at hst
      rw [wp_ok]
      refine wp_mono hst (fun o s2 h2 => ?_) fun _ _ _ h => h
      refine ⟨?_, ?_, h2.2⟩
      · rw [h2.1]
        exact (asg_off (off_wps tg.slots s.sl) he).1
      · have : o.toList.length ≤ 1 := by cases o <;> simp
        simp only [List.length_append, List.length_cons] at hl' ⊢
        omega
  · obtain ⟨ho', hl', hJ⟩ := h
    rw [List.nil_append] at hl' hJ
    rw [List.length_nil, Nat.add_zero] at hl'
    rw [wp_ite, if_pos hl', wp_ok]
    have e2 : back tg.slots s s' = ⟨s.sl, s'.hp⟩ := by
      obtain ⟨sl', hp'⟩ := s'
      rw [back_eq, ho'.bks]
    rw [e2]
    exact en xs s'.hp hJ
theorem cmo_of {elt cond : M} {tg : Tg} {i : Nat} {ds : List D} (J : List D → List D → HP → Prop) (ho : (noOwn tg.slots (s.set i .emp) && decide (i ∉ tg.slots)) = true) (hi : s.sl[i]? = some (.own ds)) (h0 : J ds [] s.hp) (hl : ds.length ≤ lim)
    (st : ∀ d r acc hp, J (d :: r) acc hp → @wp Unit (asg tg d ⟨wps tg.slots (s.sl.set i .emp), hp⟩) ⟨fun _ s1 => @wp (Option D) (cbd C elt cond s1) ⟨fun o s2 => s2.sl = s1.sl ∧ J r (acc ++ o.toList) s2.hp, e⟩, e⟩)
    (en : ∀ xs hp, J [] xs hp → f (.lst xs) ⟨s.sl, hp⟩) : @cmo C elt tg i cond ds s ⟨f, e⟩ := by
  unfold cmo
  rw [if_pos ho, wp_bind]
  rw [Bool.and_eq_true, decide_eq_true_eq] at ho
  refine compL_wp (fun r acc s' => Off tg.slots (s.sl.set i .emp) s'.sl ∧ acc.length + r.length ≤ lim ∧ J r acc s'.hp) ds [] _ ⟨⟨rfl, fun _ _ => rfl⟩, by simpa using hl, h0⟩ (fun d r acc s' h => ?_) fun xs s' h => ?_
  · obtain ⟨ho', hl', hJ⟩ := h
    unfold cmb
    rw [wp_bind, wipe_eq, ho'.wps]
    have hst := st d r acc s'.hp hJ
    cases he : asg tg d ⟨wps tg.slots (s.sl.set i .emp), s'.hp⟩ with
    | bad => rw [he] at hst; exact hst
    | err c fs s3 => rw [he] at hst; exact hst
    | ok u s1 =>
      rw [he, wp_ok] at hst
      rw [wp_ok]
      refine wp_mono hst (fun o s2 h2 => ?_) fun _ _ _ h => h
      refine ⟨?_, ?_, h2.2⟩
      · rw [h2.1]
        exact (asg_off (off_wps tg.slots (s.sl.set i .emp)) he).1
      · have : o.toList.length ≤ 1 := by cases o <;> simp
        simp only [List.length_append, List.length_cons] at hl' ⊢
        omega
  · obtain ⟨ho', hl', hJ⟩ := h
    rw [List.nil_append] at hl' hJ
    rw [List.length_nil, Nat.add_zero] at hl'
    rw [wp_ite, if_pos hl', wp_ok]
    have e2 : (back tg.slots (s.set i .emp) s').set i (.own ds) = ⟨s.sl, s'.hp⟩ := by
      obtain ⟨sl', hp'⟩ := s'
      rw [back_eq, show (s.set i .emp).sl = s.sl.set i .emp from rfl, ho'.bks]
      have hlt := (List.getElem?_eq_some_iff.mp hi).1
      have hgt := (List.getElem?_eq_some_iff.mp hi).2
      show Sg.mk ((s.sl.set i .emp).set i (.own ds)) hp' = _
      rw [List.set_set, ← hgt, List.set_getElem_self hlt]
    rw [e2]
    exact en xs s'.hp hJ
/-- a comprehension that changes nothing -/
theorem cmw_pure {elt cond : M} {tg : Tg} {ds : List D} (G : D → Option D) (ho : noOwn tg.slots s = true) (hl : ds.length ≤ lim)
    (st : ∀ d ∈ ds, @wp Unit (asg tg d ⟨wps tg.slots s.sl, s.hp⟩) ⟨fun _ s1 => @wp (Option D) (cbd C elt cond s1) ⟨fun o s2 => s2 = ⟨s1.sl, s.hp⟩ ∧ o = G d, e⟩, e⟩)
    (en : f (.lst (ds.filterMap G)) s) : @cmw C elt tg cond ds s ⟨f, e⟩ := by
  refine cmw_of (fun r acc hp => hp = s.hp ∧ acc ++ r.filterMap G = ds.filterMap G ∧ ∀ d ∈ r, d ∈ ds) ho ⟨rfl, rfl, fun d h => h⟩ hl (fun d r acc hp h => ?_) fun xs hp h => ?_
  · obtain ⟨rfl, h2, h3⟩ := h
    refine wp_mono (st d (h3 d (by simp))) (fun _ s1 h => wp_mono h (fun o s2 h => ?_) fun _ _ _ h => h) fun _ _ _ h => h
    obtain ⟨rfl, rfl⟩ := h
    refine ⟨rfl, rfl, ?_, fun x hx => h3 x (by simp [hx])⟩
    rw [← h2]
    cases hG : G d with
    | none => simp [hG]
    | some x => simp [hG]
  · obtain ⟨rfl, h2, _⟩ := h
    rw [List.filterMap_nil, List.append_nil] at h2
    rw [h2]
    exact en
theorem cmo_pure {elt cond : M} {tg : Tg} {i : Nat} {ds : List D} (G : D → Option D) (ho : (noOwn tg.slots (s.set i .emp) && decide (i ∉ tg.slots)) = true) (hi : s.sl[i]? = some (.own ds)) (hl : ds.length ≤ lim)
    (st : ∀ d ∈ ds, @wp Unit (asg tg d ⟨wps tg.slots (s.sl.set i .emp), s.hp⟩) ⟨fun _ s1 => @wp (Option D) (cbd C elt cond s1) ⟨fun o s2 => s2 = ⟨s1.sl, s.hp⟩ ∧ o = G d, e⟩, e⟩)
    (en : f (.lst (ds.filterMap G)) s) : @cmo C elt tg i cond ds s ⟨f, e⟩ := by
  refine cmo_of (fun r acc hp => hp = s.hp ∧ acc ++ r.filterMap G = ds.filterMap G ∧ ∀ d ∈ r, d ∈ ds) ho hi ⟨rfl, rfl, fun d h => h⟩ hl (fun d r acc hp h => ?_) fun xs hp h => ?_
  · obtain ⟨rfl, h2, h3⟩ := h
    refine wp_mono (st d (h3 d (by simp))) (fun _ s1 h => wp_mono h (fun o s2 h => ?_) fun _ _ _ h => h) fun _ _ _ h => h
    obtain ⟨rfl, rfl⟩ := h
    refine ⟨rfl, rfl, ?_, fun x hx => h3 x (by simp [hx])⟩
    rw [← h2]
    cases hG : G d with
    | none => simp [hG]
    | some x => simp [hG]
  · obtain ⟨rfl, h2, _⟩ := h
    rw [List.filterMap_nil, List.append_nil] at h2
    rw [h2]
    exact en
end
/-! ### values asked -/
theorem truth_non : truth .non = some false := rfl
theorem truth_bl (b : Bool) : truth (.bl b) = some b := rfl
theorem truth_int (i : Int) : truth (.int i) = some (i != 0) := rfl
theorem truth_tup (xs : List D) : truth (.tup xs) = some (!xs.isEmpty) := rfl
theorem truth_lst (xs : List D) : truth (.lst xs) = some (!xs.isEmpty) := rfl
theorem truth_str (x : Str) : truth (.str x) = some ((x.length : Int) != 0) := rfl
theorem op2_isnon (d : D) : op2 .is_ d .non = some (.bl (match d with | .non => true | _ => false)) := by cases d <;> rfl
theorem op2_isnotnon (d : D) : op2 .isnot d .non = some (.bl (!(match d with | .non => true | _ => false))) := by cases d <;> rfl
theorem op2_isbl (a b : Bool) : op2 .is_ (.bl a) (.bl b) = some (.bl (decide (a = b))) := rfl
theorem op2_eqi (i j : Int) : op2 .eq (.int i) (.int j) = some (.bl (decide (i = j))) := by
  show Mi.b2 id (deq (.int i) (.int j)) = _
  rw [deq_int]; rfl
theorem op2_nei (i j : Int) : op2 .ne (.int i) (.int j) = some (.bl (!decide (i = j))) := by
  show Mi.b2 not (deq (.int i) (.int j)) = _
  rw [deq_int]; rfl
theorem op2_lti (i j : Int) : op2 .lt (.int i) (.int j) = some (.bl (decide (i < j))) := rfl
theorem op2_lei (i j : Int) : op2 .le (.int i) (.int j) = some (.bl (decide (i ≤ j))) := rfl
theorem op2_gti (i j : Int) : op2 .gt (.int i) (.int j) = some (.bl (decide (j < i))) := rfl
theorem op2_gei (i j : Int) : op2 .ge (.int i) (.int j) = some (.bl (decide (j ≤ i))) := rfl
theorem op2_addi (i j : Int) : op2 .add (.int i) (.int j) = some (.int (i + j)) := rfl
theorem op2_subi (i j : Int) : op2 .sub (.int i) (.int j) = some (.int (i - j)) := rfl
theorem op2_addt (xs ys : List D) (h : xs.length + ys.length ≤ lim) : op2 .add (.tup xs) (.tup ys) = some (.tup (xs ++ ys)) := by
  show (if xs.length + ys.length ≤ lim then _ else _) = _
  rw [if_pos h]
theorem op2_addl (xs ys : List D) (h : xs.length + ys.length ≤ lim) : op2 .add (.lst xs) (.lst ys) = some (.lst (xs ++ ys)) := by
  show (if xs.length + ys.length ≤ lim then _ else _) = _
  rw [if_pos h]
theorem ofStr_eq (a b : String) : (PySem.Str.ofString a = PySem.Str.ofString b) = (a = b) := by
  refine propext ⟨fun h => ?_, fun h => by rw [h]⟩
  rw [PySem.Str.ofString_eq_toList, PySem.Str.ofString_eq_toList, PySem.Str.mk.injEq] at h
  have h2 := congrArg Array.toList h
  simp only at h2
  have inj : ∀ l m : List Char, l.map Char.toNat = m.map Char.toNat → l = m := by
    intro l
    induction l with
    | nil => intro m q; cases m with
      | nil => rfl
      | cons y m => cases q
    | cons x l ih => intro m q; cases m with
      | nil => cases q
      | cons y m =>
        simp only [List.map_cons, List.cons.injEq] at q
        rw [ih m q.2, Char.toNat_inj.mp q.1]
  exact String.toList_inj.mp (inj _ _ h2)
theorem eqv_str (x y : Str) : PyData.eqv (.str x) (.str y) = decide (x = y) := by
  show (x == y) = decide (x = y)
  by_cases h : x = y
  · subst h; simp
  · rw [decide_eq_false h]; exact beq_eq_false_iff_ne.mpr h
theorem deq_str (x y : Str) : deq (.str x) (.str y) = some (decide (x = y)) := by
  show some (PyData.eqv (.str x) (.str y)) = _
  rw [eqv_str]
theorem op2_eqs (x y : Str) : op2 .eq (.str x) (.str y) = some (.bl (decide (x = y))) := by
  show Mi.b2 id (deq (.str x) (.str y)) = _
  rw [deq_str]; rfl
theorem op2_nes (x y : Str) : op2 .ne (.str x) (.str y) = some (.bl (!decide (x = y))) := by
  show Mi.b2 not (deq (.str x) (.str y)) = _
  rw [deq_str]; rfl
theorem deq_bl (x y : Bool) : deq (.bl x) (.bl y) = some (decide (x = y)) := by
  cases x <;> cases y <;> rfl
theorem op2_eqb (x y : Bool) : op2 .eq (.bl x) (.bl y) = some (.bl (decide (x = y))) := by
  show Mi.b2 id (deq (.bl x) (.bl y)) = _
  rw [deq_bl]; rfl
theorem op2_neb (x y : Bool) : op2 .ne (.bl x) (.bl y) = some (.bl (!decide (x = y))) := by
  show Mi.b2 not (deq (.bl x) (.bl y)) = _
  rw [deq_bl]; rfl
theorem neg_i (i : Int) : op1 .neg (.int i) = some (.int (-i)) := rfl
theorem pow1018 : op2 .pow (.int 10) (.int 18) = some (.int (10 ^ 18)) := by kernel_rfl
theorem pow1040 : op2 .pow (.int 10) (.int 40) = some (.int (10 ^ 40)) := by kernel_rfl
theorem pow109 : op2 .pow (.int 10) (.int 9) = some (.int (10 ^ 9)) := by kernel_rfl
theorem mul_a16 : op2 .mul (.str "a") (.int 16) = some (.str "aaaaaaaaaaaaaaaa") := by kernel_rfl
theorem mul_a17 : op2 .mul (.str "a") (.int 17) = some (.str "aaaaaaaaaaaaaaaaa") := by kernel_rfl
theorem mul_z12 : op2 .mul (.str "z") (.int 12) = some (.str "zzzzzzzzzzzz") := by kernel_rfl
theorem op2_is_ot (d : D) : op2 .is_ d (.bl true) = (match d with | .bl b => some (.bl b) | .non => some (.bl false) | .int _ => some (.bl false) | .str _ => some (.bl false) | .tup _ => some (.bl false) | .lst _ => some (.bl false) | _ => none) := by
  cases d <;> first | rfl | (rename_i b; cases b <;> rfl)
theorem srcOf_lst (xs : List D) : srcOf (.lst xs) = some xs := rfl
theorem srcOf_tup (xs : List D) : srcOf (.tup xs) = some xs := rfl
theorem min2_i (i j : Int) : biD .min2 [.int i, .int j] = some (.int (if j < i then j else i)) := rfl
theorem max2_i (i j : Int) : biD .max2 [.int i, .int j] = some (.int (if j > i then j else i)) := rfl
theorem int_i (i : Int) : biD .int [.int i] = some (.int i) := rfl
theorem append_d (xs : List D) (d : D) (h : xs.length < lim) : mmD .append xs [d] = some (.non, xs ++ [d]) := by
  show (if xs.length < lim then _ else _) = _
  rw [if_pos h]
theorem slc_tup (xs : List D) (lo hi : Option Int) : slcD (.tup xs) lo hi = some (.tup (cut xs lo hi)) := rfl
theorem slc_lst (xs : List D) (lo hi : Option Int) : slcD (.lst xs) lo hi = some (.lst (cut xs lo hi)) := rfl
theorem cut_to {xs : List D} {i : Int} (h0 : 0 ≤ i) : cut xs none (some i) = xs.take i.toNat := by
  show (xs.drop 0).take ((if i < 0 then (i + (xs.length : Int)).toNat else min i.toNat xs.length) - 0) = _
  rw [if_neg (by omega), List.drop_zero, Nat.sub_zero]
  by_cases h : i.toNat ≤ xs.length
  · rw [Nat.min_eq_left h]
  · rw [Nat.min_eq_right (by omega), List.take_of_length_le (Nat.le_refl _), List.take_of_length_le (by omega)]
theorem cut_neg1 {xs : List D} (h : xs ≠ []) : cut xs none (some (-1)) = xs.dropLast := by
  show (xs.drop 0).take ((if (-1 : Int) < 0 then ((-1 : Int) + (xs.length : Int)).toNat else min (-1 : Int).toNat xs.length) - 0) = _
  rw [if_pos (by decide), List.drop_zero, Nat.sub_zero, List.dropLast_eq_take]
  congr 1
  have : 0 < xs.length := List.length_pos_iff.mpr h
  omega
theorem cut_from {xs : List D} {i : Int} (h0 : 0 ≤ i) : cut xs (some i) none = xs.drop i.toNat := by
  show (xs.drop (if i < 0 then (i + (xs.length : Int)).toNat else min i.toNat xs.length)).take (xs.length - (if i < 0 then (i + (xs.length : Int)).toNat else min i.toNat xs.length)) = _
  rw [if_neg (by omega)]
  by_cases h : i.toNat ≤ xs.length
  · rw [Nat.min_eq_left h, List.take_of_length_le (by simp)]
  · rw [Nat.min_eq_right (by omega), List.drop_of_length_le (Nat.le_refl _), List.drop_of_length_le (by omega), List.take_nil]
theorem cut_mem {xs : List D} {lo hi : Option Int} {x : D} (h : x ∈ cut xs lo hi) : x ∈ xs := List.mem_of_mem_drop (List.mem_of_mem_take h)
theorem cut_len {xs : List D} {lo hi : Option Int} : (cut xs lo hi).length ≤ xs.length := by
  unfold cut
  rw [List.length_take, List.length_drop]
  omega
theorem subD_tup (xs : List D) (i : Int) : subD (.tup xs) (.int i) = L2.atI xs i := rfl
theorem subD_lst (xs : List D) (i : Int) : subD (.lst xs) (.int i) = L2.atI xs i := rfl
theorem atk {xs : List D} {i : Int} (h0 : 0 ≤ i) (h1 : i < xs.length) : L2.atI xs i = xs[i.toNat]? := by
  unfold L2.atI
  rw [ixN_nat h0 h1]
  rfl
theorem at0 (x : D) (xs : List D) : L2.atI (x :: xs) 0 = some x := by
  rw [atk (by decide) (by simp only [List.length_cons]; omega)]; rfl
theorem at1 (x y : D) (xs : List D) : L2.atI (x :: y :: xs) 1 = some y := by
  rw [atk (by decide) (by simp only [List.length_cons]; omega)]; rfl
theorem at2 (x y z : D) (xs : List D) : L2.atI (x :: y :: z :: xs) 2 = some z := by
  rw [atk (by decide) (by simp only [List.length_cons]; omega)]; rfl
theorem at3 (x y z w : D) (xs : List D) : L2.atI (x :: y :: z :: w :: xs) 3 = some w := by
  rw [atk (by decide) (by simp only [List.length_cons]; omega)]; rfl
theorem at4 (x y z w v : D) (xs : List D) : L2.atI (x :: y :: z :: w :: v :: xs) 4 = some v := by
  rw [atk (by decide) (by simp only [List.length_cons]; omega)]; rfl
theorem at5 (x y z w v u : D) (xs : List D) : L2.atI (x :: y :: z :: w :: v :: u :: xs) 5 = some u := by
  rw [atk (by decide) (by simp only [List.length_cons]; omega)]; rfl
/-- [1 for d in ds if p d] -/
def onesG (p : D → Bool) (d : D) : Option D := if p d then some (.int 1) else none
theorem ones_pls (p : D → Bool) : ∀ ds : List D, D.pls (ds.filterMap (onesG p)) = true
  | [] => rfl
  | d :: ds => by
    rw [List.filterMap_cons]
    unfold onesG
    cases h : p d
    · exact ones_pls p ds
    · show D.pls (D.int 1 :: _) = true
      rw [D.pls]
      exact ones_pls p ds
theorem ones_empty (p : D → Bool) : ∀ ds : List D, (ds.filterMap (onesG p)).isEmpty = !ds.any p
  | [] => rfl
  | d :: ds => by
    rw [List.filterMap_cons, List.any_cons]
    unfold onesG
    cases h : p d
    · exact ones_empty p ds
    · rfl
theorem eq_ones (p : D → Bool) (ds : List D) : op2 .eq (.lst (ds.filterMap (onesG p))) (.lst []) = some (.bl (!ds.any p)) := by
  show Mi.b2 id (deq (.lst _) (.lst [])) = _
  rw [deq_nil _ (ones_pls p ds), ones_empty]; rfl
theorem ne_ones (p : D → Bool) (ds : List D) : op2 .ne (.lst (ds.filterMap (onesG p))) (.lst []) = some (.bl (ds.any p)) := by
  show Mi.b2 not (deq (.lst _) (.lst [])) = _
  rw [deq_nil _ (ones_pls p ds), ones_empty]
  show some (D.bl (!!ds.any p)) = _
  rw [Bool.not_not]
/-- [p d for d in ds] -/
def blG (p : D → Bool) (d : D) : Option D := some (.bl (p d))
theorem bools_bl (p : D → Bool) : ∀ ds : List D, bools (ds.filterMap (blG p)) = some (ds.map p)
  | [] => rfl
  | d :: ds => by
    rw [List.filterMap_cons]
    show (bools (ds.filterMap (blG p))).map (p d :: ·) = _
    rw [bools_bl p ds]; rfl
theorem all_bl (p : D → Bool) (ds : List D) : biD .all [.lst (ds.filterMap (blG p))] = some (.bl (ds.all p)) := by
  show (bools _).map _ = _
  rw [bools_bl]
  show some (D.bl ((ds.map p).all id)) = _
  congr 2
  rw [List.all_map]; rfl
theorem any_bl (p : D → Bool) (ds : List D) : biD .any [.lst (ds.filterMap (blG p))] = some (.bl (ds.any p)) := by
  show (bools _).map _ = _
  rw [bools_bl]
  show some (D.bl ((ds.map p).any id)) = _
  congr 2
  rw [List.any_map]; rfl
/-- [g d for d in ds] -/
def mpG (g : D → D) (d : D) : Option D := some (g d)
theorem map_mp (g : D → D) (ds : List D) : ds.filterMap (mpG g) = ds.map g := by
  induction ds with
  | nil => rfl
  | cons d ds ih => rw [List.filterMap_cons]; show g d :: _ = _; rw [ih]; rfl
theorem ixN0 (n : Nat) : L2.ixN (n + 1) 0 = some 0 := by
  rw [ixN_nat (by decide) (by omega)]; rfl
theorem pick_nil {α : Type} (ds : List α) : pick [] ds = some [] := rfl
theorem items_tup (xs : List D) : D.items (.tup xs) = some xs := rfl
theorem items_lst (xs : List D) : D.items (.lst xs) = some xs := rfl
theorem items_rol (xs : List D) : D.items (.rol xs) = some xs := rfl
theorem len_tup (xs : List D) : biD .len [.tup xs] = some (.int xs.length) := rfl
theorem len_lst (xs : List D) : biD .len [.lst xs] = some (.int xs.length) := rfl
theorem len_rol (xs : List D) : biD .len [.rol xs] = some (.int xs.length) := rfl
theorem bi_tupt (xs : List D) : biD .tuple [.tup xs] = some (.tup xs) := rfl
theorem bi_tupl (xs : List D) : biD .tuple [.lst xs] = some (.tup xs) := rfl
theorem bi_lstt (xs : List D) : biD .list [.tup xs] = some (.lst xs) := rfl
theorem bi_lstl (xs : List D) : biD .list [.lst xs] = some (.lst xs) := rfl
theorem bi_all (xs : List D) : biD .all [.lst xs] = (bools xs).map fun bs => .bl (bs.all id) := rfl
theorem bi_any (xs : List D) : biD .any [.lst xs] = (bools xs).map fun bs => .bl (bs.any id) := rfl
theorem b_bne (b : Bool) : (b != true) = !b := by cases b <;> rfl
end Mw

set_option autoImplicit false
/-! MiV: how values and rows stand in order; sorted; what is shown. -/
namespace Mw
open PySem Mi PySem.W
/-- None, a number, a text -/
inductive Vl3 : D → Prop where
  | non : Vl3 .non
  | int (i : Int) : Vl3 (.int i)
  | str (x : Str) : Vl3 (.str x)
/-- two values of one kind, or None -/
inductive SK : D → D → Prop where
  | nn : SK .non .non
  | ni (i : Int) : SK .non (.int i)
  | in_ (i : Int) : SK (.int i) .non
  | ii (i j : Int) : SK (.int i) (.int j)
  | ns (x : Str) : SK .non (.str x)
  | sn (x : Str) : SK (.str x) .non
  | ss (x y : Str) : SK (.str x) (.str y)
/-- the package's places -/
def ordD : D → D
  | .non => .tup [.int 0]
  | .int i => .tup [.int 1, .int i]
  | d => .tup [.int 2, d]
/-- the law's places -/
def lordD : D → D
  | .non => .tup [.int 0, .int 0, .str ""]
  | .int i => .tup [.int 1, .int i, .str ""]
  | d => .tup [.int 2, .int 0, d]
theorem lexAll {x y : PyData} {xs ys : List PyData} (h : alike x y = true) : PyProof.Rows.lexLt PyProof.Rows.itemOrd (keyToksAll (x :: xs)) (keyToksAll (y :: ys)) = if PyData.eqv x y then PyProof.Rows.lexLt PyProof.Rows.itemOrd (keyToksAll xs) (keyToksAll ys) else dataLt x y := by
  cases e : PyData.eqv x y
  · rw [if_neg (by decide)]; exact dataLt_all_no h e
  · rw [if_pos rfl]; exact dataLt_all_yes h e
theorem lex_nil : PyProof.Rows.lexLt PyProof.Rows.itemOrd (keyToksAll []) (keyToksAll []) = false := by
  have := lexAll (x := .int 0) (y := .int 0) (xs := []) (ys := []) rfl
  rw [keyToksAll]
  exact PyProof.Rows.itemOrd.irrefl (.inl 0) ▸ rfl
theorem eqv_int (i j : Int) : PyData.eqv (.int i) (.int j) = decide (i = j) := by
  by_cases h : i = j
  · subst h; simp [PyData.eqv]
  · rw [decide_eq_false h]; exact beq_eq_false_iff_ne.mpr h
theorem eqv_tup (xs ys : List PyData) : PyData.eqv (.tuple xs) (.tuple ys) = PyData.eqvAll xs ys := by simp [PyData.eqv]
theorem eqvAll_nn : PyData.eqvAll [] [] = true := by simp [PyData.eqvAll]
theorem eqvAll_cc (x y : PyData) (xs ys : List PyData) : PyData.eqvAll (x :: xs) (y :: ys) = (PyData.eqv x y && PyData.eqvAll xs ys) := by simp [PyData.eqvAll]
theorem eqvAll_nc (y : PyData) (ys : List PyData) : PyData.eqvAll [] (y :: ys) = false := by simp [PyData.eqvAll]
theorem eqvAll_cn (y : PyData) (ys : List PyData) : PyData.eqvAll (y :: ys) [] = false := by simp [PyData.eqvAll]
theorem sk_alike {x y : D} (h : SK x y) : alike (ordD x).py (ordD y).py = true ∧ alike (lordD x).py (lordD y).py = true := by
  cases h <;> exact ⟨rfl, rfl⟩
theorem lt_tup1 {x y : PyData} {xs ys : List PyData} (h : alike x y = true) : dataLt (.tuple (x :: xs)) (.tuple (y :: ys)) = if PyData.eqv x y then dataLt (.tuple xs) (.tuple ys) else dataLt x y := by
  rw [dataLt_tuple, lexAll h, dataLt_tuple]
theorem lt_tup0 : dataLt (.tuple []) (.tuple []) = false := by rw [dataLt_tuple, lex_nil]
theorem sk_same {x y : D} (h : SK x y) : PyData.eqv (ordD x).py (ordD y).py = PyData.eqv (lordD x).py (lordD y).py ∧ dataLt (ordD x).py (ordD y).py = dataLt (lordD x).py (lordD y).py := by
  cases h <;> simp only [ordD, lordD, D.py, D.pys] <;>
    (simp only [eqv_tup, eqvAll_cc, eqvAll_nn, eqvAll_nc, eqvAll_cn, eqv_int, eqv_str, lt_tup1 (show alike (.int _) (.int _) = true from rfl), lt_tup1 (show alike (.str _) (.str _) = true from rfl), lt_tup0, dataLt_int, dataLt_str]; simp)
/-! ### rows -/
theorem pys_map : ∀ l : List D, D.pys l = l.map D.py
  | [] => rfl
  | x :: l => by rw [D.pys, List.map_cons, pys_map l]
inductive SKs : List D → List D → Prop where
  | nil : SKs [] []
  | cons {x y : D} {xs ys : List D} : SK x y → SKs xs ys → SKs (x :: xs) (y :: ys)
theorem sks_alike {xs ys : List D} (h : SKs xs ys) : alikeAll (D.pys (xs.map ordD)) (D.pys (ys.map ordD)) = true ∧ alikeAll (D.pys (xs.map lordD)) (D.pys (ys.map lordD)) = true := by
  induction h with
  | nil => exact ⟨rfl, rfl⟩
  | cons a b ih =>
    simp only [List.map_cons, D.pys, alikeAll, (sk_alike a).1, (sk_alike a).2, ih.1, ih.2]
    exact ⟨rfl, rfl⟩
/-- one row stands ahead of another -/
def rowLt (xs ys : List D) : Bool := dataLt (.tuple (D.pys (xs.map ordD))) (.tuple (D.pys (ys.map ordD)))
theorem sks_lt {xs ys : List D} (h : SKs xs ys) : dataLt (.list (D.pys (xs.map lordD))) (.list (D.pys (ys.map lordD))) = rowLt xs ys := by
  unfold rowLt
  rw [dataLt_list, dataLt_tuple]
  induction h with
  | nil => rfl
  | cons a b ih =>
    simp only [List.map_cons, D.pys]
    rw [lexAll (sk_alike a).2, lexAll (sk_alike a).1, ih, (sk_same a).1, (sk_same a).2]
theorem vl3_pl {x : D} (h : Vl3 x) : x.pl = true ∧ (ordD x).pl = true ∧ (lordD x).pl = true ∧ x.py.depth = 0 ∧ (ordD x).py.depth = 1 ∧ (lordD x).py.depth = 1 := by
  cases h <;> exact ⟨rfl, rfl, rfl, rfl, rfl, rfl⟩
theorem pls_all {l : List D} (h : ∀ d ∈ l, d.pl = true) : D.pls l = true := by
  induction l with
  | nil => rfl
  | cons x l ih => rw [D.pls, h x (by simp), ih fun d hd => h d (by simp [hd])]; rfl
theorem pls_mem {l : List D} (h : D.pls l = true) : ∀ d ∈ l, d.pl = true := by
  induction l with
  | nil => intro d hd; cases hd
  | cons x l ih =>
    have h' : x.pl = true ∧ D.pls l = true := by simpa [D.pls] using h
    intro d hd
    rcases List.mem_cons.mp hd with rfl | hd
    · exact h'.1
    · exact ih h'.2 d hd
theorem depth_all {l : List D} {n : Nat} (h : ∀ d ∈ l, d.py.depth ≤ n) : PyData.depthAll (D.pys l) ≤ n := by
  induction l with
  | nil => rw [D.pys, PyData.depthAll]; omega
  | cons x l ih =>
    rw [D.pys, PyData.depthAll]
    have h1 := h x (by simp)
    have h2 := ih fun d hd => h d (by simp [hd])
    omega
theorem like_t {xs ys : List D} (h : SKs xs ys) (hx : ∀ d ∈ xs, Vl3 d) (hy : ∀ d ∈ ys, Vl3 d) : dlt (.tup (xs.map ordD)) (.tup (ys.map ordD)) = some (rowLt xs ys) := by
  have k : likeOk (xs.map ordD) (ys.map ordD) = true := by
    unfold likeOk
    rw [pls_all (l := xs.map ordD) (fun d hd => by obtain ⟨x, h1, rfl⟩ := List.mem_map.mp hd; exact (vl3_pl (hx x h1)).2.1), pls_all (l := ys.map ordD) (fun d hd => by obtain ⟨x, h1, rfl⟩ := List.mem_map.mp hd; exact (vl3_pl (hy x h1)).2.1), (sks_alike h).1]
    have := depth_all (l := xs.map ordD) (n := 1) fun d hd => by obtain ⟨x, h1, rfl⟩ := List.mem_map.mp hd; exact Nat.le_of_eq (vl3_pl (hx x h1)).2.2.2.2.1
    rw [decide_eq_true (by omega)]; rfl
  show (if likeOk (xs.map ordD) (ys.map ordD) then some _ else none) = _
  rw [if_pos k]; rfl
theorem like_l {xs ys : List D} (h : SKs xs ys) (hx : ∀ d ∈ xs, Vl3 d) (hy : ∀ d ∈ ys, Vl3 d) : dlt (.lst (xs.map lordD)) (.lst (ys.map lordD)) = some (rowLt xs ys) := by
  have k : likeOk (xs.map lordD) (ys.map lordD) = true := by
    unfold likeOk
    rw [pls_all (l := xs.map lordD) (fun d hd => by obtain ⟨x, h1, rfl⟩ := List.mem_map.mp hd; exact (vl3_pl (hx x h1)).2.2.1), pls_all (l := ys.map lordD) (fun d hd => by obtain ⟨x, h1, rfl⟩ := List.mem_map.mp hd; exact (vl3_pl (hy x h1)).2.2.1), (sks_alike h).2]
    have := depth_all (l := xs.map lordD) (n := 1) fun d hd => by obtain ⟨x, h1, rfl⟩ := List.mem_map.mp hd; exact Nat.le_of_eq (vl3_pl (hx x h1)).2.2.2.2.2
    rw [decide_eq_true (by omega)]; rfl
  show (if likeOk (xs.map lordD) (ys.map lordD) then some _ else none) = _
  rw [if_pos k, ← sks_lt h]; rfl
theorem dlt_tup (xs ys : List D) (h : likeOk xs ys = true) : dlt (.tup xs) (.tup ys) = some (dataLt (D.tup xs).py (D.tup ys).py) := by
  show (if likeOk xs ys then some _ else none) = _
  rw [if_pos h]
theorem like_1 {x y : D} (h : SK x y) (hx : Vl3 x) (hy : Vl3 y) : ∃ b, dlt (ordD x) (ordD y) = some b ∧ dlt (lordD x) (lordD y) = some b := by
  have e := (sk_same h).2
  have a := sk_alike h
  refine ⟨dataLt (ordD x).py (ordD y).py, ?_, ?_⟩
  · cases h <;> exact dlt_tup _ _ (by kernel_rfl)
  · rw [e]
    cases h <;> exact dlt_tup _ _ (by kernel_rfl)
mutual
theorem alike_refl : ∀ d : D, d.pl = true → alike d.py d.py = true
  | .non, _ => rfl
  | .bl _, _ => rfl
  | .int _, _ => rfl
  | .str _, _ => rfl
  | .tup xs, h => alike_refls xs (by simpa [D.pl] using h)
  | .lst xs, h => alike_refls xs (by simpa [D.pl] using h)
  | .rol _, h => by cases h
  | .dct _ _, h => by cases h
  | .obj _, h => by cases h
  | .fn _, h => by cases h
theorem alike_refls : ∀ ds : List D, D.pls ds = true → alikeAll (D.pys ds) (D.pys ds) = true
  | [], _ => rfl
  | d :: ds, h => by
    have h' : d.pl = true ∧ D.pls ds = true := by simpa [D.pls] using h
    rw [D.pys, alikeAll, alike_refl d h'.1, alike_refls ds h'.2]; rfl
end
theorem deq_refl {d : D} (h : d.pl = true) (hd : d.py.depth ≤ 60) : deq d d = some true := by
  unfold deq
  rw [if_pos (by rw [h, Nat.min_self, decide_eq_true hd]; rfl), eqv_refl_alike _ (alike_refl d h)]
theorem eq_refl {d : D} (h : d.pl = true) (hd : d.py.depth ≤ 60) : op2 .eq d d = some (.bl true) := by
  have : op2 .eq d d = Mi.b2 id (deq d d) := by cases d <;> rfl
  rw [this, deq_refl h hd]; rfl
theorem ne_refl {d : D} (h : d.pl = true) (hd : d.py.depth ≤ 60) : op2 .ne d d = some (.bl false) := by
  have : op2 .ne d d = Mi.b2 not (deq d d) := by cases d <;> rfl
  rw [this, deq_refl h hd]; rfl
/-! ### sorted -/
theorem srt_key (xs : List D) (k : D → D) : srt xs (xs.map k) = xs.mergeSort fun a b => !dataLt (k b).py (k a).py := by
  unfold srt
  have e : xs.zip (D.pys (xs.map k)) = xs.map fun x => (x, (k x).py) := by
    rw [pys_map]
    induction xs with
    | nil => rfl
    | cons x xs ih => simp only [List.map_cons, List.zip_cons_cons, ih]
  rw [e, ← List.map_mergeSort (r := fun a b => !dataLt (k b).py (k a).py) (fun a _ b _ => rfl), List.map_map]
  exact List.map_id' _
theorem srt_same (xs : List D) (k k' : D → D) (h : ∀ a ∈ xs, ∀ b ∈ xs, dataLt (k a).py (k b).py = dataLt (k' a).py (k' b).py) : srt xs (xs.map k) = srt xs (xs.map k') := by
  rw [srt_key, srt_key]
  have := List.map_mergeSort (r := fun a b => !dataLt (k b).py (k a).py) (s := fun a b => !dataLt (k' b).py (k' a).py) (f := fun x => x) (l := xs) fun a ha b hb => by rw [h b hb a ha]
  rw [List.map_id', List.map_id'] at this
  exact this
theorem srt_perm (xs : List D) (k : D → D) : (srt xs (xs.map k)).Perm xs := by
  rw [srt_key]
  exact List.mergeSort_perm _ _
theorem keysL_fn {Φ : Nat → List D → HP → CR} {n : Nat} (k : D → D) (hp : HP) : ∀ xs : List D, (∀ x ∈ xs, Φ n [x] hp = .ok (k x) hp) → keysL Φ n xs hp = some (xs.map k, hp)
  | [], _ => rfl
  | x :: xs, h => by
    rw [keysL, h x (by simp)]
    show (match keysL Φ n xs hp with | some (ks, hp2) => some (k x :: ks, hp2) | none => none) = _
    rw [keysL_fn k hp xs fun y hy => h y (by simp [hy])]; rfl
/-- the place of a row -/
def rowK : D → D
  | .tup vs => .tup (vs.map ordD)
  | d => d
def rowL : D → D
  | .tup vs => .lst (vs.map lordD)
  | d => d
/-- rows whose places can be compared -/
def Rows (rows : List D) : Prop := (∀ d ∈ rows, ∃ vs, d = .tup vs ∧ vs ≠ [] ∧ ∀ v ∈ vs, Vl3 v) ∧ ∀ vs ws, D.tup vs ∈ rows → D.tup ws ∈ rows → SKs vs ws
theorem keysOk_l {rows : List D} (h : Rows rows) (hl : rows.length ≤ 4000) : keysOk rows (rows.map rowL) = true := by
  unfold keysOk
  have h1 : D.pls (rows.map rowL) = true := pls_all fun d hd => by
    obtain ⟨r, hr, rfl⟩ := List.mem_map.mp hd
    obtain ⟨vs, rfl, _, hv⟩ := h.1 r hr
    show (D.lst (vs.map lordD)).pl = true
    rw [D.pl]
    exact pls_all fun d hd => by obtain ⟨x, h1, rfl⟩ := List.mem_map.mp hd; exact (vl3_pl (hv x h1)).2.2.1
  have h2 : ((D.pys (rows.map rowL)).all fun d => (D.pys (rows.map rowL)).all fun e => alike d e) = true := by
    rw [pys_map, List.all_eq_true]
    intro d hd
    rw [List.all_eq_true]
    intro e he
    simp only [List.mem_map] at hd he
    obtain ⟨_, ⟨r, hr, rfl⟩, rfl⟩ := hd
    obtain ⟨_, ⟨q, hq, rfl⟩, rfl⟩ := he
    obtain ⟨vs, rfl, _, _⟩ := h.1 r hr
    obtain ⟨ws, rfl, _, _⟩ := h.1 q hq
    exact (sks_alike (h.2 vs ws hr hq)).2
  have h3 : (D.pys (rows.map rowL)).all noTup = true := by
    rw [pys_map, List.all_eq_true]
    intro d hd
    simp only [List.mem_map] at hd
    obtain ⟨_, ⟨r, hr, rfl⟩, rfl⟩ := hd
    obtain ⟨vs, rfl, _, _⟩ := h.1 r hr
    rfl
  have h4 : PyData.depthAll (D.pys (rows.map rowL)) ≤ 2 := depth_all fun d hd => by
    obtain ⟨r, hr, rfl⟩ := List.mem_map.mp hd
    obtain ⟨vs, rfl, _, hv⟩ := h.1 r hr
    show (D.lst (vs.map lordD)).py.depth ≤ 2
    rw [D.py, PyData.depth]
    have := depth_all (l := vs.map lordD) (n := 1) fun d hd => by obtain ⟨x, h1, rfl⟩ := List.mem_map.mp hd; exact Nat.le_of_eq (vl3_pl (hv x h1)).2.2.2.2.2
    omega
  rw [h1, h2, h3, decide_eq_true (show PyData.depthAll (D.pys (rows.map rowL)) ≤ 60 by omega), decide_eq_true hl, Bool.or_true]; rfl
theorem keysOk_t {rows : List D} (h : Rows rows) (hl : rows.length ≤ 4000) : keysOk rows (rows.map rowK) = true := by
  unfold keysOk
  have h1 : D.pls (rows.map rowK) = true := pls_all fun d hd => by
    obtain ⟨r, hr, rfl⟩ := List.mem_map.mp hd
    obtain ⟨vs, rfl, _, hv⟩ := h.1 r hr
    show (D.tup (vs.map ordD)).pl = true
    rw [D.pl]
    exact pls_all fun d hd => by obtain ⟨x, h1, rfl⟩ := List.mem_map.mp hd; exact (vl3_pl (hv x h1)).2.1
  have h2 : ((D.pys (rows.map rowK)).all fun d => (D.pys (rows.map rowK)).all fun e => alike d e) = true := by
    rw [pys_map, List.all_eq_true]
    intro d hd
    rw [List.all_eq_true]
    intro e he
    simp only [List.mem_map] at hd he
    obtain ⟨_, ⟨r, hr, rfl⟩, rfl⟩ := hd
    obtain ⟨_, ⟨q, hq, rfl⟩, rfl⟩ := he
    obtain ⟨vs, rfl, _, _⟩ := h.1 r hr
    obtain ⟨ws, rfl, _, _⟩ := h.1 q hq
    exact (sks_alike (h.2 vs ws hr hq)).1
  have h3 : (D.pys (rows.map rowK)).all someTup = true := by
    rw [pys_map, List.all_eq_true]
    intro d hd
    simp only [List.mem_map] at hd
    obtain ⟨_, ⟨r, hr, rfl⟩, rfl⟩ := hd
    obtain ⟨vs, rfl, hne, _⟩ := h.1 r hr
    cases vs with
    | nil => exact absurd rfl hne
    | cons v vs => rfl
  have h4 : PyData.depthAll (D.pys (rows.map rowK)) ≤ 2 := depth_all fun d hd => by
    obtain ⟨r, hr, rfl⟩ := List.mem_map.mp hd
    obtain ⟨vs, rfl, _, hv⟩ := h.1 r hr
    show (D.tup (vs.map ordD)).py.depth ≤ 2
    rw [D.py, PyData.depth]
    have := depth_all (l := vs.map ordD) (n := 1) fun d hd => by obtain ⟨x, h1, rfl⟩ := List.mem_map.mp hd; exact Nat.le_of_eq (vl3_pl (hv x h1)).2.2.2.2.1
    omega
  rw [h1, h2, h3, decide_eq_true (show PyData.depthAll (D.pys (rows.map rowK)) ≤ 60 by omega), decide_eq_true hl, Bool.true_or]; rfl
theorem srt_rows {rows : List D} (h : Rows rows) : srt rows (rows.map rowL) = srt rows (rows.map rowK) := srt_same rows rowL rowK fun a ha b hb => by
  obtain ⟨vs, rfl, _, _⟩ := h.1 a ha
  obtain ⟨ws, rfl, _, _⟩ := h.1 b hb
  exact sks_lt (h.2 vs ws ha hb)
/-! ### what is shown -/
structure Sh (k b : Nat) (d : D) : Prop where
  pl : d.pl = true
  sh : d.py.showable = true
  len : d.py.shown.length ≤ b
  ok : PyData.strOk d.py.shown = true
  dp : d.py.depth ≤ k
theorem ok_app {x y : Str} (h1 : PyData.strOk x = true) (h2 : PyData.strOk y = true) : PyData.strOk (x ++ y) = true := by
  unfold PyData.strOk at *
  show (x.cps ++ y.cps).all _ = true
  rw [Array.all_append, h1, h2]; rfl
theorem ok_from : ∀ (ts : List Str) (k : Nat) (acc : Str), PyData.strOk acc = true → (∀ t ∈ ts, PyData.strOk t = true) → PyData.strOk (textFrom k acc ts) = true
  | [], k, acc, h, _ => h
  | t :: ts, k, acc, h, ht => by
    refine ok_from ts (k + 1) _ (ok_app (ok_app h ?_) (ht t (by simp))) fun u hu => ht u (by simp [hu])
    by_cases hk : k > 0
    · rw [if_pos hk]; kernel_rfl
    · rw [if_neg hk]; kernel_rfl
theorem ok_join (sep : Str) (hs : PyData.strOk sep = true) : ∀ (ts : List Str), (∀ t ∈ ts, PyData.strOk t = true) → PyData.strOk (Str.join sep ts) = true
  | [], _ => by kernel_rfl
  | [x], h => h x (by simp)
  | x :: y :: r, h => ok_app (ok_app (h x (by simp)) hs) (ok_join sep hs (y :: r) fun t ht => h t (by simp [ht]))
theorem shownAll_mem {k b : Nat} : ∀ {xs : List D}, (∀ d ∈ xs, Sh k b d) → ∀ t ∈ PyData.shownAll (D.pys xs), t.length ≤ b ∧ PyData.strOk t = true
  | [], _, t, ht => by rw [D.pys, PyData.shownAll] at ht; cases ht
  | x :: xs, h, t, ht => by
    rw [D.pys, PyData.shownAll] at ht
    rcases List.mem_cons.mp ht with rfl | ht
    · exact ⟨(h x (by simp)).len, (h x (by simp)).ok⟩
    · exact shownAll_mem (fun d hd => h d (by simp [hd])) t ht
theorem shownAll_len : ∀ xs : List D, (PyData.shownAll (D.pys xs)).length = xs.length
  | [] => rfl
  | x :: xs => by rw [D.pys, PyData.shownAll, List.length_cons, List.length_cons, shownAll_len xs]
theorem sum_le {b : Nat} : ∀ {ts : List Str}, (∀ t ∈ ts, t.length ≤ b) → (ts.map (·.length)).sum ≤ b * ts.length
  | [], _ => by simp
  | t :: ts, h => by
    have h1 := h t (by simp)
    have h2 := sum_le (b := b) (ts := ts) fun u hu => h u (by simp [hu])
    simp only [List.map_cons, List.sum_cons, List.length_cons, Nat.mul_succ]
    omega
theorem showable_all : ∀ {xs : List D} {k b : Nat}, (∀ d ∈ xs, Sh k b d) → PyData.showableAll (D.pys xs) = true
  | [], _, _, _ => rfl
  | x :: xs, k, b, h => by
    rw [D.pys, PyData.showableAll, (h x (by simp)).sh, showable_all fun d hd => h d (by simp [hd])]; rfl
theorem Sh.tup {k b n : Nat} {xs : List D} (h : ∀ d ∈ xs, Sh k b d) (hn : xs.length ≤ n) : Sh (k + 1) ((b + 2) * n + 3) (.tup xs) := by
  have hm := shownAll_mem h
  refine ⟨by rw [D.pl]; exact pls_all fun d hd => (h d hd).pl, by rw [D.py, PyData.showable]; exact showable_all h, ?_, ?_, ?_⟩
  · have h1 := tupleText_len_le (PyData.shownAll (D.pys xs))
    have h2 := sum_le fun t ht => (hm t ht).1
    rw [shownAll_len] at h1 h2
    have h3 : (b + 2) * xs.length ≤ (b + 2) * n := Nat.mul_le_mul_left _ hn
    have h4 : (b + 2) * xs.length = b * xs.length + 2 * xs.length := Nat.add_mul _ _ _
    show (tupleText (PyData.shownAll (D.pys xs))).length ≤ _
    omega
  · show PyData.strOk (tupleText (PyData.shownAll (D.pys xs))) = true
    unfold tupleText
    refine ok_app (ok_app (by kernel_rfl) (ok_join _ (by kernel_rfl) _ fun t ht => (hm t ht).2)) ?_
    by_cases hk : ((PyData.shownAll (D.pys xs)).length == 1) = true
    · rw [if_pos hk]; kernel_rfl
    · rw [if_neg hk]; kernel_rfl
  · rw [D.py, PyData.depth]
    have := depth_all fun d hd => (h d hd).dp
    omega
theorem Sh.lst {k b n : Nat} {xs : List D} (h : ∀ d ∈ xs, Sh k b d) (hn : xs.length ≤ n) : Sh (k + 1) ((b + 2) * n + 3) (.lst xs) := by
  have hm := shownAll_mem h
  refine ⟨by rw [D.pl]; exact pls_all fun d hd => (h d hd).pl, by rw [D.py, PyData.showable]; exact showable_all h, ?_, ?_, ?_⟩
  · have h1 := listText_len_le (PyData.shownAll (D.pys xs))
    have h2 := sum_le fun t ht => (hm t ht).1
    rw [shownAll_len] at h1 h2
    have h3 : (b + 2) * xs.length ≤ (b + 2) * n := Nat.mul_le_mul_left _ hn
    have h4 : (b + 2) * xs.length = b * xs.length + 2 * xs.length := Nat.add_mul _ _ _
    show (listText (PyData.shownAll (D.pys xs))).length ≤ _
    omega
  · show PyData.strOk (textFrom 0 "[" (PyData.shownAll (D.pys xs)) ++ "]") = true
    exact ok_app (ok_from _ _ _ (by kernel_rfl) fun t ht => (hm t ht).2) (by kernel_rfl)
  · rw [D.py, PyData.depth]
    have := depth_all fun d hd => (h d hd).dp
    omega
theorem Sh.repr {k b : Nat} {d : D} (h : Sh k b d) (hk : k ≤ 60) (hb : b ≤ lim) : biD .repr [d] = some (.str d.py.shown) := by
  show (if d.pl && d.py.showable && decide (d.py.depth ≤ 60) && decide (d.py.shown.length ≤ lim) && PyData.strOk d.py.shown then _ else _) = _
  have h1 := h.dp
  have h2 := h.len
  rw [h.pl, h.sh, h.ok, decide_eq_true (show d.py.depth ≤ 60 by omega), decide_eq_true (show d.py.shown.length ≤ lim by omega)]; rfl
theorem Sh.mono {k b k' b' : Nat} {d : D} (h : Sh k b d) (hk : k ≤ k') (hb : b ≤ b') : Sh k' b' d := ⟨h.pl, h.sh, Nat.le_trans h.len hb, h.ok, Nat.le_trans h.dp hk⟩
end Mw

set_option autoImplicit false
/-! MiJ: any value, judged: what schemas are. -/
namespace Mw
open PySem Mi PySem.W
mutual
/-- plain data of any kind, not too long -/
def gd : D → Bool
  | .non => true
  | .bl _ => true
  | .int _ => true
  | .str x => decide (x.length ≤ 1000)
  | .tup xs => decide (xs.length ≤ 1000) && gds xs
  | .lst xs => decide (xs.length ≤ 1000) && gds xs
  | .dct _ _ => true
  | .rol _ => false
  | .obj _ => false
  | .fn _ => false
def gds : List D → Bool
  | [] => true
  | x :: xs => gd x && gds xs
end
theorem gds_all : ∀ {xs : List D}, gds xs = true ↔ ∀ x ∈ xs, gd x = true
  | [] => by simp [gds]
  | x :: xs => by
    rw [gds, Bool.and_eq_true, gds_all]
    simp
theorem gd_tup {xs : List D} (h : gd (.tup xs) = true) : xs.length ≤ 1000 ∧ ∀ x ∈ xs, gd x = true := by
  rw [gd, Bool.and_eq_true, decide_eq_true_eq] at h
  exact ⟨h.1, gds_all.mp h.2⟩
theorem gd_lst {xs : List D} (h : gd (.lst xs) = true) : xs.length ≤ 1000 ∧ ∀ x ∈ xs, gd x = true := by
  rw [gd, Bool.and_eq_true, decide_eq_true_eq] at h
  exact ⟨h.1, gds_all.mp h.2⟩
theorem gd_str {x : Str} (h : gd (.str x) = true) : x.length ≤ 1000 := by
  rw [gd, decide_eq_true_eq] at h; exact h
theorem gd_mk {xs : List D} (h : xs.length ≤ 1000) (k : ∀ x ∈ xs, gd x = true) : gd (.tup xs) = true := by
  rw [gd, Bool.and_eq_true, decide_eq_true_eq]
  exact ⟨h, gds_all.mpr k⟩
theorem gd_mkl {xs : List D} (h : xs.length ≤ 1000) (k : ∀ x ∈ xs, gd x = true) : gd (.lst xs) = true := by
  rw [gd, Bool.and_eq_true, decide_eq_true_eq]
  exact ⟨h, gds_all.mpr k⟩
/-- the signs of a text -/
def signs (x : Str) : List D := x.cps.toList.map fun c => .str ⟨#[c]⟩
theorem signs_len (x : Str) : (signs x).length = x.length := by
  unfold signs
  rw [List.length_map]; rfl
theorem items_str {x : Str} (h : x.length ≤ 1000) : D.items (.str x) = some (signs x) := by
  have h2 : x.length ≤ lim := Nat.le_trans h (by decide)
  show (if x.length ≤ lim then _ else _) = _
  rw [if_pos h2]; rfl
theorem len_str {x : Str} (h : x.length ≤ 1000) : biD .len [.str x] = some (.int x.length) := by
  have h2 : x.length ≤ lim := Nat.le_trans h (by decide)
  show (lenD (.str x)).map D.int = _
  show (if x.length ≤ lim then some (x.length : Int) else none).map D.int = _
  rw [if_pos h2]; rfl
theorem sub_str {x : Str} (h : x.length ≤ 1000) (i : Int) : subD (.str x) (.int i) = (L2.atI x.cps.toList i).map fun c => .str ⟨#[c]⟩ := by
  have h2 : x.length ≤ lim := Nat.le_trans h (by decide)
  show (if x.length ≤ lim then _ else _) = _
  rw [if_pos h2]
theorem str_ne {x : Str} (h : x ≠ "") : ∃ c r, x.cps.toList = c :: r := by
  cases k : x.cps.toList with
  | cons c r => exact ⟨c, r, rfl⟩
  | nil =>
    exfalso
    refine h (str_of_cps ?_)
    rw [k]; rfl
theorem sub_str0 {x : Str} (h : x.length ≤ 1000) {c : Nat} {r : List Nat} (k : x.cps.toList = c :: r) : subD (.str x) (.int 0) = some (.str ⟨#[c]⟩) := by
  rw [sub_str h, k]
  have : L2.atI (c :: r) 0 = some c := by
    unfold L2.atI
    rw [ixN_nat (by decide) (by simp only [List.length_cons]; omega)]; rfl
  rw [this]; rfl
/-- is a sign in a text? -/
def inS (c : D) (big : Str) : Bool := match inD c (.str big) with
  | some b => b
  | none => false
theorem inD_str (c big : Str) : inD (.str c) (.str big) = some (inS (.str c) big) := rfl
theorem op2_in_str (c big : Str) : op2 .in_ (.str c) (.str big) = some (.bl (inS (.str c) big)) := rfl
theorem op2_ni_str (c big : Str) : op2 .notin (.str c) (.str big) = some (.bl (!inS (.str c) big)) := rfl
theorem eq_unit (xs : List D) : op2 .eq (.tup xs) (.tup []) = some (.bl xs.isEmpty) := by
  show Mi.b2 id (deq (.tup xs) (.tup [])) = _
  have : deq (.tup xs) (.tup []) = some xs.isEmpty := by
    unfold deq
    split
    · show some (PyData.eqv (.tuple (D.pys xs)) (.tuple [])) = _
      rw [eqv_tup]
      cases xs with
      | nil => rw [D.pys, eqvAll_nn]; rfl
      | cons x xs => rw [D.pys, eqvAll_cn]; rfl
    · rfl
  rw [this]; rfl
theorem eq_nilL (xs : List D) : op2 .eq (.lst xs) (.lst []) = some (.bl xs.isEmpty) := by
  show Mi.b2 id (deq (.lst xs) (.lst [])) = _
  have : deq (.lst xs) (.lst []) = some xs.isEmpty := by
    unfold deq
    split
    · show some (PyData.eqv (.list (D.pys xs)) (.list [])) = _
      have e : PyData.eqv (.list (D.pys xs)) (.list []) = PyData.eqvAll (D.pys xs) [] := by simp [PyData.eqv]
      rw [e]
      cases xs with
      | nil => rw [D.pys, eqvAll_nn]; rfl
      | cons x xs => rw [D.pys, eqvAll_cn]; rfl
    · rfl
  rw [this]; rfl
theorem ne_nilL (xs : List D) : op2 .ne (.lst xs) (.lst []) = some (.bl (!xs.isEmpty)) := by
  show Mi.b2 not (deq (.lst xs) (.lst [])) = _
  have h := eq_nilL xs
  have h' : Mi.b2 id (deq (.lst xs) (.lst [])) = some (.bl xs.isEmpty) := h
  cases q : deq (.lst xs) (.lst []) with
  | none => rw [q] at h'; cases h'
  | some b => rw [q] at h'; cases h'; rfl
abbrev ABC : Str := "abcdefghijklmnopqrstuvwxyz"
abbrev ABC_ : Str := "abcdefghijklmnopqrstuvwxyz0123456789_"
/-- a word -/
def wordB : D → Bool
  | .str x => !decide (x = "") && decide ((x.length : Int) ≤ 12) && (match signs x with | c :: _ => inS c ABC | [] => false) && (signs x).all fun c => inS c ABC_
  | _ => false
theorem wordB_str {d : D} (h : wordB d = true) : ∃ x, d = .str x := by
  cases d <;> first | exact ⟨_, rfl⟩ | cases h
/-- unlike texts -/
def nodupW (xs : List D) : Bool := match strsOf xs with
  | some ys => decide ((unlike ys : Int) = xs.length)
  | none => false
theorem strs_of {xs : List D} (h : ∀ d ∈ xs, ∃ x, d = .str x) : ∃ ys, strsOf xs = some ys := by
  induction xs with
  | nil => exact ⟨[], rfl⟩
  | cons d xs ih =>
    obtain ⟨x, rfl⟩ := h d (by simp)
    obtain ⟨ys, e⟩ := ih fun d hd => h d (by simp [hd])
    exact ⟨x :: ys, by rw [strsOf, e]; rfl⟩
theorem setlen_t {xs : List D} (h : ∀ d ∈ xs, ∃ x, d = .str x) (hl : xs.length ≤ 1000) : ∃ n : Nat, biD .setlen [.tup xs] = some (.int n) ∧ decide ((n : Int) = xs.length) = nodupW xs := by
  obtain ⟨ys, e⟩ := strs_of h
  refine ⟨unlike ys, ?_, ?_⟩
  · show (if decide (xs.length ≤ 4000) then (strsOf xs).map _ else none) = _
    rw [if_pos (decide_eq_true (by omega)), e]; rfl
  · unfold nodupW
    rw [e]
theorem setlen_l {xs : List D} (h : ∀ d ∈ xs, ∃ x, d = .str x) (hl : xs.length ≤ 1000) : ∃ n : Nat, biD .setlen [.lst xs] = some (.int n) ∧ decide ((n : Int) = xs.length) = nodupW xs := by
  obtain ⟨ys, e⟩ := strs_of h
  refine ⟨unlike ys, ?_, ?_⟩
  · show (if decide (xs.length ≤ 4000) then (strsOf xs).map _ else none) = _
    rw [if_pos (decide_eq_true (by omega)), e]; rfl
  · unfold nodupW
    rw [e]
def wordsB (v : D) (lo hi : Int) : Bool := match v with
  | .tup xs => decide (lo ≤ (xs.length : Int)) && decide ((xs.length : Int) ≤ hi) && xs.all wordB && nodupW xs
  | _ => false
def kindB : D → Bool
  | .str s => decide (s = "number") || decide (s = "text")
  | _ => false
def bitB : D → Bool
  | .int i => decide (0 ≤ i) && decide (i ≤ 1)
  | _ => false
def columnB : D → Bool
  | .tup [n, k, l] => wordB n && kindB k && bitB l
  | _ => false
/-- the first item -/
def c0 : D → D
  | .tup (x :: _) => x
  | _ => .non
def c1 : D → D
  | .tup (_ :: x :: _) => x
  | _ => .non
def c2 : D → D
  | .tup (_ :: _ :: x :: _) => x
  | _ => .non
def its : D → List D
  | .tup xs => xs
  | _ => []
def columnsB : D → Bool
  | .tup cs => decide (1 ≤ (cs.length : Int)) && decide ((cs.length : Int) ≤ 6) && cs.all columnB && nodupW (cs.map c0)
  | _ => false
/-- x in xs, of texts -/
def memS (x : D) (xs : List D) : Bool := xs.any fun y => PyData.eqv y.py x.py
theorem pls_strs {xs : List D} (h : ∀ d ∈ xs, ∃ x, d = .str x) : D.pls xs = true := pls_all fun d hd => by
  obtain ⟨x, rfl⟩ := h d hd; rfl
theorem memD_strs {x : Str} {xs : List D} (h : D.pls xs = true) : memD (.str x) xs = some (memS (.str x) xs) := by
  unfold memD
  rw [h]
  show (if true && true && decide (min (PyData.depthAll (D.pys xs)) 0 ≤ 60) then _ else _) = _
  rw [Nat.min_zero, decide_eq_true (by omega), if_pos (by rfl)]
  unfold memS
  rw [pys_map, List.any_map]; rfl
theorem in_lst {x : Str} {xs : List D} (h : D.pls xs = true) : op2 .in_ (.str x) (.lst xs) = some (.bl (memS (.str x) xs)) := by
  show Mi.b2 id (memD (.str x) xs) = _
  rw [memD_strs h]; rfl
theorem ni_lst {x : Str} {xs : List D} (h : D.pls xs = true) : op2 .notin (.str x) (.lst xs) = some (.bl (!memS (.str x) xs)) := by
  show Mi.b2 not (memD (.str x) xs) = _
  rw [memD_strs h]; rfl
theorem kind_t (x : Str) : op2 .in_ (.str x) (.tup [.str "number", .str "text"]) = some (.bl (kindB (.str x))) := by
  show Mi.b2 id (memD (.str x) [.str "number", .str "text"]) = _
  rw [memD_strs (by rfl)]
  show some (D.bl (id (PyData.eqv (.str "number") (.str x) || (PyData.eqv (.str "text") (.str x) || false)))) = _
  rw [eqv_str, eqv_str, Bool.or_false]
  simp only [kindB, id, eq_comm]
theorem kind_l (x : Str) : op2 .notin (.str x) (.lst [.str "number", .str "text"]) = some (.bl (!kindB (.str x))) := by
  show Mi.b2 not (memD (.str x) [.str "number", .str "text"]) = _
  rw [memD_strs (by rfl)]
  show some (D.bl (!(PyData.eqv (.str "number") (.str x) || (PyData.eqv (.str "text") (.str x) || false)))) = _
  rw [eqv_str, eqv_str, Bool.or_false]
  simp only [kindB, eq_comm]
theorem bit_m (i : Int) : memD (.int i) [.int 0, .int 1] = some (bitB (.int i)) := by
  show some (PyData.eqv (.int 0) (.int i) || (PyData.eqv (.int 1) (.int i) || false)) = _
  rw [eqv_int, eqv_int, Bool.or_false]
  congr 1
  unfold bitB
  by_cases h0 : i = 0
  · subst h0; rfl
  · by_cases h1 : i = 1
    · subst h1; rfl
    · show (decide (0 = i) || decide (1 = i)) = (decide (0 ≤ i) && decide (i ≤ 1))
      rw [decide_eq_false (show ¬ 0 = i by omega), decide_eq_false (show ¬ 1 = i by omega)]
      by_cases h2 : 0 ≤ i
      · rw [decide_eq_true h2, decide_eq_false (show ¬ i ≤ 1 by omega)]; rfl
      · rw [decide_eq_false h2]; rfl
theorem bit_in (i : Int) : op2 .in_ (.int i) (.lst [.int 0, .int 1]) = some (.bl (bitB (.int i))) := by
  show Mi.b2 id (memD (.int i) [.int 0, .int 1]) = _
  rw [bit_m]; rfl
theorem bit_ni (i : Int) : op2 .notin (.int i) (.lst [.int 0, .int 1]) = some (.bl (!bitB (.int i))) := by
  show Mi.b2 not (memD (.int i) [.int 0, .int 1]) = _
  rw [bit_m]; rfl
/-- the columns that let no None -/
def firmG (c : D) : Option D := match c2 c with
  | .int i => if decide (i = 0) then some (c0 c) else none
  | _ => none
def firm (cs : List D) : List D := cs.filterMap firmG
def keyB (cs : List D) (v : D) : Bool := wordsB v 1 3 && (its v).all fun n => memS n (firm cs)
def ruleB : D → Bool
  | .tup [n, _] => wordB n
  | _ => false
def rulesB : D → Bool
  | .tup rs => rs.all ruleB && nodupW (rs.map c0)
  | _ => false
def linkB (names : List D) : D → Bool
  | .tup [ws, t] => wordsB ws 1 3 && wordB t && (its ws).all fun n => memS n names
  | _ => false
def linksB (cs : List D) : D → Bool
  | .tup ls => ls.all (linkB (cs.map c0))
  | _ => false
def tableB : D → Bool
  | .tup [_, n, cs, key, rules, links] => wordB n && columnsB cs && keyB (its cs) key && rulesB rules && linksB (its cs) links
  | _ => false
def indexB : D → Bool
  | .tup [_, n, t, ws] => wordB n && wordB t && wordsB ws 1 3
  | _ => false
def viewB : D → Bool
  | .tup [_, n, _, b] => wordB n && bitB b
  | _ => false
def itemB (v : D) : Bool := match v with
  | .tup (.str w :: _) => if decide (w = "table") then tableB v else if decide (w = "index") then indexB v else decide (w = "view") && viewB v
  | _ => false

/-! ### what is judged right -/
theorem colB_no {xs : List D} (h : ¬ xs.length = 3) : columnB (.tup xs) = false := by
  unfold columnB
  split
  · rename_i e; cases e; exact absurd rfl h
  · rfl
theorem colB_of {d : D} (h : columnB d = true) : ∃ n k l, d = .tup [.str n, .str k, .int l] ∧ wordB (.str n) = true ∧ kindB (.str k) = true ∧ bitB (.int l) = true := by
  unfold columnB at h
  split at h
  · rename_i n k l
    simp only [Bool.and_eq_true] at h
    obtain ⟨x, rfl⟩ := wordB_str h.1.1
    cases k <;> first | (cases h.1.2; done) | skip
    cases l <;> first | (cases h.2; done) | skip
    exact ⟨_, _, _, rfl, h.1.1, h.1.2, h.2⟩
  · cases h
theorem cols_c0 {cs : List D} (h : cs.all columnB = true) : ∀ d ∈ cs.map c0, ∃ x, d = .str x := fun d hd => by
  obtain ⟨c, hc, rfl⟩ := List.mem_map.mp hd
  obtain ⟨n, k, l, rfl, _⟩ := colB_of (List.all_eq_true.mp h c hc)
  exact ⟨n, rfl⟩
theorem firm_ok {cs : List D} (h : cs.all columnB = true) : ∀ d ∈ firm cs, ∃ x, d = .str x := fun d hd => by
  unfold firm at hd
  obtain ⟨c, hc, e⟩ := List.mem_filterMap.mp hd
  obtain ⟨n, k, l, rfl, _⟩ := colB_of (List.all_eq_true.mp h c hc)
  have e' : (if decide (l = 0) = true then some (D.str n) else none) = some d := e
  split at e'
  · cases e'; exact ⟨_, rfl⟩
  · cases e'
theorem firm_len (cs : List D) : (firm cs).length ≤ cs.length := List.length_filterMap_le _ _
theorem words_of {v : D} {lo hi : Int} (h : wordsB v lo hi = true) : ∃ xs, v = .tup xs ∧ lo ≤ (xs.length : Int) ∧ (xs.length : Int) ≤ hi ∧ (∀ d ∈ xs, ∃ x, d = .str x) ∧ ∀ d ∈ xs, wordB d = true := by
  cases v with
  | tup xs =>
    simp only [wordsB, Bool.and_eq_true, decide_eq_true_eq] at h
    exact ⟨xs, rfl, h.1.1.1, h.1.1.2, fun d hd => wordB_str (List.all_eq_true.mp h.1.2 d hd), fun d hd => List.all_eq_true.mp h.1.2 d hd⟩
  | _ => cases h
theorem ruleB_no {xs : List D} (h : ¬ xs.length = 2) : ruleB (.tup xs) = false := by
  unfold ruleB
  split
  · rename_i e; cases e; exact absurd rfl h
  · rfl
theorem ruleB_of {d : D} (h : ruleB d = true) : ∃ n r, d = .tup [.str n, r] ∧ wordB (.str n) = true := by
  unfold ruleB at h
  split at h
  · obtain ⟨x, rfl⟩ := wordB_str h
    exact ⟨_, _, rfl, h⟩
  · cases h
theorem rules_c0 {cs : List D} (h : cs.all ruleB = true) : ∀ d ∈ cs.map c0, ∃ x, d = .str x := fun d hd => by
  obtain ⟨c, hc, rfl⟩ := List.mem_map.mp hd
  obtain ⟨n, r, rfl, _⟩ := ruleB_of (List.all_eq_true.mp h c hc)
  exact ⟨n, rfl⟩
theorem linkB_no {ns xs : List D} (h : ¬ xs.length = 2) : linkB ns (.tup xs) = false := by
  unfold linkB
  split
  · rename_i e; cases e; exact absurd rfl h
  · rfl
theorem linkB_of {ns : List D} {d : D} (h : linkB ns d = true) : ∃ xs n, d = .tup [.tup xs, .str n] ∧ wordsB (.tup xs) 1 3 = true ∧ wordB (.str n) = true ∧ (∀ w ∈ xs, ∃ x, w = .str x) ∧ (∀ w ∈ xs, memS w ns = true) ∧ xs.length ≤ 3 := by
  unfold linkB at h
  split at h
  · simp only [Bool.and_eq_true] at h
    obtain ⟨x, rfl⟩ := wordB_str h.1.2
    obtain ⟨xs, rfl, _, h3, hs, _⟩ := words_of h.1.1
    exact ⟨xs, x, rfl, h.1.1, h.1.2, hs, fun w hw => List.all_eq_true.mp h.2 w hw, by omega⟩
  · cases h
theorem cols_of {v : D} (h : columnsB v = true) : ∃ cs, v = .tup cs ∧ 1 ≤ cs.length ∧ cs.length ≤ 6 ∧ cs.all columnB = true ∧ nodupW (cs.map c0) = true := by
  cases v with
  | tup cs =>
    simp only [columnsB, Bool.and_eq_true, decide_eq_true_eq] at h
    exact ⟨cs, rfl, by omega, by omega, h.1.2, h.2⟩
  | _ => cases h
theorem tabB_no {xs : List D} (h : ¬ xs.length = 6) : tableB (.tup xs) = false := by
  unfold tableB
  split
  · rename_i e; cases e; exact absurd rfl h
  · rfl
theorem indB_no {xs : List D} (h : ¬ xs.length = 4) : indexB (.tup xs) = false := by
  unfold indexB
  split
  · rename_i e; cases e; exact absurd rfl h
  · rfl
theorem vieB_no {xs : List D} (h : ¬ xs.length = 4) : viewB (.tup xs) = false := by
  unfold viewB
  split
  · rename_i e; cases e; exact absurd rfl h
  · rfl
/-! ### tools -/
def nOwn : Sl → Bool
  | .own _ => false
  | _ => true
theorem noOwn_eq (is : List Nat) (s : Sg) : noOwn is s = is.all fun i => nOwn (s.sl.getD i .emp) := rfl
theorem rng_len (lo hi : Int) : (rng lo hi).length = (hi - lo).toNat := by
  unfold rng
  rw [List.length_map, List.length_range]
section
variable {α : Type} {C : Cn} {s : Sg} {e : Nat → List D → Sg → Prop} {g : Fl → Sg → Prop}
/-- a loop that only checks -/
theorem forL_chk {F : D → Sg → R Fl} (p : D → Bool) (I : Sg → Prop) : ∀ (ds : List D) (s : Sg), I s →
    (∀ d ∈ ds, ∀ s, I s → @wp Fl (F d s) ⟨fun fl s => I s ∧ (fl = if p d then .next else .ret (.bl false)), e⟩) →
    (∀ s, I s → (ds.all p = true → g .next s) ∧ (ds.all p = false → g (.ret (.bl false)) s)) → @wp Fl (forL F ds s) ⟨g, e⟩
  | [], s, h, _, en => (en s h).1 rfl
  | d :: ds, s, h, st, en => by
    rw [forL, wp_bind]
    refine wp_mono (st d (by simp) s h) (fun fl s h => ?_) fun _ _ _ h => h
    obtain ⟨h1, rfl⟩ := h
    cases hp : p d
    · exact (en s h1).2 (by rw [List.all_cons, hp]; rfl)
    · exact forL_chk p I ds s h1 (fun d hd => st d (by simp [hd])) fun s hs => by
        have := en s hs
        rw [List.all_cons, hp, Bool.true_and] at this
        exact this
end
theorem len3 {α : Type} {xs : List α} (h : xs.length = 3) : ∃ a b c, xs = [a, b, c] := by
  match xs, h with | [a, b, c], _ => exact ⟨a, b, c, rfl⟩
theorem len2 {α : Type} {xs : List α} (h : xs.length = 2) : ∃ a b, xs = [a, b] := by
  match xs, h with | [a, b], _ => exact ⟨a, b, rfl⟩
theorem len4 {α : Type} {xs : List α} (h : xs.length = 4) : ∃ a b c d, xs = [a, b, c, d] := by
  match xs, h with | [a, b, c, d], _ => exact ⟨a, b, c, d, rfl⟩
theorem len6 {α : Type} {xs : List α} (h : xs.length = 6) : ∃ a b c d e f, xs = [a, b, c, d, e, f] := by
  match xs, h with | [a, b, c, d, e, f], _ => exact ⟨a, b, c, d, e, f, rfl⟩
end Mw

set_option autoImplicit false
/-! MiH: items of schemas, what they refer to. -/
namespace Mw
open PySem Mi PySem.W
/-- a table's columns, key -/
def c3 : D → D
  | .tup (_ :: _ :: _ :: x :: _) => x
  | _ => .non
def c5 : D → D
  | .tup (_ :: _ :: _ :: _ :: _ :: x :: _) => x
  | _ => .non
/-- an item right by its form -/
inductive Itm : D → Prop where
  | table (n : Str) (cs key rules links : List D) (h1 : 1 ≤ cs.length) (h6 : cs.length ≤ 6) (hc : cs.all columnB = true) (kl : key.length ≤ 3) (ks : ∀ w ∈ key, ∃ x, w = .str x) (km : ∀ w ∈ key, memS w (cs.map c0) = true) (ll : links.length ≤ 1000) (hl : ∀ l ∈ links, linkB (cs.map c0) l = true) :
      Itm (.tup [.str "table", .str n, .tup cs, .tup key, .tup rules, .tup links])
  | index (n t : Str) (ws : List D) (wl : ws.length ≤ 3) (hs : ∀ w ∈ ws, ∃ x, w = .str x) : Itm (.tup [.str "index", .str n, .str t, .tup ws])
  | view (n : Str) (q b : D) : Itm (.tup [.str "view", .str n, q, b])
theorem firm_mem {cs : List D} {w : D} (hc : cs.all columnB = true) (h : memS w (firm cs) = true) : memS w (cs.map c0) = true := by
  unfold memS at *
  rw [List.any_eq_true] at *
  obtain ⟨y, hy, e⟩ := h
  refine ⟨y, ?_, e⟩
  unfold firm at hy
  obtain ⟨c, hm, e2⟩ := List.mem_filterMap.mp hy
  obtain ⟨n, k, l, rfl, _⟩ := colB_of (List.all_eq_true.mp hc c hm)
  have e' : (if decide (l = 0) = true then some (D.str n) else none) = some y := e2
  split at e'
  · cases e'
    exact List.mem_map.mpr ⟨_, hm, rfl⟩
  · cases e'
theorem itm_of {d : D} (g : gd d = true) (h : itemB d = true) : Itm d := by
  unfold itemB at h
  split at h
  · rename_i w r
    split at h
    · rename_i hw
      rw [decide_eq_true_eq] at hw
      subst hw
      unfold tableB at h
      split at h
      · rename_i x0 n cs key rules links e
        obtain ⟨gl, gx⟩ := gd_tup g
        simp only [Bool.and_eq_true] at h
        obtain ⟨⟨⟨⟨h1, h2⟩, h3⟩, h4⟩, h5⟩ := h
        obtain ⟨x, rfl⟩ := wordB_str h1
        obtain ⟨cs, rfl, q1, q6, qc, _⟩ := cols_of h2
        unfold keyB at h3
        rw [Bool.and_eq_true] at h3
        obtain ⟨ws, rfl, _, w3, hs, _⟩ := words_of h3.1
        cases rules with
        | tup rs =>
          cases links with
          | tup ls =>
            have gg := gd_tup (gx (.tup ls) (by cases e; simp))
            cases e
            exact .table x cs ws rs ls q1 q6 qc (by omega) hs (fun w hw => firm_mem qc (List.all_eq_true.mp h3.2 w hw)) gg.1 (fun l hl => List.all_eq_true.mp h5 l hl)
          | _ => cases h5
        | _ => cases h4
      · cases h
    · split at h
      · rename_i hw
        rw [decide_eq_true_eq] at hw
        subst hw
        unfold indexB at h
        split at h
        · rename_i x0 n t ws e
          cases e
          simp only [Bool.and_eq_true] at h
          obtain ⟨⟨h1, h2⟩, h3⟩ := h
          obtain ⟨x, rfl⟩ := wordB_str h1
          obtain ⟨y, rfl⟩ := wordB_str h2
          obtain ⟨ws, rfl, _, w3, hs, _⟩ := words_of h3
          exact .index x y ws (by omega) hs
        · cases h
      · rw [Bool.and_eq_true, decide_eq_true_eq] at h
        obtain ⟨rfl, h⟩ := h
        unfold viewB at h
        split at h
        · rename_i x0 n q b e
          cases e
          simp only [Bool.and_eq_true] at h
          obtain ⟨x, rfl⟩ := wordB_str h.1
          exact .view x q b
        · cases h
  · cases h
/-- is it this text? -/
def isS (d : D) (n : Str) : Bool := match d with
  | .str m => decide (m = n)
  | _ => false
theorem itm_c0 {d : D} (h : Itm d) : ∃ w n r, d = .tup (.str w :: .str n :: r) := by
  cases h <;> exact ⟨_, _, _, rfl⟩
/-- the first item of a name -/
def findD (xs : List D) (n : Str) : D := match xs.find? fun it => isS (c1 it) n with
  | some it => it
  | none => .non
def itemOf (xs : List D) (kind n : Str) : D := match findD xs n with
  | .non => .non
  | it => if isS (c0 it) kind then it else .non
def ofKind (xs : List D) (kind : Str) : List D := xs.filter fun it => isS (c0 it) kind
/-- the first table of a name (the law's) -/
def lfind (xs : List D) (n : Str) : D := findD (ofKind xs "table") n
theorem find_itm {xs : List D} {n : Str} (h : ∀ it ∈ xs, Itm it) : findD xs n = .non ∨ (findD xs n ∈ xs ∧ Itm (findD xs n) ∧ isS (c1 (findD xs n)) n = true) := by
  unfold findD
  cases e : xs.find? fun it => isS (c1 it) n with
  | none => exact .inl rfl
  | some it => exact .inr ⟨List.mem_of_find?_eq_some e, h it (List.mem_of_find?_eq_some e), List.find?_some (p := fun it => isS (c1 it) n) e⟩
/-- the place of a text -/
def idxS (names : List D) (w : D) : Option Nat := (D.pys names).findIdx? fun y => PyData.eqv y w.py
theorem idx_mem {names : List D} {w : D} : (idxS names w).isSome = memS w names := by
  unfold idxS memS
  rw [List.findIdx?_isSome, pys_map, List.any_map]; rfl
theorem idx_lt {names : List D} {w : D} {i : Nat} (h : idxS names w = some i) : i < names.length := by
  unfold idxS at h
  have := List.findIdx?_eq_some_iff_getElem.mp h
  obtain ⟨h1, _⟩ := this
  rw [pys_map, List.length_map] at h1
  exact h1
theorem placeD_eq {names : List D} {x : Str} (h : D.pls names = true) (hd : PyData.depthAll (D.pys names) ≤ 60) : placeD (.str x) names = idxS names (.str x) := by
  unfold placeD
  rw [h, decide_eq_true hd]; rfl
theorem strs_depth {names : List D} (h : ∀ d ∈ names, ∃ x, d = .str x) : PyData.depthAll (D.pys names) ≤ 0 := depth_all fun d hd => by
  obtain ⟨x, rfl⟩ := h d hd
  exact Nat.le_refl _
def placeV (cs : List D) (w : D) : D := match idxS (cs.map c0) w with
  | some i => .int i
  | none => .non
def kindAt (cs : List D) (w : D) : D := match idxS (cs.map c0) w with
  | some i => c1 (cs.getD i .non)
  | none => .non
theorem kind_str {cs : List D} {w : D} (hc : cs.all columnB = true) (hm : memS w (cs.map c0) = true) : ∃ i x, idxS (cs.map c0) w = some i ∧ i < cs.length ∧ kindAt cs w = .str x ∧ ∃ n l, cs[i]? = some (.tup [.str n, .str x, .int l]) := by
  rw [← idx_mem] at hm
  obtain ⟨i, e⟩ := Option.isSome_iff_exists.mp hm
  have hi := idx_lt e
  rw [List.length_map] at hi
  obtain ⟨n, x, l, e2, _⟩ := colB_of (List.all_eq_true.mp hc cs[i] (List.getElem_mem hi))
  refine ⟨i, x, e, hi, ?_, n, l, by rw [List.getElem?_eq_getElem hi, e2]⟩
  unfold kindAt
  rw [e]
  show c1 (cs.getD i .non) = _
  rw [List.getD_eq_getElem?_getD, List.getElem?_eq_getElem hi, e2]; rfl
/-- == of two rows of texts -/
def eqL (xs ys : List D) : Bool := PyData.eqvAll (D.pys xs) (D.pys ys)
theorem eqL_len : ∀ {xs ys : List D}, xs.length ≠ ys.length → eqL xs ys = false
  | [], [], h => absurd rfl h
  | [], y :: ys, _ => by unfold eqL; rw [D.pys, D.pys, eqvAll_nc]
  | x :: xs, [], _ => by unfold eqL; rw [D.pys, D.pys, eqvAll_cn]
  | x :: xs, y :: ys, h => by
    have := eqL_len (xs := xs) (ys := ys) fun e => h (by simp [e])
    unfold eqL at this ⊢
    rw [D.pys, D.pys, eqvAll_cc, this, Bool.and_false]
theorem eq_strs {xs ys : List D} (hx : ∀ d ∈ xs, ∃ x, d = .str x) (hy : ∀ d ∈ ys, ∃ x, d = .str x) : deq (.lst xs) (.lst ys) = some (eqL xs ys) := by
  unfold deq
  have h1 : (D.lst xs).pl = true := by rw [D.pl]; exact pls_strs hx
  have h2 : (D.lst ys).pl = true := by rw [D.pl]; exact pls_strs hy
  have h3 : (D.lst xs).py.depth ≤ 1 := by rw [D.py, PyData.depth]; have := strs_depth hx; omega
  rw [h1, h2, if_pos (by rw [decide_eq_true (by omega)]; rfl)]
  show some (PyData.eqv (.list (D.pys xs)) (.list (D.pys ys))) = _
  simp [PyData.eqv, eqL]
theorem op_eq_strs {xs ys : List D} (hx : ∀ d ∈ xs, ∃ x, d = .str x) (hy : ∀ d ∈ ys, ∃ x, d = .str x) : op2 .eq (.lst xs) (.lst ys) = some (.bl (eqL xs ys)) := by
  show Mi.b2 id (deq (.lst xs) (.lst ys)) = _
  rw [eq_strs hx hy]; rfl
theorem op_ne_strs {xs ys : List D} (hx : ∀ d ∈ xs, ∃ x, d = .str x) (hy : ∀ d ∈ ys, ∃ x, d = .str x) : op2 .ne (.lst xs) (.lst ys) = some (.bl (!eqL xs ys)) := by
  show Mi.b2 not (deq (.lst xs) (.lst ys)) = _
  rw [eq_strs hx hy]; rfl
/-- a link, to the table that fnd tells -/
def linkOk (fnd : Str → D) (it l : D) : Bool := match l with
  | .tup [.tup ws, .str t] => match (if isS (c1 it) t then it else fnd t) with
    | .non => false
    | o => eqL (ws.map (kindAt (its (c2 it)))) ((its (c3 o)).map (kindAt (its (c2 o))))
  | _ => false
def headB (fnd : Str → D) (ahead : List D) (it : D) : Bool :=
  match c1 it with
  | .str n => match findD ahead n with
    | .non => if isS (c0 it) "table" then decide (((ofKind ahead "table").length : Int) < 12) && (its (c5 it)).all (linkOk fnd it)
      else if isS (c0 it) "index" then match c2 it with
        | .str t => match fnd t with
          | .non => false
          | o => (its (c3 it)).all fun w => memS w ((its (c2 o)).map c0)
        | _ => false
      else true
    | _ => false
  | _ => false
/-- no name comes twice -/
def Nod (xs : List D) : Prop := ∀ (i j : Nat) (a b : D) (n : Str), xs[i]? = some a → xs[j]? = some b → isS (c1 a) n = true → isS (c1 b) n = true → i = j
theorem isS_eq {d : D} {n : Str} : isS d n = true ↔ d = .str n := by
  unfold isS
  cases d <;> simp
theorem find_uniq {xs : List D} (hn : Nod xs) {n : Str} {a : D} (ha : a ∈ xs) (hs : isS (c1 a) n = true) : findD xs n = a := by
  unfold findD
  cases e : xs.find? fun it => isS (c1 it) n with
  | none => exact absurd hs (List.find?_eq_none.mp e a ha)
  | some b =>
    obtain ⟨i, hi⟩ := List.mem_iff_getElem?.mp ha
    obtain ⟨j, hj⟩ := List.mem_iff_getElem?.mp (List.mem_of_find?_eq_some e)
    have : i = j := hn i j a b n hi hj hs (List.find?_some (p := fun it => isS (c1 it) n) e)
    subst this
    rw [hi] at hj
    cases hj; rfl
theorem find_none {xs : List D} {n : Str} (h : ∀ a ∈ xs, isS (c1 a) n = false) : findD xs n = .non := by
  unfold findD
  rw [List.find?_eq_none.mpr fun a ha => by rw [h a ha]; decide]
theorem tfind_eq {xs : List D} (hi : ∀ it ∈ xs, Itm it) (hn : Nod xs) (n : Str) : itemOf xs "table" n = lfind xs n := by
  unfold itemOf lfind
  rcases find_itm (n := n) hi with h | ⟨h1, h2, h3⟩
  · rw [h]
    symm
    refine find_none fun a ha => ?_
    have ha' := (List.mem_filter.mp ha).1
    cases e : isS (c1 a) n
    · rfl
    · rw [find_uniq hn ha' e] at h
      rw [h] at e; cases e
  · generalize findD xs n = o at h1 h2 h3
    have e0 : ∀ (q : D), Itm q → (match q with | .non => D.non | it => if isS (c0 it) "table" then it else .non) = if isS (c0 q) "table" then q else .non := fun q hq => by cases hq <;> rfl
    rw [e0 o h2]
    cases hk : isS (c0 o) "table"
    · rw [if_neg (by decide)]
      symm
      refine find_none fun a ha => ?_
      obtain ⟨ha1, ha2⟩ := List.mem_filter.mp ha
      cases e : isS (c1 a) n
      · rfl
      · obtain ⟨i, qi⟩ := List.mem_iff_getElem?.mp ha1
        obtain ⟨j, qj⟩ := List.mem_iff_getElem?.mp h1
        have := hn i j a o n qi qj e h3
        subst this
        rw [qi] at qj
        have ha2' : isS (c0 a) "table" = true := ha2
        rw [Option.some.inj qj, hk] at ha2'
        cases ha2'
    · rw [if_pos rfl]
      unfold findD
      cases e : (ofKind xs "table").find? fun it => isS (c1 it) n with
      | none => exact absurd h3 (List.find?_eq_none.mp e o (List.mem_filter.mpr ⟨h1, hk⟩))
      | some b =>
        have hb := (List.mem_filter.mp (List.mem_of_find?_eq_some e)).1
        obtain ⟨i, qi⟩ := List.mem_iff_getElem?.mp hb
        obtain ⟨j, qj⟩ := List.mem_iff_getElem?.mp h1
        have := hn i j b o n qi qj (List.find?_some (p := fun it => isS (c1 it) n) e) h3
        subst this
        rw [qi] at qj
        cases qj; rfl
theorem head_same {f f' : Str → D} (h : ∀ n, f n = f' n) (ahead : List D) (it : D) : headB f ahead it = headB f' ahead it := by
  have : f = f' := funext h
  rw [this]
theorem find_cons (it : D) (r : List D) (n : Str) : findD (it :: r) n = if isS (c1 it) n then it else findD r n := by
  unfold findD
  rw [List.find?_cons]
  cases e : isS (c1 it) n <;> rfl
theorem flt_eq (p : D → Bool) : ∀ xs : List D, xs.filterMap (fun it => if p it then some it else none) = xs.filter p
  | [] => rfl
  | x :: xs => by
    rw [List.filterMap_cons, List.filter_cons]
    cases e : p x
    · exact flt_eq p xs
    · show x :: _ = _
      rw [flt_eq p xs]; rfl
theorem item_tab {xs : List D} {n : Str} (h : ∀ it ∈ xs, Itm it) : itemOf xs "table" n = .non ∨ ((itemOf xs "table" n) ∈ xs ∧ Itm (itemOf xs "table" n) ∧ isS (c0 (itemOf xs "table" n)) "table" = true) := by
  unfold itemOf
  rcases find_itm (n := n) h with e | ⟨h1, h2, h3⟩
  · rw [e]; exact .inl rfl
  · have e0 : ∀ (q : D), Itm q → (match q with | .non => D.non | it => if isS (c0 it) "table" then it else .non) = if isS (c0 q) "table" then q else .non := fun q hq => by cases hq <;> rfl
    rw [e0 _ h2]
    cases hk : isS (c0 (findD xs n)) "table"
    · exact .inl rfl
    · exact .inr ⟨h1, h2, hk⟩
theorem tab_of {o : D} (h : Itm o) (k : isS (c0 o) "table" = true) : ∃ n cs key rules links, o = .tup [.str "table", .str n, .tup cs, .tup key, .tup rules, .tup links] ∧ 1 ≤ cs.length ∧ cs.length ≤ 6 ∧ cs.all columnB = true ∧ key.length ≤ 3 ∧ (∀ w ∈ key, ∃ x, w = .str x) ∧ (∀ w ∈ key, memS w (cs.map c0) = true) ∧ links.length ≤ 1000 ∧ ∀ l ∈ links, linkB (cs.map c0) l = true := by
  cases h with
  | table n cs key rules links h1 h6 hc kl ks km ll hl => exact ⟨n, cs, key, rules, links, rfl, h1, h6, hc, kl, ks, km, ll, hl⟩
  | index n t ws wl hs =>
    have k' : decide (Str.ofString "index" = Str.ofString "table") = true := k
    rw [decide_eq_true_eq, ofStr_eq] at k'
    exact absurd k' (by decide)
  | view n q b =>
    have k' : decide (Str.ofString "view" = Str.ofString "table") = true := k
    rw [decide_eq_true_eq, ofStr_eq] at k'
    exact absurd k' (by decide)
/-- the column at a place -/
def atP (cs : List D) (p : D) : D := match p with
  | .int i => c1 (cs.getD i.toNat .non)
  | _ => .non
theorem atP_place (cs : List D) (w : D) : atP cs (placeV cs w) = kindAt cs w := by
  unfold placeV kindAt
  cases idxS (cs.map c0) w <;> rfl
theorem map_at (cs ws : List D) : (ws.map (placeV cs)).map (atP cs) = ws.map (kindAt cs) := by
  rw [List.map_map]
  exact List.map_congr_left fun w _ => atP_place cs w
theorem kinds_str {cs ws : List D} (hc : cs.all columnB = true) (hm : ∀ w ∈ ws, memS w (cs.map c0) = true) : ∀ d ∈ ws.map (kindAt cs), ∃ x, d = .str x := fun d hd => by
  obtain ⟨w, hw, rfl⟩ := List.mem_map.mp hd
  obtain ⟨i, x, _, _, e, _⟩ := kind_str hc (hm w hw)
  exact ⟨x, e⟩
/-- None among places -/
theorem non_in (cs ws : List D) : memD .non (ws.map (placeV cs)) = some (!ws.all fun w => memS w (cs.map c0)) := by
  unfold memD
  have h1 : D.pls (ws.map (placeV cs)) = true := pls_all fun d hd => by
    obtain ⟨w, _, rfl⟩ := List.mem_map.mp hd
    unfold placeV
    cases idxS (cs.map c0) w <;> rfl
  rw [h1]
  show (if true && true && decide (min (PyData.depthAll (D.pys (ws.map (placeV cs)))) 0 ≤ 60) then _ else _) = _
  rw [Nat.min_zero, decide_eq_true (by omega), if_pos (by rfl), pys_map]
  congr 1
  induction ws with
  | nil => rfl
  | cons w ws ih =>
    have ih' := ih (pls_all fun d hd => by
      obtain ⟨w, _, rfl⟩ := List.mem_map.mp hd
      unfold placeV
      cases idxS (cs.map c0) w <;> rfl)
    rw [List.map_cons, List.map_cons, List.any_cons, List.all_cons, ih', Bool.not_and]
    congr 1
    rw [← idx_mem]
    unfold placeV
    cases idxS (cs.map c0) w <;> rfl
theorem nonI (d : D) : D.py .non = .none := rfl
theorem tag_yes (w : Str) (r : List D) : isS (c0 (.tup (.str w :: r))) w = true := by
  show decide (w = w) = true
  exact decide_eq_true rfl
theorem tag_no {w w' : Str} (h : (w = w') = False) (r : List D) : isS (c0 (.tup (.str w :: r))) w' = false := by
  show decide (w = w') = false
  exact decide_eq_false (by rw [h]; exact not_false)
theorem flt_find {l : List D} {n : Str} (hi : ∀ it ∈ l, Itm it) : ((l.filter fun it => isS (c1 it) n) = [] ∧ findD l n = .non) ∨ ∃ r, (l.filter fun it => isS (c1 it) n) = findD l n :: r ∧ findD l n ∈ l := by
  unfold findD
  have hh := List.head?_filter (p := fun it => isS (c1 it) n) (l := l)
  cases e : l.find? fun it => isS (c1 it) n with
  | none =>
    left
    rw [e] at hh
    exact ⟨List.head?_eq_none_iff.mp hh, rfl⟩
  | some it =>
    right
    rw [e] at hh
    obtain ⟨r, hr⟩ := List.head?_eq_some_iff.mp hh
    exact ⟨r, hr, List.mem_of_find?_eq_some e⟩
theorem mem_find {xs : List D} (h : ∀ it ∈ xs, Itm it) (n : Str) : memS (.str n) (xs.map c1) = match findD xs n with | .non => false | _ => true := by
  unfold memS
  rw [List.any_map]
  have e0 : xs.any ((fun y => PyData.eqv y.py (D.str n).py) ∘ c1) = xs.any fun it => isS (c1 it) n := by
    have : ∀ l : List D, (∀ it ∈ l, Itm it) → l.any ((fun y => PyData.eqv y.py (D.str n).py) ∘ c1) = l.any fun it => isS (c1 it) n := by
      intro l
      induction l with
      | nil => intro _; rfl
      | cons it l ih =>
        intro hl
        rw [List.any_cons, List.any_cons, ih fun x hx => hl x (by simp [hx])]
        congr 1
        obtain ⟨w, m, r, rfl⟩ := itm_c0 (hl it (by simp))
        exact eqv_str m n
    exact this xs h
  rw [e0]
  unfold findD
  cases e : xs.find? fun it => isS (c1 it) n with
  | none =>
    have := List.find?_eq_none.mp e
    show _ = false
    rw [List.any_eq_false]
    exact this
  | some it =>
    have h1 := List.find?_some (p := fun it => isS (c1 it) n) e
    have h2 := List.mem_of_find?_eq_some e
    have h3 := h it h2
    have e9 : ∀ q : D, Itm q → (match q with | .non => false | _ => true) = true := fun q hq => by cases hq <;> rfl
    show _ = (match it with | .non => false | _ => true)
    rw [e9 it h3, List.any_eq_true]
    exact ⟨it, h2, h1⟩
theorem names_str {xs : List D} (h : ∀ it ∈ xs, Itm it) : ∀ d ∈ xs.map c1, ∃ x, d = .str x := fun d hd => by
  obtain ⟨it, hit, rfl⟩ := List.mem_map.mp hd
  obtain ⟨w, m, r, rfl⟩ := itm_c0 (h it hit)
  exact ⟨m, rfl⟩
theorem kind_itm {xs : List D} (h : ∀ it ∈ xs, Itm it) (k : Str) : ∀ it ∈ ofKind xs k, Itm it := fun it hit => h it (List.mem_filter.mp hit).1
theorem kind_len (xs : List D) (k : Str) : (ofKind xs k).length ≤ xs.length := List.length_filter_le _ _
theorem lfind_tab {xs : List D} {n : Str} (h : ∀ it ∈ xs, Itm it) (e : findD (ofKind xs "table") n ∈ ofKind xs "table") : Itm (lfind xs n) ∧ isS (c0 (lfind xs n)) "table" = true := ⟨h _ (List.mem_filter.mp e).1, (List.mem_filter.mp e).2⟩
theorem own_only {xs : List D} {n t : Str} {it : D} (hi : ∀ it ∈ xs, Itm it) (hn : findD xs n = .non) (hc : c1 it = .str n) : ((ofKind xs "table" ++ [it]).filter fun o => isS (c1 o) t) = if decide (n = t) then [it] else (ofKind xs "table").filter fun o => isS (c1 o) t := by
  have e1 : isS (c1 it) t = decide (n = t) := by rw [hc]; rfl
  rw [List.filter_append]
  by_cases h : n = t
  · subst h
    rw [decide_eq_true rfl, if_pos rfl]
    have : ((ofKind xs "table").filter fun o => isS (c1 o) n) = [] := by
      rw [List.filter_eq_nil_iff]
      intro a ha hs
      have ha' := (List.mem_filter.mp ha).1
      have := mem_find hi n
      rw [hn] at this
      have h2 : memS (.str n) (xs.map c1) = true := by
        unfold memS
        rw [List.any_eq_true]
        refine ⟨c1 a, List.mem_map.mpr ⟨a, ha', rfl⟩, ?_⟩
        rw [isS_eq.mp hs]
        show PyData.eqv (.str n) (.str n) = true
        rw [eqv_str]; simp
      rw [h2] at this
      cases this
    rw [this, List.nil_append, List.filter_cons, e1, decide_eq_true rfl]; rfl
  · rw [decide_eq_false h, if_neg (by decide), List.filter_cons, e1, decide_eq_false h]
    simp
/-! ### values to be bent -/
mutual
/-- as gd, but a little shorter -/
def gq : D → Bool
  | .non => true
  | .bl _ => true
  | .int _ => true
  | .str x => decide (x.length ≤ 1000)
  | .tup xs => decide (xs.length ≤ 900) && gqs xs
  | .lst xs => decide (xs.length ≤ 900) && gqs xs
  | .dct _ _ => true
  | .rol _ => false
  | .obj _ => false
  | .fn _ => false
def gqs : List D → Bool
  | [] => true
  | x :: xs => gq x && gqs xs
end
theorem gqs_all : ∀ {xs : List D}, gqs xs = true ↔ ∀ x ∈ xs, gq x = true
  | [] => by simp [gqs]
  | x :: xs => by
    rw [gqs, Bool.and_eq_true, gqs_all]
    simp
theorem gq_tup {xs : List D} (h : gq (.tup xs) = true) : xs.length ≤ 900 ∧ ∀ x ∈ xs, gq x = true := by
  rw [gq, Bool.and_eq_true, decide_eq_true_eq] at h
  exact ⟨h.1, gqs_all.mp h.2⟩
theorem gq_mk {xs : List D} (h : xs.length ≤ 900) (k : ∀ x ∈ xs, gq x = true) : gq (.tup xs) = true := by
  rw [gq, Bool.and_eq_true, decide_eq_true_eq]
  exact ⟨h, gqs_all.mpr k⟩
mutual
theorem gq_gd : ∀ d : D, gq d = true → gd d = true
  | .non, _ => rfl
  | .bl _, _ => rfl
  | .int _, _ => rfl
  | .str _, h => h
  | .tup xs, h => by
    rw [gq, Bool.and_eq_true, decide_eq_true_eq] at h
    rw [gd, Bool.and_eq_true, decide_eq_true_eq]
    exact ⟨by omega, gqs_gds xs h.2⟩
  | .lst xs, h => by
    rw [gq, Bool.and_eq_true, decide_eq_true_eq] at h
    rw [gd, Bool.and_eq_true, decide_eq_true_eq]
    exact ⟨by omega, gqs_gds xs h.2⟩
  | .dct _ _, _ => rfl
  | .rol _, h => by cases h
  | .obj _, h => by cases h
  | .fn _, h => by cases h
theorem gqs_gds : ∀ ds : List D, gqs ds = true → gds ds = true
  | [], _ => rfl
  | d :: ds, h => by
    rw [gqs, Bool.and_eq_true] at h
    rw [gds, gq_gd d h.1, gqs_gds ds h.2]; rfl
end
theorem depth_mem {xs : List D} {d : D} (h : d ∈ xs) : d.py.depth ≤ PyData.depthAll (D.pys xs) := by
  induction xs with
  | nil => cases h
  | cons x xs ih =>
    rw [D.pys, PyData.depthAll]
    rcases List.mem_cons.mp h with rfl | h
    · omega
    · have := ih h; omega
theorem depth_item {xs : List D} {d : D} (h : d ∈ xs) : d.py.depth + 1 ≤ (D.tup xs).py.depth := by
  have := depth_mem h
  rw [D.py, PyData.depth]; omega
theorem Dr.noR {n : Nat} {hp : HP} (h : Dr n hp) : hp.all HObj.noR = true := by
  obtain ⟨G, C, l, t, rfl, _⟩ := h
  have hi : ∀ G : List Int, D.noRs (G.map .int) = true := by
    intro G
    induction G with
    | nil => rfl
    | cons x G ih => rw [List.map_cons, D.noRs, ih]; rfl
  show (D.noRs (G.map .int) && ((true && ((D.lst (C.map .int)).noR && true)) && true)) = true
  rw [hi, D.noR, hi]; rfl
end Mw

set_option autoImplicit false
namespace Lw
open PySem PySem.Spec PyProof.Rows L2 Mi
abbrev pg : Program := PySem.Challenge.pw_onelinekept_k02_whole_schemas_judged
def top (i : Nat) : Stmt := pg.main.body.getD i (.Pass ⟨0, 0, 0, 0⟩)
def pt (n : Nat) (ks : List Str) (p : List Nat) : Pat := ⟨n, ks, p⟩
def fe (x : Str) (n : Nat) (p : List Pat) : Str × FI := (x, ⟨n, p⟩)
def fns0 : List (Str × FI) := [fe "is_whole" 0 [pt 1 [] [0]],
  fe "is_number" 1 [pt 3 [] [0, 1, 2]],
  fe "is_bit" 2 [pt 1 [] [0]],
  fe "is_word" 3 [pt 1 [] [0]],
  fe "is_words" 4 [pt 3 [] [0, 1, 2]],
  fe "is_column" 5 [pt 1 [] [0]],
  fe "is_columns" 6 [pt 1 [] [0]],
  fe "is_key" 7 [pt 2 [] [0, 1]],
  fe "is_rules" 8 [pt 1 [] [0]],
  fe "is_links" 9 [pt 2 [] [0, 1]],
  fe "is_table" 10 [pt 1 [] [0]],
  fe "is_index" 11 [pt 1 [] [0]],
  fe "is_view" 12 [pt 1 [] [0]],
  fe "is_item" 13 [pt 1 [] [0]],
  fe "named" 14 [pt 2 [] [0, 1], pt 0 ["name", "schema"] [1, 0]],
  fe "item_of" 15 [pt 3 [] [0, 1, 2]],
  fe "table_of" 16 [pt 2 [] [0, 1]],
  fe "index_of" 17 [],
  fe "view_of" 18 [],
  fe "items_of" 19 [pt 2 [] [0, 1]],
  fe "place_at" 20 [pt 2 [] [0, 1]],
  fe "places_at" 21 [pt 2 [] [0, 1]],
  fe "link_is_right" 22 [pt 3 [] [0, 1, 2]],
  fe "head_is_right" 23 [pt 2 [] [0, 1]],
  fe "is_schema" 24 [pt 1 [] [0], pt 0 ["value"] [0]],
  fe "_law_begun" 25 [pt 1 [] [0]],
  fe "_law_blended" 26 [pt 1 [] [0]],
  fe "_law_draw" 27 [pt 2 [] [0, 1]],
  fe "_law_pick" 28 [pt 2 [] [0, 1]],
  fe "_law_mixed" 29 [pt 2 [] [0, 1]]]
def fns1 : List (Str × FI) := [fe "_law_is_truth" 30 [pt 2 [] [0, 1]],
  fe "_law_is_whole" 31 [pt 1 [] [0]],
  fe "_law_bent" 32 [pt 2 [] [0, 1]],
  fe "_law_odd" 33 [pt 1 [] [0]],
  fe "_law_v_is_word" 34 [pt 1 [] [0]],
  fe "_law_v_columns" 35 [pt 1 [] [0]],
  fe "_law_v_table" 36 [pt 3 [] [0, 1, 2]],
  fe "_law_v_schema" 37 [pt 1 [] [0]],
  fe "_law_k02_words" 38 [pt 3 [] [0, 1, 2]],
  fe "_law_k02_table" 39 [pt 1 [] [0]],
  fe "_law_k02_item" 40 [pt 1 [] [0]],
  fe "_law_k02_kinds" 41 [pt 2 [] [0, 1]],
  fe "_law_k02_refers" 42 [pt 2 [] [0, 1]],
  fe "_law_k02_is" 43 [pt 1 [] [0]],
  fe "law" 44 []]
def fns : List (Str × FI) := fns0 ++ fns1
def cs : List Cf := [.str "LETTERS" "abcdefghijklmnopqrstuvwxyz", .str "FIGURES" "0123456789", .int "MOST_WORD" (12), .int "MOST_COLUMNS" (6), .int "MOST_KEY" (3), .int "MOST_TABLES" (12), .int "MOST_ITEMS" (30), .tup "KINDS" ["number", "text"]]
def gls : List (Str × Nat) := glsOf cs 0
def gl : List D := cs.map Cf.d
theorem gq0 : gl[0]? = some (.str "abcdefghijklmnopqrstuvwxyz") := by kernel_rfl
theorem gq1 : gl[1]? = some (.str "0123456789") := by kernel_rfl
theorem gq2 : gl[2]? = some (.int 12) := by kernel_rfl
theorem gq3 : gl[3]? = some (.int 6) := by kernel_rfl
theorem gq4 : gl[4]? = some (.int 3) := by kernel_rfl
theorem gq5 : gl[5]? = some (.int 12) := by kernel_rfl
theorem gq6 : gl[6]? = some (.int 30) := by kernel_rfl
theorem gq7 : gl[7]? = some (.tup [.str "number", .str "text"]) := by kernel_rfl
def blt : List Str := ["len", "abs", "int", "str", "tuple", "list", "all", "repr", "min", "range", "enumerate", "isinstance", "bool", "set"]
def n_is_whole : Nat := 0
def n_is_number : Nat := 1
def n_is_bit : Nat := 2
def n_is_word : Nat := 3
def n_is_words : Nat := 4
def n_is_column : Nat := 5
def n_is_columns : Nat := 6
def n_is_key : Nat := 7
def n_is_rules : Nat := 8
def n_is_links : Nat := 9
def n_is_table : Nat := 10
def n_is_index : Nat := 11
def n_is_view : Nat := 12
def n_is_item : Nat := 13
def n_named : Nat := 14
def n_item_of : Nat := 15
def n_table_of : Nat := 16
def n_index_of : Nat := 17
def n_view_of : Nat := 18
def n_items_of : Nat := 19
def n_place_at : Nat := 20
def n_places_at : Nat := 21
def n_link_is_right : Nat := 22
def n_head_is_right : Nat := 23
def n_is_schema : Nat := 24
def n__law_begun : Nat := 25
def n__law_blended : Nat := 26
def n__law_draw : Nat := 27
def n__law_pick : Nat := 28
def n__law_mixed : Nat := 29
def n__law_is_truth : Nat := 30
def n__law_is_whole : Nat := 31
def n__law_bent : Nat := 32
def n__law_odd : Nat := 33
def n__law_v_is_word : Nat := 34
def n__law_v_columns : Nat := 35
def n__law_v_table : Nat := 36
def n__law_v_schema : Nat := 37
def n__law_k02_words : Nat := 38
def n__law_k02_table : Nat := 39
def n__law_k02_item : Nat := 40
def n__law_k02_kinds : Nat := 41
def n__law_k02_refers : Nat := 42
def n__law_k02_is : Nat := 43
def n_law : Nat := 44
def b_is_whole : S := (.ret (.andv (.isi (.var 0) .int) (.notv (.isi (.var 0) .bool))))
def b_is_number : S := (.ret (.andv (.callk n_is_whole [0] (.cons (.var 0) .nil)) (.chain .le .le (.var 1) (.var 0) (.var 2))))
def b_is_bit : S := (.ret (.callk n_is_number [0, 1, 2] (.cons (.var 0) (.cons (.const (.int 0)) (.cons (.const (.int 1)) .nil)))))
def b_is_word : S := (.seq (.ite (.orv (.notv (.isi (.var 0) .str)) (.orv (.op2 .eq (.peek 0) (.const (.str ""))) (.orv (.op2 .gt (.bi .len (.cons (.peek 0) .nil)) (.glob 2)) (.op2 .notin (.sub (.peek 0) (.const (.int 0))) (.glob 0)))))
  (.ret (.const (.bl false)))
  .skip)
  (.ret (.bi .all (.cons (.comp (.op2 .in_ (.peek 1) (.op2 .add (.op2 .add (.glob 0) (.glob 1)) (.const (.str "_")))) (.one 1) (.sSeq (.var 0)) .nil) .nil))))
def b_is_words : S := (.seq (.ite (.orv (.notv (.isi (.var 0) .tuple)) (.notv (.chain .le .le (.var 1) (.bi .len (.cons (.peek 0) .nil)) (.var 2))))
  (.ret (.const (.bl false)))
  .skip)
  (.ret (.andv (.bi .all (.cons (.comp (.callk n_is_word [0] (.cons (.var 3) .nil)) (.one 3) (.sSeq (.var 0)) .nil) .nil)) (.op2 .eq (.bi .setlen (.cons (.peek 0) .nil)) (.bi .len (.cons (.peek 0) .nil))))))
def b_is_column : S := (.seq (.ite (.orv (.notv (.isi (.var 0) .tuple)) (.orv (.op2 .ne (.bi .len (.cons (.peek 0) .nil)) (.const (.int 3))) (.notv (.callk n_is_word [0] (.cons (.sub (.peek 0) (.const (.int 0))) .nil)))))
  (.ret (.const (.bl false)))
  .skip)
  (.ret (.andv (.isi (.sub (.peek 0) (.const (.int 1))) .str) (.andv (.op2 .in_ (.sub (.peek 0) (.const (.int 1))) (.glob 7)) (.callk n_is_bit [0] (.cons (.sub (.peek 0) (.const (.int 2))) .nil))))))
def b_is_columns : S := (.seq (.ite (.orv (.notv (.isi (.var 0) .tuple)) (.notv (.chain .le .le (.const (.int 1)) (.bi .len (.cons (.peek 0) .nil)) (.glob 3))))
  (.ret (.const (.bl false)))
  .skip)
  (.ret (.andv (.bi .all (.cons (.comp (.callk n_is_column [0] (.cons (.var 1) .nil)) (.one 1) (.sSeq (.var 0)) .nil) .nil)) (.op2 .eq (.bi .setlen (.cons (.comp (.sub (.peek 2) (.const (.int 0))) (.one 2) (.sSeq (.var 0)) .nil) .nil)) (.bi .len (.cons (.peek 0) .nil))))))
def b_is_key : S := (.seq (.ite (.notv (.callk n_is_words [0, 1, 2] (.cons (.var 1) (.cons (.const (.int 1)) (.cons (.glob 4) .nil)))))
  (.ret (.const (.bl false)))
  .skip)
  (.seq (.set (.one 2) (.comp (.sub (.peek 3) (.const (.int 0))) (.one 3) (.sSeq (.var 0)) (.op2 .eq (.sub (.peek 3) (.const (.int 2))) (.const (.int 0)))))
  (.ret (.bi .all (.cons (.comp (.op2 .in_ (.peek 4) (.peek 2)) (.one 4) (.sSeq (.var 1)) .nil) .nil)))))
def b_is_rules : S := (.seq (.ite (.notv (.isi (.var 0) .tuple))
  (.ret (.const (.bl false)))
  .skip)
  (.seq (.for_ (.one 1) (.sSeq (.var 0))
  (.ite (.orv (.notv (.isi (.var 1) .tuple)) (.orv (.op2 .ne (.bi .len (.cons (.peek 1) .nil)) (.const (.int 2))) (.notv (.callk n_is_word [0] (.cons (.sub (.peek 1) (.const (.int 0))) .nil)))))
  (.ret (.const (.bl false)))
  .skip))
  (.ret (.op2 .eq (.bi .setlen (.cons (.comp (.sub (.peek 1) (.const (.int 0))) (.one 1) (.sSeq (.var 0)) .nil) .nil)) (.bi .len (.cons (.peek 0) .nil))))))
def b_is_links : S := (.seq (.ite (.notv (.isi (.var 1) .tuple))
  (.ret (.const (.bl false)))
  .skip)
  (.seq (.set (.one 2) (.comp (.sub (.peek 3) (.const (.int 0))) (.one 3) (.sSeq (.var 0)) .nil))
  (.seq (.for_ (.one 4) (.sSeq (.var 1))
  (.seq (.ite (.orv (.notv (.isi (.var 4) .tuple)) (.orv (.op2 .ne (.bi .len (.cons (.peek 4) .nil)) (.const (.int 2))) (.orv (.notv (.callk n_is_words [0, 1, 2] (.cons (.sub (.peek 4) (.const (.int 0))) (.cons (.const (.int 1)) (.cons (.glob 4) .nil))))) (.notv (.callk n_is_word [0] (.cons (.sub (.peek 4) (.const (.int 1))) .nil))))))
  (.ret (.const (.bl false)))
  .skip)
  (.ite (.notv (.bi .all (.cons (.comp (.op2 .in_ (.peek 5) (.peek 2)) (.one 5) (.sSeq (.sub (.peek 4) (.const (.int 0)))) .nil) .nil)))
  (.ret (.const (.bl false)))
  .skip)))
  (.ret (.const (.bl true))))))
def b_is_table : S := (.seq (.ite (.orv (.notv (.isi (.var 0) .tuple)) (.orv (.op2 .ne (.bi .len (.cons (.peek 0) .nil)) (.const (.int 6))) (.orv (.notv (.callk n_is_word [0] (.cons (.sub (.peek 0) (.const (.int 1))) .nil))) (.notv (.callk n_is_columns [0] (.cons (.sub (.peek 0) (.const (.int 2))) .nil))))))
  (.ret (.const (.bl false)))
  .skip)
  (.seq (.ite (.notv (.callk n_is_key [0, 1] (.cons (.sub (.peek 0) (.const (.int 2))) (.cons (.sub (.peek 0) (.const (.int 3))) .nil))))
  (.ret (.const (.bl false)))
  .skip)
  (.ret (.andv (.callk n_is_rules [0] (.cons (.sub (.peek 0) (.const (.int 4))) .nil)) (.callk n_is_links [0, 1] (.cons (.sub (.peek 0) (.const (.int 2))) (.cons (.sub (.peek 0) (.const (.int 5))) .nil)))))))
def b_is_index : S := (.ret (.andv (.op2 .eq (.bi .len (.cons (.peek 0) .nil)) (.const (.int 4))) (.andv (.callk n_is_word [0] (.cons (.sub (.peek 0) (.const (.int 1))) .nil)) (.andv (.callk n_is_word [0] (.cons (.sub (.peek 0) (.const (.int 2))) .nil)) (.callk n_is_words [0, 1, 2] (.cons (.sub (.peek 0) (.const (.int 3))) (.cons (.const (.int 1)) (.cons (.glob 4) .nil))))))))
def b_is_view : S := (.ret (.andv (.op2 .eq (.bi .len (.cons (.peek 0) .nil)) (.const (.int 4))) (.andv (.callk n_is_word [0] (.cons (.sub (.peek 0) (.const (.int 1))) .nil)) (.callk n_is_bit [0] (.cons (.sub (.peek 0) (.const (.int 3))) .nil)))))
def b_is_item : S := (.seq (.ite (.orv (.notv (.isi (.var 0) .tuple)) (.orv (.op2 .eq (.peek 0) (.tup .nil)) (.notv (.isi (.sub (.peek 0) (.const (.int 0))) .str))))
  (.ret (.const (.bl false)))
  .skip)
  (.seq (.ite (.op2 .eq (.sub (.peek 0) (.const (.int 0))) (.const (.str "table")))
  (.ret (.callk n_is_table [0] (.cons (.var 0) .nil)))
  .skip)
  (.seq (.ite (.op2 .eq (.sub (.peek 0) (.const (.int 0))) (.const (.str "index")))
  (.ret (.callk n_is_index [0] (.cons (.var 0) .nil)))
  .skip)
  (.ret (.andv (.op2 .eq (.sub (.peek 0) (.const (.int 0))) (.const (.str "view"))) (.callk n_is_view [0] (.cons (.var 0) .nil)))))))
def b_named : S := (.seq (.for_ (.one 2) (.sSeq (.var 0))
  (.ite (.op2 .eq (.sub (.peek 2) (.const (.int 1))) (.peek 1))
  (.ret (.var 2))
  .skip))
  (.ret (.const .non)))
def b_item_of : S := (.seq (.set (.one 3) (.callk n_named [0, 1] (.cons (.var 0) (.cons (.var 2) .nil))))
  (.ret (.ifx (.andv (.op2 .isnot (.peek 3) (.const .non)) (.op2 .eq (.sub (.peek 3) (.const (.int 0))) (.peek 1))) (.var 3) (.const .non))))
def b_table_of : S := (.ret (.callk n_item_of [0, 1, 2] (.cons (.var 0) (.cons (.const (.str "table")) (.cons (.var 1) .nil)))))
def b_index_of : S := (.ret (.callk n_item_of [0, 1, 2] (.cons (.var 0) (.cons (.const (.str "index")) (.cons (.var 1) .nil)))))
def b_view_of : S := (.ret (.callk n_item_of [0, 1, 2] (.cons (.var 0) (.cons (.const (.str "view")) (.cons (.var 1) .nil)))))
def b_items_of : S := (.ret (.bi .tuple (.cons (.comp (.var 2) (.one 2) (.sSeq (.var 0)) (.op2 .eq (.sub (.peek 2) (.const (.int 0))) (.peek 1))) .nil)))
def b_place_at : S := (.seq (.set (.one 2) (.comp (.sub (.peek 3) (.const (.int 0))) (.one 3) (.sSeq (.sub (.peek 0) (.const (.int 2)))) .nil))
  (.ret (.ifx (.op2 .in_ (.peek 1) (.peek 2)) (.meth .index (.var 2) (.cons (.var 1) .nil)) (.const .non))))
def b_places_at : S := (.ret (.bi .tuple (.cons (.comp (.callk n_place_at [0, 1] (.cons (.var 0) (.cons (.var 2) .nil))) (.one 2) (.sSeq (.var 1)) .nil) .nil)))
def b_link_is_right : S := (.seq (.set (.one 3) (.ifx (.op2 .eq (.sub (.peek 2) (.const (.int 1))) (.sub (.peek 1) (.const (.int 1)))) (.var 1) (.callk n_table_of [0, 1] (.cons (.var 0) (.cons (.sub (.peek 2) (.const (.int 1))) .nil)))))
  (.seq (.ite (.orv (.op2 .is_ (.peek 3) (.const .non)) (.op2 .ne (.bi .len (.cons (.sub (.peek 2) (.const (.int 0))) .nil)) (.bi .len (.cons (.sub (.peek 3) (.const (.int 3))) .nil))))
  (.ret (.const (.bl false)))
  .skip)
  (.seq (.set (.one 4) (.comp (.sub (.sub (.sub (.peek 1) (.const (.int 2))) (.peek 5)) (.const (.int 1))) (.one 5) (.sSeq (.callk n_places_at [0, 1] (.cons (.var 1) (.cons (.sub (.peek 2) (.const (.int 0))) .nil)))) .nil))
  (.ret (.op2 .eq (.peek 4) (.comp (.sub (.sub (.sub (.peek 3) (.const (.int 2))) (.peek 5)) (.const (.int 1))) (.one 5) (.sSeq (.callk n_places_at [0, 1] (.cons (.var 3) (.cons (.sub (.peek 3) (.const (.int 3))) .nil)))) .nil))))))
def b_head_is_right : S := (.seq (.ite (.op2 .isnot (.callk n_named [0, 1] (.cons (.var 0) (.cons (.sub (.peek 1) (.const (.int 1))) .nil))) (.const .non))
  (.ret (.const (.bl false)))
  .skip)
  (.seq (.ite (.op2 .eq (.sub (.peek 1) (.const (.int 0))) (.const (.str "table")))
  (.seq (.set (.one 2) (.bi .len (.cons (.callk n_items_of [0, 1] (.cons (.var 0) (.cons (.const (.str "table")) .nil))) .nil)))
  (.ret (.andv (.op2 .lt (.peek 2) (.glob 5)) (.bi .all (.cons (.comp (.callk n_link_is_right [0, 1, 2] (.cons (.var 0) (.cons (.var 1) (.cons (.var 3) .nil)))) (.one 3) (.sSeq (.sub (.peek 1) (.const (.int 5)))) .nil) .nil)))))
  .skip)
  (.seq (.ite (.op2 .eq (.sub (.peek 1) (.const (.int 0))) (.const (.str "index")))
  (.seq (.set (.one 4) (.callk n_table_of [0, 1] (.cons (.var 0) (.cons (.sub (.peek 1) (.const (.int 2))) .nil))))
  (.ret (.andv (.op2 .isnot (.peek 4) (.const .non)) (.op2 .notin (.const .non) (.callk n_places_at [0, 1] (.cons (.var 4) (.cons (.sub (.peek 1) (.const (.int 3))) .nil)))))))
  .skip)
  (.ret (.const (.bl true))))))
def b_is_schema : S := (.seq (.ite (.orv (.notv (.isi (.var 0) .tuple)) (.orv (.op2 .gt (.bi .len (.cons (.peek 0) .nil)) (.glob 6)) (.notv (.bi .all (.cons (.comp (.callk n_is_item [0] (.cons (.var 1) .nil)) (.one 1) (.sSeq (.var 0)) .nil) .nil)))))
  (.ret (.const (.bl false)))
  .skip)
  (.ret (.bi .all (.cons (.comp (.callk n_head_is_right [0, 1] (.cons (.slc (.peek 0) .nil (.var 2)) (.cons (.var 1) .nil))) (.many [2, 1]) (.sEnum (.var 0)) .nil) .nil))))
def b__law_begun : S := (.seq (.setObj 1 (.comp (.op2 .sub (.bi .abs (.cons (.peek 2) .nil)) (.op2 .pow (.const (.int 10)) (.const (.int 18)))) (.one 2) (.sSeq (.var 0)) (.op2 .ge (.bi .abs (.cons (.peek 2) .nil)) (.op2 .pow (.const (.int 10)) (.const (.int 18))))))
  (.ret (.odict ["great", "cells", "left", "turn"] (.cons (.var 1) (.cons (.comp (.bi .abs (.cons (.peek 2) .nil)) (.one 2) (.sSeq (.var 0)) .nil) (.cons (.const (.int 0)) (.cons (.const (.int 0)) .nil)))))))
def b__law_blended : S := (.seq (.par 1 false (.op2 .add (.oget (.var 0) "turn") (.const (.int 1))) 2 false (.const (.int 0)))
  (.seq (.oset (.var 0) "turn" (.var 1))
  (.seq (.for_ (.one 3) (.sSeq (.lst (.cons (.const (.int 2147481949)) (.cons (.const (.int 2147481937)) (.cons (.const (.int 2147481907)) .nil)))))
  (.seq (.set (.one 4) (.op2 .add (.op2 .mul (.const (.int 41491)) (.peek 1)) (.op2 .fdiv (.peek 3) (.const (.int 71)))))
  (.seq (.for_ (.one 5) (.sSeq (.oget (.var 0) "cells"))
  (.set (.one 4) (.op2 .mod (.bi .int (.cons (.op2 .add (.op2 .add (.op2 .mul (.peek 4) (.const (.int 68909))) (.peek 5)) (.peek 1)) .nil)) (.peek 3))))
  (.set (.one 2) (.op2 .add (.op2 .mul (.peek 2) (.const (.int 2147483647))) (.op2 .mod (.bi .int (.cons (.op2 .pow (.peek 4) (.const (.int 5))) .nil)) (.peek 3)))))))
  (.ret (.var 2)))))
def b__law_draw : S := (.seq (.ite (.op2 .eq (.oget (.var 0) "left") (.const (.int 0)))
  (.oset (.var 0) "left" (.ifx (.op2 .ne (.oget (.var 0) "great") (.lst .nil)) (.opop0 (.oget (.var 0) "great")) (.callk n__law_blended [0] (.cons (.var 0) .nil))))
  .skip)
  (.seq (.set (.one 2) (.op2 .mod (.bi .int (.cons (.oget (.var 0) "left") .nil)) (.peek 1)))
  (.seq (.oset (.var 0) "left" (.op2 .fdiv (.oget (.var 0) "left") (.peek 1)))
  (.ret (.var 2)))))
def b__law_pick : S := (.ret (.sub (.peek 1) (.callk n__law_draw [0, 1] (.cons (.var 0) (.cons (.bi .len (.cons (.peek 1) .nil)) .nil)))))
def b__law_mixed : S := (.seq (.par 2 true (.bi .list (.cons (.peek 1) .nil)) 3 true (.lst .nil))
  (.seq (.while_ (.op2 .ne (.peek 2) (.lst .nil))
  (.expr (.mut .append 3 (.cons (.mut .popAt 2 (.cons (.callk n__law_draw [0, 1] (.cons (.var 0) (.cons (.bi .len (.cons (.peek 2) .nil)) .nil))) .nil)) .nil))))
  (.ret (.var 3))))
def b__law_is_truth : S := (.ret (.ifx (.var 1) (.op2 .is_ (.peek 0) (.const (.bl true))) (.op2 .is_ (.peek 0) (.const (.bl false)))))
def b__law_is_whole : S := (.ret (.andv (.isi (.var 0) .int) (.notv (.isi (.var 0) .bool))))
def b__law_bent : S := (.seq (.ite (.orv (.notv (.isi (.var 1) .tuple)) (.orv (.op2 .eq (.peek 1) (.tup .nil)) (.op2 .eq (.callk n__law_draw [0, 1] (.cons (.var 0) (.cons (.const (.int 9)) .nil))) (.const (.int 0)))))
  (.ret (.callk n__law_odd [0] (.cons (.var 0) .nil)))
  .skip)
  (.seq (.par 2 false (.callk n__law_draw [0, 1] (.cons (.var 0) (.cons (.bi .len (.cons (.peek 1) .nil)) .nil))) 3 false (.callk n__law_draw [0, 1] (.cons (.var 0) (.cons (.const (.int 8)) .nil))))
  (.seq (.ite (.op2 .lt (.peek 3) (.const (.int 4)))
  (.ret (.op2 .add (.op2 .add (.slc (.peek 1) .nil (.var 2)) (.tup (.cons (.callk n__law_bent [0, 1] (.cons (.var 0) (.cons (.sub (.peek 1) (.peek 2)) .nil))) .nil))) (.slc (.peek 1) (.op2 .add (.peek 2) (.const (.int 1))) .nil)))
  .skip)
  (.seq (.ite (.op2 .eq (.peek 3) (.const (.int 4)))
  (.ret (.op2 .add (.slc (.peek 1) .nil (.var 2)) (.slc (.peek 1) (.op2 .add (.peek 2) (.const (.int 1))) .nil)))
  .skip)
  (.seq (.ite (.op2 .eq (.peek 3) (.const (.int 5)))
  (.ret (.op2 .add (.op2 .add (.slc (.peek 1) .nil (.var 2)) (.slc (.peek 1) (.var 2) (.op2 .add (.peek 2) (.const (.int 1))))) (.slc (.peek 1) (.var 2) .nil)))
  .skip)
  (.seq (.ite (.andv (.op2 .eq (.peek 3) (.const (.int 6))) (.callk n__law_is_whole [0] (.cons (.sub (.peek 1) (.peek 2)) .nil)))
  (.ret (.op2 .add (.op2 .add (.slc (.peek 1) .nil (.var 2)) (.tup (.cons (.op2 .add (.sub (.peek 1) (.peek 2)) (.callk n__law_pick [0, 1] (.cons (.var 0) (.cons (.lst (.cons (.const (.int 1)) (.cons (.op1 .neg (.const (.int 1))) .nil))) .nil)))) .nil))) (.slc (.peek 1) (.op2 .add (.peek 2) (.const (.int 1))) .nil)))
  .skip)
  (.ret (.ifx (.op2 .eq (.peek 3) (.const (.int 7))) (.rev (.peek 1)) (.bi .list (.cons (.peek 1) .nil))))))))))
def b__law_odd : S := (.ret (.callk n__law_pick [0, 1] (.cons (.var 0) (.cons (.lst (.cons (.const .non) (.cons (.const (.int 0)) (.cons (.op1 .neg (.const (.int 1))) (.cons (.const (.bl true)) (.cons (.const (.str "1")) (.cons (.const (.str "")) (.cons (.tup .nil) (.cons (.lst .nil) (.cons .edct (.cons (.tup (.cons (.const (.int 1)) .nil)) (.cons (.tup (.cons (.tup (.cons (.const (.int 0)) .nil)) .nil)) (.cons (.tup (.cons (.const (.str "a")) .nil)) (.cons (.tup (.cons (.const (.str "a")) (.cons (.const (.str "a")) .nil))) (.cons (.op2 .pow (.const (.int 10)) (.const (.int 18))) .nil))))))))))))))) .nil))))
def b__law_v_is_word : S := (.seq (.ite (.orv (.notv (.isi (.var 0) .str)) (.orv (.op2 .eq (.peek 0) (.const (.str ""))) (.orv (.op2 .gt (.bi .len (.cons (.peek 0) .nil)) (.const (.int 12))) (.op2 .notin (.sub (.peek 0) (.const (.int 0))) (.const (.str "abcdefghijklmnopqrstuvwxyz"))))))
  (.ret (.const (.bl false)))
  .skip)
  (.ret (.op2 .eq (.comp (.const (.int 1)) (.one 1) (.sSeq (.var 0)) (.op2 .notin (.peek 1) (.const (.str "abcdefghijklmnopqrstuvwxyz0123456789_")))) (.lst .nil))))
def b__law_v_columns : S := (.seq (.par 1 false (.callk n__law_mixed [0, 1] (.cons (.var 0) (.cons (.lst (.cons (.const (.str "a")) (.cons (.const (.str "b")) (.cons (.const (.str "k")) (.cons (.const (.str "x1")) (.cons (.const (.str "name_of")) (.cons (.op2 .mul (.const (.str "z")) (.const (.int 12))) .nil))))))) .nil))) 2 true (.lst .nil))
  (.seq (.for_ (.one 3) (.sSeq (.slc (.peek 1) .nil (.op2 .add (.const (.int 1)) (.callk n__law_draw [0, 1] (.cons (.var 0) (.cons (.const (.int 5)) .nil))))))
  (.expr (.mut .append 2 (.cons (.tup (.cons (.var 3) (.cons (.callk n__law_pick [0, 1] (.cons (.var 0) (.cons (.lst (.cons (.const (.str "number")) (.cons (.const (.str "text")) .nil))) .nil))) (.cons (.callk n__law_draw [0, 1] (.cons (.var 0) (.cons (.const (.int 2)) .nil))) .nil)))) .nil))))
  (.seq (.ite (.op2 .eq (.compO (.const (.int 1)) (.one 4) 2 (.op2 .eq (.sub (.peek 4) (.const (.int 2))) (.const (.int 0)))) (.lst .nil))
  (.setIdx 2 (.const (.int 0)) (.op2 .add (.slc (.sub (.peek 2) (.const (.int 0))) .nil (.const (.int 2))) (.tup (.cons (.const (.int 0)) .nil))))
  .skip)
  (.ret (.bi .tuple (.cons (.peek 2) .nil))))))
def b__law_v_table : S := (.seq (.set (.one 3) (.callk n__law_v_columns [0] (.cons (.var 0) .nil)))
  (.seq (.set (.one 4) (.callk n__law_mixed [0, 1] (.cons (.var 0) (.cons (.comp (.sub (.peek 5) (.const (.int 0))) (.one 5) (.sSeq (.var 3)) (.op2 .eq (.sub (.peek 5) (.const (.int 2))) (.const (.int 0)))) .nil))))
  (.seq (.set (.one 6) (.bi .tuple (.cons (.slc (.peek 4) .nil (.op2 .add (.const (.int 1)) (.callk n__law_draw [0, 1] (.cons (.var 0) (.cons (.bi .min2 (.cons (.const (.int 2)) (.cons (.bi .len (.cons (.peek 4) .nil)) .nil))) .nil))))) .nil)))
  (.seq (.set (.one 7) (.ifx (.op2 .eq (.callk n__law_draw [0, 1] (.cons (.var 0) (.cons (.const (.int 2)) .nil))) (.const (.int 0))) (.tup (.cons (.tup (.cons (.const (.str "r")) (.cons (.tup (.cons (.const (.str "equal")) (.cons (.tup (.cons (.const (.str "column")) (.cons (.sub (.sub (.peek 3) (.const (.int 0))) (.const (.int 0))) .nil))) (.cons (.tup (.cons (.const (.str "column")) (.cons (.sub (.sub (.peek 3) (.const (.int 0))) (.const (.int 0))) .nil))) .nil)))) .nil))) .nil)) (.tup .nil)))
  (.seq (.par 8 false (.tup (.cons (.const (.str "table")) (.cons (.var 1) (.cons (.var 3) (.cons (.var 6) (.cons (.var 7) (.cons (.tup .nil) .nil))))))) 9 true (.lst .nil))
  (.seq (.for_ (.one 10) (.sSeq (.op2 .add (.bi .list (.cons (.peek 2) .nil)) (.lst (.cons (.var 8) .nil))))
  (.ite (.andv (.op2 .eq (.sub (.peek 10) (.const (.int 0))) (.const (.str "table"))) (.op2 .eq (.callk n__law_draw [0, 1] (.cons (.var 0) (.cons (.const (.int 2)) .nil))) (.const (.int 0))))
  (.seq (.set (.one 11) (.comp (.sub (.peek 5) (.const (.int 0))) (.one 5) (.sSeq (.sub (.peek 10) (.const (.int 2)))) .nil))
  (.seq (.set (.one 12) (.comp (.sub (.sub (.sub (.peek 10) (.const (.int 2))) (.meth .index (.var 11) (.cons (.var 13) .nil))) (.const (.int 1))) (.one 13) (.sSeq (.sub (.peek 10) (.const (.int 3)))) .nil))
  (.seq (.par 14 true (.lst .nil) 15 true (.bi .list (.cons (.peek 3) .nil)))
  (.seq (.for_ (.one 16) (.sSeq (.var 12))
  (.seq (.set (.one 17) (.compO (.var 5) (.one 5) 15 (.op2 .eq (.sub (.peek 5) (.const (.int 1))) (.peek 16))))
  (.ite (.op2 .ne (.peek 17) (.lst .nil))
  (.seq (.expr (.mut .append 14 (.cons (.sub (.sub (.peek 17) (.const (.int 0))) (.const (.int 0))) .nil)))
  (.expr (.mut .remove 15 (.cons (.sub (.peek 17) (.const (.int 0))) .nil))))
  .skip)))
  (.ite (.op2 .eq (.bi .len (.cons (.peek 14) .nil)) (.bi .len (.cons (.peek 12) .nil)))
  (.expr (.mut .append 9 (.cons (.tup (.cons (.bi .tuple (.cons (.peek 14) .nil)) (.cons (.sub (.peek 10) (.const (.int 1))) .nil))) .nil)))
  .skip)))))
  .skip))
  (.ret (.op2 .add (.slc (.peek 8) .nil (.const (.int 5))) (.tup (.cons (.bi .tuple (.cons (.peek 9) .nil)) .nil))))))))))
def b__law_v_schema : S := (.seq (.setOwn 1 (.lst .nil))
  (.seq (.for_ (.many [2, 3]) (.sEnum (.slc (.callk n__law_mixed [0, 1] (.cons (.var 0) (.cons (.lst (.cons (.const (.str "t")) (.cons (.const (.str "u")) (.cons (.const (.str "w")) (.cons (.const (.str "i1")) (.cons (.const (.str "v1")) (.cons (.const (.str "people")) .nil))))))) .nil))) .nil (.callk n__law_draw [0, 1] (.cons (.var 0) (.cons (.const (.int 5)) .nil)))))
  (.seq (.set (.one 4) (.compO (.var 5) (.one 5) 1 (.op2 .eq (.sub (.peek 5) (.const (.int 0))) (.const (.str "table")))))
  (.seq (.set (.one 6) (.callk n__law_draw [0, 1] (.cons (.var 0) (.cons (.const (.int 4)) .nil))))
  (.ite (.orv (.op2 .lt (.peek 6) (.const (.int 2))) (.op2 .eq (.peek 4) (.lst .nil)))
  (.expr (.mut .append 1 (.cons (.lend 1 (.callk n__law_v_table [0, 1, 2] (.cons (.var 0) (.cons (.var 3) (.cons (.var 1) .nil))))) .nil)))
  (.ite (.op2 .eq (.peek 6) (.const (.int 2)))
  (.seq (.set (.one 7) (.callk n__law_pick [0, 1] (.cons (.var 0) (.cons (.var 4) .nil))))
  (.seq (.set (.one 8) (.callk n__law_mixed [0, 1] (.cons (.var 0) (.cons (.comp (.sub (.peek 9) (.const (.int 0))) (.one 9) (.sSeq (.sub (.peek 7) (.const (.int 2)))) .nil) .nil))))
  (.expr (.mut .append 1 (.cons (.tup (.cons (.const (.str "index")) (.cons (.var 3) (.cons (.sub (.peek 7) (.const (.int 1))) (.cons (.bi .tuple (.cons (.slc (.peek 8) .nil (.op2 .add (.const (.int 1)) (.callk n__law_draw [0, 1] (.cons (.var 0) (.cons (.bi .min2 (.cons (.const (.int 3)) (.cons (.bi .len (.cons (.peek 8) .nil)) .nil))) .nil))))) .nil)) .nil))))) .nil)))))
  (.expr (.mut .append 1 (.cons (.tup (.cons (.const (.str "view")) (.cons (.var 3) (.cons (.tup (.cons (.const (.str "rows")) (.cons (.sub (.callk n__law_pick [0, 1] (.cons (.var 0) (.cons (.var 4) .nil))) (.const (.int 1))) .nil))) (.cons (.callk n__law_draw [0, 1] (.cons (.var 0) (.cons (.const (.int 2)) .nil))) .nil))))) .nil))))))))
  (.ret (.bi .tuple (.cons (.peek 1) .nil)))))
def b__law_k02_words : S := (.seq (.ite (.orv (.notv (.isi (.var 0) .tuple)) (.orv (.notv (.chain .le .le (.var 1) (.bi .len (.cons (.peek 0) .nil)) (.var 2))) (.op2 .ne (.comp (.const (.int 1)) (.one 3) (.sSeq (.var 0)) (.notv (.callk n__law_v_is_word [0] (.cons (.var 3) .nil)))) (.lst .nil))))
  (.ret (.const (.bl false)))
  .skip)
  (.ret (.op2 .eq (.bi .setlen (.cons (.peek 0) .nil)) (.bi .len (.cons (.peek 0) .nil)))))
def b__law_k02_table : S := (.seq (.ite (.orv (.op2 .ne (.bi .len (.cons (.peek 0) .nil)) (.const (.int 6))) (.orv (.notv (.callk n__law_v_is_word [0] (.cons (.sub (.peek 0) (.const (.int 1))) .nil))) (.orv (.notv (.isi (.sub (.peek 0) (.const (.int 2))) .tuple)) (.notv (.chain .le .le (.const (.int 1)) (.bi .len (.cons (.sub (.peek 0) (.const (.int 2))) .nil)) (.const (.int 6)))))))
  (.ret (.const (.bl false)))
  .skip)
  (.seq (.for_ (.one 1) (.sSeq (.sub (.peek 0) (.const (.int 2))))
  (.seq (.ite (.orv (.notv (.isi (.var 1) .tuple)) (.orv (.op2 .ne (.bi .len (.cons (.peek 1) .nil)) (.const (.int 3))) (.orv (.notv (.callk n__law_v_is_word [0] (.cons (.sub (.peek 1) (.const (.int 0))) .nil))) (.notv (.isi (.sub (.peek 1) (.const (.int 1))) .str)))))
  (.ret (.const (.bl false)))
  .skip)
  (.ite (.orv (.op2 .notin (.sub (.peek 1) (.const (.int 1))) (.lst (.cons (.const (.str "number")) (.cons (.const (.str "text")) .nil)))) (.orv (.notv (.callk n__law_is_whole [0] (.cons (.sub (.peek 1) (.const (.int 2))) .nil))) (.op2 .notin (.sub (.peek 1) (.const (.int 2))) (.lst (.cons (.const (.int 0)) (.cons (.const (.int 1)) .nil))))))
  (.ret (.const (.bl false)))
  .skip)))
  (.seq (.set (.one 2) (.comp (.sub (.peek 1) (.const (.int 0))) (.one 1) (.sSeq (.sub (.peek 0) (.const (.int 2)))) .nil))
  (.seq (.ite (.orv (.op2 .ne (.bi .setlen (.cons (.peek 2) .nil)) (.bi .len (.cons (.peek 2) .nil))) (.notv (.callk n__law_k02_words [0, 1, 2] (.cons (.sub (.peek 0) (.const (.int 3))) (.cons (.const (.int 1)) (.cons (.const (.int 3)) .nil))))))
  (.ret (.const (.bl false)))
  .skip)
  (.seq (.ite (.op2 .ne (.comp (.const (.int 1)) (.one 3) (.sSeq (.sub (.peek 0) (.const (.int 3)))) (.op2 .notin (.peek 3) (.comp (.sub (.peek 1) (.const (.int 0))) (.one 1) (.sSeq (.sub (.peek 0) (.const (.int 2)))) (.op2 .eq (.sub (.peek 1) (.const (.int 2))) (.const (.int 0)))))) (.lst .nil))
  (.ret (.const (.bl false)))
  .skip)
  (.seq (.ite (.orv (.notv (.isi (.sub (.peek 0) (.const (.int 4))) .tuple)) (.notv (.isi (.sub (.peek 0) (.const (.int 5))) .tuple)))
  (.ret (.const (.bl false)))
  .skip)
  (.seq (.ite (.op2 .ne (.comp (.const (.int 1)) (.one 4) (.sSeq (.sub (.peek 0) (.const (.int 4)))) (.orv (.notv (.isi (.var 4) .tuple)) (.orv (.op2 .ne (.bi .len (.cons (.peek 4) .nil)) (.const (.int 2))) (.notv (.callk n__law_v_is_word [0] (.cons (.sub (.peek 4) (.const (.int 0))) .nil)))))) (.lst .nil))
  (.ret (.const (.bl false)))
  .skip)
  (.seq (.ite (.op2 .ne (.bi .setlen (.cons (.comp (.sub (.peek 4) (.const (.int 0))) (.one 4) (.sSeq (.sub (.peek 0) (.const (.int 4)))) .nil) .nil)) (.bi .len (.cons (.sub (.peek 0) (.const (.int 4))) .nil)))
  (.ret (.const (.bl false)))
  .skip)
  (.seq (.for_ (.one 5) (.sSeq (.sub (.peek 0) (.const (.int 5))))
  (.seq (.ite (.orv (.notv (.isi (.var 5) .tuple)) (.orv (.op2 .ne (.bi .len (.cons (.peek 5) .nil)) (.const (.int 2))) (.orv (.notv (.callk n__law_k02_words [0, 1, 2] (.cons (.sub (.peek 5) (.const (.int 0))) (.cons (.const (.int 1)) (.cons (.const (.int 3)) .nil))))) (.notv (.callk n__law_v_is_word [0] (.cons (.sub (.peek 5) (.const (.int 1))) .nil))))))
  (.ret (.const (.bl false)))
  .skip)
  (.ite (.op2 .ne (.comp (.const (.int 1)) (.one 3) (.sSeq (.sub (.peek 5) (.const (.int 0)))) (.op2 .notin (.peek 3) (.peek 2))) (.lst .nil))
  (.ret (.const (.bl false)))
  .skip)))
  (.ret (.const (.bl true))))))))))))
def b__law_k02_item : S := (.seq (.ite (.orv (.notv (.isi (.var 0) .tuple)) (.orv (.op2 .eq (.peek 0) (.tup .nil)) (.notv (.isi (.sub (.peek 0) (.const (.int 0))) .str))))
  (.ret (.const (.bl false)))
  .skip)
  (.seq (.ite (.op2 .eq (.sub (.peek 0) (.const (.int 0))) (.const (.str "table")))
  (.ret (.callk n__law_k02_table [0] (.cons (.var 0) .nil)))
  .skip)
  (.seq (.ite (.orv (.op2 .ne (.bi .len (.cons (.peek 0) .nil)) (.const (.int 4))) (.notv (.callk n__law_v_is_word [0] (.cons (.sub (.peek 0) (.const (.int 1))) .nil))))
  (.ret (.const (.bl false)))
  .skip)
  (.seq (.ite (.op2 .eq (.sub (.peek 0) (.const (.int 0))) (.const (.str "index")))
  (.ret (.andv (.callk n__law_v_is_word [0] (.cons (.sub (.peek 0) (.const (.int 2))) .nil)) (.callk n__law_k02_words [0, 1, 2] (.cons (.sub (.peek 0) (.const (.int 3))) (.cons (.const (.int 1)) (.cons (.const (.int 3)) .nil))))))
  .skip)
  (.ret (.andv (.op2 .eq (.sub (.peek 0) (.const (.int 0))) (.const (.str "view"))) (.andv (.callk n__law_is_whole [0] (.cons (.sub (.peek 0) (.const (.int 3))) .nil)) (.op2 .in_ (.sub (.peek 0) (.const (.int 3))) (.lst (.cons (.const (.int 0)) (.cons (.const (.int 1)) .nil)))))))))))
def b__law_k02_kinds : S := (.seq (.set (.one 2) (.comp (.sub (.peek 3) (.const (.int 1))) (.one 3) (.sSeq (.sub (.peek 0) (.const (.int 2)))) .nil))
  (.ret (.comp (.sub (.peek 2) (.meth .index (.comp (.sub (.peek 3) (.const (.int 0))) (.one 3) (.sSeq (.sub (.peek 0) (.const (.int 2)))) .nil) (.cons (.var 4) .nil))) (.one 4) (.sSeq (.var 1)) .nil)))
def b__law_k02_refers : S := (.seq (.ite (.op2 .in_ (.sub (.peek 1) (.const (.int 1))) (.comp (.sub (.peek 2) (.const (.int 1))) (.one 2) (.sSeq (.var 0)) .nil))
  (.ret (.const (.bl false)))
  .skip)
  (.seq (.set (.one 3) (.comp (.var 2) (.one 2) (.sSeq (.var 0)) (.op2 .eq (.sub (.peek 2) (.const (.int 0))) (.const (.str "table")))))
  (.seq (.ite (.op2 .eq (.sub (.peek 1) (.const (.int 0))) (.const (.str "index")))
  (.seq (.set (.one 4) (.comp (.var 2) (.one 2) (.sSeq (.var 3)) (.op2 .eq (.sub (.peek 2) (.const (.int 1))) (.sub (.peek 1) (.const (.int 2))))))
  (.ret (.andv (.op2 .ne (.peek 4) (.lst .nil)) (.op2 .eq (.comp (.const (.int 1)) (.one 5) (.sSeq (.sub (.peek 1) (.const (.int 3)))) (.op2 .notin (.peek 5) (.comp (.sub (.peek 6) (.const (.int 0))) (.one 6) (.sSeq (.sub (.sub (.peek 4) (.const (.int 0))) (.const (.int 2)))) .nil))) (.lst .nil)))))
  .skip)
  (.seq (.ite (.op2 .eq (.sub (.peek 1) (.const (.int 0))) (.const (.str "table")))
  (.seq (.ite (.op2 .gt (.bi .len (.cons (.peek 3) .nil)) (.const (.int 11)))
  (.ret (.const (.bl false)))
  .skip)
  (.for_ (.many [7, 5]) (.sSeq (.sub (.peek 1) (.const (.int 5))))
  (.seq (.set (.one 4) (.comp (.var 2) (.one 2) (.sSeq (.op2 .add (.peek 3) (.lst (.cons (.var 1) .nil)))) (.op2 .eq (.sub (.peek 2) (.const (.int 1))) (.peek 5))))
  (.ite (.orv (.op2 .eq (.peek 4) (.lst .nil)) (.op2 .ne (.callk n__law_k02_kinds [0, 1] (.cons (.var 1) (.cons (.var 7) .nil))) (.callk n__law_k02_kinds [0, 1] (.cons (.sub (.peek 4) (.const (.int 0))) (.cons (.sub (.sub (.peek 4) (.const (.int 0))) (.const (.int 3))) .nil)))))
  (.ret (.const (.bl false)))
  .skip))))
  .skip)
  (.ret (.const (.bl true)))))))
def b__law_k02_is : S := (.seq (.ite (.orv (.notv (.isi (.var 0) .tuple)) (.orv (.op2 .gt (.bi .len (.cons (.peek 0) .nil)) (.const (.int 30))) (.op2 .ne (.comp (.const (.int 1)) (.one 1) (.sSeq (.var 0)) (.notv (.callk n__law_k02_item [0] (.cons (.var 1) .nil)))) (.lst .nil))))
  (.ret (.const (.bl false)))
  .skip)
  (.ret (.op2 .eq (.comp (.const (.int 1)) (.one 2) (.sRng (.bi .len (.cons (.peek 0) .nil))) (.notv (.callk n__law_k02_refers [0, 1] (.cons (.slc (.peek 0) .nil (.var 2)) (.cons (.sub (.peek 0) (.peek 2)) .nil))))) (.lst .nil))))
def b_law : S := (.seq (.set (.one 1) (.callk n__law_begun [0] (.cons (.var 0) .nil)))
  (.seq (.for_ (.one 2) (.sRng (.op2 .add (.const (.int 6)) (.bi .min2 (.cons (.bi .len (.cons (.peek 0) .nil)) (.cons (.const (.int 10)) .nil)))))
  (.seq (.set (.one 3) (.callk n__law_v_schema [0] (.cons (.var 1) .nil)))
  (.seq (.for_ (.one 4) (.sSeq (.lst (.cons (.var 3) (.cons (.callk n__law_bent [0, 1] (.cons (.var 1) (.cons (.var 3) .nil))) (.cons (.callk n__law_bent [0, 1] (.cons (.var 1) (.cons (.var 3) .nil))) (.cons (.rev (.peek 3)) (.cons (.op2 .add (.peek 3) (.slc (.peek 3) .nil (.const (.int 1)))) (.cons (.bi .list (.cons (.peek 3) .nil)) (.cons (.const .non) .nil)))))))))
  (.seq (.set (.one 5) (.callk n__law_k02_is [0] (.cons (.var 4) .nil)))
  (.seq (.ite (.orv (.notv (.callk n__law_is_truth [0, 1] (.cons (.callk n_is_schema [0] (.cons (.var 4) .nil)) (.cons (.var 5) .nil)))) (.notv (.callk n__law_is_truth [0, 1] (.cons (.callk n_is_schema [0] (.cons (.var 4) .nil)) (.cons (.var 5) .nil)))))
  (.ret (.const (.bl false)))
  .skip)
  (.for_ (.one 6) (.sSeq (.ifx (.isi (.var 4) .tuple) (.var 4) (.tup .nil)))
  (.ite (.notv (.callk n__law_is_truth [0, 1] (.cons (.callk n_is_item [0] (.cons (.var 6) .nil)) (.cons (.callk n__law_k02_item [0] (.cons (.var 6) .nil)) .nil))))
  (.ret (.const (.bl false)))
  .skip)))))
  (.seq (.for_ (.one 7) (.sSeq (.lst (.cons (.const (.str "t")) (.cons (.const (.str "u")) (.cons (.const (.str "i1")) (.cons (.const (.str "v1")) (.cons (.const (.str "none")) .nil)))))))
  (.seq (.set (.one 8) (.comp (.var 6) (.one 6) (.sSeq (.var 3)) (.op2 .eq (.sub (.peek 6) (.const (.int 1))) (.peek 7))))
  (.seq (.set (.one 5) (.ifx (.op2 .ne (.peek 8) (.lst .nil)) (.sub (.peek 8) (.const (.int 0))) (.const .non)))
  (.seq (.ite (.orv (.op2 .ne (.bi .repr (.cons (.callk n_named [0, 1] (.cons (.var 3) (.cons (.var 7) .nil))) .nil)) (.bi .repr (.cons (.peek 5) .nil))) (.op2 .ne (.bi .repr (.cons (.callk n_named [1, 0] (.cons (.var 7) (.cons (.var 3) .nil))) .nil)) (.bi .repr (.cons (.peek 5) .nil))))
  (.ret (.const (.bl false)))
  .skip)
  (.for_ (.many [9, 10]) (.sSeq (.lst (.cons (.tup (.cons (.fnv n_table_of) (.cons (.const (.str "table")) .nil))) (.cons (.tup (.cons (.fnv n_index_of) (.cons (.const (.str "index")) .nil))) (.cons (.tup (.cons (.fnv n_view_of) (.cons (.const (.str "view")) .nil))) .nil)))))
  (.ite (.op2 .ne (.bi .repr (.cons (.callv 9 (.cons (.var 3) (.cons (.var 7) .nil))) .nil)) (.bi .repr (.cons (.ifx (.andv (.op2 .isnot (.peek 5) (.const .non)) (.op2 .eq (.sub (.peek 5) (.const (.int 0))) (.peek 10))) (.var 5) (.const .non)) .nil)))
  (.ret (.const (.bl false)))
  .skip))))))
  (.for_ (.one 10) (.sSeq (.lst (.cons (.const (.str "table")) (.cons (.const (.str "index")) (.cons (.const (.str "view")) .nil)))))
  (.ite (.op2 .ne (.bi .repr (.cons (.callk n_items_of [0, 1] (.cons (.var 3) (.cons (.var 10) .nil))) .nil)) (.bi .repr (.cons (.bi .tuple (.cons (.comp (.var 6) (.one 6) (.sSeq (.var 3)) (.op2 .eq (.sub (.peek 6) (.const (.int 0))) (.peek 10))) .nil)) .nil)))
  (.ret (.const (.bl false)))
  .skip))))))
  (.seq (.set (.one 11) (.bi .tuple (.cons (.comp (.tup (.cons (.const (.str "table")) (.cons (.op2 .add (.const (.str "t")) (.bi .str (.cons (.peek 12) .nil))) (.cons (.tup (.cons (.tup (.cons (.const (.str "k")) (.cons (.const (.str "number")) (.cons (.const (.int 0)) .nil)))) .nil)) (.cons (.tup (.cons (.const (.str "k")) .nil)) (.cons (.tup .nil) (.cons (.tup .nil) .nil))))))) (.one 12) (.sRng (.const (.int 13))) .nil) .nil)))
  (.seq (.set (.one 13) (.bi .tuple (.cons (.comp (.tup (.cons (.const (.str "view")) (.cons (.op2 .add (.const (.str "v")) (.bi .str (.cons (.peek 12) .nil))) (.cons (.const .non) (.cons (.const (.int 0)) .nil))))) (.one 12) (.sRng (.const (.int 30))) .nil) .nil)))
  (.seq (.set (.one 5) (.lst (.cons (.const (.bl true)) (.cons (.const (.bl false)) (.cons (.const (.bl true)) (.cons (.const (.bl false)) (.cons (.const (.bl false)) .nil)))))))
  (.ret (.op2 .eq (.lst (.cons (.callk n_is_schema [0] (.cons (.slc (.peek 11) .nil (.const (.int 12))) .nil)) (.cons (.callk n_is_schema [0] (.cons (.var 11) .nil)) (.cons (.callk n_is_schema [0] (.cons (.var 13) .nil)) (.cons (.callk n_is_schema [0] (.cons (.op2 .add (.peek 13) (.tup (.cons (.tup (.cons (.const (.str "view")) (.cons (.const (.str "w")) (.cons (.const .non) (.cons (.const (.int 0)) .nil))))) .nil))) .nil)) (.cons (.callk n_is_item [0] (.cons (.tup (.cons (.const (.str "view")) (.cons (.const (.str "v")) (.cons (.const .non) (.cons (.const (.bl true)) .nil))))) .nil)) .nil)))))) (.peek 5))))))))
def e0 : En := ⟨"is_whole", ["value"], ["value"], [], [], defArgs (top 4), defBody (top 4), defScope (top 4), b_is_whole⟩
def e1 : En := ⟨"is_number", ["value", "least", "most"], ["value", "least", "most"], [], [], defArgs (top 5), defBody (top 5), defScope (top 5), b_is_number⟩
def e2 : En := ⟨"is_bit", ["value"], ["value"], [], [], defArgs (top 6), defBody (top 6), defScope (top 6), b_is_bit⟩
def e3 : En := ⟨"is_word", ["value"], ["value", "sign"], [], [], defArgs (top 7), defBody (top 7), defScope (top 7), b_is_word⟩
def e4 : En := ⟨"is_words", ["value", "least", "most"], ["value", "least", "most", "word"], [], [], defArgs (top 8), defBody (top 8), defScope (top 8), b_is_words⟩
def e5 : En := ⟨"is_column", ["value"], ["value"], [], [], defArgs (top 15), defBody (top 15), defScope (top 15), b_is_column⟩
def e6 : En := ⟨"is_columns", ["value"], ["value", "one", "column"], [], [], defArgs (top 16), defBody (top 16), defScope (top 16), b_is_columns⟩
def e7 : En := ⟨"is_key", ["columns", "value"], ["columns", "value", "firm", "column", "name"], [], [], defArgs (top 17), defBody (top 17), defScope (top 17), b_is_key⟩
def e8 : En := ⟨"is_rules", ["value"], ["value", "rule"], [], [], defArgs (top 18), defBody (top 18), defScope (top 18), b_is_rules⟩
def e9 : En := ⟨"is_links", ["columns", "value"], ["columns", "value", "names", "column", "link", "name"], [], [], defArgs (top 19), defBody (top 19), defScope (top 19), b_is_links⟩
def e10 : En := ⟨"is_table", ["value"], ["value"], [], [], defArgs (top 20), defBody (top 20), defScope (top 20), b_is_table⟩
def e11 : En := ⟨"is_index", ["value"], ["value"], [], [], defArgs (top 21), defBody (top 21), defScope (top 21), b_is_index⟩
def e12 : En := ⟨"is_view", ["value"], ["value"], [], [], defArgs (top 22), defBody (top 22), defScope (top 22), b_is_view⟩
def e13 : En := ⟨"is_item", ["value"], ["value"], [], [], defArgs (top 23), defBody (top 23), defScope (top 23), b_is_item⟩
def e14 : En := ⟨"named", ["schema", "name"], ["schema", "name", "item"], [], [], defArgs (top 24), defBody (top 24), defScope (top 24), b_named⟩
def e15 : En := ⟨"item_of", ["schema", "kind", "name"], ["schema", "kind", "name", "item"], [], [], defArgs (top 25), defBody (top 25), defScope (top 25), b_item_of⟩
def e16 : En := ⟨"table_of", ["schema", "name"], ["schema", "name"], [], [], defArgs (top 26), defBody (top 26), defScope (top 26), b_table_of⟩
def e17 : En := ⟨"index_of", ["schema", "name"], ["schema", "name"], [], [], defArgs (top 27), defBody (top 27), defScope (top 27), b_index_of⟩
def e18 : En := ⟨"view_of", ["schema", "name"], ["schema", "name"], [], [], defArgs (top 28), defBody (top 28), defScope (top 28), b_view_of⟩
def e19 : En := ⟨"items_of", ["schema", "kind"], ["schema", "kind", "item"], [], [], defArgs (top 29), defBody (top 29), defScope (top 29), b_items_of⟩
def e20 : En := ⟨"place_at", ["table", "name"], ["table", "name", "names", "column"], [], [], defArgs (top 30), defBody (top 30), defScope (top 30), b_place_at⟩
def e21 : En := ⟨"places_at", ["table", "names"], ["table", "names", "name"], [], [], defArgs (top 31), defBody (top 31), defScope (top 31), b_places_at⟩
def e22 : En := ⟨"link_is_right", ["ahead", "table", "link"], ["ahead", "table", "link", "other", "own", "place"], [], [], defArgs (top 32), defBody (top 32), defScope (top 32), b_link_is_right⟩
def e23 : En := ⟨"head_is_right", ["ahead", "item"], ["ahead", "item", "many", "link", "table"], [], [], defArgs (top 33), defBody (top 33), defScope (top 33), b_head_is_right⟩
def e24 : En := ⟨"is_schema", ["value"], ["value", "item", "place"], [], [], defArgs (top 34), defBody (top 34), defScope (top 34), b_is_schema⟩
def e25 : En := ⟨"_law_begun", ["script"], ["script", "great", "cell"], [], [1], defArgs (top 36), defBody (top 36), defScope (top 36), b__law_begun⟩
def e26 : En := ⟨"_law_blended", ["state"], ["state", "turn", "found", "prime", "blend", "cell"], [], [], defArgs (top 37), defBody (top 37), defScope (top 37), b__law_blended⟩
def e27 : En := ⟨"_law_draw", ["state", "size_here"], ["state", "size_here", "found"], [], [], defArgs (top 38), defBody (top 38), defScope (top 38), b__law_draw⟩
def e28 : En := ⟨"_law_pick", ["state", "several"], ["state", "several"], [], [], defArgs (top 39), defBody (top 39), defScope (top 39), b__law_pick⟩
def e29 : En := ⟨"_law_mixed", ["state", "several"], ["state", "several", "left", "found"], [3, 2], [], defArgs (top 40), defBody (top 40), defScope (top 40), b__law_mixed⟩
def e30 : En := ⟨"_law_is_truth", ["found", "due"], ["found", "due"], [], [], defArgs (top 41), defBody (top 41), defScope (top 41), b__law_is_truth⟩
def e31 : En := ⟨"_law_is_whole", ["item"], ["item"], [], [], defArgs (top 42), defBody (top 42), defScope (top 42), b__law_is_whole⟩
def e32 : En := ⟨"_law_bent", ["state", "item"], ["state", "item", "at", "way"], [], [], defArgs (top 43), defBody (top 43), defScope (top 43), b__law_bent⟩
def e33 : En := ⟨"_law_odd", ["state"], ["state"], [], [], defArgs (top 44), defBody (top 44), defScope (top 44), b__law_odd⟩
def e34 : En := ⟨"_law_v_is_word", ["value"], ["value", "sign"], [], [], defArgs (top 45), defBody (top 45), defScope (top 45), b__law_v_is_word⟩
def e35 : En := ⟨"_law_v_columns", ["state"], ["state", "names", "found", "name", "column"], [2], [], defArgs (top 46), defBody (top 46), defScope (top 46), b__law_v_columns⟩
def e36 : En := ⟨"_law_v_table", ["state", "name", "ahead"], ["state", "name", "ahead", "columns", "firm", "column", "key", "rules", "table", "links", "other", "names", "kinds", "want", "own", "left", "kind", "fit"], [9, 14, 15], [], defArgs (top 47), defBody (top 47), defScope (top 47), b__law_v_table⟩
def e37 : En := ⟨"_law_v_schema", ["state"], ["state", "found", "spot", "name", "tables", "item", "way", "table", "names", "column"], [1], [], defArgs (top 48), defBody (top 48), defScope (top 48), b__law_v_schema⟩
def e38 : En := ⟨"_law_k02_words", ["value", "least", "most"], ["value", "least", "most", "one"], [], [], defArgs (top 49), defBody (top 49), defScope (top 49), b__law_k02_words⟩
def e39 : En := ⟨"_law_k02_table", ["value"], ["value", "column", "names", "name", "rule", "link"], [], [], defArgs (top 50), defBody (top 50), defScope (top 50), b__law_k02_table⟩
def e40 : En := ⟨"_law_k02_item", ["value"], ["value"], [], [], defArgs (top 51), defBody (top 51), defScope (top 51), b__law_k02_item⟩
def e41 : En := ⟨"_law_k02_kinds", ["table", "names"], ["table", "names", "kinds", "column", "name"], [], [], defArgs (top 52), defBody (top 52), defScope (top 52), b__law_k02_kinds⟩
def e42 : En := ⟨"_law_k02_refers", ["ahead", "item"], ["ahead", "item", "other", "tables", "found", "name", "column", "own"], [], [], defArgs (top 53), defBody (top 53), defScope (top 53), b__law_k02_refers⟩
def e43 : En := ⟨"_law_k02_is", ["value"], ["value", "item", "place"], [], [], defArgs (top 54), defBody (top 54), defScope (top 54), b__law_k02_is⟩
def e44 : En := ⟨"law", ["script"], ["script", "state", "turn", "schema", "value", "due", "item", "name", "found", "ask", "kind", "many", "spot", "views"], [], [], defArgs (top 55), defBody (top 55), defScope (top 55), b_law⟩
abbrev ENT_is_whole : En := e0
abbrev ENT_is_number : En := e1
abbrev ENT_is_bit : En := e2
abbrev ENT_is_word : En := e3
abbrev ENT_is_words : En := e4
abbrev ENT_is_column : En := e5
abbrev ENT_is_columns : En := e6
abbrev ENT_is_key : En := e7
abbrev ENT_is_rules : En := e8
abbrev ENT_is_links : En := e9
abbrev ENT_is_table : En := e10
abbrev ENT_is_index : En := e11
abbrev ENT_is_view : En := e12
abbrev ENT_is_item : En := e13
abbrev ENT_named : En := e14
abbrev ENT_item_of : En := e15
abbrev ENT_table_of : En := e16
abbrev ENT_index_of : En := e17
abbrev ENT_view_of : En := e18
abbrev ENT_items_of : En := e19
abbrev ENT_place_at : En := e20
abbrev ENT_places_at : En := e21
abbrev ENT_link_is_right : En := e22
abbrev ENT_head_is_right : En := e23
abbrev ENT_is_schema : En := e24
abbrev ENT__law_begun : En := e25
abbrev ENT__law_blended : En := e26
abbrev ENT__law_draw : En := e27
abbrev ENT__law_pick : En := e28
abbrev ENT__law_mixed : En := e29
abbrev ENT__law_is_truth : En := e30
abbrev ENT__law_is_whole : En := e31
abbrev ENT__law_bent : En := e32
abbrev ENT__law_odd : En := e33
abbrev ENT__law_v_is_word : En := e34
abbrev ENT__law_v_columns : En := e35
abbrev ENT__law_v_table : En := e36
abbrev ENT__law_v_schema : En := e37
abbrev ENT__law_k02_words : En := e38
abbrev ENT__law_k02_table : En := e39
abbrev ENT__law_k02_item : En := e40
abbrev ENT__law_k02_kinds : En := e41
abbrev ENT__law_k02_refers : En := e42
abbrev ENT__law_k02_is : En := e43
abbrev ENT_law : En := e44
abbrev WW : Nat := 200
def es0 : List En := [e0, e1, e2, e3, e4, e5, e6, e7, e8, e9, e10, e11, e12, e13, e14, e15, e16, e17, e18, e19, e20, e21, e22, e23, e24, e25, e26, e27, e28, e29]
def es1 : List En := [e30, e31, e32, e33, e34, e35, e36, e37, e38, e39, e40, e41, e42, e43, e44]
def es : List En := es0 ++ es1
/-- calls, k deep -/
abbrev Ca (k : Nat) : Nat → List D → HP → Mi.CR := Phi (prog es) gl 200 k
theorem w_is_whole (k : Nat) (x0 : D) (hp : HP) (f : D → HP → Prop) (e : Nat → List D → HP → Prop) : @Mw.cwp (Ca (k + 1) n_is_whole [x0] hp) ⟨f, e⟩ = @Mw.wp Fl (ex ⟨Ca k, gl, 200⟩ b_is_whole ⟨[.val x0], hp⟩) ⟨fun fl s => Mw.fnO2 fl s f, fun c fs s => e c fs s.hp⟩ := Mw.cwp_fin2 _ _ _
theorem w_is_number (k : Nat) (x0 x1 x2 : D) (hp : HP) (f : D → HP → Prop) (e : Nat → List D → HP → Prop) : @Mw.cwp (Ca (k + 1) n_is_number [x0, x1, x2] hp) ⟨f, e⟩ = @Mw.wp Fl (ex ⟨Ca k, gl, 200⟩ b_is_number ⟨[.val x0, .val x1, .val x2], hp⟩) ⟨fun fl s => Mw.fnO2 fl s f, fun c fs s => e c fs s.hp⟩ := Mw.cwp_fin2 _ _ _
theorem w_is_bit (k : Nat) (x0 : D) (hp : HP) (f : D → HP → Prop) (e : Nat → List D → HP → Prop) : @Mw.cwp (Ca (k + 1) n_is_bit [x0] hp) ⟨f, e⟩ = @Mw.wp Fl (ex ⟨Ca k, gl, 200⟩ b_is_bit ⟨[.val x0], hp⟩) ⟨fun fl s => Mw.fnO2 fl s f, fun c fs s => e c fs s.hp⟩ := Mw.cwp_fin2 _ _ _
theorem w_is_word (k : Nat) (x0 : D) (hp : HP) (f : D → HP → Prop) (e : Nat → List D → HP → Prop) : @Mw.cwp (Ca (k + 1) n_is_word [x0] hp) ⟨f, e⟩ = @Mw.wp Fl (ex ⟨Ca k, gl, 200⟩ b_is_word ⟨[.val x0, .emp], hp⟩) ⟨fun fl s => Mw.fnO2 fl s f, fun c fs s => e c fs s.hp⟩ := Mw.cwp_fin2 _ _ _
theorem w_is_words (k : Nat) (x0 x1 x2 : D) (hp : HP) (f : D → HP → Prop) (e : Nat → List D → HP → Prop) : @Mw.cwp (Ca (k + 1) n_is_words [x0, x1, x2] hp) ⟨f, e⟩ = @Mw.wp Fl (ex ⟨Ca k, gl, 200⟩ b_is_words ⟨[.val x0, .val x1, .val x2, .emp], hp⟩) ⟨fun fl s => Mw.fnO2 fl s f, fun c fs s => e c fs s.hp⟩ := Mw.cwp_fin2 _ _ _
theorem w_is_column (k : Nat) (x0 : D) (hp : HP) (f : D → HP → Prop) (e : Nat → List D → HP → Prop) : @Mw.cwp (Ca (k + 1) n_is_column [x0] hp) ⟨f, e⟩ = @Mw.wp Fl (ex ⟨Ca k, gl, 200⟩ b_is_column ⟨[.val x0], hp⟩) ⟨fun fl s => Mw.fnO2 fl s f, fun c fs s => e c fs s.hp⟩ := Mw.cwp_fin2 _ _ _
theorem w_is_columns (k : Nat) (x0 : D) (hp : HP) (f : D → HP → Prop) (e : Nat → List D → HP → Prop) : @Mw.cwp (Ca (k + 1) n_is_columns [x0] hp) ⟨f, e⟩ = @Mw.wp Fl (ex ⟨Ca k, gl, 200⟩ b_is_columns ⟨[.val x0, .emp, .emp], hp⟩) ⟨fun fl s => Mw.fnO2 fl s f, fun c fs s => e c fs s.hp⟩ := Mw.cwp_fin2 _ _ _
theorem w_is_key (k : Nat) (x0 x1 : D) (hp : HP) (f : D → HP → Prop) (e : Nat → List D → HP → Prop) : @Mw.cwp (Ca (k + 1) n_is_key [x0, x1] hp) ⟨f, e⟩ = @Mw.wp Fl (ex ⟨Ca k, gl, 200⟩ b_is_key ⟨[.val x0, .val x1, .emp, .emp, .emp], hp⟩) ⟨fun fl s => Mw.fnO2 fl s f, fun c fs s => e c fs s.hp⟩ := Mw.cwp_fin2 _ _ _
theorem w_is_rules (k : Nat) (x0 : D) (hp : HP) (f : D → HP → Prop) (e : Nat → List D → HP → Prop) : @Mw.cwp (Ca (k + 1) n_is_rules [x0] hp) ⟨f, e⟩ = @Mw.wp Fl (ex ⟨Ca k, gl, 200⟩ b_is_rules ⟨[.val x0, .emp], hp⟩) ⟨fun fl s => Mw.fnO2 fl s f, fun c fs s => e c fs s.hp⟩ := Mw.cwp_fin2 _ _ _
theorem w_is_links (k : Nat) (x0 x1 : D) (hp : HP) (f : D → HP → Prop) (e : Nat → List D → HP → Prop) : @Mw.cwp (Ca (k + 1) n_is_links [x0, x1] hp) ⟨f, e⟩ = @Mw.wp Fl (ex ⟨Ca k, gl, 200⟩ b_is_links ⟨[.val x0, .val x1, .emp, .emp, .emp, .emp], hp⟩) ⟨fun fl s => Mw.fnO2 fl s f, fun c fs s => e c fs s.hp⟩ := Mw.cwp_fin2 _ _ _
theorem w_is_table (k : Nat) (x0 : D) (hp : HP) (f : D → HP → Prop) (e : Nat → List D → HP → Prop) : @Mw.cwp (Ca (k + 1) n_is_table [x0] hp) ⟨f, e⟩ = @Mw.wp Fl (ex ⟨Ca k, gl, 200⟩ b_is_table ⟨[.val x0], hp⟩) ⟨fun fl s => Mw.fnO2 fl s f, fun c fs s => e c fs s.hp⟩ := Mw.cwp_fin2 _ _ _
theorem w_is_index (k : Nat) (x0 : D) (hp : HP) (f : D → HP → Prop) (e : Nat → List D → HP → Prop) : @Mw.cwp (Ca (k + 1) n_is_index [x0] hp) ⟨f, e⟩ = @Mw.wp Fl (ex ⟨Ca k, gl, 200⟩ b_is_index ⟨[.val x0], hp⟩) ⟨fun fl s => Mw.fnO2 fl s f, fun c fs s => e c fs s.hp⟩ := Mw.cwp_fin2 _ _ _
theorem w_is_view (k : Nat) (x0 : D) (hp : HP) (f : D → HP → Prop) (e : Nat → List D → HP → Prop) : @Mw.cwp (Ca (k + 1) n_is_view [x0] hp) ⟨f, e⟩ = @Mw.wp Fl (ex ⟨Ca k, gl, 200⟩ b_is_view ⟨[.val x0], hp⟩) ⟨fun fl s => Mw.fnO2 fl s f, fun c fs s => e c fs s.hp⟩ := Mw.cwp_fin2 _ _ _
theorem w_is_item (k : Nat) (x0 : D) (hp : HP) (f : D → HP → Prop) (e : Nat → List D → HP → Prop) : @Mw.cwp (Ca (k + 1) n_is_item [x0] hp) ⟨f, e⟩ = @Mw.wp Fl (ex ⟨Ca k, gl, 200⟩ b_is_item ⟨[.val x0], hp⟩) ⟨fun fl s => Mw.fnO2 fl s f, fun c fs s => e c fs s.hp⟩ := Mw.cwp_fin2 _ _ _
theorem w_named (k : Nat) (x0 x1 : D) (hp : HP) (f : D → HP → Prop) (e : Nat → List D → HP → Prop) : @Mw.cwp (Ca (k + 1) n_named [x0, x1] hp) ⟨f, e⟩ = @Mw.wp Fl (ex ⟨Ca k, gl, 200⟩ b_named ⟨[.val x0, .val x1, .emp], hp⟩) ⟨fun fl s => Mw.fnO2 fl s f, fun c fs s => e c fs s.hp⟩ := Mw.cwp_fin2 _ _ _
theorem w_item_of (k : Nat) (x0 x1 x2 : D) (hp : HP) (f : D → HP → Prop) (e : Nat → List D → HP → Prop) : @Mw.cwp (Ca (k + 1) n_item_of [x0, x1, x2] hp) ⟨f, e⟩ = @Mw.wp Fl (ex ⟨Ca k, gl, 200⟩ b_item_of ⟨[.val x0, .val x1, .val x2, .emp], hp⟩) ⟨fun fl s => Mw.fnO2 fl s f, fun c fs s => e c fs s.hp⟩ := Mw.cwp_fin2 _ _ _
theorem w_table_of (k : Nat) (x0 x1 : D) (hp : HP) (f : D → HP → Prop) (e : Nat → List D → HP → Prop) : @Mw.cwp (Ca (k + 1) n_table_of [x0, x1] hp) ⟨f, e⟩ = @Mw.wp Fl (ex ⟨Ca k, gl, 200⟩ b_table_of ⟨[.val x0, .val x1], hp⟩) ⟨fun fl s => Mw.fnO2 fl s f, fun c fs s => e c fs s.hp⟩ := Mw.cwp_fin2 _ _ _
theorem w_index_of (k : Nat) (x0 x1 : D) (hp : HP) (f : D → HP → Prop) (e : Nat → List D → HP → Prop) : @Mw.cwp (Ca (k + 1) n_index_of [x0, x1] hp) ⟨f, e⟩ = @Mw.wp Fl (ex ⟨Ca k, gl, 200⟩ b_index_of ⟨[.val x0, .val x1], hp⟩) ⟨fun fl s => Mw.fnO2 fl s f, fun c fs s => e c fs s.hp⟩ := Mw.cwp_fin2 _ _ _
theorem w_view_of (k : Nat) (x0 x1 : D) (hp : HP) (f : D → HP → Prop) (e : Nat → List D → HP → Prop) : @Mw.cwp (Ca (k + 1) n_view_of [x0, x1] hp) ⟨f, e⟩ = @Mw.wp Fl (ex ⟨Ca k, gl, 200⟩ b_view_of ⟨[.val x0, .val x1], hp⟩) ⟨fun fl s => Mw.fnO2 fl s f, fun c fs s => e c fs s.hp⟩ := Mw.cwp_fin2 _ _ _
theorem w_items_of (k : Nat) (x0 x1 : D) (hp : HP) (f : D → HP → Prop) (e : Nat → List D → HP → Prop) : @Mw.cwp (Ca (k + 1) n_items_of [x0, x1] hp) ⟨f, e⟩ = @Mw.wp Fl (ex ⟨Ca k, gl, 200⟩ b_items_of ⟨[.val x0, .val x1, .emp], hp⟩) ⟨fun fl s => Mw.fnO2 fl s f, fun c fs s => e c fs s.hp⟩ := Mw.cwp_fin2 _ _ _
theorem w_place_at (k : Nat) (x0 x1 : D) (hp : HP) (f : D → HP → Prop) (e : Nat → List D → HP → Prop) : @Mw.cwp (Ca (k + 1) n_place_at [x0, x1] hp) ⟨f, e⟩ = @Mw.wp Fl (ex ⟨Ca k, gl, 200⟩ b_place_at ⟨[.val x0, .val x1, .emp, .emp], hp⟩) ⟨fun fl s => Mw.fnO2 fl s f, fun c fs s => e c fs s.hp⟩ := Mw.cwp_fin2 _ _ _
theorem w_places_at (k : Nat) (x0 x1 : D) (hp : HP) (f : D → HP → Prop) (e : Nat → List D → HP → Prop) : @Mw.cwp (Ca (k + 1) n_places_at [x0, x1] hp) ⟨f, e⟩ = @Mw.wp Fl (ex ⟨Ca k, gl, 200⟩ b_places_at ⟨[.val x0, .val x1, .emp], hp⟩) ⟨fun fl s => Mw.fnO2 fl s f, fun c fs s => e c fs s.hp⟩ := Mw.cwp_fin2 _ _ _
theorem w_link_is_right (k : Nat) (x0 x1 x2 : D) (hp : HP) (f : D → HP → Prop) (e : Nat → List D → HP → Prop) : @Mw.cwp (Ca (k + 1) n_link_is_right [x0, x1, x2] hp) ⟨f, e⟩ = @Mw.wp Fl (ex ⟨Ca k, gl, 200⟩ b_link_is_right ⟨[.val x0, .val x1, .val x2, .emp, .emp, .emp], hp⟩) ⟨fun fl s => Mw.fnO2 fl s f, fun c fs s => e c fs s.hp⟩ := Mw.cwp_fin2 _ _ _
theorem w_head_is_right (k : Nat) (x0 x1 : D) (hp : HP) (f : D → HP → Prop) (e : Nat → List D → HP → Prop) : @Mw.cwp (Ca (k + 1) n_head_is_right [x0, x1] hp) ⟨f, e⟩ = @Mw.wp Fl (ex ⟨Ca k, gl, 200⟩ b_head_is_right ⟨[.val x0, .val x1, .emp, .emp, .emp], hp⟩) ⟨fun fl s => Mw.fnO2 fl s f, fun c fs s => e c fs s.hp⟩ := Mw.cwp_fin2 _ _ _
theorem w_is_schema (k : Nat) (x0 : D) (hp : HP) (f : D → HP → Prop) (e : Nat → List D → HP → Prop) : @Mw.cwp (Ca (k + 1) n_is_schema [x0] hp) ⟨f, e⟩ = @Mw.wp Fl (ex ⟨Ca k, gl, 200⟩ b_is_schema ⟨[.val x0, .emp, .emp], hp⟩) ⟨fun fl s => Mw.fnO2 fl s f, fun c fs s => e c fs s.hp⟩ := Mw.cwp_fin2 _ _ _
theorem w__law_begun (k : Nat) (x0 : D) (hp : HP) (f : D → HP → Prop) (e : Nat → List D → HP → Prop) : @Mw.cwp (Ca (k + 1) n__law_begun [x0] hp) ⟨f, e⟩ = @Mw.wp Fl (ex ⟨Ca k, gl, 200⟩ b__law_begun ⟨[.val x0, .emp, .emp], hp⟩) ⟨fun fl s => Mw.fnO2 fl s f, fun c fs s => e c fs s.hp⟩ := Mw.cwp_fin2 _ _ _
theorem w__law_blended (k : Nat) (x0 : D) (hp : HP) (f : D → HP → Prop) (e : Nat → List D → HP → Prop) : @Mw.cwp (Ca (k + 1) n__law_blended [x0] hp) ⟨f, e⟩ = @Mw.wp Fl (ex ⟨Ca k, gl, 200⟩ b__law_blended ⟨[.val x0, .emp, .emp, .emp, .emp, .emp], hp⟩) ⟨fun fl s => Mw.fnO2 fl s f, fun c fs s => e c fs s.hp⟩ := Mw.cwp_fin2 _ _ _
theorem w__law_draw (k : Nat) (x0 x1 : D) (hp : HP) (f : D → HP → Prop) (e : Nat → List D → HP → Prop) : @Mw.cwp (Ca (k + 1) n__law_draw [x0, x1] hp) ⟨f, e⟩ = @Mw.wp Fl (ex ⟨Ca k, gl, 200⟩ b__law_draw ⟨[.val x0, .val x1, .emp], hp⟩) ⟨fun fl s => Mw.fnO2 fl s f, fun c fs s => e c fs s.hp⟩ := Mw.cwp_fin2 _ _ _
theorem w__law_pick (k : Nat) (x0 x1 : D) (hp : HP) (f : D → HP → Prop) (e : Nat → List D → HP → Prop) : @Mw.cwp (Ca (k + 1) n__law_pick [x0, x1] hp) ⟨f, e⟩ = @Mw.wp Fl (ex ⟨Ca k, gl, 200⟩ b__law_pick ⟨[.val x0, .val x1], hp⟩) ⟨fun fl s => Mw.fnO2 fl s f, fun c fs s => e c fs s.hp⟩ := Mw.cwp_fin2 _ _ _
theorem w__law_mixed (k : Nat) (x0 x1 : D) (hp : HP) (f : D → HP → Prop) (e : Nat → List D → HP → Prop) : @Mw.cwp (Ca (k + 1) n__law_mixed [x0, x1] hp) ⟨f, e⟩ = @Mw.wp Fl (ex ⟨Ca k, gl, 200⟩ b__law_mixed ⟨[.val x0, .val x1, .emp, .emp], hp⟩) ⟨fun fl s => Mw.fnO2 fl s f, fun c fs s => e c fs s.hp⟩ := Mw.cwp_fin2 _ _ _
theorem w__law_is_truth (k : Nat) (x0 x1 : D) (hp : HP) (f : D → HP → Prop) (e : Nat → List D → HP → Prop) : @Mw.cwp (Ca (k + 1) n__law_is_truth [x0, x1] hp) ⟨f, e⟩ = @Mw.wp Fl (ex ⟨Ca k, gl, 200⟩ b__law_is_truth ⟨[.val x0, .val x1], hp⟩) ⟨fun fl s => Mw.fnO2 fl s f, fun c fs s => e c fs s.hp⟩ := Mw.cwp_fin2 _ _ _
theorem w__law_is_whole (k : Nat) (x0 : D) (hp : HP) (f : D → HP → Prop) (e : Nat → List D → HP → Prop) : @Mw.cwp (Ca (k + 1) n__law_is_whole [x0] hp) ⟨f, e⟩ = @Mw.wp Fl (ex ⟨Ca k, gl, 200⟩ b__law_is_whole ⟨[.val x0], hp⟩) ⟨fun fl s => Mw.fnO2 fl s f, fun c fs s => e c fs s.hp⟩ := Mw.cwp_fin2 _ _ _
theorem w__law_bent (k : Nat) (x0 x1 : D) (hp : HP) (f : D → HP → Prop) (e : Nat → List D → HP → Prop) : @Mw.cwp (Ca (k + 1) n__law_bent [x0, x1] hp) ⟨f, e⟩ = @Mw.wp Fl (ex ⟨Ca k, gl, 200⟩ b__law_bent ⟨[.val x0, .val x1, .emp, .emp], hp⟩) ⟨fun fl s => Mw.fnO2 fl s f, fun c fs s => e c fs s.hp⟩ := Mw.cwp_fin2 _ _ _
theorem w__law_odd (k : Nat) (x0 : D) (hp : HP) (f : D → HP → Prop) (e : Nat → List D → HP → Prop) : @Mw.cwp (Ca (k + 1) n__law_odd [x0] hp) ⟨f, e⟩ = @Mw.wp Fl (ex ⟨Ca k, gl, 200⟩ b__law_odd ⟨[.val x0], hp⟩) ⟨fun fl s => Mw.fnO2 fl s f, fun c fs s => e c fs s.hp⟩ := Mw.cwp_fin2 _ _ _
theorem w__law_v_is_word (k : Nat) (x0 : D) (hp : HP) (f : D → HP → Prop) (e : Nat → List D → HP → Prop) : @Mw.cwp (Ca (k + 1) n__law_v_is_word [x0] hp) ⟨f, e⟩ = @Mw.wp Fl (ex ⟨Ca k, gl, 200⟩ b__law_v_is_word ⟨[.val x0, .emp], hp⟩) ⟨fun fl s => Mw.fnO2 fl s f, fun c fs s => e c fs s.hp⟩ := Mw.cwp_fin2 _ _ _
theorem w__law_v_columns (k : Nat) (x0 : D) (hp : HP) (f : D → HP → Prop) (e : Nat → List D → HP → Prop) : @Mw.cwp (Ca (k + 1) n__law_v_columns [x0] hp) ⟨f, e⟩ = @Mw.wp Fl (ex ⟨Ca k, gl, 200⟩ b__law_v_columns ⟨[.val x0, .emp, .emp, .emp, .emp], hp⟩) ⟨fun fl s => Mw.fnO2 fl s f, fun c fs s => e c fs s.hp⟩ := Mw.cwp_fin2 _ _ _
theorem w__law_v_table (k : Nat) (x0 x1 x2 : D) (hp : HP) (f : D → HP → Prop) (e : Nat → List D → HP → Prop) : @Mw.cwp (Ca (k + 1) n__law_v_table [x0, x1, x2] hp) ⟨f, e⟩ = @Mw.wp Fl (ex ⟨Ca k, gl, 200⟩ b__law_v_table ⟨[.val x0, .val x1, .val x2, .emp, .emp, .emp, .emp, .emp, .emp, .emp, .emp, .emp, .emp, .emp, .emp, .emp, .emp, .emp], hp⟩) ⟨fun fl s => Mw.fnO2 fl s f, fun c fs s => e c fs s.hp⟩ := Mw.cwp_fin2 _ _ _
theorem w__law_v_schema (k : Nat) (x0 : D) (hp : HP) (f : D → HP → Prop) (e : Nat → List D → HP → Prop) : @Mw.cwp (Ca (k + 1) n__law_v_schema [x0] hp) ⟨f, e⟩ = @Mw.wp Fl (ex ⟨Ca k, gl, 200⟩ b__law_v_schema ⟨[.val x0, .emp, .emp, .emp, .emp, .emp, .emp, .emp, .emp, .emp], hp⟩) ⟨fun fl s => Mw.fnO2 fl s f, fun c fs s => e c fs s.hp⟩ := Mw.cwp_fin2 _ _ _
theorem w__law_k02_words (k : Nat) (x0 x1 x2 : D) (hp : HP) (f : D → HP → Prop) (e : Nat → List D → HP → Prop) : @Mw.cwp (Ca (k + 1) n__law_k02_words [x0, x1, x2] hp) ⟨f, e⟩ = @Mw.wp Fl (ex ⟨Ca k, gl, 200⟩ b__law_k02_words ⟨[.val x0, .val x1, .val x2, .emp], hp⟩) ⟨fun fl s => Mw.fnO2 fl s f, fun c fs s => e c fs s.hp⟩ := Mw.cwp_fin2 _ _ _
theorem w__law_k02_table (k : Nat) (x0 : D) (hp : HP) (f : D → HP → Prop) (e : Nat → List D → HP → Prop) : @Mw.cwp (Ca (k + 1) n__law_k02_table [x0] hp) ⟨f, e⟩ = @Mw.wp Fl (ex ⟨Ca k, gl, 200⟩ b__law_k02_table ⟨[.val x0, .emp, .emp, .emp, .emp, .emp], hp⟩) ⟨fun fl s => Mw.fnO2 fl s f, fun c fs s => e c fs s.hp⟩ := Mw.cwp_fin2 _ _ _
theorem w__law_k02_item (k : Nat) (x0 : D) (hp : HP) (f : D → HP → Prop) (e : Nat → List D → HP → Prop) : @Mw.cwp (Ca (k + 1) n__law_k02_item [x0] hp) ⟨f, e⟩ = @Mw.wp Fl (ex ⟨Ca k, gl, 200⟩ b__law_k02_item ⟨[.val x0], hp⟩) ⟨fun fl s => Mw.fnO2 fl s f, fun c fs s => e c fs s.hp⟩ := Mw.cwp_fin2 _ _ _
theorem w__law_k02_kinds (k : Nat) (x0 x1 : D) (hp : HP) (f : D → HP → Prop) (e : Nat → List D → HP → Prop) : @Mw.cwp (Ca (k + 1) n__law_k02_kinds [x0, x1] hp) ⟨f, e⟩ = @Mw.wp Fl (ex ⟨Ca k, gl, 200⟩ b__law_k02_kinds ⟨[.val x0, .val x1, .emp, .emp, .emp], hp⟩) ⟨fun fl s => Mw.fnO2 fl s f, fun c fs s => e c fs s.hp⟩ := Mw.cwp_fin2 _ _ _
theorem w__law_k02_refers (k : Nat) (x0 x1 : D) (hp : HP) (f : D → HP → Prop) (e : Nat → List D → HP → Prop) : @Mw.cwp (Ca (k + 1) n__law_k02_refers [x0, x1] hp) ⟨f, e⟩ = @Mw.wp Fl (ex ⟨Ca k, gl, 200⟩ b__law_k02_refers ⟨[.val x0, .val x1, .emp, .emp, .emp, .emp, .emp, .emp], hp⟩) ⟨fun fl s => Mw.fnO2 fl s f, fun c fs s => e c fs s.hp⟩ := Mw.cwp_fin2 _ _ _
theorem w__law_k02_is (k : Nat) (x0 : D) (hp : HP) (f : D → HP → Prop) (e : Nat → List D → HP → Prop) : @Mw.cwp (Ca (k + 1) n__law_k02_is [x0] hp) ⟨f, e⟩ = @Mw.wp Fl (ex ⟨Ca k, gl, 200⟩ b__law_k02_is ⟨[.val x0, .emp, .emp], hp⟩) ⟨fun fl s => Mw.fnO2 fl s f, fun c fs s => e c fs s.hp⟩ := Mw.cwp_fin2 _ _ _
theorem w_law (k : Nat) (x0 : D) (hp : HP) (f : D → HP → Prop) (e : Nat → List D → HP → Prop) : @Mw.cwp (Ca (k + 1) n_law [x0] hp) ⟨f, e⟩ = @Mw.wp Fl (ex ⟨Ca k, gl, 200⟩ b_law ⟨[.val x0, .emp, .emp, .emp, .emp, .emp, .emp, .emp, .emp, .emp, .emp, .emp, .emp, .emp], hp⟩) ⟨fun fl s => Mw.fnO2 fl s f, fun c fs s => e c fs s.hp⟩ := Mw.cwp_fin2 _ _ _
theorem k0 : e0.okB fns gls blt 60 := by unfold En.okB; kernel_rfl
theorem k1 : e1.okB fns gls blt 60 := by unfold En.okB; kernel_rfl
theorem k2 : e2.okB fns gls blt 60 := by unfold En.okB; kernel_rfl
theorem k3 : e3.okB fns gls blt 60 := by unfold En.okB; kernel_rfl
theorem k4 : e4.okB fns gls blt 60 := by unfold En.okB; kernel_rfl
theorem k5 : e5.okB fns gls blt 60 := by unfold En.okB; kernel_rfl
theorem k6 : e6.okB fns gls blt 60 := by unfold En.okB; kernel_rfl
theorem k7 : e7.okB fns gls blt 60 := by unfold En.okB; kernel_rfl
theorem k8 : e8.okB fns gls blt 60 := by unfold En.okB; kernel_rfl
theorem k9 : e9.okB fns gls blt 60 := by unfold En.okB; kernel_rfl
theorem k10 : e10.okB fns gls blt 60 := by unfold En.okB; kernel_rfl
theorem k11 : e11.okB fns gls blt 60 := by unfold En.okB; kernel_rfl
theorem k12 : e12.okB fns gls blt 60 := by unfold En.okB; kernel_rfl
theorem k13 : e13.okB fns gls blt 60 := by unfold En.okB; kernel_rfl
theorem k14 : e14.okB fns gls blt 60 := by unfold En.okB; kernel_rfl
theorem k15 : e15.okB fns gls blt 60 := by unfold En.okB; kernel_rfl
theorem k16 : e16.okB fns gls blt 60 := by unfold En.okB; kernel_rfl
theorem k17 : e17.okB fns gls blt 60 := by unfold En.okB; kernel_rfl
theorem k18 : e18.okB fns gls blt 60 := by unfold En.okB; kernel_rfl
theorem k19 : e19.okB fns gls blt 60 := by unfold En.okB; kernel_rfl
theorem k20 : e20.okB fns gls blt 60 := by unfold En.okB; kernel_rfl
theorem k21 : e21.okB fns gls blt 60 := by unfold En.okB; kernel_rfl
theorem k22 : e22.okB fns gls blt 60 := by unfold En.okB; kernel_rfl
theorem k23 : e23.okB fns gls blt 60 := by unfold En.okB; kernel_rfl
theorem k24 : e24.okB fns gls blt 60 := by unfold En.okB; kernel_rfl
theorem k25 : e25.okB fns gls blt 60 := by unfold En.okB; kernel_rfl
theorem k26 : e26.okB fns gls blt 60 := by unfold En.okB; kernel_rfl
theorem k27 : e27.okB fns gls blt 60 := by unfold En.okB; kernel_rfl
theorem k28 : e28.okB fns gls blt 60 := by unfold En.okB; kernel_rfl
theorem k29 : e29.okB fns gls blt 60 := by unfold En.okB; kernel_rfl
theorem k30 : e30.okB fns gls blt 60 := by unfold En.okB; kernel_rfl
theorem k31 : e31.okB fns gls blt 60 := by unfold En.okB; kernel_rfl
theorem k32 : e32.okB fns gls blt 60 := by unfold En.okB; kernel_rfl
theorem k33 : e33.okB fns gls blt 60 := by unfold En.okB; kernel_rfl
theorem k34 : e34.okB fns gls blt 60 := by unfold En.okB; kernel_rfl
theorem k35 : e35.okB fns gls blt 60 := by unfold En.okB; kernel_rfl
theorem k36 : e36.okB fns gls blt 60 := by unfold En.okB; kernel_rfl
theorem k37 : e37.okB fns gls blt 60 := by unfold En.okB; kernel_rfl
theorem k38 : e38.okB fns gls blt 60 := by unfold En.okB; kernel_rfl
theorem k39 : e39.okB fns gls blt 60 := by unfold En.okB; kernel_rfl
theorem k40 : e40.okB fns gls blt 60 := by unfold En.okB; kernel_rfl
theorem k41 : e41.okB fns gls blt 60 := by unfold En.okB; kernel_rfl
theorem k42 : e42.okB fns gls blt 60 := by unfold En.okB; kernel_rfl
theorem k43 : e43.okB fns gls blt 60 := by unfold En.okB; kernel_rfl
theorem k44 : e44.okB fns gls blt 60 := by unfold En.okB; kernel_rfl
theorem kk0 : ∀ E ∈ es0, E.okB fns gls blt 60 := List.forall_mem_cons.2 ⟨k0, List.forall_mem_cons.2 ⟨k1, List.forall_mem_cons.2 ⟨k2, List.forall_mem_cons.2 ⟨k3, List.forall_mem_cons.2 ⟨k4, List.forall_mem_cons.2 ⟨k5, List.forall_mem_cons.2 ⟨k6, List.forall_mem_cons.2 ⟨k7, List.forall_mem_cons.2 ⟨k8, List.forall_mem_cons.2 ⟨k9, List.forall_mem_cons.2 ⟨k10, List.forall_mem_cons.2 ⟨k11, List.forall_mem_cons.2 ⟨k12, List.forall_mem_cons.2 ⟨k13, List.forall_mem_cons.2 ⟨k14, List.forall_mem_cons.2 ⟨k15, List.forall_mem_cons.2 ⟨k16, List.forall_mem_cons.2 ⟨k17, List.forall_mem_cons.2 ⟨k18, List.forall_mem_cons.2 ⟨k19, List.forall_mem_cons.2 ⟨k20, List.forall_mem_cons.2 ⟨k21, List.forall_mem_cons.2 ⟨k22, List.forall_mem_cons.2 ⟨k23, List.forall_mem_cons.2 ⟨k24, List.forall_mem_cons.2 ⟨k25, List.forall_mem_cons.2 ⟨k26, List.forall_mem_cons.2 ⟨k27, List.forall_mem_cons.2 ⟨k28, List.forall_mem_cons.2 ⟨k29, List.forall_mem_nil _⟩⟩⟩⟩⟩⟩⟩⟩⟩⟩⟩⟩⟩⟩⟩⟩⟩⟩⟩⟩⟩⟩⟩⟩⟩⟩⟩⟩⟩⟩
theorem kk1 : ∀ E ∈ es1, E.okB fns gls blt 60 := List.forall_mem_cons.2 ⟨k30, List.forall_mem_cons.2 ⟨k31, List.forall_mem_cons.2 ⟨k32, List.forall_mem_cons.2 ⟨k33, List.forall_mem_cons.2 ⟨k34, List.forall_mem_cons.2 ⟨k35, List.forall_mem_cons.2 ⟨k36, List.forall_mem_cons.2 ⟨k37, List.forall_mem_cons.2 ⟨k38, List.forall_mem_cons.2 ⟨k39, List.forall_mem_cons.2 ⟨k40, List.forall_mem_cons.2 ⟨k41, List.forall_mem_cons.2 ⟨k42, List.forall_mem_cons.2 ⟨k43, List.forall_mem_cons.2 ⟨k44, List.forall_mem_nil _⟩⟩⟩⟩⟩⟩⟩⟩⟩⟩⟩⟩⟩⟩⟩
theorem kall : ∀ E ∈ es, E.okB fns gls blt 60 := List.forall_mem_append.2 ⟨kk0, kk1⟩
theorem c0_0 : PatOk e0 (pt 1 [] [0]) := ⟨rfl, bd_of fun _ _ _ _ _ _ us ws _ hu hw hp => match us, ws, hu, hw, hp with | [u0], [], _, _, hp => by cases hp; rfl⟩
theorem c1_0 : PatOk e1 (pt 3 [] [0, 1, 2]) := ⟨rfl, bd_of fun _ _ _ _ _ _ us ws _ hu hw hp => match us, ws, hu, hw, hp with | [u0, u1, u2], [], _, _, hp => by cases hp; rfl⟩
theorem c2_0 : PatOk e2 (pt 1 [] [0]) := ⟨rfl, bd_of fun _ _ _ _ _ _ us ws _ hu hw hp => match us, ws, hu, hw, hp with | [u0], [], _, _, hp => by cases hp; rfl⟩
theorem c3_0 : PatOk e3 (pt 1 [] [0]) := ⟨rfl, bd_of fun _ _ _ _ _ _ us ws _ hu hw hp => match us, ws, hu, hw, hp with | [u0], [], _, _, hp => by cases hp; rfl⟩
theorem c4_0 : PatOk e4 (pt 3 [] [0, 1, 2]) := ⟨rfl, bd_of fun _ _ _ _ _ _ us ws _ hu hw hp => match us, ws, hu, hw, hp with | [u0, u1, u2], [], _, _, hp => by cases hp; rfl⟩
theorem c5_0 : PatOk e5 (pt 1 [] [0]) := ⟨rfl, bd_of fun _ _ _ _ _ _ us ws _ hu hw hp => match us, ws, hu, hw, hp with | [u0], [], _, _, hp => by cases hp; rfl⟩
theorem c6_0 : PatOk e6 (pt 1 [] [0]) := ⟨rfl, bd_of fun _ _ _ _ _ _ us ws _ hu hw hp => match us, ws, hu, hw, hp with | [u0], [], _, _, hp => by cases hp; rfl⟩
theorem c7_0 : PatOk e7 (pt 2 [] [0, 1]) := ⟨rfl, bd_of fun _ _ _ _ _ _ us ws _ hu hw hp => match us, ws, hu, hw, hp with | [u0, u1], [], _, _, hp => by cases hp; rfl⟩
theorem c8_0 : PatOk e8 (pt 1 [] [0]) := ⟨rfl, bd_of fun _ _ _ _ _ _ us ws _ hu hw hp => match us, ws, hu, hw, hp with | [u0], [], _, _, hp => by cases hp; rfl⟩
theorem c9_0 : PatOk e9 (pt 2 [] [0, 1]) := ⟨rfl, bd_of fun _ _ _ _ _ _ us ws _ hu hw hp => match us, ws, hu, hw, hp with | [u0, u1], [], _, _, hp => by cases hp; rfl⟩
theorem c10_0 : PatOk e10 (pt 1 [] [0]) := ⟨rfl, bd_of fun _ _ _ _ _ _ us ws _ hu hw hp => match us, ws, hu, hw, hp with | [u0], [], _, _, hp => by cases hp; rfl⟩
theorem c11_0 : PatOk e11 (pt 1 [] [0]) := ⟨rfl, bd_of fun _ _ _ _ _ _ us ws _ hu hw hp => match us, ws, hu, hw, hp with | [u0], [], _, _, hp => by cases hp; rfl⟩
theorem c12_0 : PatOk e12 (pt 1 [] [0]) := ⟨rfl, bd_of fun _ _ _ _ _ _ us ws _ hu hw hp => match us, ws, hu, hw, hp with | [u0], [], _, _, hp => by cases hp; rfl⟩
theorem c13_0 : PatOk e13 (pt 1 [] [0]) := ⟨rfl, bd_of fun _ _ _ _ _ _ us ws _ hu hw hp => match us, ws, hu, hw, hp with | [u0], [], _, _, hp => by cases hp; rfl⟩
theorem c14_0 : PatOk e14 (pt 2 [] [0, 1]) := ⟨rfl, bd_of fun _ _ _ _ _ _ us ws _ hu hw hp => match us, ws, hu, hw, hp with | [u0, u1], [], _, _, hp => by cases hp; rfl⟩
theorem c14_1 : PatOk e14 (pt 0 ["name", "schema"] [1, 0]) := ⟨rfl, bd_of fun _ _ _ _ _ _ us ws _ hu hw hp => match us, ws, hu, hw, hp with | [], [w0, w1], _, _, hp => by cases hp; rfl⟩
theorem c15_0 : PatOk e15 (pt 3 [] [0, 1, 2]) := ⟨rfl, bd_of fun _ _ _ _ _ _ us ws _ hu hw hp => match us, ws, hu, hw, hp with | [u0, u1, u2], [], _, _, hp => by cases hp; rfl⟩
theorem c16_0 : PatOk e16 (pt 2 [] [0, 1]) := ⟨rfl, bd_of fun _ _ _ _ _ _ us ws _ hu hw hp => match us, ws, hu, hw, hp with | [u0, u1], [], _, _, hp => by cases hp; rfl⟩
theorem c19_0 : PatOk e19 (pt 2 [] [0, 1]) := ⟨rfl, bd_of fun _ _ _ _ _ _ us ws _ hu hw hp => match us, ws, hu, hw, hp with | [u0, u1], [], _, _, hp => by cases hp; rfl⟩
theorem c20_0 : PatOk e20 (pt 2 [] [0, 1]) := ⟨rfl, bd_of fun _ _ _ _ _ _ us ws _ hu hw hp => match us, ws, hu, hw, hp with | [u0, u1], [], _, _, hp => by cases hp; rfl⟩
theorem c21_0 : PatOk e21 (pt 2 [] [0, 1]) := ⟨rfl, bd_of fun _ _ _ _ _ _ us ws _ hu hw hp => match us, ws, hu, hw, hp with | [u0, u1], [], _, _, hp => by cases hp; rfl⟩
theorem c22_0 : PatOk e22 (pt 3 [] [0, 1, 2]) := ⟨rfl, bd_of fun _ _ _ _ _ _ us ws _ hu hw hp => match us, ws, hu, hw, hp with | [u0, u1, u2], [], _, _, hp => by cases hp; rfl⟩
theorem c23_0 : PatOk e23 (pt 2 [] [0, 1]) := ⟨rfl, bd_of fun _ _ _ _ _ _ us ws _ hu hw hp => match us, ws, hu, hw, hp with | [u0, u1], [], _, _, hp => by cases hp; rfl⟩
theorem c24_0 : PatOk e24 (pt 1 [] [0]) := ⟨rfl, bd_of fun _ _ _ _ _ _ us ws _ hu hw hp => match us, ws, hu, hw, hp with | [u0], [], _, _, hp => by cases hp; rfl⟩
theorem c24_1 : PatOk e24 (pt 0 ["value"] [0]) := ⟨rfl, bd_of fun _ _ _ _ _ _ us ws _ hu hw hp => match us, ws, hu, hw, hp with | [], [w0], _, _, hp => by cases hp; rfl⟩
theorem c25_0 : PatOk e25 (pt 1 [] [0]) := ⟨rfl, bd_of fun _ _ _ _ _ _ us ws _ hu hw hp => match us, ws, hu, hw, hp with | [u0], [], _, _, hp => by cases hp; rfl⟩
theorem c26_0 : PatOk e26 (pt 1 [] [0]) := ⟨rfl, bd_of fun _ _ _ _ _ _ us ws _ hu hw hp => match us, ws, hu, hw, hp with | [u0], [], _, _, hp => by cases hp; rfl⟩
theorem c27_0 : PatOk e27 (pt 2 [] [0, 1]) := ⟨rfl, bd_of fun _ _ _ _ _ _ us ws _ hu hw hp => match us, ws, hu, hw, hp with | [u0, u1], [], _, _, hp => by cases hp; rfl⟩
theorem c28_0 : PatOk e28 (pt 2 [] [0, 1]) := ⟨rfl, bd_of fun _ _ _ _ _ _ us ws _ hu hw hp => match us, ws, hu, hw, hp with | [u0, u1], [], _, _, hp => by cases hp; rfl⟩
theorem c29_0 : PatOk e29 (pt 2 [] [0, 1]) := ⟨rfl, bd_of fun _ _ _ _ _ _ us ws _ hu hw hp => match us, ws, hu, hw, hp with | [u0, u1], [], _, _, hp => by cases hp; rfl⟩
theorem c30_0 : PatOk e30 (pt 2 [] [0, 1]) := ⟨rfl, bd_of fun _ _ _ _ _ _ us ws _ hu hw hp => match us, ws, hu, hw, hp with | [u0, u1], [], _, _, hp => by cases hp; rfl⟩
theorem c31_0 : PatOk e31 (pt 1 [] [0]) := ⟨rfl, bd_of fun _ _ _ _ _ _ us ws _ hu hw hp => match us, ws, hu, hw, hp with | [u0], [], _, _, hp => by cases hp; rfl⟩
theorem c32_0 : PatOk e32 (pt 2 [] [0, 1]) := ⟨rfl, bd_of fun _ _ _ _ _ _ us ws _ hu hw hp => match us, ws, hu, hw, hp with | [u0, u1], [], _, _, hp => by cases hp; rfl⟩
theorem c33_0 : PatOk e33 (pt 1 [] [0]) := ⟨rfl, bd_of fun _ _ _ _ _ _ us ws _ hu hw hp => match us, ws, hu, hw, hp with | [u0], [], _, _, hp => by cases hp; rfl⟩
theorem c34_0 : PatOk e34 (pt 1 [] [0]) := ⟨rfl, bd_of fun _ _ _ _ _ _ us ws _ hu hw hp => match us, ws, hu, hw, hp with | [u0], [], _, _, hp => by cases hp; rfl⟩
theorem c35_0 : PatOk e35 (pt 1 [] [0]) := ⟨rfl, bd_of fun _ _ _ _ _ _ us ws _ hu hw hp => match us, ws, hu, hw, hp with | [u0], [], _, _, hp => by cases hp; rfl⟩
theorem c36_0 : PatOk e36 (pt 3 [] [0, 1, 2]) := ⟨rfl, bd_of fun _ _ _ _ _ _ us ws _ hu hw hp => match us, ws, hu, hw, hp with | [u0, u1, u2], [], _, _, hp => by cases hp; rfl⟩
theorem c37_0 : PatOk e37 (pt 1 [] [0]) := ⟨rfl, bd_of fun _ _ _ _ _ _ us ws _ hu hw hp => match us, ws, hu, hw, hp with | [u0], [], _, _, hp => by cases hp; rfl⟩
theorem c38_0 : PatOk e38 (pt 3 [] [0, 1, 2]) := ⟨rfl, bd_of fun _ _ _ _ _ _ us ws _ hu hw hp => match us, ws, hu, hw, hp with | [u0, u1, u2], [], _, _, hp => by cases hp; rfl⟩
theorem c39_0 : PatOk e39 (pt 1 [] [0]) := ⟨rfl, bd_of fun _ _ _ _ _ _ us ws _ hu hw hp => match us, ws, hu, hw, hp with | [u0], [], _, _, hp => by cases hp; rfl⟩
theorem c40_0 : PatOk e40 (pt 1 [] [0]) := ⟨rfl, bd_of fun _ _ _ _ _ _ us ws _ hu hw hp => match us, ws, hu, hw, hp with | [u0], [], _, _, hp => by cases hp; rfl⟩
theorem c41_0 : PatOk e41 (pt 2 [] [0, 1]) := ⟨rfl, bd_of fun _ _ _ _ _ _ us ws _ hu hw hp => match us, ws, hu, hw, hp with | [u0, u1], [], _, _, hp => by cases hp; rfl⟩
theorem c42_0 : PatOk e42 (pt 2 [] [0, 1]) := ⟨rfl, bd_of fun _ _ _ _ _ _ us ws _ hu hw hp => match us, ws, hu, hw, hp with | [u0, u1], [], _, _, hp => by cases hp; rfl⟩
theorem c43_0 : PatOk e43 (pt 1 [] [0]) := ⟨rfl, bd_of fun _ _ _ _ _ _ us ws _ hu hw hp => match us, ws, hu, hw, hp with | [u0], [], _, _, hp => by cases hp; rfl⟩
theorem f0 : ∀ q ∈ fns0, ∃ E, es[q.2.n]? = some E ∧ E.name = q.1 ∧ ∀ pt ∈ q.2.pats, PatOk E pt := List.forall_mem_cons.2 ⟨⟨e0, rfl, rfl, List.forall_mem_cons.2 ⟨c0_0, List.forall_mem_nil _⟩⟩, List.forall_mem_cons.2 ⟨⟨e1, rfl, rfl, List.forall_mem_cons.2 ⟨c1_0, List.forall_mem_nil _⟩⟩, List.forall_mem_cons.2 ⟨⟨e2, rfl, rfl, List.forall_mem_cons.2 ⟨c2_0, List.forall_mem_nil _⟩⟩, List.forall_mem_cons.2 ⟨⟨e3, rfl, rfl, List.forall_mem_cons.2 ⟨c3_0, List.forall_mem_nil _⟩⟩, List.forall_mem_cons.2 ⟨⟨e4, rfl, rfl, List.forall_mem_cons.2 ⟨c4_0, List.forall_mem_nil _⟩⟩, List.forall_mem_cons.2 ⟨⟨e5, rfl, rfl, List.forall_mem_cons.2 ⟨c5_0, List.forall_mem_nil _⟩⟩, List.forall_mem_cons.2 ⟨⟨e6, rfl, rfl, List.forall_mem_cons.2 ⟨c6_0, List.forall_mem_nil _⟩⟩, List.forall_mem_cons.2 ⟨⟨e7, rfl, rfl, List.forall_mem_cons.2 ⟨c7_0, List.forall_mem_nil _⟩⟩, List.forall_mem_cons.2 ⟨⟨e8, rfl, rfl, List.forall_mem_cons.2 ⟨c8_0, List.forall_mem_nil _⟩⟩, List.forall_mem_cons.2 ⟨⟨e9, rfl, rfl, List.forall_mem_cons.2 ⟨c9_0, List.forall_mem_nil _⟩⟩, List.forall_mem_cons.2 ⟨⟨e10, rfl, rfl, List.forall_mem_cons.2 ⟨c10_0, List.forall_mem_nil _⟩⟩, List.forall_mem_cons.2 ⟨⟨e11, rfl, rfl, List.forall_mem_cons.2 ⟨c11_0, List.forall_mem_nil _⟩⟩, List.forall_mem_cons.2 ⟨⟨e12, rfl, rfl, List.forall_mem_cons.2 ⟨c12_0, List.forall_mem_nil _⟩⟩, List.forall_mem_cons.2 ⟨⟨e13, rfl, rfl, List.forall_mem_cons.2 ⟨c13_0, List.forall_mem_nil _⟩⟩, List.forall_mem_cons.2 ⟨⟨e14, rfl, rfl, List.forall_mem_cons.2 ⟨c14_0, List.forall_mem_cons.2 ⟨c14_1, List.forall_mem_nil _⟩⟩⟩, List.forall_mem_cons.2 ⟨⟨e15, rfl, rfl, List.forall_mem_cons.2 ⟨c15_0, List.forall_mem_nil _⟩⟩, List.forall_mem_cons.2 ⟨⟨e16, rfl, rfl, List.forall_mem_cons.2 ⟨c16_0, List.forall_mem_nil _⟩⟩, List.forall_mem_cons.2 ⟨⟨e17, rfl, rfl, List.forall_mem_nil _⟩, List.forall_mem_cons.2 ⟨⟨e18, rfl, rfl, List.forall_mem_nil _⟩, List.forall_mem_cons.2 ⟨⟨e19, rfl, rfl, List.forall_mem_cons.2 ⟨c19_0, List.forall_mem_nil _⟩⟩, List.forall_mem_cons.2 ⟨⟨e20, rfl, rfl, List.forall_mem_cons.2 ⟨c20_0, List.forall_mem_nil _⟩⟩, List.forall_mem_cons.2 ⟨⟨e21, rfl, rfl, List.forall_mem_cons.2 ⟨c21_0, List.forall_mem_nil _⟩⟩, List.forall_mem_cons.2 ⟨⟨e22, rfl, rfl, List.forall_mem_cons.2 ⟨c22_0, List.forall_mem_nil _⟩⟩, List.forall_mem_cons.2 ⟨⟨e23, rfl, rfl, List.forall_mem_cons.2 ⟨c23_0, List.forall_mem_nil _⟩⟩, List.forall_mem_cons.2 ⟨⟨e24, rfl, rfl, List.forall_mem_cons.2 ⟨c24_0, List.forall_mem_cons.2 ⟨c24_1, List.forall_mem_nil _⟩⟩⟩, List.forall_mem_cons.2 ⟨⟨e25, rfl, rfl, List.forall_mem_cons.2 ⟨c25_0, List.forall_mem_nil _⟩⟩, List.forall_mem_cons.2 ⟨⟨e26, rfl, rfl, List.forall_mem_cons.2 ⟨c26_0, List.forall_mem_nil _⟩⟩, List.forall_mem_cons.2 ⟨⟨e27, rfl, rfl, List.forall_mem_cons.2 ⟨c27_0, List.forall_mem_nil _⟩⟩, List.forall_mem_cons.2 ⟨⟨e28, rfl, rfl, List.forall_mem_cons.2 ⟨c28_0, List.forall_mem_nil _⟩⟩, List.forall_mem_cons.2 ⟨⟨e29, rfl, rfl, List.forall_mem_cons.2 ⟨c29_0, List.forall_mem_nil _⟩⟩, List.forall_mem_nil _⟩⟩⟩⟩⟩⟩⟩⟩⟩⟩⟩⟩⟩⟩⟩⟩⟩⟩⟩⟩⟩⟩⟩⟩⟩⟩⟩⟩⟩⟩
theorem f1 : ∀ q ∈ fns1, ∃ E, es[q.2.n]? = some E ∧ E.name = q.1 ∧ ∀ pt ∈ q.2.pats, PatOk E pt := List.forall_mem_cons.2 ⟨⟨e30, rfl, rfl, List.forall_mem_cons.2 ⟨c30_0, List.forall_mem_nil _⟩⟩, List.forall_mem_cons.2 ⟨⟨e31, rfl, rfl, List.forall_mem_cons.2 ⟨c31_0, List.forall_mem_nil _⟩⟩, List.forall_mem_cons.2 ⟨⟨e32, rfl, rfl, List.forall_mem_cons.2 ⟨c32_0, List.forall_mem_nil _⟩⟩, List.forall_mem_cons.2 ⟨⟨e33, rfl, rfl, List.forall_mem_cons.2 ⟨c33_0, List.forall_mem_nil _⟩⟩, List.forall_mem_cons.2 ⟨⟨e34, rfl, rfl, List.forall_mem_cons.2 ⟨c34_0, List.forall_mem_nil _⟩⟩, List.forall_mem_cons.2 ⟨⟨e35, rfl, rfl, List.forall_mem_cons.2 ⟨c35_0, List.forall_mem_nil _⟩⟩, List.forall_mem_cons.2 ⟨⟨e36, rfl, rfl, List.forall_mem_cons.2 ⟨c36_0, List.forall_mem_nil _⟩⟩, List.forall_mem_cons.2 ⟨⟨e37, rfl, rfl, List.forall_mem_cons.2 ⟨c37_0, List.forall_mem_nil _⟩⟩, List.forall_mem_cons.2 ⟨⟨e38, rfl, rfl, List.forall_mem_cons.2 ⟨c38_0, List.forall_mem_nil _⟩⟩, List.forall_mem_cons.2 ⟨⟨e39, rfl, rfl, List.forall_mem_cons.2 ⟨c39_0, List.forall_mem_nil _⟩⟩, List.forall_mem_cons.2 ⟨⟨e40, rfl, rfl, List.forall_mem_cons.2 ⟨c40_0, List.forall_mem_nil _⟩⟩, List.forall_mem_cons.2 ⟨⟨e41, rfl, rfl, List.forall_mem_cons.2 ⟨c41_0, List.forall_mem_nil _⟩⟩, List.forall_mem_cons.2 ⟨⟨e42, rfl, rfl, List.forall_mem_cons.2 ⟨c42_0, List.forall_mem_nil _⟩⟩, List.forall_mem_cons.2 ⟨⟨e43, rfl, rfl, List.forall_mem_cons.2 ⟨c43_0, List.forall_mem_nil _⟩⟩, List.forall_mem_cons.2 ⟨⟨e44, rfl, rfl, List.forall_mem_nil _⟩, List.forall_mem_nil _⟩⟩⟩⟩⟩⟩⟩⟩⟩⟩⟩⟩⟩⟩⟩
theorem fall : fnsOk es fns := List.forall_mem_append.2 ⟨f0, f1⟩
theorem q0 : PatOk e0 (pt 1 [] [0]) := ⟨rfl, bd_of fun _ _ _ _ _ _ us ws _ hu hw hp => match us, ws, hu, hw, hp with | [u0], [], _, _, hp => by cases hp; rfl⟩
theorem q1 : PatOk e1 (pt 3 [] [0, 1, 2]) := ⟨rfl, bd_of fun _ _ _ _ _ _ us ws _ hu hw hp => match us, ws, hu, hw, hp with | [u0, u1, u2], [], _, _, hp => by cases hp; rfl⟩
theorem q2 : PatOk e2 (pt 1 [] [0]) := ⟨rfl, bd_of fun _ _ _ _ _ _ us ws _ hu hw hp => match us, ws, hu, hw, hp with | [u0], [], _, _, hp => by cases hp; rfl⟩
theorem q3 : PatOk e3 (pt 1 [] [0]) := ⟨rfl, bd_of fun _ _ _ _ _ _ us ws _ hu hw hp => match us, ws, hu, hw, hp with | [u0], [], _, _, hp => by cases hp; rfl⟩
theorem q4 : PatOk e4 (pt 3 [] [0, 1, 2]) := ⟨rfl, bd_of fun _ _ _ _ _ _ us ws _ hu hw hp => match us, ws, hu, hw, hp with | [u0, u1, u2], [], _, _, hp => by cases hp; rfl⟩
theorem q5 : PatOk e5 (pt 1 [] [0]) := ⟨rfl, bd_of fun _ _ _ _ _ _ us ws _ hu hw hp => match us, ws, hu, hw, hp with | [u0], [], _, _, hp => by cases hp; rfl⟩
theorem q6 : PatOk e6 (pt 1 [] [0]) := ⟨rfl, bd_of fun _ _ _ _ _ _ us ws _ hu hw hp => match us, ws, hu, hw, hp with | [u0], [], _, _, hp => by cases hp; rfl⟩
theorem q7 : PatOk e7 (pt 2 [] [0, 1]) := ⟨rfl, bd_of fun _ _ _ _ _ _ us ws _ hu hw hp => match us, ws, hu, hw, hp with | [u0, u1], [], _, _, hp => by cases hp; rfl⟩
theorem q8 : PatOk e8 (pt 1 [] [0]) := ⟨rfl, bd_of fun _ _ _ _ _ _ us ws _ hu hw hp => match us, ws, hu, hw, hp with | [u0], [], _, _, hp => by cases hp; rfl⟩
theorem q9 : PatOk e9 (pt 2 [] [0, 1]) := ⟨rfl, bd_of fun _ _ _ _ _ _ us ws _ hu hw hp => match us, ws, hu, hw, hp with | [u0, u1], [], _, _, hp => by cases hp; rfl⟩
theorem q10 : PatOk e10 (pt 1 [] [0]) := ⟨rfl, bd_of fun _ _ _ _ _ _ us ws _ hu hw hp => match us, ws, hu, hw, hp with | [u0], [], _, _, hp => by cases hp; rfl⟩
theorem q11 : PatOk e11 (pt 1 [] [0]) := ⟨rfl, bd_of fun _ _ _ _ _ _ us ws _ hu hw hp => match us, ws, hu, hw, hp with | [u0], [], _, _, hp => by cases hp; rfl⟩
theorem q12 : PatOk e12 (pt 1 [] [0]) := ⟨rfl, bd_of fun _ _ _ _ _ _ us ws _ hu hw hp => match us, ws, hu, hw, hp with | [u0], [], _, _, hp => by cases hp; rfl⟩
theorem q13 : PatOk e13 (pt 1 [] [0]) := ⟨rfl, bd_of fun _ _ _ _ _ _ us ws _ hu hw hp => match us, ws, hu, hw, hp with | [u0], [], _, _, hp => by cases hp; rfl⟩
theorem q14 : PatOk e14 (pt 2 [] [0, 1]) := ⟨rfl, bd_of fun _ _ _ _ _ _ us ws _ hu hw hp => match us, ws, hu, hw, hp with | [u0, u1], [], _, _, hp => by cases hp; rfl⟩
theorem q15 : PatOk e15 (pt 3 [] [0, 1, 2]) := ⟨rfl, bd_of fun _ _ _ _ _ _ us ws _ hu hw hp => match us, ws, hu, hw, hp with | [u0, u1, u2], [], _, _, hp => by cases hp; rfl⟩
theorem q16 : PatOk e16 (pt 2 [] [0, 1]) := ⟨rfl, bd_of fun _ _ _ _ _ _ us ws _ hu hw hp => match us, ws, hu, hw, hp with | [u0, u1], [], _, _, hp => by cases hp; rfl⟩
theorem q17 : PatOk e17 (pt 2 [] [0, 1]) := ⟨rfl, bd_of fun _ _ _ _ _ _ us ws _ hu hw hp => match us, ws, hu, hw, hp with | [u0, u1], [], _, _, hp => by cases hp; rfl⟩
theorem q18 : PatOk e18 (pt 2 [] [0, 1]) := ⟨rfl, bd_of fun _ _ _ _ _ _ us ws _ hu hw hp => match us, ws, hu, hw, hp with | [u0, u1], [], _, _, hp => by cases hp; rfl⟩
theorem q19 : PatOk e19 (pt 2 [] [0, 1]) := ⟨rfl, bd_of fun _ _ _ _ _ _ us ws _ hu hw hp => match us, ws, hu, hw, hp with | [u0, u1], [], _, _, hp => by cases hp; rfl⟩
theorem q20 : PatOk e20 (pt 2 [] [0, 1]) := ⟨rfl, bd_of fun _ _ _ _ _ _ us ws _ hu hw hp => match us, ws, hu, hw, hp with | [u0, u1], [], _, _, hp => by cases hp; rfl⟩
theorem q21 : PatOk e21 (pt 2 [] [0, 1]) := ⟨rfl, bd_of fun _ _ _ _ _ _ us ws _ hu hw hp => match us, ws, hu, hw, hp with | [u0, u1], [], _, _, hp => by cases hp; rfl⟩
theorem q22 : PatOk e22 (pt 3 [] [0, 1, 2]) := ⟨rfl, bd_of fun _ _ _ _ _ _ us ws _ hu hw hp => match us, ws, hu, hw, hp with | [u0, u1, u2], [], _, _, hp => by cases hp; rfl⟩
theorem q23 : PatOk e23 (pt 2 [] [0, 1]) := ⟨rfl, bd_of fun _ _ _ _ _ _ us ws _ hu hw hp => match us, ws, hu, hw, hp with | [u0, u1], [], _, _, hp => by cases hp; rfl⟩
theorem q24 : PatOk e24 (pt 1 [] [0]) := ⟨rfl, bd_of fun _ _ _ _ _ _ us ws _ hu hw hp => match us, ws, hu, hw, hp with | [u0], [], _, _, hp => by cases hp; rfl⟩
theorem q25 : PatOk e25 (pt 1 [] [0]) := ⟨rfl, bd_of fun _ _ _ _ _ _ us ws _ hu hw hp => match us, ws, hu, hw, hp with | [u0], [], _, _, hp => by cases hp; rfl⟩
theorem q26 : PatOk e26 (pt 1 [] [0]) := ⟨rfl, bd_of fun _ _ _ _ _ _ us ws _ hu hw hp => match us, ws, hu, hw, hp with | [u0], [], _, _, hp => by cases hp; rfl⟩
theorem q27 : PatOk e27 (pt 2 [] [0, 1]) := ⟨rfl, bd_of fun _ _ _ _ _ _ us ws _ hu hw hp => match us, ws, hu, hw, hp with | [u0, u1], [], _, _, hp => by cases hp; rfl⟩
theorem q28 : PatOk e28 (pt 2 [] [0, 1]) := ⟨rfl, bd_of fun _ _ _ _ _ _ us ws _ hu hw hp => match us, ws, hu, hw, hp with | [u0, u1], [], _, _, hp => by cases hp; rfl⟩
theorem q29 : PatOk e29 (pt 2 [] [0, 1]) := ⟨rfl, bd_of fun _ _ _ _ _ _ us ws _ hu hw hp => match us, ws, hu, hw, hp with | [u0, u1], [], _, _, hp => by cases hp; rfl⟩
theorem q30 : PatOk e30 (pt 2 [] [0, 1]) := ⟨rfl, bd_of fun _ _ _ _ _ _ us ws _ hu hw hp => match us, ws, hu, hw, hp with | [u0, u1], [], _, _, hp => by cases hp; rfl⟩
theorem q31 : PatOk e31 (pt 1 [] [0]) := ⟨rfl, bd_of fun _ _ _ _ _ _ us ws _ hu hw hp => match us, ws, hu, hw, hp with | [u0], [], _, _, hp => by cases hp; rfl⟩
theorem q32 : PatOk e32 (pt 2 [] [0, 1]) := ⟨rfl, bd_of fun _ _ _ _ _ _ us ws _ hu hw hp => match us, ws, hu, hw, hp with | [u0, u1], [], _, _, hp => by cases hp; rfl⟩
theorem q33 : PatOk e33 (pt 1 [] [0]) := ⟨rfl, bd_of fun _ _ _ _ _ _ us ws _ hu hw hp => match us, ws, hu, hw, hp with | [u0], [], _, _, hp => by cases hp; rfl⟩
theorem q34 : PatOk e34 (pt 1 [] [0]) := ⟨rfl, bd_of fun _ _ _ _ _ _ us ws _ hu hw hp => match us, ws, hu, hw, hp with | [u0], [], _, _, hp => by cases hp; rfl⟩
theorem q35 : PatOk e35 (pt 1 [] [0]) := ⟨rfl, bd_of fun _ _ _ _ _ _ us ws _ hu hw hp => match us, ws, hu, hw, hp with | [u0], [], _, _, hp => by cases hp; rfl⟩
theorem q36 : PatOk e36 (pt 3 [] [0, 1, 2]) := ⟨rfl, bd_of fun _ _ _ _ _ _ us ws _ hu hw hp => match us, ws, hu, hw, hp with | [u0, u1, u2], [], _, _, hp => by cases hp; rfl⟩
theorem q37 : PatOk e37 (pt 1 [] [0]) := ⟨rfl, bd_of fun _ _ _ _ _ _ us ws _ hu hw hp => match us, ws, hu, hw, hp with | [u0], [], _, _, hp => by cases hp; rfl⟩
theorem q38 : PatOk e38 (pt 3 [] [0, 1, 2]) := ⟨rfl, bd_of fun _ _ _ _ _ _ us ws _ hu hw hp => match us, ws, hu, hw, hp with | [u0, u1, u2], [], _, _, hp => by cases hp; rfl⟩
theorem q39 : PatOk e39 (pt 1 [] [0]) := ⟨rfl, bd_of fun _ _ _ _ _ _ us ws _ hu hw hp => match us, ws, hu, hw, hp with | [u0], [], _, _, hp => by cases hp; rfl⟩
theorem q40 : PatOk e40 (pt 1 [] [0]) := ⟨rfl, bd_of fun _ _ _ _ _ _ us ws _ hu hw hp => match us, ws, hu, hw, hp with | [u0], [], _, _, hp => by cases hp; rfl⟩
theorem q41 : PatOk e41 (pt 2 [] [0, 1]) := ⟨rfl, bd_of fun _ _ _ _ _ _ us ws _ hu hw hp => match us, ws, hu, hw, hp with | [u0, u1], [], _, _, hp => by cases hp; rfl⟩
theorem q42 : PatOk e42 (pt 2 [] [0, 1]) := ⟨rfl, bd_of fun _ _ _ _ _ _ us ws _ hu hw hp => match us, ws, hu, hw, hp with | [u0, u1], [], _, _, hp => by cases hp; rfl⟩
theorem q43 : PatOk e43 (pt 1 [] [0]) := ⟨rfl, bd_of fun _ _ _ _ _ _ us ws _ hu hw hp => match us, ws, hu, hw, hp with | [u0], [], _, _, hp => by cases hp; rfl⟩
theorem q44 : PatOk e44 (pt 1 [] [0]) := ⟨rfl, bd_of fun _ _ _ _ _ _ us ws _ hu hw hp => match us, ws, hu, hw, hp with | [u0], [], _, _, hp => by cases hp; rfl⟩
theorem qq0 : ∀ E ∈ es0, PatOk E ⟨E.ps.length, [], List.range E.ps.length⟩ := List.forall_mem_cons.2 ⟨q0, List.forall_mem_cons.2 ⟨q1, List.forall_mem_cons.2 ⟨q2, List.forall_mem_cons.2 ⟨q3, List.forall_mem_cons.2 ⟨q4, List.forall_mem_cons.2 ⟨q5, List.forall_mem_cons.2 ⟨q6, List.forall_mem_cons.2 ⟨q7, List.forall_mem_cons.2 ⟨q8, List.forall_mem_cons.2 ⟨q9, List.forall_mem_cons.2 ⟨q10, List.forall_mem_cons.2 ⟨q11, List.forall_mem_cons.2 ⟨q12, List.forall_mem_cons.2 ⟨q13, List.forall_mem_cons.2 ⟨q14, List.forall_mem_cons.2 ⟨q15, List.forall_mem_cons.2 ⟨q16, List.forall_mem_cons.2 ⟨q17, List.forall_mem_cons.2 ⟨q18, List.forall_mem_cons.2 ⟨q19, List.forall_mem_cons.2 ⟨q20, List.forall_mem_cons.2 ⟨q21, List.forall_mem_cons.2 ⟨q22, List.forall_mem_cons.2 ⟨q23, List.forall_mem_cons.2 ⟨q24, List.forall_mem_cons.2 ⟨q25, List.forall_mem_cons.2 ⟨q26, List.forall_mem_cons.2 ⟨q27, List.forall_mem_cons.2 ⟨q28, List.forall_mem_cons.2 ⟨q29, List.forall_mem_nil _⟩⟩⟩⟩⟩⟩⟩⟩⟩⟩⟩⟩⟩⟩⟩⟩⟩⟩⟩⟩⟩⟩⟩⟩⟩⟩⟩⟩⟩⟩
theorem qq1 : ∀ E ∈ es1, PatOk E ⟨E.ps.length, [], List.range E.ps.length⟩ := List.forall_mem_cons.2 ⟨q30, List.forall_mem_cons.2 ⟨q31, List.forall_mem_cons.2 ⟨q32, List.forall_mem_cons.2 ⟨q33, List.forall_mem_cons.2 ⟨q34, List.forall_mem_cons.2 ⟨q35, List.forall_mem_cons.2 ⟨q36, List.forall_mem_cons.2 ⟨q37, List.forall_mem_cons.2 ⟨q38, List.forall_mem_cons.2 ⟨q39, List.forall_mem_cons.2 ⟨q40, List.forall_mem_cons.2 ⟨q41, List.forall_mem_cons.2 ⟨q42, List.forall_mem_cons.2 ⟨q43, List.forall_mem_cons.2 ⟨q44, List.forall_mem_nil _⟩⟩⟩⟩⟩⟩⟩⟩⟩⟩⟩⟩⟩⟩⟩
theorem qall : ∀ E ∈ es, PatOk E ⟨E.ps.length, [], List.range E.ps.length⟩ := List.forall_mem_append.2 ⟨qq0, qq1⟩
theorem scs : (es.all fun E => scB E.N E.ps E.scope) = true := by kernel_rfl
theorem fits : cs.all Cf.fit = true := by kernel_rfl
def nm0 : List PySem.Str := ["is_whole", "is_number", "is_bit", "is_word", "is_words", "is_column", "is_columns", "is_key", "is_rules", "is_links", "is_table", "is_index", "is_view", "is_item", "named", "item_of", "table_of", "index_of", "view_of", "items_of", "place_at", "places_at", "link_is_right", "head_is_right", "is_schema", "_law_begun", "_law_blended", "_law_draw", "_law_pick", "_law_mixed"]
def nm1 : List PySem.Str := ["_law_is_truth", "_law_is_whole", "_law_bent", "_law_odd", "_law_v_is_word", "_law_v_columns", "_law_v_table", "_law_v_schema", "_law_k02_words", "_law_k02_table", "_law_k02_item", "_law_k02_kinds", "_law_k02_refers", "_law_k02_is", "LETTERS", "FIGURES", "MOST_WORD", "MOST_COLUMNS", "MOST_KEY", "MOST_TABLES", "MOST_ITEMS", "KINDS"]
def nms : List PySem.Str := nm0 ++ nm1
abbrev R : PySem.W.OpenRow := PySem.W.OpenLaw.row PySem.Challenge.rw_onelinekept_k02_whole_schemas_judged
abbrev hk : PySem.W.Hook := hookX 4 (faOf es cs blt) (es.map dOf) (exOf cs)
def ob (s : PySem.W.SharedT) : He.AlD × Bool := obX 4 (faOf es cs blt) (es.map dOf) (exOf cs) (HandSHeadRun.getT s)
theorem ob_eq (s : PySem.W.SharedT) : ob s = hk.obs s.abs := obX_eq (HandSHeadRun.getT_eq s)
theorem run (w : World) : HandSHeadRun.RunEq R (PySem.W.view R.prog [55]) hk ob 4000 nms w := by
  intro os
  kernel_rfl
theorem here (w : World) (mg : Str → Option Value) (fa : Addr) (h : Heap) (Y : hk.says w h) (G : h.Ns mainGlobals mg) (hmg : mg ("law" : Str) = some (.ref fa)) :
    ∃ (T : Tb) (fd : FuncData), T.K.In h ∧ (∀ (s : Shared) (u : Value), BindsTo s fd ⟨[u], []⟩ [("script", u)]) ∧ ∀ bs : Heap, T.K.In bs → bs.Ns mainGlobals mg → CalG T pg w mg bs (Phi (prog es) gl 200 60) 60 44 fa fd ["script"] := by
  obtain ⟨K, X, c, ex⟩ := Y
  have L : Lay (tbOf K es) mg es fns gls blt gl := lay_of X G c ex scs fall fits qall
  obtain ⟨f, fd, hf, F⟩ := L.fun_ 44 e44 rfl
  have hf' : some (He.ga K "law") = some f := hf
  cases hf'
  have hg : mg ("law" : Str) = some (.ref (He.ga K "law")) := He.glo_ok X G (sayK c (List.mem_append_left _ (List.mem_map_of_mem (f := fun E => He.Fa.glo E.name) (List.mem_of_getElem? (show es[44]? = some e44 from rfl)))))
  rw [hmg] at hg
  cases hg
  refine ⟨tbOf K es, fd, X, fun s u => ?_, fun bs _ _ => ?_⟩
  · have b := FunD.bindsA (ps := ["script"]) F fun _ _ _ _ _ _ us hl => match us, hl with | [_], _ => rfl
    exact b s [u] rfl
  · exact all_cal L (fuel := 60) (fun n E hn => kall E (List.mem_of_getElem? hn)) 60 44 e44 _ fd rfl rfl F

end Lw

set_option autoImplicit false
namespace Lw
open PySem Mi Mw
local macro_rules | `(tactic| walk_at "go") => `(tactic| try simp only [↓wp_ok, ↓wp_err, ↓wp_bad, ↓wp_bind, ↓wp_ite, ↓oo_some, ↓oo_none, ↓oo_map, ↓oo_ite, ↓wp_ofO, ↓wp_lift, ↓cwp_ok, ↓wp_const, ↓wp_glob, ↓wp_fnv, ↓rdS_val, ↓rdS_own, ↓wp_var, ↓wp_tup, ↓wp_lst, ↓wp_edct, ↓wp_two, ↓wp_one, ↓slO_val, ↓slO_own, ↓rs_late, ↓rs_done,
  ↓dnO_non, ↓dnO_bl, ↓dnO_int, ↓dnO_str, ↓dnO_tup, ↓dnO_lst, ↓dnO_dct, ↓wp_arg_peek, ↓wpA_nil, ↓wpA_cons, ↓wpP_cons, ↓wpB_cons, ↓wpA_const, ↓wpP_const, ↓wpB_const, ↓wpA_glob, ↓wpP_glob, ↓wpB_glob, ↓wpA_fnv, ↓wpP_fnv, ↓wpB_fnv, ↓wpA_var, ↓wpP_var, ↓wpB_var, ↓wpP_peek, ↓wpB_peek, ↓wpA_tup, ↓wpP_tup, ↓wpB_tup, ↓wpA_lst, ↓wpP_lst, ↓wpB_lst, ↓wpA_edct, ↓wpP_edct, ↓wpB_edct, ↓wpA_op2, ↓wpP_op2, ↓wpB_op2, ↓wpA_op1, ↓wpP_op1, ↓wpB_op1, ↓wpA_chain, ↓wpP_chain, ↓wpB_chain, ↓wpA_andv, ↓wpP_andv, ↓wpB_andv, ↓wpA_orv, ↓wpP_orv, ↓wpB_orv, ↓wpA_notv, ↓wpP_notv, ↓wpB_notv, ↓wpA_ifx, ↓wpP_ifx, ↓wpB_ifx, ↓wpA_sub, ↓wpP_sub, ↓wpB_sub, ↓wpA_slc, ↓wpP_slc, ↓wpB_slc, ↓wpA_rev, ↓wpP_rev, ↓wpB_rev, ↓wpA_comp, ↓wpP_comp, ↓wpB_comp, ↓wpA_compO, ↓wpP_compO, ↓wpB_compO, ↓wpA_sSeq, ↓wpP_sSeq, ↓wpB_sSeq, ↓wpA_sRng, ↓wpP_sRng, ↓wpB_sRng, ↓wpA_sRng2, ↓wpP_sRng2, ↓wpB_sRng2, ↓wpA_sEnum, ↓wpP_sEnum, ↓wpB_sEnum, ↓wpA_sZip, ↓wpP_sZip, ↓wpB_sZip, ↓wpA_call, ↓wpP_call, ↓wpB_call, ↓wpA_callk, ↓wpP_callk, ↓wpB_callk, ↓wpA_callv, ↓wpP_callv, ↓wpB_callv, ↓wpA_bi, ↓wpP_bi, ↓wpB_bi, ↓wpA_isi, ↓wpP_isi, ↓wpB_isi, ↓wpA_meth, ↓wpP_meth, ↓wpB_meth, ↓wpA_mut, ↓wpP_mut, ↓wpB_mut, ↓wpA_odict, ↓wpP_odict, ↓wpB_odict, ↓wpA_oget, ↓wpP_oget, ↓wpB_oget, ↓wpA_opop0, ↓wpP_opop0, ↓wpB_opop0, ↓wpA_sortk, ↓wpP_sortk, ↓wpB_sortk,
  ↓wp_op2, ↓wp_op1, ↓wp_chain, ↓wp_andv, ↓wp_orv, ↓wp_notv, ↓wp_ifx, ↓wp_sub, ↓bdO_int, ↓wp_part_nil, ↓wp_slc, ↓wp_rev, ↓wp_lend, hideO, List.map_cons, List.map_nil, ↓wp_call, ↓wp_callk, ↓fnO_fn, ↓wp_callv, ↓wp_bi, ↓wp_isi, ↓wp_meth, ↓owO_own, ↓wp_mut, ↓wp_sortk, ↓wp_odict,
  ↓wp_nil, ↓wp_cons, ↓wp_bnil, ↓wp_bone, ↓wp_btwo, ↓wp_sSeq, ↓rgO_int, ↓wp_sRng, ↓wp_sRng2, ↓wp_sEnum, ↓zpO_lst, ↓zpO_tup, ↓wp_sZip, ↓wp_tst, ↓wp_cbd_nil, ↓wp_comp, ↓wp_compO, ↓nx_next, ↓nx_brk, ↓nx_cont, ↓nx_ret, ↓wp_skip, ↓wp_seq, ↓wp_expr, ↓wp_set, ↓wp_asg1, ↓wp_asgm, ↓wp_asgL_nil, ↓wp_asgL_cons, ↓lsO_lst, ↓wp_stOwn, ↓wp_setOwn, ↓wp_setObj, ↓wp_ites,
  ↓wp_fb, ↓wp_for, ↓wp_while, ↓wp_wc, ↓wp_ret, ↓wp_brk, ↓wp_cont, ↓wp_setIdx, ↓wp_par, fnO2_next, fnO2_ret, truth_non, truth_bl, truth_int, truth_tup, truth_lst, truth_str, op2_isnon, op2_isnotnon, op2_isbl, op2_eqi, op2_nei, op2_lti, op2_lei, op2_gti, op2_gei, op2_addi, op2_subi, pick, items_tup, items_lst, items_rol, len_tup, len_lst, len_rol, bi_tupt, bi_tupl, bi_lstt, bi_lstl, all_bl, any_bl, eq_ones, ne_ones, map_mp, ixN0, isiD, b_bne, wps, Tg.slots, List.foldr_cons, List.foldr_nil, slc_tup, slc_lst, subD_tup, subD_lst, at0, at1, at2, at3, at4, at5, ne_eq, Nat.reduceEqDiff, not_false_eq_true, not_true_eq_false, op2_eqs, op2_nes, op2_eqb, op2_neb, neg_i, pow1018, pow1040, pow109, mul_a16, mul_a17, mul_z12, ofStr_eq, String.reduceEq, srcOf_lst, srcOf_tup, min2_i, max2_i, int_i, List.length_cons, List.length_nil, Nat.zero_add, Nat.reduceAdd, lim, Nat.reduceLeDiff, reduceCtorEq,
  List.getElem?_cons_zero, List.getElem?_cons_succ, Sg.set, List.set_cons_zero, List.set_cons_succ, M.fresh, Bool.not_true, Bool.not_false, Bool.true_and, Bool.false_and, Bool.and_true, Bool.and_false, Bool.true_or, Bool.false_or, Bool.false_eq_true, if_true, if_false, true_and, and_true, decide_true, decide_false, Option.map_some, gq0, gq1, gq2, gq3, gq4, gq5, gq6, gq7, Option.map_none, id])
/-! ### what is drawn -/
theorem ph {k n : Nat} {E : En} (h : es[n]? = some E) (ds : List D) (hp : HP) : Ca (k + 1) n ds hp = run1 (Ca k) gl WW E.df ds hp := by
  have hp' : prog es n = some E.df := by unfold prog; rw [h]; rfl
  show (match prog es n with | some d => run1 (Ca k) gl WW d ds hp | none => .bad) = _
  rw [hp']
theorem blended (k : Nat) : ∀ (G C : List Int) (l t : Int), (∀ x ∈ C, 0 ≤ x) → 0 ≤ t → t + 1 < 2 ^ 40 → ∃ r : Int, 0 ≤ r ∧ Ca (k + 1) n__law_blended [.obj 1] (stD G C l t) = .ok (.int r) (stD G C l (t + 1)) := fun G C l t h1 h2 h3 => by
  rw [ph (n := n__law_blended) (E := ENT__law_blended) rfl]
  exact blended_ok h1 h2 h3
theorem drawn (k : Nat) : DrawOk (Ca (k + 2)) n__law_draw := fun n hp m h hn m0 m1 => by
  rw [ph (n := n__law_draw) (E := ENT__law_draw) rfl]
  exact draw_ok (blended k) h hn m0 m1
variable {f : D → HP → Prop} {e : Nat → List D → HP → Prop}
theorem draw_w (k : Nat) {n : Nat} {hp : HP} {m : Int} (h : Dr n hp) (hn : n + 1 < 2 ^ 40) (m0 : 0 < m) (m1 : m < 2 ^ 30) (K : ∀ r hp', 0 ≤ r → r < m → Dr (n + 1) hp' → f (.int r) hp') : @cwp (Ca (k + 2) n__law_draw [.obj 1, .int m] hp) ⟨f, e⟩ := by
  obtain ⟨r, hp', e1, r0, r1, hd⟩ := drawn k n hp m h hn m0 m1
  exact cwp_of_eq e1 (K r hp' r0 r1 hd)
theorem begun_w (k : Nat) (ns : List Int) (hn : ns.length ≤ 63) (K : ∀ hp', Dr 0 hp' → f (.obj 1) hp') : @cwp (Ca (k + 1) n__law_begun [.rol (ns.map .int)] []) ⟨f, e⟩ := by
  rw [ph (n := n__law_begun) (E := ENT__law_begun) rfl]
  obtain ⟨hp', e1, hd⟩ := begun_ok (Φ := Ca k) (gl := gl) (W := WW) ns hn
  exact cwp_of_eq e1 (K hp' hd)
theorem pick_w (k : Nat) {n : Nat} {hp : HP} {xs : List D} (h : Dr n hp) (hn : n + 1 < 2 ^ 40) (m0 : 0 < xs.length) (m1 : xs.length < 2 ^ 30) (K : ∀ x ∈ xs, ∀ hp', Dr (n + 1) hp' → f x hp') : @cwp (Ca (k + 3) n__law_pick [.obj 1, .lst xs] hp) ⟨f, e⟩ := by
  rw [ph (n := n__law_pick) (E := ENT__law_pick) rfl]
  obtain ⟨x, hx, hp', e1, hd⟩ := pick_ok (drawn k) h hn m0 m1
  exact cwp_of_eq e1 (K x hx hp' hd)
theorem mixed_w (k : Nat) {n : Nat} {hp : HP} {xs : List D} (h : Dr n hp) (hn : n + xs.length < 2 ^ 40) (hx : xs.length < WW) (hz : xs.length ≤ 1000) (hpl : D.pls xs = true) (K : ∀ out hp', Dr (n + xs.length) hp' → out.Perm xs → f (.lst out) hp') : @cwp (Ca (k + 3) n__law_mixed [.obj 1, .lst xs] hp) ⟨f, e⟩ := by
  rw [ph (n := n__law_mixed) (E := ENT__law_mixed) rfl]
  obtain ⟨out, hp', e1, hd, pm⟩ := mixed_ok (drawn k) h hn hx hz hpl
  exact cwp_of_eq e1 (K out hp' hd pm)
/-! ### judges of values: checks, schemas (the package's) -/
theorem is_truth (k : Nat) (a b : Bool) (hp : HP) : Ca (k + 1) n__law_is_truth [.bl a, .bl b] hp = .ok (.bl (decide (a = b))) hp := by
  cases a <;> cases b <;> kernel_rfl
def wholeB : D → Bool
  | .int _ => true
  | _ => false
theorem is_whole (k : Nat) {v : D} (h : gd v = true) (hp : HP) : Ca (k + 1) n_is_whole [v] hp = .ok (.bl (wholeB v)) hp := by
  refine cwp_eq ?_
  rw [w_is_whole]
  unfold b_is_whole
  cases v <;> first | (cases h; done) | (walk_at "go"; try rfl)
theorem l_is_whole (k : Nat) {v : D} (h : gd v = true) (hp : HP) : Ca (k + 1) n__law_is_whole [v] hp = .ok (.bl (wholeB v)) hp := by
  refine cwp_eq ?_
  rw [w__law_is_whole]
  unfold b__law_is_whole
  cases v <;> first | (cases h; done) | (walk_at "go"; try rfl)
theorem is_bit (k : Nat) {v : D} (h : gd v = true) (hp : HP) : Ca (k + 3) n_is_bit [v] hp = .ok (.bl (bitB v)) hp := by
  refine cwp_eq ?_
  rw [w_is_bit]
  unfold b_is_bit
  walk_at "go"
  rw [w_is_number]
  unfold b_is_number
  walk_at "go"
  rw [is_whole k h]
  walk_at "go"
  cases v <;> simp only [wholeB] <;> walk_at "go" <;> try rfl
  rename_i i
  by_cases h1 : 0 ≤ i
  · simp only [decide_eq_true h1]; walk_at "go"
    simp only [bitB, decide_eq_true h1, Bool.true_and]
  · simp only [decide_eq_false h1]; walk_at "go"
    simp only [bitB, decide_eq_false h1, Bool.false_and]
theorem addL1 : op2 .add (.str "abcdefghijklmnopqrstuvwxyz") (.str "0123456789") = some (.str "abcdefghijklmnopqrstuvwxyz0123456789") := by kernel_rfl
theorem addL2 : op2 .add (.str "abcdefghijklmnopqrstuvwxyz0123456789") (.str "_") = some (.str "abcdefghijklmnopqrstuvwxyz0123456789_") := by kernel_rfl
theorem is_word (k : Nat) {v : D} (h : gd v = true) (hp : HP) : Ca (k + 1) n_is_word [v] hp = .ok (.bl (wordB v)) hp := by
  refine cwp_eq ?_
  rw [w_is_word]
  unfold b_is_word
  cases v with
  | str x =>
    have hx := gd_str h
    walk_at "go"
    by_cases h0 : x = ""
    · simp only [h0]; walk_at "go"; rfl
    · have e0 : (decide (x = Str.ofString "")) = false := decide_eq_false h0
      simp only [e0]
      walk_at "go"
      rw [len_str hx]
      walk_at "go"
      by_cases h1 : (x.length : Int) ≤ 12
      · have h1' : ¬ (12 : Int) < (x.length : Int) := by omega
        simp only [decide_eq_true h1, decide_eq_false h1']
        walk_at "go"
        obtain ⟨c, r, hc⟩ := str_ne h0
        rw [sub_str0 hx hc]
        walk_at "go"
        rw [op2_ni_str]
        have hs : signs x = .str ⟨#[c]⟩ :: r.map fun c => .str ⟨#[c]⟩ := by unfold signs; rw [hc]; rfl
        have hW : wordB (.str x) = (inS (.str ⟨#[c]⟩) ABC && (signs x).all fun c => inS c ABC_) := by
          have e0' : decide (x = "") = false := e0
          simp only [wordB, e0', decide_eq_true h1, hs]; rfl
        walk_at "go"
        cases hi : inS (.str ⟨#[c]⟩) ABC
        · have hi' : inS (.str ⟨#[c]⟩) (Str.ofString "abcdefghijklmnopqrstuvwxyz") = false := hi
          (try simp only [hi']); walk_at "go"; rw [hW, hi]; rfl
        · have hi' : inS (.str ⟨#[c]⟩) (Str.ofString "abcdefghijklmnopqrstuvwxyz") = true := hi
          (try simp only [hi']); walk_at "go"
          rw [items_str hx]
          walk_at "go"
          refine cmw_pure (blG fun c => inS c ABC_) (by kernel_rfl) (by rw [signs_len]; show _ ≤ 16777216; omega) (fun d hd => ?_) ?_
          · obtain ⟨c2, _, rfl⟩ := List.mem_map.mp hd
            walk_at "go"
            rw [addL1]; walk_at "go"
            rw [addL2]; walk_at "go"
            rw [op2_in_str]; walk_at "go"
            rfl
          · walk_at "go"
            rw [hW, hi]; rfl
      · have h1' : (12 : Int) < (x.length : Int) := by omega
        simp only [decide_eq_false h1, decide_eq_true h1']
        walk_at "go"
        simp only [wordB, decide_eq_false h1, Bool.and_false, Bool.false_and]
  | _ => first | (cases h; done) | (walk_at "go"; try rfl)
theorem l_is_word (k : Nat) {v : D} (h : gd v = true) (hp : HP) : Ca (k + 1) n__law_v_is_word [v] hp = .ok (.bl (wordB v)) hp := by
  refine cwp_eq ?_
  rw [w__law_v_is_word]
  unfold b__law_v_is_word
  cases v with
  | str x =>
    have hx := gd_str h
    walk_at "go"
    by_cases h0 : x = ""
    · simp only [h0]; walk_at "go"; rfl
    · have e0 : (decide (x = Str.ofString "")) = false := decide_eq_false h0
      simp only [e0]
      walk_at "go"
      rw [len_str hx]
      walk_at "go"
      by_cases h1 : (x.length : Int) ≤ 12
      · have h1' : ¬ (12 : Int) < (x.length : Int) := by omega
        simp only [decide_eq_true h1, decide_eq_false h1']
        walk_at "go"
        obtain ⟨c, r, hc⟩ := str_ne h0
        rw [sub_str0 hx hc]
        walk_at "go"
        rw [op2_ni_str]
        have hs : signs x = .str ⟨#[c]⟩ :: r.map fun c => .str ⟨#[c]⟩ := by unfold signs; rw [hc]; rfl
        have hW : wordB (.str x) = (inS (.str ⟨#[c]⟩) ABC && (signs x).all fun c => inS c ABC_) := by
          have e0' : decide (x = "") = false := e0
          simp only [wordB, e0', decide_eq_true h1, hs]; rfl
        walk_at "go"
        cases hi : inS (.str ⟨#[c]⟩) ABC
        · have hi' : inS (.str ⟨#[c]⟩) (Str.ofString "abcdefghijklmnopqrstuvwxyz") = false := hi
          (try simp only [hi']); walk_at "go"; rw [hW, hi]; rfl
        · have hi' : inS (.str ⟨#[c]⟩) (Str.ofString "abcdefghijklmnopqrstuvwxyz") = true := hi
          (try simp only [hi']); walk_at "go"
          rw [items_str hx]
          walk_at "go"
          refine cmw_pure (onesG fun c => !inS c ABC_) (by kernel_rfl) (by rw [signs_len]; show _ ≤ 16777216; omega) (fun d hd => ?_) ?_
          · obtain ⟨c2, _, rfl⟩ := List.mem_map.mp hd
            walk_at "go"
            rw [op2_ni_str]; walk_at "go"
            cases hb : inS (.str ⟨#[c2]⟩) ABC_ <;>
            · have hb' : inS (.str ⟨#[c2]⟩) (Str.ofString "abcdefghijklmnopqrstuvwxyz0123456789_") = _ := hb
              simp only [hb', onesG, hb]; walk_at "go"
          · walk_at "go"
            rw [hW, hi, List.not_any_eq_all_not]
            simp only [Bool.not_not]; rfl
      · have h1' : (12 : Int) < (x.length : Int) := by omega
        simp only [decide_eq_false h1, decide_eq_true h1']
        walk_at "go"
        simp only [wordB, decide_eq_false h1, Bool.and_false, Bool.false_and]
  | _ => first | (cases h; done) | (walk_at "go"; try rfl)

set_option autoImplicit false
theorem is_words (k : Nat) {v : D} (h : gd v = true) (lo hi : Int) (hp : HP) : Ca (k + 2) n_is_words [v, .int lo, .int hi] hp = .ok (.bl (wordsB v lo hi)) hp := by
  refine cwp_eq ?_
  rw [w_is_words]
  unfold b_is_words
  cases v with
  | tup xs =>
    obtain ⟨hl, hx⟩ := gd_tup h
    walk_at "go"
    by_cases h1 : lo ≤ (xs.length : Int)
    · simp only [decide_eq_true h1]
      walk_at "go"
      by_cases h2 : (xs.length : Int) ≤ hi
      · simp only [decide_eq_true h2]
        walk_at "go"
        refine cmw_pure (blG wordB) (by kernel_rfl) (by show _ ≤ 16777216; omega) (fun d hd => ?_) ?_
        · walk_at "go"
          rw [is_word k (hx d hd)]
          walk_at "go"
          rfl
        · walk_at "go"
          have hW : wordsB (.tup xs) lo hi = (xs.all wordB && nodupW xs) := by
            simp only [wordsB, decide_eq_true h1, decide_eq_true h2, Bool.true_and]
          rw [hW]
          cases ha : xs.all wordB
          · walk_at "go"
          · have hs : ∀ d ∈ xs, ∃ x, d = .str x := fun d hd => wordB_str (List.all_eq_true.mp ha d hd)
            obtain ⟨n, e1, e2⟩ := setlen_t hs hl
            walk_at "go"
            rw [e1]
            walk_at "go"
            rw [e2]
      · simp only [decide_eq_false h2]
        walk_at "go"
        simp only [wordsB, decide_eq_false h2, Bool.and_false, Bool.false_and]
    · simp only [decide_eq_false h1]
      walk_at "go"
      simp only [wordsB, decide_eq_false h1, Bool.and_false, Bool.false_and]
  | _ => first | (cases h; done) | (walk_at "go"; try rfl)
theorem l_is_words (k : Nat) {v : D} (h : gd v = true) (lo hi : Int) (hp : HP) : Ca (k + 2) n__law_k02_words [v, .int lo, .int hi] hp = .ok (.bl (wordsB v lo hi)) hp := by
  refine cwp_eq ?_
  rw [w__law_k02_words]
  unfold b__law_k02_words
  cases v with
  | tup xs =>
    obtain ⟨hl, hx⟩ := gd_tup h
    walk_at "go"
    by_cases h1 : lo ≤ (xs.length : Int)
    · simp only [decide_eq_true h1]
      walk_at "go"
      by_cases h2 : (xs.length : Int) ≤ hi
      · simp only [decide_eq_true h2]
        walk_at "go"
        refine cmw_pure (onesG fun d => !wordB d) (by kernel_rfl) (by show _ ≤ 16777216; omega) (fun d hd => ?_) ?_
        · walk_at "go"
          rw [l_is_word k (hx d hd)]
          walk_at "go"
          cases hb : wordB d <;> (walk_at "go"; simp only [onesG, hb]; rfl)
        · walk_at "go"
          have hW : wordsB (.tup xs) lo hi = (xs.all wordB && nodupW xs) := by
            simp only [wordsB, decide_eq_true h1, decide_eq_true h2, Bool.true_and]
          have ea : (xs.any fun d => !wordB d) = !xs.all wordB := by rw [List.not_all_eq_any_not]
          rw [hW, ea]
          cases ha : xs.all wordB
          · walk_at "go"
          · have hs : ∀ d ∈ xs, ∃ x, d = .str x := fun d hd => wordB_str (List.all_eq_true.mp ha d hd)
            obtain ⟨n, e1, e2⟩ := setlen_t hs hl
            walk_at "go"
            rw [e1]
            walk_at "go"
            rw [e2]
      · simp only [decide_eq_false h2]
        walk_at "go"
        simp only [wordsB, decide_eq_false h2, Bool.and_false, Bool.false_and]
    · simp only [decide_eq_false h1]
      walk_at "go"
      simp only [wordsB, decide_eq_false h1, Bool.and_false, Bool.false_and]
  | _ => first | (cases h; done) | (walk_at "go"; try rfl)
theorem is_column (k : Nat) {v : D} (h : gd v = true) (hp : HP) : Ca (k + 4) n_is_column [v] hp = .ok (.bl (columnB v)) hp := by
  refine cwp_eq ?_
  rw [w_is_column]
  unfold b_is_column
  cases v with
  | tup xs =>
    obtain ⟨hl, hx⟩ := gd_tup h
    walk_at "go"
    by_cases h1 : xs.length = 3
    · have h1' : (xs.length : Int) = 3 := by omega
      simp only [decide_eq_true h1']
      obtain ⟨a, b, c, rfl⟩ := len3 h1
      have ha := hx a (by simp)
      have hb := hx b (by simp)
      have hc := hx c (by simp)
      walk_at "go"
      rw [is_word (k + 2) ha]
      walk_at "go"
      have hW : columnB (.tup [a, b, c]) = (wordB a && kindB b && bitB c) := rfl
      cases hw : wordB a
      · walk_at "go"
        rw [hW, hw]; rfl
      · walk_at "go"
        cases b with
        | str s =>
          walk_at "go"
          have kt : op2 .in_ (.str s) (.tup [.str "number", .str "text"]) = some (.bl (kindB (.str s))) := kind_t s
          rw [kt]
          walk_at "go"
          cases hk : kindB (.str s)
          · walk_at "go"
            rw [hW, hw, hk]; rfl
          · walk_at "go"
            rw [is_bit k hc]
            walk_at "go"
            rw [hW, hw, hk]; rfl
        | _ => first | (cases hb; done) | (walk_at "go"; rw [hW, hw]; rfl)
    · have h1' : ¬ (xs.length : Int) = 3 := by omega
      simp only [decide_eq_false h1']
      walk_at "go"
      rw [colB_no h1]
  | _ => first | (cases h; done) | (walk_at "go"; try rfl)
theorem is_columns (k : Nat) {v : D} (h : gd v = true) (hp : HP) : Ca (k + 5) n_is_columns [v] hp = .ok (.bl (columnsB v)) hp := by
  refine cwp_eq ?_
  rw [w_is_columns]
  unfold b_is_columns
  cases v with
  | tup xs =>
    obtain ⟨hl, hx⟩ := gd_tup h
    walk_at "go"
    by_cases h1 : (1 : Int) ≤ (xs.length : Int)
    · simp only [decide_eq_true h1]
      walk_at "go"
      by_cases h2 : (xs.length : Int) ≤ 6
      · simp only [decide_eq_true h2]
        walk_at "go"
        refine cmw_pure (blG columnB) (by kernel_rfl) (by show _ ≤ 16777216; omega) (fun d hd => ?_) ?_
        · walk_at "go"
          rw [is_column k (hx d hd)]
          walk_at "go"
          rfl
        · walk_at "go"
          have hW : columnsB (.tup xs) = (xs.all columnB && nodupW (xs.map c0)) := by
            simp only [columnsB, decide_eq_true h1, decide_eq_true h2, Bool.true_and]
          rw [hW]
          cases ha : xs.all columnB
          · walk_at "go"
          · have hs := cols_c0 ha
            obtain ⟨n, e1, e2⟩ := setlen_l hs (by rw [List.length_map]; exact hl)
            walk_at "go"
            refine cmw_pure (mpG c0) (by kernel_rfl) (by show _ ≤ 16777216; omega) (fun d hd => ?_) ?_
            · obtain ⟨n, k, l, rfl, _⟩ := colB_of (List.all_eq_true.mp ha d hd)
              walk_at "go"
              rfl
            · walk_at "go"
              rw [e1]
              walk_at "go"
              rw [List.length_map] at e2
              rw [e2]
      · simp only [decide_eq_false h2]
        walk_at "go"
        simp only [columnsB, decide_eq_false h2, Bool.and_false, Bool.false_and]
    · simp only [decide_eq_false h1]
      walk_at "go"
      simp only [columnsB, decide_eq_false h1, Bool.and_false, Bool.false_and]
  | _ => first | (cases h; done) | (walk_at "go"; try rfl)
theorem is_key (k : Nat) {cs : List D} {v : D} (hc : cs.all columnB = true) (hl : cs.length ≤ 1000) (h : gd v = true) (hp : HP) : Ca (k + 3) n_is_key [.tup cs, v] hp = .ok (.bl (keyB cs v)) hp := by
  refine cwp_eq ?_
  rw [w_is_key]
  unfold b_is_key
  walk_at "go"
  rw [is_words k h]
  walk_at "go"
  cases hw : wordsB v 1 3
  · walk_at "go"
    simp only [keyB, hw, Bool.false_and]
  · obtain ⟨xs, rfl, _, h3, hs, _⟩ := words_of hw
    walk_at "go"
    refine cmw_pure firmG (by kernel_rfl) (by show _ ≤ 16777216; omega) (fun d hd => ?_) ?_
    · obtain ⟨n, k, l, rfl, _⟩ := colB_of (List.all_eq_true.mp hc d hd)
      walk_at "go"
      show if decide (l = 0) = true then _ else _
      cases hd : decide (l = 0)
      · walk_at "go"; simp only [firmG, c2, hd]; rfl
      · walk_at "go"; simp only [firmG, c2, hd]; rfl
    · walk_at "go"
      refine cmw_pure (blG fun n => memS n (firm cs)) (by kernel_rfl) (by show _ ≤ 16777216; omega) (fun d hd => ?_) ?_
      · obtain ⟨x, rfl⟩ := hs d hd
        walk_at "go"
        have e1 : op2 .in_ (.str x) (.lst (firm cs)) = _ := in_lst (pls_strs (firm_ok hc))
        unfold firm at e1
        rw [e1]
        walk_at "go"
        rfl
      · walk_at "go"
        simp only [keyB, hw, Bool.true_and]; rfl
theorem is_rules (k : Nat) {v : D} (h : gd v = true) (hp : HP) : Ca (k + 2) n_is_rules [v] hp = .ok (.bl (rulesB v)) hp := by
  refine cwp_eq ?_
  rw [w_is_rules]
  unfold b_is_rules
  cases v with
  | tup xs =>
    obtain ⟨hl, hx⟩ := gd_tup h
    walk_at "go"
    have hW : rulesB (.tup xs) = (xs.all ruleB && nodupW (xs.map c0)) := rfl
    refine forL_chk ruleB (fun s => ∃ z1, nOwn z1 = true ∧ s = ⟨[.val (.tup xs), z1], hp⟩) xs _ ⟨_, rfl, rfl⟩ (fun d hd s hs => ?_) (fun s hs => ?_)
    · obtain ⟨z1, hz, rfl⟩ := hs
      have hd' := hx d hd
      walk_at "go"
      cases d with
      | tup ys =>
        obtain ⟨hl2, hy⟩ := gd_tup hd'
        walk_at "go"
        by_cases h1 : ys.length = 2
        · have h1' : (ys.length : Int) = 2 := by omega
          simp only [decide_eq_true h1']
          obtain ⟨a, b, rfl⟩ := len2 h1
          walk_at "go"
          rw [is_word k (hy a (by simp))]
          walk_at "go"
          have hR : ruleB (.tup [a, b]) = wordB a := rfl
          rw [hR]
          cases hw : wordB a
          · walk_at "go"; first | exact ⟨⟨_, rfl, rfl⟩, rfl⟩ | exact ⟨_, rfl, rfl⟩
          · walk_at "go"; first | exact ⟨⟨_, rfl, rfl⟩, rfl⟩ | exact ⟨_, rfl, rfl⟩
        · have h1' : ¬ (ys.length : Int) = 2 := by omega
          simp only [decide_eq_false h1']
          walk_at "go"
          rw [ruleB_no h1]
          first | exact ⟨⟨_, rfl, rfl⟩, rfl⟩ | exact ⟨_, rfl, rfl⟩
      | _ => first | (cases hd'; done) | (walk_at "go"; first | exact ⟨⟨_, rfl, rfl⟩, rfl⟩ | exact ⟨_, rfl, rfl⟩)
    · obtain ⟨z1, hz, rfl⟩ := hs
      refine ⟨fun ha => ?_, fun ha => ?_⟩
      · walk_at "go"
        obtain ⟨n, e1, e2⟩ := setlen_l (rules_c0 ha) (by rw [List.length_map]; exact hl)
        refine cmw_pure (mpG c0) (by show (nOwn z1 && true) = true; rw [hz]; rfl) (by show _ ≤ 16777216; omega) (fun d hd => ?_) ?_
        · obtain ⟨n, r, rfl, _⟩ := ruleB_of (List.all_eq_true.mp ha d hd)
          walk_at "go"
          rfl
        · walk_at "go"
          rw [e1]
          walk_at "go"
          rw [List.length_map] at e2
          rw [e2, hW, ha]; rfl
      · walk_at "go"
        rw [hW, ha]; rfl
  | _ => first | (cases h; done) | (walk_at "go"; try rfl)

set_option autoImplicit false
theorem is_links (k : Nat) {cs : List D} {v : D} (hc : cs.all columnB = true) (hcl : cs.length ≤ 1000) (h : gd v = true) (hp : HP) : Ca (k + 3) n_is_links [.tup cs, v] hp = .ok (.bl (linksB cs v)) hp := by
  refine cwp_eq ?_
  rw [w_is_links]
  unfold b_is_links
  cases v with
  | tup xs =>
    obtain ⟨hl, hx⟩ := gd_tup h
    walk_at "go"
    refine cmw_pure (mpG c0) (by kernel_rfl) (by show _ ≤ 16777216; omega) (fun d hd => ?_) ?_
    · obtain ⟨n, k, l, rfl, _⟩ := colB_of (List.all_eq_true.mp hc d hd)
      walk_at "go"
      rfl
    · walk_at "go"
      have hW : linksB cs (.tup xs) = xs.all (linkB (cs.map c0)) := rfl
      refine forL_chk (linkB (cs.map c0)) (fun s => ∃ z4 z5, nOwn z5 = true ∧ s = ⟨[.val (.tup cs), .val (.tup xs), .val (.lst (cs.map c0)), .emp, z4, z5], hp⟩) xs _ ⟨_, _, rfl, rfl⟩ (fun d hd s hs => ?_) (fun s hs => ?_)
      · obtain ⟨z4, z5, hz, rfl⟩ := hs
        have hd' := hx d hd
        walk_at "go"
        cases d with
        | tup ys =>
          obtain ⟨hl2, hy⟩ := gd_tup hd'
          walk_at "go"
          by_cases h1 : ys.length = 2
          · have h1' : (ys.length : Int) = 2 := by omega
            simp only [decide_eq_true h1']
            obtain ⟨a, b, rfl⟩ := len2 h1
            walk_at "go"
            rw [is_words k (hy a (by simp))]
            walk_at "go"
            have hR : linkB (cs.map c0) (.tup [a, b]) = (wordsB a 1 3 && wordB b && (its a).all fun n => memS n (cs.map c0)) := rfl
            rw [hR]
            cases hw : wordsB a 1 3
            · walk_at "go"; first | exact ⟨⟨_, _, hz, rfl⟩, rfl⟩ | exact ⟨_, _, hz, rfl⟩
            · obtain ⟨ws, rfl, _, h3, hs3, _⟩ := words_of hw
              walk_at "go"
              rw [is_word (k + 1) (hy b (by simp))]
              walk_at "go"
              cases hw2 : wordB b
              · walk_at "go"; first | exact ⟨⟨_, _, hz, rfl⟩, rfl⟩ | exact ⟨_, _, hz, rfl⟩
              · walk_at "go"
                refine cmw_pure (blG fun n => memS n (cs.map c0)) (by show (nOwn z5 && true) = true; rw [hz]; rfl) (by show _ ≤ 16777216; omega) (fun d hd => ?_) ?_
                · obtain ⟨x, rfl⟩ := hs3 d hd
                  walk_at "go"
                  rw [in_lst (pls_strs (cols_c0 hc))]
                  walk_at "go"
                  rfl
                · walk_at "go"
                  show if (!ws.all fun n => memS n (cs.map c0)) = true then _ else _
                  have hI : its (.tup ws) = ws := rfl
                  rw [hI]
                  cases hm : ws.all fun n => memS n (cs.map c0)
                  · walk_at "go"; first | exact ⟨⟨_, _, hz, rfl⟩, rfl⟩ | exact ⟨_, _, hz, rfl⟩
                  · walk_at "go"; first | exact ⟨⟨_, _, hz, rfl⟩, rfl⟩ | exact ⟨_, _, hz, rfl⟩
          · have h1' : ¬ (ys.length : Int) = 2 := by omega
            simp only [decide_eq_false h1']
            walk_at "go"
            rw [linkB_no h1]
            first | exact ⟨⟨_, _, hz, rfl⟩, rfl⟩ | exact ⟨_, _, hz, rfl⟩
        | _ => first | (cases hd'; done) | (walk_at "go"; first | exact ⟨⟨_, _, hz, rfl⟩, rfl⟩ | exact ⟨_, _, hz, rfl⟩)
      · obtain ⟨z4, z5, hz, rfl⟩ := hs
        refine ⟨fun ha => ?_, fun ha => ?_⟩
        · walk_at "go"
          rw [hW, ha]
        · walk_at "go"
          rw [hW, ha]
  | _ => first | (cases h; done) | (walk_at "go"; try rfl)
theorem is_table (k : Nat) {v : D} (h : gd v = true) (hp : HP) : Ca (k + 6) n_is_table [v] hp = .ok (.bl (tableB v)) hp := by
  refine cwp_eq ?_
  rw [w_is_table]
  unfold b_is_table
  cases v with
  | tup xs =>
    obtain ⟨hl, hx⟩ := gd_tup h
    walk_at "go"
    by_cases h1 : xs.length = 6
    · have h1' : (xs.length : Int) = 6 := by omega
      simp only [decide_eq_true h1']
      obtain ⟨x0, x1, x2, x3, x4, x5, rfl⟩ := len6 h1
      have hW : tableB (.tup [x0, x1, x2, x3, x4, x5]) = (wordB x1 && columnsB x2 && keyB (its x2) x3 && rulesB x4 && linksB (its x2) x5) := rfl
      walk_at "go"
      rw [is_word (k + 4) (hx x1 (by simp))]
      walk_at "go"
      cases hw : wordB x1
      · walk_at "go"; rw [hW, hw]; rfl
      · walk_at "go"
        rw [is_columns k (hx x2 (by simp))]
        walk_at "go"
        cases hc : columnsB x2
        · walk_at "go"; rw [hW, hw, hc]; rfl
        · obtain ⟨cs, rfl, c1, c6, hcs, hnd⟩ := cols_of hc
          walk_at "go"
          rw [is_key (k + 2) hcs (by omega) (hx x3 (by simp))]
          walk_at "go"
          cases hk : keyB cs x3
          · walk_at "go"
            have hk' : keyB (its (.tup cs)) x3 = false := hk
            rw [hW, hw, hc, hk']; rfl
          · have hk' : keyB (its (.tup cs)) x3 = true := hk
            walk_at "go"
            rw [is_rules (k + 3) (hx x4 (by simp))]
            walk_at "go"
            cases hr : rulesB x4
            · walk_at "go"; rw [hW, hw, hc, hk', hr]; rfl
            · walk_at "go"
              rw [is_links (k + 2) hcs (by omega) (hx x5 (by simp))]
              walk_at "go"
              rw [hW, hw, hc, hk', hr]; rfl
    · have h1' : ¬ (xs.length : Int) = 6 := by omega
      simp only [decide_eq_false h1']
      walk_at "go"
      rw [tabB_no h1]
  | _ => first | (cases h; done) | (walk_at "go"; try rfl)
theorem is_index (k : Nat) {xs : List D} (h : gd (.tup xs) = true) (hp : HP) : Ca (k + 3) n_is_index [.tup xs] hp = .ok (.bl (indexB (.tup xs))) hp := by
  refine cwp_eq ?_
  rw [w_is_index]
  unfold b_is_index
  obtain ⟨hl, hx⟩ := gd_tup h
  walk_at "go"
  by_cases h1 : xs.length = 4
  · have h1' : (xs.length : Int) = 4 := by omega
    simp only [decide_eq_true h1']
    obtain ⟨x0, x1, x2, x3, rfl⟩ := len4 h1
    have hW : indexB (.tup [x0, x1, x2, x3]) = (wordB x1 && wordB x2 && wordsB x3 1 3) := rfl
    walk_at "go"
    rw [is_word (k + 1) (hx x1 (by simp))]
    walk_at "go"
    cases hw : wordB x1
    · walk_at "go"; rw [hW, hw]; rfl
    · walk_at "go"
      rw [is_word (k + 1) (hx x2 (by simp))]
      walk_at "go"
      cases hw2 : wordB x2
      · walk_at "go"; rw [hW, hw, hw2]; rfl
      · walk_at "go"
        rw [is_words k (hx x3 (by simp))]
        walk_at "go"
        rw [hW, hw, hw2]; rfl
  · have h1' : ¬ (xs.length : Int) = 4 := by omega
    simp only [decide_eq_false h1']
    walk_at "go"
    rw [indB_no h1]
theorem is_view (k : Nat) {xs : List D} (h : gd (.tup xs) = true) (hp : HP) : Ca (k + 4) n_is_view [.tup xs] hp = .ok (.bl (viewB (.tup xs))) hp := by
  refine cwp_eq ?_
  rw [w_is_view]
  unfold b_is_view
  obtain ⟨hl, hx⟩ := gd_tup h
  walk_at "go"
  by_cases h1 : xs.length = 4
  · have h1' : (xs.length : Int) = 4 := by omega
    simp only [decide_eq_true h1']
    obtain ⟨x0, x1, x2, x3, rfl⟩ := len4 h1
    have hW : viewB (.tup [x0, x1, x2, x3]) = (wordB x1 && bitB x3) := rfl
    walk_at "go"
    rw [is_word (k + 2) (hx x1 (by simp))]
    walk_at "go"
    cases hw : wordB x1
    · walk_at "go"; rw [hW, hw]; rfl
    · walk_at "go"
      rw [is_bit k (hx x3 (by simp))]
      walk_at "go"
      rw [hW, hw]; rfl
  · have h1' : ¬ (xs.length : Int) = 4 := by omega
    simp only [decide_eq_false h1']
    walk_at "go"
    rw [vieB_no h1]
theorem is_item (k : Nat) {v : D} (h : gd v = true) (hp : HP) : Ca (k + 7) n_is_item [v] hp = .ok (.bl (itemB v)) hp := by
  refine cwp_eq ?_
  rw [w_is_item]
  unfold b_is_item
  cases v with
  | tup xs =>
    cases xs with
    | nil =>
      walk_at "go"
      rw [eq_unit]
      walk_at "go"
      rfl
    | cons a r =>
      obtain ⟨hl, hx⟩ := gd_tup h
      have ha := hx a (by simp)
      walk_at "go"
      rw [eq_unit]
      walk_at "go"
      simp only [List.isEmpty_cons]
      walk_at "go"
      cases a with
      | str w =>
        walk_at "go"
        have hW : itemB (.tup (.str w :: r)) = (if decide (w = "table") then tableB (.tup (.str w :: r)) else if decide (w = "index") then indexB (.tup (.str w :: r)) else decide (w = "view") && viewB (.tup (.str w :: r))) := rfl
        by_cases h1 : w = "table"
        · subst h1
          walk_at "go"
          rw [is_table k h]
          walk_at "go"
          rw [hW]; rfl
        · have h1' : decide (w = Str.ofString "table") = false := decide_eq_false h1
          simp only [h1']
          walk_at "go"
          by_cases h2 : w = "index"
          · subst h2
            walk_at "go"
            rw [is_index (k + 3) h]
            walk_at "go"
            rw [hW]; rfl
          · have h2' : decide (w = Str.ofString "index") = false := decide_eq_false h2
            simp only [h2']
            walk_at "go"
            have hW' : itemB (.tup (.str w :: r)) = (decide (w = "view") && viewB (.tup (.str w :: r))) := by
              rw [hW, decide_eq_false h1, decide_eq_false h2]; rfl
            by_cases h3 : w = "view"
            · subst h3
              walk_at "go"
              rw [is_view (k + 2) h]
              walk_at "go"
              rw [hW']; rfl
            · have h3' : decide (w = Str.ofString "view") = false := decide_eq_false h3
              simp only [h3']
              walk_at "go"
              rw [hW', decide_eq_false h3]; rfl
      | _ => first | (cases ha; done) | (walk_at "go"; try rfl)
  | _ => first | (cases h; done) | (walk_at "go"; try rfl)

set_option autoImplicit false
theorem l_table (k : Nat) {xs : List D} (h : gd (.tup xs) = true) (hp : HP) : Ca (k + 4) n__law_k02_table [.tup xs] hp = .ok (.bl (tableB (.tup xs))) hp := by
  refine cwp_eq ?_
  rw [w__law_k02_table]
  unfold b__law_k02_table
  obtain ⟨hl, hx⟩ := gd_tup h
  walk_at "go"
  by_cases h1 : xs.length = 6
  · have h1' : (xs.length : Int) = 6 := by omega
    simp only [decide_eq_true h1']
    obtain ⟨x0, x1, x2, x3, x4, x5, rfl⟩ := len6 h1
    have hW : tableB (.tup [x0, x1, x2, x3, x4, x5]) = (wordB x1 && columnsB x2 && keyB (its x2) x3 && rulesB x4 && linksB (its x2) x5) := rfl
    have g2 := hx x2 (by simp)
    have g3 := hx x3 (by simp)
    have g4 := hx x4 (by simp)
    have g5 := hx x5 (by simp)
    walk_at "go"
    rw [l_is_word (k + 2) (hx x1 (by simp))]
    walk_at "go"
    cases hw : wordB x1
    · walk_at "go"; rw [hW, hw]; rfl
    · walk_at "go"
      have no2 : ∀ b, columnsB x2 = b → b = false → tableB (.tup [x0, x1, x2, x3, x4, x5]) = false := fun b h1 h2 => by
        rw [hW, h1, h2, Bool.and_false]; rfl
      cases x2 with
      | tup cs =>
        obtain ⟨cl, cg⟩ := gd_tup g2
        walk_at "go"
        have hC : columnsB (.tup cs) = (decide (1 ≤ (cs.length : Int)) && decide ((cs.length : Int) ≤ 6) && cs.all columnB && nodupW (cs.map c0)) := rfl
        by_cases c1 : (1 : Int) ≤ (cs.length : Int)
        · simp only [decide_eq_true c1]
          walk_at "go"
          by_cases c6 : (cs.length : Int) ≤ 6
          · simp only [decide_eq_true c6]
            walk_at "go"
            rw [decide_eq_true c1, decide_eq_true c6, Bool.true_and, Bool.true_and] at hC
            refine forL_chk columnB (fun s => ∃ z1, nOwn z1 = true ∧ s = ⟨[.val (.tup [x0, x1, .tup cs, x3, x4, x5]), z1, .emp, .emp, .emp, .emp], hp⟩) cs _ ⟨_, rfl, rfl⟩ (fun d hd s hs => ?_) (fun s hs => ?_)
            · obtain ⟨z1, hz, rfl⟩ := hs
              have hd' := cg d hd
              walk_at "go"
              cases d with
              | tup ys =>
                obtain ⟨hl2, hy⟩ := gd_tup hd'
                walk_at "go"
                by_cases h2 : ys.length = 3
                · have h2' : (ys.length : Int) = 3 := by omega
                  simp only [decide_eq_true h2']
                  obtain ⟨a, b, c, rfl⟩ := len3 h2
                  have gb := hy b (by simp)
                  have gc := hy c (by simp)
                  have hR : columnB (.tup [a, b, c]) = (wordB a && kindB b && bitB c) := rfl
                  walk_at "go"
                  rw [l_is_word (k + 2) (hy a (by simp))]
                  walk_at "go"
                  rw [hR]
                  cases ha : wordB a
                  · walk_at "go"; first | exact ⟨⟨_, rfl, rfl⟩, rfl⟩ | exact ⟨_, rfl, rfl⟩
                  · walk_at "go"
                    cases b with
                    | str s =>
                      walk_at "go"
                      have kl : op2 .notin (.str s) (.lst [.str "number", .str "text"]) = some (.bl (!kindB (.str s))) := kind_l s
                      rw [kl]
                      walk_at "go"
                      cases hk : kindB (.str s)
                      · walk_at "go"; first | exact ⟨⟨_, rfl, rfl⟩, rfl⟩ | exact ⟨_, rfl, rfl⟩
                      · walk_at "go"
                        rw [l_is_whole (k + 2) gc]
                        walk_at "go"
                        cases c with
                        | int i =>
                          simp only [wholeB]
                          walk_at "go"
                          rw [bit_ni]
                          walk_at "go"
                          cases hb : bitB (.int i)
                          · walk_at "go"; first | exact ⟨⟨_, rfl, rfl⟩, rfl⟩ | exact ⟨_, rfl, rfl⟩
                          · walk_at "go"; first | exact ⟨⟨_, rfl, rfl⟩, rfl⟩ | exact ⟨_, rfl, rfl⟩
                        | _ => first | (cases gc; done) | (simp only [wholeB]; walk_at "go"; first | exact ⟨⟨_, rfl, rfl⟩, rfl⟩ | exact ⟨_, rfl, rfl⟩)
                    | _ => first | (cases gb; done) | (walk_at "go"; first | exact ⟨⟨_, rfl, rfl⟩, rfl⟩ | exact ⟨_, rfl, rfl⟩)
                · have h2' : ¬ (ys.length : Int) = 3 := by omega
                  simp only [decide_eq_false h2']
                  walk_at "go"
                  rw [colB_no h2]
                  first | exact ⟨⟨_, rfl, rfl⟩, rfl⟩ | exact ⟨_, rfl, rfl⟩
              | _ => first | (cases hd'; done) | (walk_at "go"; first | exact ⟨⟨_, rfl, rfl⟩, rfl⟩ | exact ⟨_, rfl, rfl⟩)
            · obtain ⟨z1, hz, rfl⟩ := hs
              refine ⟨fun ha => ?_, fun ha => ?_⟩
              · walk_at "go"
                rw [ha, Bool.true_and] at hC
                refine cmw_pure (mpG c0) (by show (nOwn z1 && true) = true; rw [hz]; rfl) (by show _ ≤ 16777216; omega) (fun d hd => ?_) ?_
                · obtain ⟨n, k, l, rfl, _⟩ := colB_of (List.all_eq_true.mp ha d hd)
                  walk_at "go"
                  rfl
                · walk_at "go"
                  obtain ⟨n, e1, e2⟩ := setlen_l (cols_c0 ha) (by rw [List.length_map]; exact cl)
                  rw [e1]
                  walk_at "go"
                  rw [e2]
                  cases hn : nodupW (cs.map c0)
                  · walk_at "go"
                    exact (no2 _ hC hn ▸ rfl)
                  · rw [hn] at hC
                    walk_at "go"
                    rw [l_is_words (k + 1) g3]
                    walk_at "go"
                    cases hw3 : wordsB x3 1 3
                    · walk_at "go"
                      have : keyB (its (.tup cs)) x3 = false := by simp only [keyB, hw3, Bool.false_and]
                      rw [hW, hw, hC, this]; rfl
                    · obtain ⟨ws, rfl, _, w3, hs3, _⟩ := words_of hw3
                      walk_at "go"
                      refine cmw_pure (onesG fun n => !memS n (firm cs)) (by kernel_rfl) (by show _ ≤ 16777216; omega) (fun d hd => ?_) ?_
                      · obtain ⟨x, rfl⟩ := hs3 d hd
                        walk_at "go"
                        refine cmw_pure firmG (by show (nOwn z1 && true) = true; rw [hz]; rfl) (by show _ ≤ 16777216; omega) (fun c hc => ?_) ?_
                        · obtain ⟨n, k, l, rfl, _⟩ := colB_of (List.all_eq_true.mp ha c hc)
                          walk_at "go"
                          cases hd0 : decide (l = 0)
                          · walk_at "go"; simp only [firmG, c2, hd0]; rfl
                          · walk_at "go"; simp only [firmG, c2, hd0]; rfl
                        · walk_at "go"
                          have e3 : op2 .notin (.str x) (.lst (firm cs)) = _ := ni_lst (pls_strs (firm_ok ha))
                          unfold firm at e3
                          rw [e3]
                          walk_at "go"
                          have e4 : memS (.str x) (cs.filterMap firmG) = memS (.str x) (firm cs) := rfl
                          rw [e4]
                          cases hm : memS (.str x) (firm cs)
                          · walk_at "go"; simp only [onesG, hm]; rfl
                          · walk_at "go"; simp only [onesG, hm]; rfl
                      · walk_at "go"
                        have hK : keyB (its (.tup cs)) (.tup ws) = ws.all fun n => memS n (firm cs) := by
                          have : keyB (its (.tup cs)) (.tup ws) = (wordsB (.tup ws) 1 3 && ws.all fun n => memS n (firm cs)) := rfl
                          rw [this, hw3, Bool.true_and]
                        have ea : (ws.any fun n => !memS n (firm cs)) = !ws.all fun n => memS n (firm cs) := by rw [List.not_all_eq_any_not]
                        rw [ea]
                        cases hk : ws.all fun n => memS n (firm cs)
                        · walk_at "go"
                          rw [hW, hw, hC, hK, hk]; rfl
                        · rw [hk] at hK
                          walk_at "go"
                          cases x4 with
                          | tup rs =>
                            obtain ⟨rl, rg⟩ := gd_tup g4
                            walk_at "go"
                            cases x5 with
                            | tup ls =>
                              obtain ⟨ll, lg⟩ := gd_tup g5
                              walk_at "go"
                              refine cmw_pure (onesG fun r => !ruleB r) (by kernel_rfl) (by show _ ≤ 16777216; omega) (fun d hd => ?_) ?_
                              · have hd' := rg d hd
                                walk_at "go"
                                cases d with
                                | tup ys =>
                                  obtain ⟨hl2, hy⟩ := gd_tup hd'
                                  walk_at "go"
                                  by_cases h2 : ys.length = 2
                                  · have h2' : (ys.length : Int) = 2 := by omega
                                    simp only [decide_eq_true h2']
                                    obtain ⟨a, b, rfl⟩ := len2 h2
                                    walk_at "go"
                                    rw [l_is_word (k + 2) (hy a (by simp))]
                                    walk_at "go"
                                    have hR : ruleB (.tup [a, b]) = wordB a := rfl
                                    cases ha2 : wordB a
                                    · walk_at "go"; simp only [onesG, hR, ha2]; rfl
                                    · walk_at "go"; simp only [onesG, hR, ha2]; rfl
                                  · have h2' : ¬ (ys.length : Int) = 2 := by omega
                                    simp only [decide_eq_false h2']
                                    walk_at "go"
                                    simp only [onesG, ruleB_no h2]; rfl
                                | _ => first | (cases hd'; done) | (walk_at "go"; rfl)
                              · walk_at "go"
                                have hRR : rulesB (.tup rs) = (rs.all ruleB && nodupW (rs.map c0)) := rfl
                                have er : (rs.any fun r => !ruleB r) = !rs.all ruleB := by rw [List.not_all_eq_any_not]
                                rw [er]
                                cases hr : rs.all ruleB
                                · walk_at "go"
                                  rw [hW, hw, hC, hK, hRR, hr]; rfl
                                · walk_at "go"
                                  refine cmw_pure (mpG c0) (by kernel_rfl) (by show _ ≤ 16777216; omega) (fun d hd => ?_) ?_
                                  · obtain ⟨n, r, rfl, _⟩ := ruleB_of (List.all_eq_true.mp hr d hd)
                                    walk_at "go"
                                    rfl
                                  · walk_at "go"
                                    obtain ⟨n2, e5, e6⟩ := setlen_l (rules_c0 hr) (by rw [List.length_map]; exact rl)
                                    rw [e5]
                                    walk_at "go"
                                    rw [List.length_map] at e6
                                    rw [e6]
                                    cases hn2 : nodupW (rs.map c0)
                                    · walk_at "go"
                                      rw [hW, hw, hC, hK, hRR, hr, hn2]; rfl
                                    · walk_at "go"
                                      have hL : linksB (its (.tup cs)) (.tup ls) = ls.all (linkB (cs.map c0)) := rfl
                                      have hfin : tableB (.tup [x0, x1, .tup cs, .tup ws, .tup rs, .tup ls]) = ls.all (linkB (cs.map c0)) := by
                                        rw [hW, hw, hC, hK, hRR, hr, hn2, hL]; rfl
                                      rw [hfin]
                                      refine forL_chk (linkB (cs.map c0)) (fun s => ∃ z3 z5, nOwn z3 = true ∧ s = ⟨[.val (.tup [x0, x1, .tup cs, .tup ws, .tup rs, .tup ls]), z1, .val (.lst (cs.map c0)), z3, .emp, z5], hp⟩) ls _ ⟨_, _, rfl, rfl⟩ (fun d hd s hs => ?_) (fun s hs => ?_)
                                      · obtain ⟨z3, z5, hz3, rfl⟩ := hs
                                        have hd' := lg d hd
                                        walk_at "go"
                                        cases d with
                                        | tup ys =>
                                          obtain ⟨hl2, hy⟩ := gd_tup hd'
                                          walk_at "go"
                                          by_cases h2 : ys.length = 2
                                          · have h2' : (ys.length : Int) = 2 := by omega
                                            simp only [decide_eq_true h2']
                                            obtain ⟨a, b, rfl⟩ := len2 h2
                                            walk_at "go"
                                            rw [l_is_words (k + 1) (hy a (by simp))]
                                            walk_at "go"
                                            have hR : linkB (cs.map c0) (.tup [a, b]) = (wordsB a 1 3 && wordB b && (its a).all fun n => memS n (cs.map c0)) := rfl
                                            rw [hR]
                                            cases hw4 : wordsB a 1 3
                                            · walk_at "go"; first | exact ⟨⟨_, _, hz3, rfl⟩, rfl⟩ | exact ⟨_, _, hz3, rfl⟩
                                            · obtain ⟨vs, rfl, _, v3, hs4, _⟩ := words_of hw4
                                              walk_at "go"
                                              rw [l_is_word (k + 2) (hy b (by simp))]
                                              walk_at "go"
                                              cases hw5 : wordB b
                                              · walk_at "go"; first | exact ⟨⟨_, _, hz3, rfl⟩, rfl⟩ | exact ⟨_, _, hz3, rfl⟩
                                              · walk_at "go"
                                                refine cmw_pure (onesG fun n => !memS n (cs.map c0)) (by show (nOwn z3 && true) = true; rw [hz3]; rfl) (by show _ ≤ 16777216; omega) (fun d hd => ?_) ?_
                                                · obtain ⟨x, rfl⟩ := hs4 d hd
                                                  walk_at "go"
                                                  rw [ni_lst (pls_strs (cols_c0 ha))]
                                                  walk_at "go"
                                                  cases hm : memS (.str x) (cs.map c0)
                                                  · walk_at "go"; simp only [onesG, hm]; rfl
                                                  · walk_at "go"; simp only [onesG, hm]; rfl
                                                · walk_at "go"
                                                  have hI : its (.tup vs) = vs := rfl
                                                  have ev2 : (vs.any fun n => !memS n (cs.map c0)) = !vs.all fun n => memS n (cs.map c0) := by rw [List.not_all_eq_any_not]
                                                  rw [hI, ev2]
                                                  cases hm : vs.all fun n => memS n (cs.map c0)
                                                  · walk_at "go"; first | exact ⟨⟨_, _, hz3, rfl⟩, rfl⟩ | exact ⟨_, _, hz3, rfl⟩
                                                  · walk_at "go"; first | exact ⟨⟨_, _, hz3, rfl⟩, rfl⟩ | exact ⟨_, _, hz3, rfl⟩
                                          · have h2' : ¬ (ys.length : Int) = 2 := by omega
                                            simp only [decide_eq_false h2']
                                            walk_at "go"
                                            rw [linkB_no h2]
                                            first | exact ⟨⟨_, _, hz3, rfl⟩, rfl⟩ | exact ⟨_, _, hz3, rfl⟩
                                        | _ => first | (cases hd'; done) | (walk_at "go"; first | exact ⟨⟨_, _, hz3, rfl⟩, rfl⟩ | exact ⟨_, _, hz3, rfl⟩)
                                      · obtain ⟨z3, z5, hz3, rfl⟩ := hs
                                        refine ⟨fun ha => ?_, fun ha => ?_⟩
                                        · walk_at "go"
                                          rw [ha]
                                        · walk_at "go"
                                          rw [ha]
                            | _ => first | (cases g5; done) | (walk_at "go"; rw [hW, hw, hC, hK]; simp only [linksB, Bool.and_false])
                          | _ => first | (cases g4; done) | (walk_at "go"; rw [hW, hw, hC, hK]; rfl)
              · walk_at "go"
                exact (no2 _ hC (by rw [ha, Bool.false_and]) ▸ rfl)
          · simp only [decide_eq_false c6]
            walk_at "go"
            exact (no2 _ hC (by rw [decide_eq_false c6, Bool.and_false]; rfl) ▸ rfl)
        · simp only [decide_eq_false c1]
          walk_at "go"
          exact (no2 _ hC (by rw [decide_eq_false c1]; rfl) ▸ rfl)
      | _ => first | (cases g2; done) | (walk_at "go"; exact (no2 _ rfl rfl ▸ rfl))
  · have h1' : ¬ (xs.length : Int) = 6 := by omega
    simp only [decide_eq_false h1']
    walk_at "go"
    rw [tabB_no h1]
theorem l_item (k : Nat) {v : D} (h : gd v = true) (hp : HP) : Ca (k + 5) n__law_k02_item [v] hp = .ok (.bl (itemB v)) hp := by
  refine cwp_eq ?_
  rw [w__law_k02_item]
  unfold b__law_k02_item
  cases v with
  | tup xs =>
    cases xs with
    | nil =>
      walk_at "go"
      rw [eq_unit]
      walk_at "go"
      rfl
    | cons a r =>
      obtain ⟨hl, hx⟩ := gd_tup h
      have ha := hx a (by simp)
      walk_at "go"
      rw [eq_unit]
      walk_at "go"
      simp only [List.isEmpty_cons]
      walk_at "go"
      cases a with
      | str w =>
        walk_at "go"
        have hW : itemB (.tup (.str w :: r)) = (if decide (w = "table") then tableB (.tup (.str w :: r)) else if decide (w = "index") then indexB (.tup (.str w :: r)) else decide (w = "view") && viewB (.tup (.str w :: r))) := rfl
        by_cases h1 : w = "table"
        · subst h1
          walk_at "go"
          rw [l_table k h]
          walk_at "go"
          rw [hW]; rfl
        · have h1' : decide (w = Str.ofString "table") = false := decide_eq_false h1
          have hW2 : itemB (.tup (.str w :: r)) = (if decide (w = "index") then indexB (.tup (.str w :: r)) else decide (w = "view") && viewB (.tup (.str w :: r))) := by rw [hW, decide_eq_false h1]; rfl
          simp only [h1']
          walk_at "go"
          by_cases h4 : r.length = 3
          · have h4' : ((r.length + 1 : Nat) : Int) = 4 := by omega
            simp only [decide_eq_true h4']
            obtain ⟨x1, x2, x3, rfl⟩ := len3 h4
            walk_at "go"
            rw [l_is_word (k + 3) (hx x1 (by simp))]
            walk_at "go"
            have hI : indexB (.tup [.str w, x1, x2, x3]) = (wordB x1 && wordB x2 && wordsB x3 1 3) := rfl
            have hV : viewB (.tup [.str w, x1, x2, x3]) = (wordB x1 && bitB x3) := rfl
            cases hw : wordB x1
            · walk_at "go"
              rw [hW2, hI, hV, hw]
              cases decide (w = Str.ofString "index") <;> simp
            · walk_at "go"
              by_cases h2 : w = "index"
              · subst h2
                walk_at "go"
                rw [l_is_word (k + 3) (hx x2 (by simp))]
                walk_at "go"
                cases hw2 : wordB x2
                · walk_at "go"
                  rw [hW2, hI, hw, hw2]; rfl
                · walk_at "go"
                  rw [l_is_words (k + 2) (hx x3 (by simp))]
                  walk_at "go"
                  rw [hW2, hI, hw, hw2]; rfl
              · have h2' : decide (w = Str.ofString "index") = false := decide_eq_false h2
                simp only [h2']
                walk_at "go"
                have hW3 : itemB (.tup [.str w, x1, x2, x3]) = (decide (w = "view") && bitB x3) := by
                  rw [hW2, decide_eq_false h2, hV, hw]; rfl
                by_cases h3 : w = "view"
                · subst h3
                  walk_at "go"
                  have g3 := hx x3 (by simp)
                  rw [l_is_whole (k + 3) g3]
                  walk_at "go"
                  cases x3 with
                  | int i =>
                    simp only [wholeB]
                    walk_at "go"
                    rw [bit_in]
                    walk_at "go"
                    rw [hW3]; rfl
                  | _ => first | (cases g3; done) | (simp only [wholeB]; walk_at "go"; rw [hW3]; rfl)
                · have h3' : decide (w = Str.ofString "view") = false := decide_eq_false h3
                  simp only [h3']
                  walk_at "go"
                  rw [hW3, decide_eq_false h3]; rfl
          · have h4' : ¬ ((r.length + 1 : Nat) : Int) = 4 := by omega
            simp only [decide_eq_false h4']
            walk_at "go"
            have hn : ¬ (D.str w :: r).length = 4 := by simp only [List.length_cons]; omega
            rw [hW2, indB_no hn, vieB_no hn, Bool.and_false]
            cases decide (w = Str.ofString "index") <;> rfl
      | _ => first | (cases ha; done) | (walk_at "go"; try rfl)
  | _ => first | (cases h; done) | (walk_at "go"; try rfl)

set_option autoImplicit false
theorem named (k : Nat) {xs : List D} (h : ∀ it ∈ xs, Itm it) (n : Str) (hp : HP) : Ca (k + 1) n_named [.tup xs, .str n] hp = .ok (findD xs n) hp := by
  refine cwp_eq ?_
  rw [w_named]
  unfold b_named
  walk_at "go"
  refine forL_wp (fun rest s => ∃ z, s = ⟨[.val (.tup xs), .val (.str n), z], hp⟩ ∧ (∀ it ∈ rest, Itm it) ∧ findD xs n = findD rest n) xs _ ⟨_, rfl, h, rfl⟩ ?_ ?_
  · rintro d r s ⟨z, rfl, hi, e⟩
    obtain ⟨w, m, q, rfl⟩ := itm_c0 (hi d (by simp))
    walk_at "go"
    rw [find_cons] at e
    have e1 : isS (c1 (.tup (.str w :: .str m :: q))) n = decide (m = n) := rfl
    rw [e1] at e
    cases hd : decide (m = n)
    · rw [hd] at e
      walk_at "go"
      exact ⟨_, rfl, fun it hi' => hi it (by simp [hi']), e⟩
    · rw [hd] at e
      walk_at "go"
      rw [e]; rfl
  · rintro s ⟨z, rfl, _, e⟩
    walk_at "go"
    rw [e]; rfl
theorem item_of (k : Nat) {xs : List D} (h : ∀ it ∈ xs, Itm it) (kind n : Str) (hp : HP) : Ca (k + 2) n_item_of [.tup xs, .str kind, .str n] hp = .ok (itemOf xs kind n) hp := by
  refine cwp_eq ?_
  rw [w_item_of]
  unfold b_item_of
  walk_at "go"
  rw [named k h]
  walk_at "go"
  unfold itemOf
  rcases find_itm (n := n) h with e | ⟨_, h2, _⟩
  · rw [e]; walk_at "go"
  · generalize findD xs n = o at h2
    obtain ⟨w, m, q, rfl⟩ := itm_c0 h2
    walk_at "go"
    have e1 : isS (c0 (.tup (.str w :: .str m :: q))) kind = decide (w = kind) := rfl
    rw [e1]
    cases decide (w = kind) <;> walk_at "go"
theorem table_of (k : Nat) {xs : List D} (h : ∀ it ∈ xs, Itm it) (n : Str) (hp : HP) : Ca (k + 3) n_table_of [.tup xs, .str n] hp = .ok (itemOf xs "table" n) hp := by
  refine cwp_eq ?_
  rw [w_table_of]
  unfold b_table_of
  walk_at "go"
  rw [item_of k h]
  walk_at "go"
theorem index_of (k : Nat) {xs : List D} (h : ∀ it ∈ xs, Itm it) (n : Str) (hp : HP) : Ca (k + 3) n_index_of [.tup xs, .str n] hp = .ok (itemOf xs "index" n) hp := by
  refine cwp_eq ?_
  rw [w_index_of]
  unfold b_index_of
  walk_at "go"
  rw [item_of k h]
  walk_at "go"
theorem view_of (k : Nat) {xs : List D} (h : ∀ it ∈ xs, Itm it) (n : Str) (hp : HP) : Ca (k + 3) n_view_of [.tup xs, .str n] hp = .ok (itemOf xs "view" n) hp := by
  refine cwp_eq ?_
  rw [w_view_of]
  unfold b_view_of
  walk_at "go"
  rw [item_of k h]
  walk_at "go"
theorem items_of (k : Nat) {xs : List D} (h : ∀ it ∈ xs, Itm it) (hl : xs.length ≤ 1000) (kind : Str) (hp : HP) : Ca (k + 1) n_items_of [.tup xs, .str kind] hp = .ok (.tup (ofKind xs kind)) hp := by
  refine cwp_eq ?_
  rw [w_items_of]
  unfold b_items_of
  walk_at "go"
  refine cmw_pure (fun it => if isS (c0 it) kind then some it else none) (by kernel_rfl) (by show _ ≤ 16777216; omega) (fun d hd => ?_) ?_
  · obtain ⟨w, m, q, rfl⟩ := itm_c0 (h d hd)
    walk_at "go"
    have e1 : isS (c0 (.tup (.str w :: .str m :: q))) kind = decide (w = kind) := rfl
    rw [e1]
    cases decide (w = kind) <;> (walk_at "go"; try rfl)
  · walk_at "go"
    rw [flt_eq]
    rfl
theorem place_at (k : Nat) {t : Str} {n : D} {cs : List D} {r : List D} (hc : cs.all columnB = true) (hl : cs.length ≤ 1000) (x : Str) (hp : HP) : Ca (k + 1) n_place_at [.tup (.str t :: n :: .tup cs :: r), .str x] hp = .ok (placeV cs (.str x)) hp := by
  refine cwp_eq ?_
  rw [w_place_at]
  unfold b_place_at
  walk_at "go"
  refine cmw_pure (mpG c0) (by kernel_rfl) (by show _ ≤ 16777216; omega) (fun d hd => ?_) ?_
  · obtain ⟨n, k, l, rfl, _⟩ := colB_of (List.all_eq_true.mp hc d hd)
    walk_at "go"
    rfl
  · walk_at "go"
    rw [in_lst (pls_strs (cols_c0 hc))]
    walk_at "go"
    rw [← idx_mem]
    have e1 : mtD .index (.lst (cs.map c0)) [.str x] = (idxS (cs.map c0) (.str x)).map fun k => D.int (k : Nat) := by
      show (placeD (.str x) (cs.map c0)).map _ = _
      rw [placeD_eq (pls_strs (cols_c0 hc)) (by have := strs_depth (cols_c0 hc); omega)]
    unfold placeV
    cases hi : idxS (cs.map c0) (.str x)
    · simp only [Option.isSome_none]
      walk_at "go"
    · rw [hi] at e1
      simp only [Option.isSome_some]
      walk_at "go"
      rw [e1]
      walk_at "go"
theorem places_at (k : Nat) {t : Str} {n : D} {cs : List D} {r ws : List D} (hc : cs.all columnB = true) (hl : cs.length ≤ 1000) (hw : ∀ w ∈ ws, ∃ x, w = .str x) (hwl : ws.length ≤ 1000) (hp : HP) : Ca (k + 2) n_places_at [.tup (.str t :: n :: .tup cs :: r), .tup ws] hp = .ok (.tup (ws.map (placeV cs))) hp := by
  refine cwp_eq ?_
  rw [w_places_at]
  unfold b_places_at
  walk_at "go"
  refine cmw_pure (mpG (placeV cs)) (by kernel_rfl) (by show _ ≤ 16777216; omega) (fun d hd => ?_) ?_
  · obtain ⟨x, rfl⟩ := hw d hd
    walk_at "go"
    rw [place_at k hc hl]
    walk_at "go"
    rfl
  · walk_at "go"

set_option autoImplicit false
theorem link_is_right (k : Nat) {xs : List D} (h : ∀ it ∈ xs, Itm it) {n : Str} {cs key rules links : List D} (hc : cs.all columnB = true) (hcl : cs.length ≤ 6) (kl : key.length ≤ 3) (ks : ∀ w ∈ key, ∃ x, w = .str x) (km : ∀ w ∈ key, memS w (cs.map c0) = true) {l : D} (hl : linkB (cs.map c0) l = true) (hp : HP) :
    Ca (k + 4) n_link_is_right [.tup xs, .tup [.str "table", .str n, .tup cs, .tup key, .tup rules, .tup links], l] hp = .ok (.bl (linkOk (itemOf xs "table") (.tup [.str "table", .str n, .tup cs, .tup key, .tup rules, .tup links]) l)) hp := by
  obtain ⟨ws, t, rfl, _, _, hws, hwm, hwl⟩ := linkB_of hl
  have hL : linkOk (itemOf xs "table") (.tup [.str "table", .str n, .tup cs, .tup key, .tup rules, .tup links]) (.tup [.tup ws, .str t]) = match (if decide (n = t) then (.tup [.str "table", .str n, .tup cs, .tup key, .tup rules, .tup links]) else itemOf xs "table" t) with
    | .non => false
    | o => eqL (ws.map (kindAt cs)) ((its (c3 o)).map (kindAt (its (c2 o)))) := rfl
  have hx : ∀ (f : D → Sg → Prop) (e : Nat → List D → Sg → Prop), @wp D (ev ⟨Ca (k + 3), gl, WW⟩ (.ifx (.op2 .eq (.sub (.peek 2) (.const (.int 1))) (.sub (.peek 1) (.const (.int 1)))) (.var 1) (.callk n_table_of [0, 1] (.cons (.var 0) (.cons (.sub (.peek 2) (.const (.int 1))) .nil))))
      ⟨[.val (.tup xs), .val (.tup [.str "table", .str n, .tup cs, .tup key, .tup rules, .tup links]), .val (.tup [.tup ws, .str t]), .emp, .emp, .emp], hp⟩) ⟨f, e⟩ = f (if decide (n = t) then (.tup [.str "table", .str n, .tup cs, .tup key, .tup rules, .tup links]) else itemOf xs "table" t)
      ⟨[.val (.tup xs), .val (.tup [.str "table", .str n, .tup cs, .tup key, .tup rules, .tup links]), .val (.tup [.tup ws, .str t]), .emp, .emp, .emp], hp⟩ := fun f e => by
    walk_at "go"
    rw [table_of k h]
    walk_at "go"
    by_cases ht : t = n
    · subst ht
      simp only [decide_true, if_true]
    · have ht' : ¬ n = t := fun q => ht q.symm
      rw [decide_eq_false ht, decide_eq_false ht', if_neg (by decide), if_neg (by decide)]
  have ho : (if decide (n = t) then (D.tup [.str "table", .str n, .tup cs, .tup key, .tup rules, .tup links]) else itemOf xs "table" t) = .non ∨ ∃ n2 cs2 key2 r2 l2, (if decide (n = t) then (D.tup [.str "table", .str n, .tup cs, .tup key, .tup rules, .tup links]) else itemOf xs "table" t) = (D.tup [.str "table", .str n2, .tup cs2, .tup key2, .tup r2, .tup l2]) ∧ cs2.length ≤ 6 ∧ cs2.all columnB = true ∧ key2.length ≤ 3 ∧ (∀ w ∈ key2, ∃ x, w = .str x) ∧ (∀ w ∈ key2, memS w (cs2.map c0) = true) := by
    by_cases hd : n = t
    · rw [decide_eq_true hd, if_pos rfl]
      exact .inr ⟨n, cs, key, rules, links, rfl, hcl, hc, kl, ks, km⟩
    · rw [decide_eq_false hd, if_neg (by decide)]
      rcases item_tab (n := t) h with e | ⟨_, e2, e3⟩
      · exact .inl e
      · obtain ⟨n2, cs2, key2, rules2, links2, e, _, q6, qc, qk, qs, qm, _⟩ := tab_of e2 e3
        exact .inr ⟨n2, cs2, key2, rules2, links2, e, q6, qc, qk, qs, qm⟩
  generalize (if decide (n = t) then (D.tup [.str "table", .str n, .tup cs, .tup key, .tup rules, .tup links]) else itemOf xs "table" t) = o at hL hx ho
  refine cwp_eq ?_
  rw [w_link_is_right]
  unfold b_link_is_right
  simp only [↓wp_seq, ↓wp_set]
  rw [hx]
  rw [hL]
  rcases ho with rfl | ⟨n2, cs2, key2, rules2, links2, rfl, q6, qc, qk, qs, qm⟩
  · walk_at "go"
  · walk_at "go"
    show if (!decide ((ws.length : Int) = (key2.length : Int))) = true then _ else _
    have hR : eqL (ws.map (kindAt cs)) ((its (c3 (.tup [.str "table", .str n2, .tup cs2, .tup key2, .tup rules2, .tup links2]))).map (kindAt (its (c2 (.tup [.str "table", .str n2, .tup cs2, .tup key2, .tup rules2, .tup links2]))))) = eqL (ws.map (kindAt cs)) (key2.map (kindAt cs2)) := rfl
    by_cases hlen : ws.length = key2.length
    · have hlen' : (ws.length : Int) = (key2.length : Int) := by omega
      rw [decide_eq_true hlen']
      walk_at "go"
      rw [places_at (k + 1) hc (by omega) hws (by omega)]
      walk_at "go"
      refine cmw_pure (mpG (atP cs)) (by kernel_rfl) (by rw [List.length_map]; show _ ≤ 16777216; omega) (fun d hd => ?_) ?_
      · obtain ⟨w, hw, rfl⟩ := List.mem_map.mp hd
        obtain ⟨i, x, e1, e2, e3, n3, l3, e4⟩ := kind_str hc (hwm w hw)
        have e5 : placeV cs w = .int i := by unfold placeV; rw [e1]
        rw [e5]
        walk_at "go"
        have e6 : L2.atI cs (i : Int) = some (.tup [.str n3, .str x, .int l3]) := by
          rw [atk (by omega) (by omega), Int.toNat_natCast, e4]
        rw [e6]
        walk_at "go"
        show some (D.str x) = some (c1 (cs.getD (i : Int).toNat .non))
        rw [Int.toNat_natCast, List.getD_eq_getElem?_getD, e4]; rfl
      · walk_at "go"
        rw [places_at (k + 1) qc (by omega) qs (by omega)]
        walk_at "go"
        refine cmw_pure (mpG (atP cs2)) (by kernel_rfl) (by rw [List.length_map]; show _ ≤ 16777216; omega) (fun d hd => ?_) ?_
        · obtain ⟨w, hw, rfl⟩ := List.mem_map.mp hd
          obtain ⟨i, x, e1, e2, e3, n3, l3, e4⟩ := kind_str qc (qm w hw)
          have e5 : placeV cs2 w = .int i := by unfold placeV; rw [e1]
          rw [e5]
          walk_at "go"
          have e6 : L2.atI cs2 (i : Int) = some (.tup [.str n3, .str x, .int l3]) := by
            rw [atk (by omega) (by omega), Int.toNat_natCast, e4]
          rw [e6]
          walk_at "go"
          show some (D.str x) = some (c1 (cs2.getD (i : Int).toNat .non))
          rw [Int.toNat_natCast, List.getD_eq_getElem?_getD, e4]; rfl
        · walk_at "go"
          rw [map_at, map_at, op_eq_strs (kinds_str hc hwm) (kinds_str qc qm)]
          walk_at "go"
          rfl
    · have hlen' : ¬ (ws.length : Int) = (key2.length : Int) := by omega
      rw [decide_eq_false hlen']
      walk_at "go"
      rw [hR, eqL_len (by simpa using hlen)]
theorem head_is_right (k : Nat) {xs : List D} (h : ∀ it ∈ xs, Itm it) (hxl : xs.length ≤ 1000) {it : D} (hi : Itm it) (hp : HP) : Ca (k + 5) n_head_is_right [.tup xs, it] hp = .ok (.bl (headB (itemOf xs "table") xs it)) hp := by
  have nt : ((Str.ofString "index" : Str) = Str.ofString "table") = False := by simp only [ofStr_eq, String.reduceEq]
  have nt2 : ((Str.ofString "view" : Str) = Str.ofString "table") = False := by simp only [ofStr_eq, String.reduceEq]
  have nt3 : ((Str.ofString "view" : Str) = Str.ofString "index") = False := by simp only [ofStr_eq, String.reduceEq]
  refine cwp_eq ?_
  rw [w_head_is_right]
  unfold b_head_is_right
  cases hi with
  | table n cs key rules links h1 h6 hc kl ks km ll hl =>
    walk_at "go"
    rw [named (k + 3) h]
    walk_at "go"
    have hB : headB (itemOf xs "table") xs (.tup [.str "table", .str n, .tup cs, .tup key, .tup rules, .tup links]) = match findD xs n with
      | .non => (decide (((ofKind xs "table").length : Int) < 12) && links.all (linkOk (itemOf xs "table") (.tup [.str "table", .str n, .tup cs, .tup key, .tup rules, .tup links])))
      | _ => false := by
      have e0 : isS (c0 (.tup [.str "table", .str n, .tup cs, .tup key, .tup rules, .tup links])) "table" = true := tag_yes _ _
      unfold headB
      simp only [e0, if_true]
      rfl
    rcases find_itm (n := n) h with e | ⟨_, e2, _⟩
    · rw [e] at hB
      rw [e]
      walk_at "go"
      rw [items_of (k + 3) h hxl]
      walk_at "go"
      rw [hB]
      cases hm : decide (((ofKind xs "table").length : Int) < 12)
      · have hm' : decide (((ofKind xs (Str.ofString "table")).length : Int) < 12) = false := hm
        (try rw [hm']); walk_at "go"
      · have hm' : decide (((ofKind xs (Str.ofString "table")).length : Int) < 12) = true := hm
        (try rw [hm']); walk_at "go"
        refine cmw_pure (blG (linkOk (itemOf xs "table") (.tup [.str "table", .str n, .tup cs, .tup key, .tup rules, .tup links]))) (by kernel_rfl) (by show _ ≤ 16777216; omega) (fun d hd => ?_) ?_
        · walk_at "go"
          rw [link_is_right k h hc h6 kl ks km (hl d hd)]
          walk_at "go"
          rfl
        · walk_at "go"
    · rw [hB]
      generalize findD xs n = o at e2
      obtain ⟨w, m, q, rfl⟩ := itm_c0 e2
      walk_at "go"
  | index n t ws wl hs =>
    walk_at "go"
    rw [named (k + 3) h]
    walk_at "go"
    have hB : headB (itemOf xs "table") xs (.tup [.str "index", .str n, .str t, .tup ws]) = match findD xs n with
      | .non => (match itemOf xs "table" t with | .non => false | o => ws.all fun w => memS w ((its (c2 o)).map c0))
      | _ => false := by
      have e0 : isS (c0 (.tup [.str "index", .str n, .str t, .tup ws])) "table" = false := tag_no nt _
      have e1 : isS (c0 (.tup [.str "index", .str n, .str t, .tup ws])) "index" = true := tag_yes _ _
      unfold headB
      simp only [e0, e1, if_true, if_false, Bool.false_eq_true]
      rfl
    rcases find_itm (n := n) h with e | ⟨_, e2, _⟩
    · rw [e] at hB
      rw [e]
      walk_at "go"
      rw [table_of (k + 1) h]
      walk_at "go"
      rw [hB]
      rcases item_tab (n := t) h with e3 | ⟨_, e4, e5⟩
      · have e3' : itemOf xs (Str.ofString "table") t = .non := e3
        rw [e3']
        walk_at "go"
      · obtain ⟨n2, cs2, key2, rules2, links2, e6, _, q6, qc, qk, qs, qm, _⟩ := tab_of e4 e5
        have e6' : itemOf xs (Str.ofString "table") t = _ := e6
        rw [e6']
        walk_at "go"
        rw [places_at (k + 2) qc (by omega) hs (by omega)]
        walk_at "go"
        have e7 : op2 .notin .non (.tup (ws.map (placeV cs2))) = some (.bl (ws.all fun w => memS w (cs2.map c0))) := by
          show Mi.b2 not (memD .non (ws.map (placeV cs2))) = _
          rw [non_in]
          show some (D.bl (!!_)) = _
          rw [Bool.not_not]
        rw [e7]
        walk_at "go"
        rfl
    · rw [hB]
      generalize findD xs n = o at e2
      obtain ⟨w, m, q, rfl⟩ := itm_c0 e2
      walk_at "go"
  | view n q b =>
    walk_at "go"
    rw [named (k + 3) h]
    walk_at "go"
    have hB : headB (itemOf xs "table") xs (.tup [.str "view", .str n, q, b]) = match findD xs n with
      | .non => true
      | _ => false := by
      have e0 : isS (c0 (.tup [.str "view", .str n, q, b])) "table" = false := tag_no nt2 _
      have e1 : isS (c0 (.tup [.str "view", .str n, q, b])) "index" = false := tag_no nt3 _
      unfold headB
      simp only [e0, e1, if_false, Bool.false_eq_true]
      rfl
    rcases find_itm (n := n) h with e | ⟨_, e2, _⟩
    · rw [e] at hB
      rw [e]
      walk_at "go"
      rw [hB]
    · rw [hB]
      generalize findD xs n = o at e2
      obtain ⟨w, m, q, rfl⟩ := itm_c0 e2
      walk_at "go"
/-- an item at its place -/
def headAt (xs : List D) (i : Nat) : Bool := headB (itemOf (xs.take i) "table") (xs.take i) (xs.getD i .non)
def schemaB (v : D) : Bool := match v with
  | .tup xs => decide ((xs.length : Int) ≤ 30) && xs.all itemB && (List.range xs.length).all (headAt xs)
  | _ => false
theorem enum_eq : ∀ (xs : List D) (k : Nat), enumL k xs = (List.range xs.length).map fun i => .tup [.int ((k + i : Nat) : Int), xs.getD i .non]
  | [], _ => rfl
  | x :: xs, k => by
    rw [enumL, enum_eq xs (k + 1), List.length_cons, List.range_succ_eq_map, List.map_cons, List.map_map]
    congr 1
    refine List.map_congr_left fun i _ => ?_
    show _ = D.tup [.int ((k + (i + 1) : Nat) : Int), (x :: xs).getD (i + 1) .non]
    rw [List.getD_cons_succ, show k + 1 + i = k + (i + 1) by omega]
theorem enum_len (xs : List D) (k : Nat) : (enumL k xs).length = xs.length := by
  rw [enum_eq, List.length_map, List.length_range]
theorem is_schema (k : Nat) {v : D} (h : gd v = true) (hp : HP) : Ca (k + 8) n_is_schema [v] hp = .ok (.bl (schemaB v)) hp := by
  refine cwp_eq ?_
  rw [w_is_schema]
  unfold b_is_schema
  cases v with
  | tup xs =>
    obtain ⟨hl, hx⟩ := gd_tup h
    walk_at "go"
    by_cases h1 : (xs.length : Int) ≤ 30
    · have h1' : ¬ (30 : Int) < (xs.length : Int) := by omega
      simp only [decide_eq_false h1']
      walk_at "go"
      refine cmw_pure (blG itemB) (by kernel_rfl) (by show _ ≤ 16777216; omega) (fun d hd => ?_) ?_
      · walk_at "go"
        rw [is_item k (hx d hd)]
        walk_at "go"
        rfl
      · walk_at "go"
        have hW : schemaB (.tup xs) = (xs.all itemB && (List.range xs.length).all (headAt xs)) := by
          simp only [schemaB, decide_eq_true h1, Bool.true_and]
        rw [hW]
        cases ha : xs.all itemB
        · walk_at "go"
        · have hi : ∀ it ∈ xs, Itm it := fun it hit => itm_of (hx it hit) (List.all_eq_true.mp ha it hit)
          walk_at "go"
          refine cmw_pure (blG fun d => match d with | .tup [.int i, x] => headB (itemOf (xs.take i.toNat) "table") (xs.take i.toNat) x | _ => false) (by kernel_rfl) (by rw [enum_len]; show _ ≤ 16777216; omega) (fun d hd => ?_) ?_
          · rw [enum_eq] at hd
            obtain ⟨i, hi2, rfl⟩ := List.mem_map.mp hd
            rw [List.mem_range] at hi2
            rw [Nat.zero_add]
            have hg : xs.getD i .non ∈ xs := by
              rw [List.getD_eq_getElem?_getD, List.getElem?_eq_getElem hi2]
              exact List.getElem_mem hi2
            generalize xs.getD i .non = it at hg
            walk_at "go"
            rw [cut_to (by omega), Int.toNat_natCast]
            rw [head_is_right (k + 2) (fun it hit => hi it (List.mem_of_mem_take hit)) (by rw [List.length_take]; omega) (hi it hg)]
            walk_at "go"
            simp only [blG, Int.toNat_natCast]
          · walk_at "go"
            rw [enum_eq, List.all_map]
            simp only [Function.comp_def, Nat.zero_add, Int.toNat_natCast]
            rfl
    · have h1' : (30 : Int) < (xs.length : Int) := by omega
      simp only [decide_eq_true h1']
      walk_at "go"
      simp only [schemaB, decide_eq_false h1, Bool.false_and]
  | _ => first | (cases h; done) | (walk_at "go"; try rfl)

set_option autoImplicit false
theorem l_kinds (k : Nat) {t : Str} {n : D} {cs r ws : List D} (hc : cs.all columnB = true) (hcl : cs.length ≤ 1000) (hwl : ws.length ≤ 1000) (hw : ∀ w ∈ ws, ∃ x, w = .str x) (hm : ∀ w ∈ ws, memS w (cs.map c0) = true) (hp : HP) :
    Ca (k + 1) n__law_k02_kinds [.tup (.str t :: n :: .tup cs :: r), .tup ws] hp = .ok (.lst (ws.map (kindAt cs))) hp := by
  refine cwp_eq ?_
  rw [w__law_k02_kinds]
  unfold b__law_k02_kinds
  walk_at "go"
  refine cmw_pure (mpG c1) (by kernel_rfl) (by show _ ≤ 16777216; omega) (fun d hd => ?_) ?_
  · obtain ⟨n, k, l, rfl, _⟩ := colB_of (List.all_eq_true.mp hc d hd)
    walk_at "go"
    rfl
  · walk_at "go"
    refine cmw_pure (mpG (kindAt cs)) (by kernel_rfl) (by show _ ≤ 16777216; omega) (fun d hd => ?_) ?_
    · obtain ⟨x, rfl⟩ := hw d hd
      obtain ⟨i, y, e1, e2, e3, n3, l3, e4⟩ := kind_str hc (hm _ hd)
      walk_at "go"
      refine cmw_pure (mpG c0) (by kernel_rfl) (by show _ ≤ 16777216; omega) (fun d hd => ?_) ?_
      · obtain ⟨n, k, l, rfl, _⟩ := colB_of (List.all_eq_true.mp hc d hd)
        walk_at "go"
        rfl
      · walk_at "go"
        have e5 : mtD .index (.lst (cs.map c0)) [.str x] = some (.int (i : Nat)) := by
          show (placeD (.str x) (cs.map c0)).map _ = _
          rw [placeD_eq (pls_strs (cols_c0 hc)) (by have := strs_depth (cols_c0 hc); omega), e1]; rfl
        rw [e5]
        walk_at "go"
        have e6 : L2.atI (cs.map c1) (i : Int) = some (.str y) := by
          rw [atk (by omega) (by rw [List.length_map]; omega), Int.toNat_natCast, List.getElem?_map, e4]; rfl
        rw [e6]
        walk_at "go"
        show some _ = some (kindAt cs (.str x))
        rw [e3]
    · walk_at "go"
theorem l_refers (k : Nat) {xs : List D} (h : ∀ it ∈ xs, Itm it) (hxl : xs.length ≤ 1000) {it : D} (hi : Itm it) (hp : HP) : Ca (k + 2) n__law_k02_refers [.tup xs, it] hp = .ok (.bl (headB (lfind xs) xs it)) hp := by
  have nt : ((Str.ofString "index" : Str) = Str.ofString "table") = False := by simp only [ofStr_eq, String.reduceEq]
  have nt2 : ((Str.ofString "view" : Str) = Str.ofString "table") = False := by simp only [ofStr_eq, String.reduceEq]
  have nt3 : ((Str.ofString "view" : Str) = Str.ofString "index") = False := by simp only [ofStr_eq, String.reduceEq]
  have nt4 : ((Str.ofString "table" : Str) = Str.ofString "index") = False := by simp only [ofStr_eq, String.reduceEq]
  refine cwp_eq ?_
  rw [w__law_k02_refers]
  unfold b__law_k02_refers
  have tl : (ofKind xs "table").length ≤ 1000 := Nat.le_trans (kind_len xs "table") hxl
  cases hi with
  | table n cs key rules links h1 h6 hc kl ks km ll hl =>
    have hB : headB (lfind xs) xs (.tup [.str "table", .str n, .tup cs, .tup key, .tup rules, .tup links]) = match findD xs n with
      | .non => (decide (((ofKind xs "table").length : Int) < 12) && links.all (linkOk (lfind xs) (.tup [.str "table", .str n, .tup cs, .tup key, .tup rules, .tup links])))
      | _ => false := by
      have e0 : isS (c0 (.tup [.str "table", .str n, .tup cs, .tup key, .tup rules, .tup links])) "table" = true := tag_yes _ _
      unfold headB
      simp only [e0, if_true]
      rfl
    have hIt : Itm (.tup [.str "table", .str n, .tup cs, .tup key, .tup rules, .tup links]) := .table n cs key rules links h1 h6 hc kl ks km ll hl
    walk_at "go"
    refine cmw_pure (mpG c1) (by kernel_rfl) (by show _ ≤ 16777216; omega) (fun d hd => ?_) ?_
    · obtain ⟨w, m, r, rfl⟩ := itm_c0 (h d hd)
      walk_at "go"
      rfl
    walk_at "go"
    rw [in_lst (pls_strs (names_str h))]
    walk_at "go"
    rw [mem_find h, hB]
    rcases find_itm (n := n) h with e | ⟨_, e2, _⟩
    · rw [e]
      walk_at "go"
      refine cmw_pure (fun it => if isS (c0 it) "table" then some it else none) (by kernel_rfl) (by show _ ≤ 16777216; omega) (fun d hd => ?_) ?_
      · obtain ⟨w, m, q, rfl⟩ := itm_c0 (h d hd)
        walk_at "go"
        have e1 : isS (c0 (.tup (.str w :: .str m :: q))) "table" = decide (w = Str.ofString "table") := rfl
        rw [e1]
        cases decide (w = Str.ofString "table") <;> (walk_at "go"; try rfl)
      walk_at "go"
      rw [flt_eq]
      have eK : (xs.filter fun it => isS (c0 it) (Str.ofString "table")) = ofKind xs "table" := rfl
      rw [eK]
      have hB2 : (match D.non with
        | .non => (decide (((ofKind xs "table").length : Int) < 12) && links.all (linkOk (lfind xs) (.tup [.str "table", .str n, .tup cs, .tup key, .tup rules, .tup links])))
        | _ => false) = (decide (((ofKind xs "table").length : Int) < 12) && links.all (linkOk (lfind xs) (.tup [.str "table", .str n, .tup cs, .tup key, .tup rules, .tup links]))) := rfl
      by_cases hm : ((ofKind xs "table").length : Int) < 12
      · have hm' : ¬ (11 : Int) < ((ofKind xs "table").length : Int) := by omega
        simp only [decide_eq_false hm']
        walk_at "go"
        rw [decide_eq_true hm, Bool.true_and]
        have kI := kind_itm h "table"
        have lf : ∀ t, lfind xs t = findD (ofKind xs "table") t := fun t => rfl
        have own : ∀ t, ((ofKind xs "table" ++ [D.tup [.str "table", .str n, .tup cs, .tup key, .tup rules, .tup links]]).filter fun o => isS (c1 o) t) = _ := fun t => own_only (t := t) h e (rfl : c1 (.tup [.str "table", .str n, .tup cs, .tup key, .tup rules, .tup links]) = .str n)
        generalize hT : ofKind xs "table" = tabs at *
        refine forL_chk (linkOk (lfind xs) (.tup [.str "table", .str n, .tup cs, .tup key, .tup rules, .tup links])) (fun s => ∃ z2 z4 z5 z7, nOwn z2 = true ∧ s = ⟨[.val (.tup xs), .val (.tup [.str "table", .str n, .tup cs, .tup key, .tup rules, .tup links]), z2, .val (.lst tabs), z4, z5, .emp, z7], hp⟩) links _ ⟨_, _, _, _, rfl, rfl⟩ (fun d hd s hs => ?_) (fun s hs => ?_)
        · obtain ⟨z2, z4, z5, z7, hz, rfl⟩ := hs
          obtain ⟨ws, t, rfl, _, _, hws, hwm, hwl⟩ := linkB_of (hl d hd)
          have hL : linkOk (lfind xs) (.tup [.str "table", .str n, .tup cs, .tup key, .tup rules, .tup links]) (.tup [.tup ws, .str t]) = match (if decide (n = t) then (D.tup [.str "table", .str n, .tup cs, .tup key, .tup rules, .tup links]) else lfind xs t) with
            | .non => false
            | o => eqL (ws.map (kindAt cs)) ((its (c3 o)).map (kindAt (its (c2 o)))) := rfl
          walk_at "go"
          rw [op2_addl _ _ (by simp only [List.length_cons, List.length_nil]; show _ ≤ 16777216; omega)]
          walk_at "go"
          refine cmw_pure (fun it => if isS (c1 it) t then some it else none) (by show (nOwn z2 && true) = true; rw [hz]; rfl) (by simp only [List.length_append, List.length_cons, List.length_nil]; show _ ≤ 16777216; omega) (fun d hd => ?_) ?_
          · have hId : Itm d := by
              rcases List.mem_append.mp hd with hd | hd
              · exact kI d hd
              · rw [List.mem_singleton.mp hd]; exact hIt
            obtain ⟨w, m, q, rfl⟩ := itm_c0 hId
            walk_at "go"
            have e1 : isS (c1 (.tup (.str w :: .str m :: q))) t = decide (m = t) := rfl
            rw [e1]
            cases decide (m = t) <;> (walk_at "go"; try rfl)
          walk_at "go"
          rw [flt_eq, own t, hL]
          have hf : ((if decide (n = t) then [D.tup [.str "table", .str n, .tup cs, .tup key, .tup rules, .tup links]] else tabs.filter fun o => isS (c1 o) t) = [] ∧ (if decide (n = t) then (D.tup [.str "table", .str n, .tup cs, .tup key, .tup rules, .tup links]) else lfind xs t) = .non) ∨
              ∃ (n2 : Str) (cs2 key2 r2 l2 rest : List D), (if decide (n = t) then [D.tup [.str "table", .str n, .tup cs, .tup key, .tup rules, .tup links]] else tabs.filter fun o => isS (c1 o) t) = D.tup [.str "table", .str n2, .tup cs2, .tup key2, .tup r2, .tup l2] :: rest ∧ (if decide (n = t) then (D.tup [.str "table", .str n, .tup cs, .tup key, .tup rules, .tup links]) else lfind xs t) = D.tup [.str "table", .str n2, .tup cs2, .tup key2, .tup r2, .tup l2] ∧ cs2.length ≤ 6 ∧ cs2.all columnB = true ∧ key2.length ≤ 3 ∧ (∀ w ∈ key2, ∃ x, w = D.str x) ∧ (∀ w ∈ key2, memS w (cs2.map c0) = true) := by
            by_cases ht : n = t
            · rw [decide_eq_true ht, if_pos rfl, if_pos rfl]
              exact .inr ⟨n, cs, key, rules, links, [], rfl, rfl, h6, hc, kl, ks, km⟩
            · rw [decide_eq_false ht, if_neg (by decide), if_neg (by decide)]
              rcases flt_find (n := t) kI with ⟨q1, q2⟩ | ⟨rest, q1, q2⟩
              · exact .inl ⟨q1, by rw [lf t]; exact q2⟩
              · have q3 := q2
                rw [← hT] at q3
                obtain ⟨q4, q5⟩ := lfind_tab h q3
                obtain ⟨n2, cs2, key2, rules2, links2, e6, _, q6, qc, qk, qs, qm, _⟩ := tab_of q4 q5
                refine .inr ⟨n2, cs2, key2, rules2, links2, rest, ?_, e6, q6, qc, qk, qs, qm⟩
                rw [q1, ← lf t, e6]
          generalize (if decide (n = t) then [D.tup [.str "table", .str n, .tup cs, .tup key, .tup rules, .tup links]] else tabs.filter fun o => isS (c1 o) t) = fl at hf
          generalize (if decide (n = t) then (D.tup [.str "table", .str n, .tup cs, .tup key, .tup rules, .tup links]) else lfind xs t) = o at hf
          rcases hf with ⟨rfl, rfl⟩ | ⟨n2, cs2, key2, r2, l2, rest, rfl, rfl, q6, qc, qk, qs, qm⟩
          · rw [eq_nilL]
            walk_at "go"
            simp only [List.isEmpty_nil]
            walk_at "go"
            first | exact ⟨⟨_, _, _, _, hz, rfl⟩, rfl⟩ | exact ⟨_, _, _, _, hz, rfl⟩
          · rw [eq_nilL]
            walk_at "go"
            simp only [List.isEmpty_cons]
            walk_at "go"
            rw [l_kinds k hc (by omega) (by omega) hws hwm]
            walk_at "go"
            rw [l_kinds k qc (by omega) (by omega) qs qm]
            walk_at "go"
            rw [op_ne_strs (kinds_str hc hwm) (kinds_str qc qm)]
            walk_at "go"
            show if (!eqL (ws.map (kindAt cs)) (key2.map (kindAt cs2))) = true then _ else _
            have hR : eqL (ws.map (kindAt cs)) ((its (c3 (.tup [.str "table", .str n2, .tup cs2, .tup key2, .tup r2, .tup l2]))).map (kindAt (its (c2 (.tup [.str "table", .str n2, .tup cs2, .tup key2, .tup r2, .tup l2]))))) = eqL (ws.map (kindAt cs)) (key2.map (kindAt cs2)) := rfl
            simp only [hR]
            cases eqL (ws.map (kindAt cs)) (key2.map (kindAt cs2))
            · walk_at "go"; first | exact ⟨⟨_, _, _, _, hz, rfl⟩, rfl⟩ | exact ⟨_, _, _, _, hz, rfl⟩ | exact ⟨_, _, _, _, rfl, rfl⟩
            · walk_at "go"; first | exact ⟨⟨_, _, _, _, hz, rfl⟩, rfl⟩ | exact ⟨_, _, _, _, hz, rfl⟩ | exact ⟨_, _, _, _, rfl, rfl⟩
        · obtain ⟨z2, z4, z5, z7, hz, rfl⟩ := hs
          refine ⟨fun ha => ?_, fun ha => ?_⟩
          · walk_at "go"
            rw [ha]
          · walk_at "go"
            rw [ha]
      · have hm' : (11 : Int) < ((ofKind xs "table").length : Int) := by omega
        simp only [decide_eq_true hm']
        walk_at "go"
        rw [decide_eq_false hm, Bool.false_and]
    · generalize findD xs n = o at e2
      obtain ⟨w, m, q, rfl⟩ := itm_c0 e2
      walk_at "go"
  | index n t ws wl hs =>
    have hB : headB (lfind xs) xs (.tup [.str "index", .str n, .str t, .tup ws]) = match findD xs n with
      | .non => (match lfind xs t with | .non => false | o => ws.all fun w => memS w ((its (c2 o)).map c0))
      | _ => false := by
      have e0 : isS (c0 (.tup [.str "index", .str n, .str t, .tup ws])) "table" = false := tag_no nt _
      have e1 : isS (c0 (.tup [.str "index", .str n, .str t, .tup ws])) "index" = true := tag_yes _ _
      unfold headB
      simp only [e0, e1, if_true, if_false, Bool.false_eq_true]
      rfl
    walk_at "go"
    refine cmw_pure (mpG c1) (by kernel_rfl) (by show _ ≤ 16777216; omega) (fun d hd => ?_) ?_
    · obtain ⟨w, m, r, rfl⟩ := itm_c0 (h d hd)
      walk_at "go"
      rfl
    walk_at "go"
    rw [in_lst (pls_strs (names_str h))]
    walk_at "go"
    rw [mem_find h, hB]
    rcases find_itm (n := n) h with e | ⟨_, e2, _⟩
    · rw [e]
      walk_at "go"
      refine cmw_pure (fun it => if isS (c0 it) "table" then some it else none) (by kernel_rfl) (by show _ ≤ 16777216; omega) (fun d hd => ?_) ?_
      · obtain ⟨w, m, q, rfl⟩ := itm_c0 (h d hd)
        walk_at "go"
        have e1 : isS (c0 (.tup (.str w :: .str m :: q))) "table" = decide (w = Str.ofString "table") := rfl
        rw [e1]
        cases decide (w = Str.ofString "table") <;> (walk_at "go"; try rfl)
      walk_at "go"
      rw [flt_eq]
      have eK : (xs.filter fun it => isS (c0 it) (Str.ofString "table")) = ofKind xs "table" := rfl
      rw [eK]
      have kI := kind_itm h "table"
      refine cmw_pure (fun it => if isS (c1 it) t then some it else none) (by kernel_rfl) (by show _ ≤ 16777216; omega) (fun d hd => ?_) ?_
      · obtain ⟨w, m, q, rfl⟩ := itm_c0 (kI d hd)
        walk_at "go"
        have e1 : isS (c1 (.tup (.str w :: .str m :: q))) t = decide (m = t) := rfl
        rw [e1]
        cases decide (m = t) <;> (walk_at "go"; try rfl)
      walk_at "go"
      rw [flt_eq]
      have hB3 : ∀ q, (match q with | D.non => (match lfind xs t with | .non => false | o => ws.all fun w => memS w ((its (c2 o)).map c0)) | _ => false) = (match q with | D.non => (match lfind xs t with | .non => false | o => ws.all fun w => memS w ((its (c2 o)).map c0)) | _ => false) := fun _ => rfl
      rcases flt_find (n := t) kI with ⟨q1, q2⟩ | ⟨rest, q1, q2⟩
      · have q2' : lfind xs t = .non := q2
        rw [q1, q2', ne_nilL]
        walk_at "go"
        simp only [List.isEmpty_nil]
        walk_at "go"
      · obtain ⟨q4, q5⟩ := lfind_tab h q2
        obtain ⟨n2, cs2, key2, rules2, links2, e6, _, q6, qc, qk, qs, qm, _⟩ := tab_of q4 q5
        have q1' : ((ofKind xs "table").filter fun o => isS (c1 o) t) = lfind xs t :: rest := q1
        rw [q1', e6, ne_nilL]
        walk_at "go"
        simp only [List.isEmpty_cons]
        walk_at "go"
        refine cmw_pure (onesG fun w => !memS w (cs2.map c0)) (by kernel_rfl) (by show _ ≤ 16777216; omega) (fun d hd => ?_) ?_
        · obtain ⟨x, rfl⟩ := hs d hd
          walk_at "go"
          refine cmw_pure (mpG c0) (by kernel_rfl) (by show _ ≤ 16777216; omega) (fun d hd => ?_) ?_
          · obtain ⟨n, k, l, rfl, _⟩ := colB_of (List.all_eq_true.mp qc d hd)
            walk_at "go"
            rfl
          · walk_at "go"
            rw [ni_lst (pls_strs (cols_c0 qc))]
            walk_at "go"
            cases hm : memS (.str x) (cs2.map c0)
            · walk_at "go"; simp only [onesG, hm]; rfl
            · walk_at "go"; simp only [onesG, hm]; rfl
        · walk_at "go"
          have ea : (ws.any fun w => !memS w (cs2.map c0)) = !ws.all fun w => memS w (cs2.map c0) := by rw [List.not_all_eq_any_not]
          rw [ea, Bool.not_not]
          rfl
    · generalize findD xs n = o at e2
      obtain ⟨w, m, q, rfl⟩ := itm_c0 e2
      walk_at "go"
  | view n q b =>
    have hB : headB (lfind xs) xs (.tup [.str "view", .str n, q, b]) = match findD xs n with
      | .non => true
      | _ => false := by
      have e0 : isS (c0 (.tup [.str "view", .str n, q, b])) "table" = false := tag_no nt2 _
      have e1 : isS (c0 (.tup [.str "view", .str n, q, b])) "index" = false := tag_no nt3 _
      unfold headB
      simp only [e0, e1, if_false, Bool.false_eq_true]
      rfl
    walk_at "go"
    refine cmw_pure (mpG c1) (by kernel_rfl) (by show _ ≤ 16777216; omega) (fun d hd => ?_) ?_
    · obtain ⟨w, m, r, rfl⟩ := itm_c0 (h d hd)
      walk_at "go"
      rfl
    walk_at "go"
    rw [in_lst (pls_strs (names_str h))]
    walk_at "go"
    rw [mem_find h, hB]
    rcases find_itm (n := n) h with e | ⟨_, e2, _⟩
    · rw [e]
      walk_at "go"
      refine cmw_pure (fun it => if isS (c0 it) "table" then some it else none) (by kernel_rfl) (by show _ ≤ 16777216; omega) (fun d hd => ?_) ?_
      · obtain ⟨w, m, q, rfl⟩ := itm_c0 (h d hd)
        walk_at "go"
        have e1 : isS (c0 (.tup (.str w :: .str m :: q))) "table" = decide (w = Str.ofString "table") := rfl
        rw [e1]
        cases decide (w = Str.ofString "table") <;> (walk_at "go"; try rfl)
      walk_at "go"
    · generalize findD xs n = o at e2
      obtain ⟨w, m, q, rfl⟩ := itm_c0 e2
      walk_at "go"
/-- the law's look at a place -/
def refAt (xs : List D) (i : Nat) : Bool := headB (lfind (xs.take i)) (xs.take i) (xs.getD i .non)
def lschemaB (v : D) : Bool := match v with
  | .tup xs => decide ((xs.length : Int) ≤ 30) && xs.all itemB && (List.range xs.length).all (refAt xs)
  | _ => false
theorem l_is (k : Nat) {v : D} (h : gd v = true) (hp : HP) : Ca (k + 6) n__law_k02_is [v] hp = .ok (.bl (lschemaB v)) hp := by
  refine cwp_eq ?_
  rw [w__law_k02_is]
  unfold b__law_k02_is
  cases v with
  | tup xs =>
    obtain ⟨hl, hx⟩ := gd_tup h
    walk_at "go"
    by_cases h1 : (xs.length : Int) ≤ 30
    · have h1' : ¬ (30 : Int) < (xs.length : Int) := by omega
      simp only [decide_eq_false h1']
      walk_at "go"
      refine cmw_pure (onesG fun d => !itemB d) (by kernel_rfl) (by show _ ≤ 16777216; omega) (fun d hd => ?_) ?_
      · walk_at "go"
        rw [l_item k (hx d hd)]
        walk_at "go"
        cases hb : itemB d <;> (walk_at "go"; simp only [onesG, hb]; rfl)
      · walk_at "go"
        have ea : (xs.any fun d => !itemB d) = !xs.all itemB := by rw [List.not_all_eq_any_not]
        have hW : lschemaB (.tup xs) = (xs.all itemB && (List.range xs.length).all (refAt xs)) := by
          simp only [lschemaB, decide_eq_true h1, Bool.true_and]
        rw [ea, hW]
        cases ha : xs.all itemB
        · walk_at "go"
        · have hi : ∀ it ∈ xs, Itm it := fun it hit => itm_of (hx it hit) (List.all_eq_true.mp ha it hit)
          walk_at "go"
          refine ⟨by unfold rngOk; simp only [Bool.and_eq_true, decide_eq_true_eq]; omega, ?_⟩
          refine cmw_pure (onesG fun d => match d with | .int i => !refAt xs i.toNat | _ => false) (by kernel_rfl) (by rw [rng_len]; show _ ≤ 16777216; omega) (fun d hd => ?_) ?_
          · unfold rng at hd
            obtain ⟨i, hi2, rfl⟩ := List.mem_map.mp hd
            rw [List.mem_range] at hi2
            have hi3 : i < xs.length := by omega
            rw [Int.zero_add]
            have hg : xs.getD i .non ∈ xs := by
              rw [List.getD_eq_getElem?_getD, List.getElem?_eq_getElem hi3]
              exact List.getElem_mem hi3
            have e6 : L2.atI xs (i : Int) = some (xs.getD i .non) := by
              rw [atk (by omega) (by omega), Int.toNat_natCast, List.getD_eq_getElem?_getD, List.getElem?_eq_getElem hi3]; rfl
            walk_at "go"
            rw [e6]
            walk_at "go"
            rw [cut_to (by omega), Int.toNat_natCast]
            rw [l_refers (k + 3) (fun it hit => hi it (List.mem_of_mem_take hit)) (by rw [List.length_take]; omega) (hi _ hg)]
            walk_at "go"
            have eR : headB (lfind (xs.take i)) (xs.take i) (xs.getD i .non) = refAt xs i := rfl
            rw [eR]
            cases hb : refAt xs i <;> (walk_at "go"; simp only [onesG, Int.toNat_natCast, hb]; rfl)
          · walk_at "go"
            have e7 : (rng 0 (xs.length : Int)) = (List.range xs.length).map fun i => D.int ((i : Nat) : Int) := by
              unfold rng
              rw [Int.sub_zero, Int.toNat_natCast]
              exact List.map_congr_left fun i _ => by rw [Int.zero_add]
            rw [e7, List.any_map]
            simp only [Function.comp_def, Int.toNat_natCast]
            rw [List.not_any_eq_all_not]
            simp only [Bool.not_not]
    · have h1' : (30 : Int) < (xs.length : Int) := by omega
      simp only [decide_eq_true h1']
      walk_at "go"
      simp only [lschemaB, decide_eq_false h1, Bool.false_and]
  | _ => first | (cases h; done) | (walk_at "go"; try rfl)

set_option autoImplicit false
/-! ### items asked for by name -/
def It0 (d : D) : Prop := ∃ (w n : Str) (r : List D), d = .tup (.str w :: .str n :: r)
theorem find0 {xs : List D} {n : Str} (h : ∀ it ∈ xs, It0 it) : findD xs n = .non ∨ (findD xs n ∈ xs ∧ It0 (findD xs n)) := by
  unfold findD
  cases e : xs.find? fun it => isS (c1 it) n with
  | none => exact .inl rfl
  | some it => exact .inr ⟨List.mem_of_find?_eq_some e, h it (List.mem_of_find?_eq_some e)⟩
theorem named0 (k : Nat) {xs : List D} (h : ∀ it ∈ xs, It0 it) (n : Str) (hp : HP) : Ca (k + 1) n_named [.tup xs, .str n] hp = .ok (findD xs n) hp := by
  refine cwp_eq ?_
  rw [w_named]
  unfold b_named
  walk_at "go"
  refine forL_wp (fun rest s => ∃ z, s = ⟨[.val (.tup xs), .val (.str n), z], hp⟩ ∧ (∀ it ∈ rest, It0 it) ∧ findD xs n = findD rest n) xs _ ⟨_, rfl, h, rfl⟩ ?_ ?_
  · rintro d r s ⟨z, rfl, hi, e⟩
    obtain ⟨w, m, q, rfl⟩ := hi d (by simp)
    walk_at "go"
    rw [find_cons] at e
    have e1 : isS (c1 (.tup (.str w :: .str m :: q))) n = decide (m = n) := rfl
    rw [e1] at e
    cases hd : decide (m = n)
    · rw [hd] at e
      walk_at "go"
      exact ⟨_, rfl, fun it hi' => hi it (by simp [hi']), e⟩
    · rw [hd] at e
      walk_at "go"
      rw [e]; rfl
  · rintro s ⟨z, rfl, _, e⟩
    walk_at "go"
    rw [e]; rfl
theorem item_of0 (k : Nat) {xs : List D} (h : ∀ it ∈ xs, It0 it) (kind n : Str) (hp : HP) : Ca (k + 2) n_item_of [.tup xs, .str kind, .str n] hp = .ok (itemOf xs kind n) hp := by
  refine cwp_eq ?_
  rw [w_item_of]
  unfold b_item_of
  walk_at "go"
  rw [named0 k h]
  walk_at "go"
  unfold itemOf
  rcases find0 (n := n) h with e | ⟨_, h2⟩
  · rw [e]; walk_at "go"
  · generalize findD xs n = o at h2
    obtain ⟨w, m, q, rfl⟩ := h2
    walk_at "go"
    have e1 : isS (c0 (.tup (.str w :: .str m :: q))) kind = decide (w = kind) := rfl
    rw [e1]
    cases decide (w = kind) <;> walk_at "go"
theorem table_of0 (k : Nat) {xs : List D} (h : ∀ it ∈ xs, It0 it) (n : Str) (hp : HP) : Ca (k + 3) n_table_of [.tup xs, .str n] hp = .ok (itemOf xs "table" n) hp := by
  refine cwp_eq ?_
  rw [w_table_of]
  unfold b_table_of
  walk_at "go"
  rw [item_of0 k h]
  walk_at "go"
theorem index_of0 (k : Nat) {xs : List D} (h : ∀ it ∈ xs, It0 it) (n : Str) (hp : HP) : Ca (k + 3) n_index_of [.tup xs, .str n] hp = .ok (itemOf xs "index" n) hp := by
  refine cwp_eq ?_
  rw [w_index_of]
  unfold b_index_of
  walk_at "go"
  rw [item_of0 k h]
  walk_at "go"
theorem view_of0 (k : Nat) {xs : List D} (h : ∀ it ∈ xs, It0 it) (n : Str) (hp : HP) : Ca (k + 3) n_view_of [.tup xs, .str n] hp = .ok (itemOf xs "view" n) hp := by
  refine cwp_eq ?_
  rw [w_view_of]
  unfold b_view_of
  walk_at "go"
  rw [item_of0 k h]
  walk_at "go"
theorem items_of0 (k : Nat) {xs : List D} (h : ∀ it ∈ xs, It0 it) (hl : xs.length ≤ 1000) (kind : Str) (hp : HP) : Ca (k + 1) n_items_of [.tup xs, .str kind] hp = .ok (.tup (ofKind xs kind)) hp := by
  refine cwp_eq ?_
  rw [w_items_of]
  unfold b_items_of
  walk_at "go"
  refine cmw_pure (fun it => if isS (c0 it) kind then some it else none) (by kernel_rfl) (by show _ ≤ 16777216; omega) (fun d hd => ?_) ?_
  · obtain ⟨w, m, q, rfl⟩ := h d hd
    walk_at "go"
    have e1 : isS (c0 (.tup (.str w :: .str m :: q))) kind = decide (w = kind) := rfl
    rw [e1]
    cases decide (w = kind) <;> (walk_at "go"; try rfl)
  · walk_at "go"
    rw [flt_eq]
    rfl

set_option autoImplicit false
variable {f : D → HP → Prop} {e : Nat → List D → HP → Prop}
/-! ### values bent -/
theorem odd_w (k : Nat) {n : Nat} {hp : HP} (h : Dr n hp) (hn : n + 1 < 2 ^ 40) (K : ∀ x hp', gd x = true → Dr (n + 1) hp' → f x hp') : @cwp (Ca (k + 4) n__law_odd [.obj 1] hp) ⟨f, e⟩ := by
  rw [w__law_odd]
  unfold b__law_odd
  walk_at "go"
  refine pick_w k h hn (by decide) (by decide) fun x hx hp' hd => ?_
  walk_at "go"
  refine K x hp' ?_ hd
  simp only [List.mem_cons, List.not_mem_nil, or_false] at hx
  rcases hx with rfl | rfl | rfl | rfl | rfl | rfl | rfl | rfl | rfl | rfl | rfl | rfl | rfl | rfl <;> kernel_rfl
theorem at_some {xs : List D} {i : Int} (h0 : 0 ≤ i) (h1 : i < xs.length) : ∃ x ∈ xs, L2.atI xs i = some x := by
  have h2 : i.toNat < xs.length := by omega
  exact ⟨xs[i.toNat], List.getElem_mem h2, by rw [atk h0 h1, List.getElem?_eq_getElem h2]⟩
theorem bent_non (k : Nat) {n : Nat} {hp : HP} {item : D} (g : gd item = true) (ht : ∀ xs, item ≠ .tup xs) (h : Dr n hp) (hn : n + 1 < 2 ^ 40) (K : ∀ x hp', gd x = true → Dr (n + 1) hp' → f x hp') : @cwp (Ca (k + 5) n__law_bent [.obj 1, item] hp) ⟨f, e⟩ := by
  rw [w__law_bent]
  unfold b__law_bent
  cases item with
  | tup xs => exact absurd rfl (ht xs)
  | _ =>
    first
    | (cases g; done)
    | (walk_at "go"
       refine odd_w k h hn fun x hp' gx hd => ?_
       walk_at "go"
       exact K x hp' gx hd)
theorem cut_one {xs : List D} {i : Int} (h0 : 0 ≤ i) : (cut xs (some i) (some (i + 1))).length ≤ 1 := by
  unfold cut
  rw [List.length_take]
  have e1 : HT.sIx xs.length 0 (some i) = min i.toNat xs.length := by
    show (if i < 0 then _ else _) = _
    rw [if_neg (by omega)]
  have e2 : HT.sIx xs.length xs.length (some (i + 1)) = min (i + 1).toNat xs.length := by
    show (if i + 1 < 0 then _ else _) = _
    rw [if_neg (by omega)]
  rw [e1, e2]
  omega
theorem rev_tup (xs : List D) : revD (.tup xs) = some (.tup xs.reverse) := rfl
theorem bent_w (k : Nat) : ∀ (dep : Nat) {f : D → HP → Prop} {n : Nat} {hp : HP} {item : D}, gq item = true → item.py.depth ≤ dep → Dr n hp → n + 10 * (dep + 1) < 2 ^ 40 → (∀ x hp', gd x = true → Dr (n + 10 * (dep + 1)) hp' → f x hp') → @cwp (Ca (k + dep + 5) n__law_bent [.obj 1, item] hp) ⟨f, e⟩
  | 0, f, n, hp, item, g, hd, h, hn, K => by
    refine bent_non k (gq_gd item g) (fun xs e => ?_) h (by omega) fun x hp' gx hd => K x hp' gx (hd.up (by omega))
    subst e
    rw [D.py, PyData.depth] at hd
    omega
  | dep + 1, f, n, hp, item, g, hd, h, hn, K => by
    cases item with
    | tup xs =>
      obtain ⟨glen, gx⟩ := gq_tup g
      rw [w__law_bent (k + (dep + 1) + 4)]
      unfold b__law_bent
      walk_at "go"
      rw [eq_unit]
      walk_at "go"
      cases he : xs.isEmpty
      · have hpos : 0 < xs.length := by
          cases xs with
          | nil => cases he
          | cons a r => simp
        walk_at "go"
        refine draw_w (k + dep + 3) h (by omega) (by decide) (by decide) fun q hp1 q0 q1 hd1 => ?_
        walk_at "go"
        by_cases hq : q = 0
        · simp only [decide_eq_true hq]
          walk_at "go"
          refine odd_w (k + dep + 1) hd1 (by omega) fun x hp' gx hd => ?_
          walk_at "go"
          exact K x hp' gx (hd.up (by omega))
        · simp only [decide_eq_false hq]
          walk_at "go"
          refine draw_w (k + dep + 3) hd1 (by omega) (by omega) (by omega) fun at_ hp2 a0 a1 hd2 => ?_
          walk_at "go"
          refine draw_w (k + dep + 3) hd2 (by omega) (by decide) (by decide) fun way hp3 b0 b1 hd3 => ?_
          walk_at "go"
          have tl : (cut xs none (some at_)).length ≤ 900 := Nat.le_trans cut_len glen
          have tl2 : (cut xs none (some at_)).length + (cut xs (some (at_ + 1)) none).length ≤ 900 := by
            rw [cut_to a0, cut_from (by omega), List.length_take, List.length_drop]; omega
          have tl3 : (cut xs none (some at_)).length + (cut xs (some at_) none).length ≤ 900 := by
            rw [cut_to a0, cut_from a0, List.length_take, List.length_drop]; omega
          have gc : ∀ lo hi, ∀ x ∈ cut xs lo hi, gd x = true := fun lo hi x hx => gq_gd x (gx x (cut_mem hx))
          obtain ⟨y, hy, ey⟩ := at_some a0 a1
          have three : ∀ x, gd x = true → gd (.tup (cut xs none (some at_) ++ [x] ++ cut xs (some (at_ + 1)) none)) = true := fun x gx' => by
            refine gd_mk (by simp only [List.length_append, List.length_cons, List.length_nil]; omega) fun z hz => ?_
            rcases List.mem_append.mp hz with hz | hz
            · rcases List.mem_append.mp hz with hz | hz
              · exact gc _ _ z hz
              · rw [List.mem_singleton.mp hz]; exact gx'
            · exact gc _ _ z hz
          by_cases w4 : way < 4
          · simp only [decide_eq_true w4]
            walk_at "go"
            rw [ey]
            walk_at "go"
            refine bent_w k dep (gx y hy) (by have := depth_item hy; omega) hd3 (by omega) fun x hp4 gx' hd4 => ?_
            walk_at "go"
            rw [op2_addt _ _ (by simp only [List.length_cons, List.length_nil]; show _ ≤ 16777216; omega)]
            walk_at "go"
            rw [op2_addt _ _ (by simp only [List.length_append, List.length_cons, List.length_nil]; show _ ≤ 16777216; omega)]
            walk_at "go"
            exact K _ hp4 (three x gx') (hd4.up (by omega))
          · simp only [decide_eq_false w4]
            walk_at "go"
            have hdK : Dr (n + 10 * (dep + 1 + 1)) hp3 := hd3.up (by omega)
            by_cases w5 : way = 4
            · simp only [decide_eq_true w5]
              walk_at "go"
              rw [op2_addt _ _ (by show _ ≤ 16777216; omega)]
              walk_at "go"
              refine K _ hp3 (gd_mk (by rw [List.length_append]; omega) fun z hz => ?_) hdK
              rcases List.mem_append.mp hz with hz | hz
              · exact gc _ _ z hz
              · exact gc _ _ z hz
            · simp only [decide_eq_false w5]
              walk_at "go"
              by_cases w6 : way = 5
              · simp only [decide_eq_true w6]
                walk_at "go"
                have c1 := cut_one (xs := xs) a0
                rw [op2_addt _ _ (by show _ ≤ 16777216; omega)]
                walk_at "go"
                rw [op2_addt _ _ (by rw [List.length_append]; show _ ≤ 16777216; omega)]
                walk_at "go"
                refine K _ hp3 (gd_mk (by simp only [List.length_append]; omega) fun z hz => ?_) hdK
                rcases List.mem_append.mp hz with hz | hz
                · rcases List.mem_append.mp hz with hz | hz
                  · exact gc _ _ z hz
                  · exact gc _ _ z hz
                · exact gc _ _ z hz
              · simp only [decide_eq_false w6]
                walk_at "go"
                have rK : f (.tup xs.reverse) hp3 := K _ hp3 (gd_mk (by rw [List.length_reverse]; omega) fun z hz => gq_gd z (gx z (List.mem_reverse.mp hz))) hdK
                have lK : f (.lst xs) hp3 := K _ hp3 (gd_mkl (by omega) fun z hz => gq_gd z (gx z hz)) hdK
                by_cases w8 : way = 6
                · simp only [decide_eq_true w8]
                  walk_at "go"
                  rw [ey]
                  walk_at "go"
                  rw [l_is_whole (k + (dep + 1) + 3) (gq_gd y (gx y hy))]
                  walk_at "go"
                  cases hw : wholeB y
                  · simp only [Bool.false_eq_true, if_false]
                    by_cases w7 : way = 7
                    · simp only [decide_eq_true w7, if_true]
                      rw [rev_tup]
                      walk_at "go"
                      exact rK
                    · simp only [decide_eq_false w7, Bool.false_eq_true, if_false]
                      exact lK
                  · have hyi : ∃ i, y = .int i := by
                      cases y <;> first | exact ⟨_, rfl⟩ | cases hw
                    obtain ⟨i, rfl⟩ := hyi
                    walk_at "go"
                    rw [ey]
                    walk_at "go"
                    refine pick_w (k + dep + 2) hd3 (by omega) (by decide) (by decide) fun j hj hp4 hd4 => ?_
                    walk_at "go"
                    have hji : ∃ m, j = .int m := by
                      simp only [List.mem_cons, List.not_mem_nil, or_false] at hj
                      rcases hj with rfl | rfl <;> exact ⟨_, rfl⟩
                    obtain ⟨m, rfl⟩ := hji
                    walk_at "go"
                    rw [op2_addt _ _ (by simp only [List.length_cons, List.length_nil]; show _ ≤ 16777216; omega)]
                    walk_at "go"
                    rw [op2_addt _ _ (by simp only [List.length_append, List.length_cons, List.length_nil]; show _ ≤ 16777216; omega)]
                    walk_at "go"
                    exact K _ hp4 (three _ rfl) (hd4.up (by omega))
                · simp only [decide_eq_false w8, Bool.false_eq_true, if_false]
                  by_cases w7 : way = 7
                  · simp only [decide_eq_true w7, if_true]
                    rw [rev_tup]
                    walk_at "go"
                    exact rK
                  · simp only [decide_eq_false w7, Bool.false_eq_true, if_false]
                    exact lK
      · walk_at "go"
        refine odd_w (k + dep + 1) h (by omega) fun x hp' gx hd => ?_
        walk_at "go"
        exact K x hp' gx (hd.up (by omega))
    | _ =>
      refine bent_non (k + (dep + 1)) (gq_gd _ g) (fun xs e => by cases e) h (by omega) fun x hp' gx hd => K x hp' gx (hd.up (by omega))

set_option autoImplicit false
variable {f : D → HP → Prop} {e : Nat → List D → HP → Prop}
/-! ### drawn columns -/
def six : List Str := ["a", "b", "k", "x1", "name_of", "zzzzzzzzzzzz"]
/-- a drawn column -/
def ColD (c : D) : Prop := ∃ (n kind : Str) (l : Int), c = .tup [.str n, .str kind, .int l] ∧ n ∈ six ∧ (kind = "number" ∨ kind = "text") ∧ (l = 0 ∨ l = 1)
def isFirm (c : D) : Bool := match c with
  | .tup [_, _, .int l] => decide (l = 0)
  | _ => false
theorem v_columns_w (k : Nat) {n : Nat} {hp : HP} (h : Dr n hp) (hn : n + 30 < 2 ^ 40) (K : ∀ cs hp', (∀ c ∈ cs, ColD c) → (∃ c ∈ cs, isFirm c = true) → 1 ≤ cs.length → cs.length ≤ 5 → Dr (n + 30) hp' → f (.tup cs) hp') :
    @cwp (Ca (k + 4) n__law_v_columns [.obj 1] hp) ⟨f, e⟩ := by
  rw [w__law_v_columns]
  unfold b__law_v_columns
  walk_at "go"
  refine mixed_w k h ?_ ?_ ?_ ?_ (fun out hp1 hd1 pm => ?_)
  · show n + 6 < 2 ^ 40; omega
  · decide
  · decide
  · decide
  walk_at "go"
  have hlen : out.length = 6 := pm.length_eq
  have hd1' : Dr (n + 6) hp1 := hd1
  refine draw_w (k + 1) hd1' (by omega) (by decide) (by decide) fun r hp2 r0 r1 hd2 => ?_
  walk_at "go"
  rw [cut_to (by omega)]
  have hl1 : 1 ≤ (out.take (1 + r).toNat).length := by rw [List.length_take]; omega
  have hl2 : (out.take (1 + r).toNat).length ≤ 5 := by rw [List.length_take]; omega
  have hstr : ∀ x ∈ out.take (1 + r).toNat, ∃ s, x = .str s ∧ s ∈ six := fun x hx => by
    have := pm.mem_iff.mp (List.mem_of_mem_take hx)
    simp only [List.mem_cons, List.not_mem_nil, or_false] at this
    rcases this with rfl | rfl | rfl | rfl | rfl | rfl <;> exact ⟨_, rfl, by simp [six]⟩
  generalize out.take (1 + r).toNat = ns at hl1 hl2 hstr
  refine forL_wp (fun rest s => ∃ found z hp, s = ⟨[.val (.obj 1), .val (.lst out), .own found, z, .emp], hp⟩ ∧ (∀ c ∈ found, ColD c) ∧ found.length + rest.length = ns.length ∧ Dr (n + 7 + 2 * found.length) hp ∧ ∀ x ∈ rest, ∃ s, x = .str s ∧ s ∈ six) ns _ ⟨[], .emp, hp2, rfl, by simp, by simp, hd2, hstr⟩ ?_ ?_
  · rintro d rest s ⟨found, z, hp, rfl, hc, hl, hd, hs⟩
    obtain ⟨x, rfl, hx6⟩ := hs d (by simp)
    walk_at "go"
    refine pick_w k hd (by simp at hl; omega) (by decide) (by decide) fun kd hk hp3 hd3 => ?_
    walk_at "go"
    refine draw_w (k + 1) hd3 (by simp at hl; omega) (by decide) (by decide) fun q hp4 q0 q1 hd4 => ?_
    walk_at "go"
    rw [append_d _ _ (by simp at hl; show found.length < 16777216; omega)]
    walk_at "go"
    refine ⟨_, _, hp4, rfl, ?_, by simp at hl ⊢; omega, by simp; exact hd4.up (by omega), fun x hx => hs x (by simp [hx])⟩
    intro c hc'
    rcases List.mem_append.mp hc' with h1 | h1
    · exact hc c h1
    · obtain rfl := List.mem_singleton.mp h1
      simp only [List.mem_cons, List.not_mem_nil, or_false] at hk
      rcases hk with rfl | rfl
      · exact ⟨x, _, q, rfl, hx6, .inl rfl, by omega⟩
      · exact ⟨x, _, q, rfl, hx6, .inr rfl, by omega⟩
  · rintro s ⟨found, z, hp, rfl, hc, hl, hd, hs⟩
    walk_at "go"
    refine cmo_pure (onesG isFirm) (by kernel_rfl) rfl (by simp at hl; show found.length ≤ 16777216; omega) (fun d hd => ?_) ?_
    · obtain ⟨n1, k1, l1, rfl, h6, h1, h2⟩ := hc d hd
      walk_at "go"
      by_cases h3 : l1 = 0
      · subst h3; walk_at "go"; rfl
      · simp only [decide_eq_false h3]; walk_at "go"
        simp only [onesG, isFirm, decide_eq_false h3]; rfl
    walk_at "go"
    have e5 : found.length = ns.length := by simpa using hl
    cases found with
    | nil => simp at e5; omega
    | cons c cs =>
      obtain ⟨n1, k1, l1, rfl, h6, h1, h2⟩ := hc c (by simp)
      have hd' : Dr (n + 30) hp := hd.up (by omega)
      generalize hb : (List.any _ _) = b
      cases b
      · walk_at "go"
        rw [cut_to (by decide)]
        walk_at "go"
        rw [op2_addt _ _ (by simp only [List.length_take, List.length_cons, List.length_nil]; show _ ≤ 16777216; omega)]
        walk_at "go"
        exact K _ hp (fun c hc' => by
          rcases List.mem_cons.mp hc' with rfl | hc'
          · exact ⟨n1, k1, 0, rfl, h6, h1, .inl rfl⟩
          · exact hc c (by simp [hc'])) ⟨_, List.mem_cons_self, rfl⟩ (by simp) (by simp at e5 ⊢; omega) hd'
      · walk_at "go"
        exact K _ hp hc (by
          obtain ⟨c, c1, c2⟩ := List.any_eq_true.mp hb
          exact ⟨c, c1, c2⟩) (by simp) (by simp at e5 ⊢; omega) hd'

set_option autoImplicit false
/-! ### the package's word and the law's on what is ahead -/
theorem nod_take {xs : List D} (h : Nod xs) (i : Nat) : Nod (xs.take i) := fun a b x y n hx hy h1 h2 => by
  rw [List.getElem?_take] at hx hy
  split at hx
  · split at hy
    · exact h a b x y n hx hy h1 h2
    · cases hy
  · cases hx
theorem head_dup {f : Str → D} {ahead : List D} {it : D} {n : Str} (h : c1 it = .str n) (hf : findD ahead n ≠ .non) : headB f ahead it = false := by
  unfold headB
  rw [h]
  show (match findD ahead n with | .non => _ | _ => false) = false
  generalize findD ahead n = o at hf
  cases o <;> first | rfl | exact absurd rfl hf
theorem found_not {xs : List D} {n : Str} {a : D} (hi : ∀ it ∈ xs, Itm it) (ha : a ∈ xs) (hs : isS (c1 a) n = true) : findD xs n ≠ .non := by
  unfold findD
  cases e : xs.find? fun it => isS (c1 it) n with
  | none => exact absurd hs (List.find?_eq_none.mp e a ha)
  | some b =>
    have hb := hi b (List.mem_of_find?_eq_some e)
    show b ≠ .non
    intro h
    rw [h] at hb
    cases hb
theorem nod_of {xs : List D} (hi : ∀ it ∈ xs, Itm it) (hp : ∀ i, i < xs.length → ∀ n, c1 (xs.getD i .non) = .str n → findD (xs.take i) n = .non) : Nod xs := by
  have lt : ∀ (i j : Nat) (a b : D) (n : Str), xs[i]? = some a → xs[j]? = some b → isS (c1 a) n = true → isS (c1 b) n = true → i < j → False := fun i j a b n ha hb h1 h2 hl => by
    have hj : j < xs.length := by
      rcases Nat.lt_or_ge j xs.length with h | h
      · exact h
      · rw [List.getElem?_eq_none h] at hb; cases hb
    have hg : xs.getD j .non = b := by rw [List.getD_eq_getElem?_getD, hb]; rfl
    refine found_not (n := n) (a := a) (fun it h => hi it (List.mem_of_mem_take h)) ?_ h1 (hp j hj n (by rw [hg]; exact isS_eq.mp h2))
    refine List.mem_of_getElem? (i := i) ?_
    rw [List.getElem?_take, if_pos hl, ha]
  intro i j a b n ha hb h1 h2
  rcases Nat.lt_trichotomy i j with h | h | h
  · exact (lt i j a b n ha hb h1 h2 h).elim
  · exact h
  · exact (lt j i b a n hb ha h2 h1 h).elim
theorem schema_same {v : D} (g : gd v = true) : schemaB v = lschemaB v := by
  cases v with
  | tup xs =>
    show (decide ((xs.length : Int) ≤ 30) && xs.all itemB && (List.range xs.length).all (headAt xs)) = (decide ((xs.length : Int) ≤ 30) && xs.all itemB && (List.range xs.length).all (refAt xs))
    cases hall : xs.all itemB
    · rw [Bool.and_false, Bool.false_and, Bool.false_and]
    · have hi : ∀ it ∈ xs, Itm it := fun it h => itm_of ((gd_tup g).2 it h) (List.all_eq_true.mp hall it h)
      by_cases hp : ∀ i, i < xs.length → ∀ n, c1 (xs.getD i .non) = .str n → findD (xs.take i) n = .non
      · have nod := nod_of hi hp
        have : headAt xs = refAt xs := funext fun i => head_same (fun n => tfind_eq (fun it h => hi it (List.mem_of_mem_take h)) (nod_take nod i) n) _ _
        rw [this]
      · obtain ⟨i, h1⟩ := Classical.not_forall.mp hp
        obtain ⟨h2, h3⟩ := Classical.not_imp.mp h1
        obtain ⟨n, h4⟩ := Classical.not_forall.mp h3
        obtain ⟨h5, h6⟩ := Classical.not_imp.mp h4
        have r1 : (List.range xs.length).all (headAt xs) = false := by
          rw [List.all_eq_false]
          exact ⟨i, List.mem_range.mpr h2, by unfold headAt; rw [head_dup h5 h6]; decide⟩
        have r2 : (List.range xs.length).all (refAt xs) = false := by
          rw [List.all_eq_false]
          exact ⟨i, List.mem_range.mpr h2, by unfold refAt; rw [head_dup h5 h6]; decide⟩
        rw [r1, r2]
  | _ => rfl

set_option autoImplicit false
/-! ### tables and schemas drawn -/
structure Q (k b : Nat) (d : D) : Prop where
  s : Sh k b d
  g : gq d = true
  n : d.noR = true
theorem noRs_all : ∀ {xs : List D}, (∀ d ∈ xs, d.noR = true) → D.noRs xs = true
  | [], _ => rfl
  | x :: xs, h => by rw [D.noRs, h x (by simp), noRs_all fun d hd => h d (by simp [hd])]; rfl
theorem Q.tup {k b n : Nat} {xs : List D} (h : ∀ d ∈ xs, Q k b d) (hn : xs.length ≤ n) (h9 : n ≤ 900) : Q (k + 1) ((b + 2) * n + 3) (.tup xs) :=
  ⟨Sh.tup (fun d hd => (h d hd).s) hn, gq_mk (by omega) fun d hd => (h d hd).g, by rw [D.noR]; exact noRs_all fun d hd => (h d hd).n⟩
theorem Q.up {k b k' b' : Nat} {d : D} (h : Q k b d) (hk : k ≤ k') (hb : b ≤ b') : Q k' b' d := ⟨h.s.mono hk hb, h.g, h.n⟩
theorem Q.str {x : Str} (h : ((D.str x).py.showable && decide ((D.str x).py.shown.length ≤ 30) && PyData.strOk (D.str x).py.shown && decide (x.length ≤ 1000)) = true) : Q 0 30 (.str x) := by
  simp only [Bool.and_eq_true, decide_eq_true_eq] at h
  obtain ⟨⟨⟨h1, h2⟩, h3⟩, h4⟩ := h
  exact ⟨⟨rfl, h1, h2, h3, Nat.le_refl 0⟩, by rw [gq, decide_eq_true h4], rfl⟩
theorem Q.bit {i : Int} (h : i = 0 ∨ i = 1) : Q 0 30 (.int i) := by
  rcases h with rfl | rfl
  · exact ⟨⟨rfl, rfl, by decide_cbv, by decide_cbv, Nat.le_refl 0⟩, rfl, rfl⟩
  · exact ⟨⟨rfl, rfl, by decide_cbv, by decide_cbv, Nat.le_refl 0⟩, rfl, rfl⟩
abbrev Wd (x : Str) : Prop := Q 0 30 (.str x)
theorem six_wd {x : Str} (h : x ∈ six) : Wd x := by
  simp only [six, List.mem_cons, List.not_mem_nil, or_false] at h
  rcases h with rfl | rfl | rfl | rfl | rfl | rfl <;> exact Q.str (by kernel_rfl)
theorem kind_wd {x : Str} (h : x = "number" ∨ x = "text") : Wd x := by
  rcases h with rfl | rfl <;> exact Q.str (by kernel_rfl)
theorem col_q {c : D} (h : ColD c) : Q 1 99 c := by
  obtain ⟨n, k, l, rfl, h1, h2, h3⟩ := h
  refine Q.tup (k := 0) (b := 30) (n := 3) (fun d hd => ?_) (by simp) (by omega)
  simp only [List.mem_cons, List.not_mem_nil, or_false] at hd
  rcases hd with rfl | rfl | rfl
  · exact six_wd h1
  · exact kind_wd h2
  · exact Q.bit h3
theorem col_b {c : D} (h : ColD c) : columnB c = true := by
  obtain ⟨n, k, l, rfl, h1, h2, h3⟩ := h
  simp only [six, List.mem_cons, List.not_mem_nil, or_false] at h1
  have e1 : wordB (.str n) = true := by rcases h1 with rfl | rfl | rfl | rfl | rfl | rfl <;> kernel_rfl
  have e2 : kindB (.str k) = true := by rcases h2 with rfl | rfl <;> kernel_rfl
  have e3 : bitB (.int l) = true := by rcases h3 with rfl | rfl <;> kernel_rfl
  show (wordB (.str n) && kindB (.str k) && bitB (.int l)) = true
  rw [e1, e2, e3]; rfl
theorem cols_b {cs : List D} (h : ∀ c ∈ cs, ColD c) : cs.all columnB = true := List.all_eq_true.mpr fun c hc => col_b (h c hc)
theorem cols_wd {cs : List D} (h : ∀ c ∈ cs, ColD c) : ∀ d ∈ cs.map c0, ∃ x, d = .str x ∧ Wd x := fun d hd => by
  obtain ⟨c, hc, rfl⟩ := List.mem_map.mp hd
  obtain ⟨n, k, l, rfl, h1, h2, h3⟩ := h c hc
  exact ⟨n, rfl, six_wd h1⟩
/-- an item drawn -/
inductive ItD : D → Prop
  | table (n : Str) (cs ks : List D) (rs ls : D) (hn : Wd n) (hc : ∀ c ∈ cs, ColD c) (h1 : 1 ≤ cs.length) (h5 : cs.length ≤ 5) (k2 : ks.length ≤ 2) (km : ∀ w ∈ ks, w ∈ cs.map c0) (hr : Q 4 432 rs) (hl : Q 3 861 ls) :
      ItD (.tup [.str "table", .str n, .tup cs, .tup ks, rs, ls])
  | index (n t : Str) (ws : D) (hn : Wd n) (ht : Wd t) (hw : Q 1 200 ws) : ItD (.tup [.str "index", .str n, .str t, ws])
  | view (n t : Str) (b : Int) (hn : Wd n) (ht : Wd t) (hb : b = 0 ∨ b = 1) : ItD (.tup [.str "view", .str n, .tup [.str "rows", .str t], .int b])
theorem ItD.it0 {d : D} (h : ItD d) : It0 d := by
  cases h <;> exact ⟨_, _, _, rfl⟩
theorem ItD.q {d : D} (h : ItD d) : Q 5 6000 d := by
  cases h with
  | table n cs ks rs ls hn hc h1 h5 k2 km hr hl =>
    refine (Q.tup (k := 4) (b := 861) (n := 6) (fun d hd => ?_) (by simp) (by omega)).up (by omega) (by omega)
    simp only [List.mem_cons, List.not_mem_nil, or_false] at hd
    rcases hd with rfl | rfl | rfl | rfl | rfl | rfl
    · exact (Q.str (by kernel_rfl)).up (by omega) (by omega)
    · exact hn.up (by omega) (by omega)
    · exact (Q.tup (k := 1) (b := 99) (n := 5) (fun c h => col_q (hc c h)) h5 (by omega)).up (by omega) (by omega)
    · refine (Q.tup (k := 0) (b := 30) (n := 2) (fun c h => ?_) k2 (by omega)).up (by omega) (by omega)
      obtain ⟨x, rfl, hx⟩ := cols_wd hc c (km c h)
      exact hx
    · exact hr.up (by omega) (by omega)
    · exact hl.up (by omega) (by omega)
  | index n t ws hn ht hw =>
    refine (Q.tup (k := 4) (b := 861) (n := 6) (fun d hd => ?_) (by simp) (by omega)).up (by omega) (by omega)
    simp only [List.mem_cons, List.not_mem_nil, or_false] at hd
    rcases hd with rfl | rfl | rfl | rfl
    · exact (Q.str (by kernel_rfl)).up (by omega) (by omega)
    · exact hn.up (by omega) (by omega)
    · exact ht.up (by omega) (by omega)
    · exact hw.up (by omega) (by omega)
  | view n t b hn ht hb =>
    refine (Q.tup (k := 4) (b := 861) (n := 6) (fun d hd => ?_) (by simp) (by omega)).up (by omega) (by omega)
    simp only [List.mem_cons, List.not_mem_nil, or_false] at hd
    rcases hd with rfl | rfl | rfl | rfl
    · exact (Q.str (by kernel_rfl)).up (by omega) (by omega)
    · exact hn.up (by omega) (by omega)
    · refine (Q.tup (k := 0) (b := 30) (n := 2) (fun c h => ?_) (by simp) (by omega)).up (by omega) (by omega)
      simp only [List.mem_cons, List.not_mem_nil, or_false] at h
      rcases h with rfl | rfl
      · exact Q.str (by kernel_rfl)
      · exact ht
    · exact (Q.bit hb).up (by omega) (by omega)
theorem place_mem {xs : List D} {d : D} {k b : Nat} (hk : k ≤ 60) (hx : ∀ x ∈ xs, Q k b x) (hd : d ∈ xs) : ∃ i, placeD d xs = some i := by
  have h1 : D.pls xs = true := pls_all fun x h => (hx x h).s.pl
  have h2 : PyData.depthAll (D.pys xs) ≤ k := depth_all fun x h => (hx x h).s.dp
  have h3 := (hx d hd).s.dp
  unfold placeD
  rw [h1, (hx d hd).s.pl, decide_eq_true (show PyData.depthAll (D.pys xs) ≤ 60 by omega), decide_eq_true (show d.py.depth ≤ 60 by omega)]
  have : ((D.pys xs).findIdx? fun y => PyData.eqv y d.py).isSome = true := by
    rw [List.findIdx?_isSome, pys_map, List.any_map, List.any_eq_true]
    exact ⟨d, hd, W.eqv_refl_alike _ (alike_refl d (hx d hd).s.pl)⟩
  show ∃ i, List.findIdx? (fun y => PyData.eqv y d.py) (D.pys xs) = some i
  exact Option.isSome_iff_exists.mp this
theorem rem_d {xs : List D} {d : D} {k b : Nat} (hk : k ≤ 60) (hx : ∀ x ∈ xs, Q k b x) (hd : d ∈ xs) : ∃ ys, mmD .remove xs [d] = some (.non, ys) ∧ (∀ y ∈ ys, y ∈ xs) ∧ ys.length ≤ xs.length := by
  obtain ⟨i, h⟩ := place_mem hk hx hd
  refine ⟨xs.eraseIdx i, ?_, fun y hy => List.mem_of_mem_eraseIdx hy, List.length_eraseIdx_le xs i⟩
  show (placeD d xs).map _ = _
  rw [h]; rfl
theorem mem_memS {w : D} {xs : List D} (h : w ∈ xs) (hp : w.pl = true) : memS w xs = true := List.any_eq_true.mpr ⟨w, h, W.eqv_refl_alike _ (alike_refl w hp)⟩
theorem firm_mem' {cs : List D} {w : D} (h : w ∈ firm cs) : w ∈ cs.map c0 := by
  unfold firm at h
  obtain ⟨c, hc, e⟩ := List.mem_filterMap.mp h
  unfold firmG at e
  split at e
  · split at e
    · cases e; exact List.mem_map.mpr ⟨c, hc, rfl⟩
    · cases e
  · cases e
theorem firm_pos {cs : List D} (h : ∀ c ∈ cs, ColD c) (h1 : ∃ c ∈ cs, isFirm c = true) : 1 ≤ (firm cs).length := by
  obtain ⟨c, hc, hf⟩ := h1
  obtain ⟨n, k, l, rfl, _⟩ := h c hc
  have h0 : decide (l = 0) = true := hf
  have : D.str n ∈ firm cs := by
    unfold firm
    refine List.mem_filterMap.mpr ⟨_, hc, ?_⟩
    show (if decide (l = 0) = true then some (D.str n) else none) = _
    rw [if_pos h0]
  exact List.length_pos_of_mem this
theorem firm_len (cs : List D) : (firm cs).length ≤ cs.length := List.length_filterMap_le _ _

set_option autoImplicit false
variable {f : D → HP → Prop} {e : Nat → List D → HP → Prop}
theorem v_table_w (k : Nat) {n : Nat} {hp : HP} {nm : Str} {ah : List D} (hw : Wd nm) (ha : ∀ d ∈ ah, ItD d) (hl : ah.length ≤ 5) (h : Dr n hp) (hn : n + 60 < 2 ^ 40) (K : ∀ t hp', ItD t → isS (c0 t) "table" = true → Dr (n + 60) hp' → f t hp') :
    @cwp (Ca (k + 5) n__law_v_table [.obj 1, .str nm, .rol ah] hp) ⟨f, e⟩ := by
  rw [w__law_v_table]
  unfold b__law_v_table
  walk_at "go"
  refine v_columns_w k h (by omega) fun cs hp1 hc hfirm hc1 hc5 hd1 => ?_
  walk_at "go"
  have hcb : cs.all columnB = true := cols_b hc
  refine cmw_pure firmG (by kernel_rfl) (by show _ ≤ 16777216; omega) (fun d hd => ?_) ?_
  · obtain ⟨n1, k1, l1, rfl, _⟩ := hc d hd
    walk_at "go"
    cases hl1 : decide (l1 = 0)
    · walk_at "go"; simp only [firmG, c2, hl1]; rfl
    · walk_at "go"; simp only [firmG, c2, hl1]; rfl
  walk_at "go"
  have hfl : (firm cs).length ≤ 5 := Nat.le_trans (firm_len cs) hc5
  have hfp := firm_pos hc hfirm
  have hfm : ∀ w ∈ firm cs, w ∈ cs.map c0 := fun w hw => firm_mem' hw
  have hfs : ∀ w ∈ firm cs, ∃ x, w = .str x := firm_ok hcb
  rw [show cs.filterMap firmG = firm cs from rfl]
  generalize firm cs = fm at hfl hfp hfm hfs
  refine mixed_w (k + 1) hd1 (by omega) (by unfold WW; omega) (by omega) (pls_strs hfs) fun out hp2 hd2 pm => ?_
  walk_at "go"
  have hd2' : Dr (n + 35) hp2 := hd2.up (by omega)
  have hol : out.length = fm.length := pm.length_eq
  refine draw_w (k + 2) hd2' (by omega) (by omega) (by omega) fun r hp3 r0 r1 hd3 => ?_
  walk_at "go"
  rw [cut_to (by omega)]
  have hkl : (out.take (1 + r).toNat).length ≤ 2 := by rw [List.length_take]; omega
  have hkm : ∀ w ∈ out.take (1 + r).toNat, w ∈ cs.map c0 := fun w hw => hfm w (pm.mem_iff.mp (List.mem_of_mem_take hw))
  generalize out.take (1 + r).toNat = ks at hkl hkm
  refine draw_w (k + 2) hd3 (by omega) (by decide) (by decide) fun r2 hp4 _ _ hd4 => ?_
  walk_at "go"
  have hR : ∃ c cr, cs = c :: cr := by
    cases cs with
    | nil => simp at hc1
    | cons c cr => exact ⟨c, cr, rfl⟩
  obtain ⟨c, cr, ecs⟩ := hR
  obtain ⟨cn, ck, cl, ec, hcn, _⟩ := hc c (by rw [ecs]; simp)
  have eat : L2.atI cs 0 = some (.tup [.str cn, .str ck, .int cl]) := by rw [ecs, ec, at0]
  have hq1 : Q 4 432 (.tup [.tup [.str "r", .tup [.str "equal", .tup [.str "column", .str cn], .tup [.str "column", .str cn]]]]) := by
    have a1 : Q 1 67 (.tup [.str "column", .str cn]) := Q.tup (k := 0) (b := 30) (n := 2) (fun d hd => by
      simp only [List.mem_cons, List.not_mem_nil, or_false] at hd
      rcases hd with rfl | rfl
      · exact Q.str (by kernel_rfl)
      · exact six_wd hcn) (by simp) (by omega)
    have a2 : Q 2 210 (.tup [.str "equal", .tup [.str "column", .str cn], .tup [.str "column", .str cn]]) := Q.tup (k := 1) (b := 67) (n := 3) (fun d hd => by
      simp only [List.mem_cons, List.not_mem_nil, or_false] at hd
      rcases hd with rfl | rfl | rfl
      · exact (Q.str (by kernel_rfl)).up (by omega) (by omega)
      · exact a1
      · exact a1) (by simp) (by omega)
    have a3 : Q 3 427 (.tup [.str "r", .tup [.str "equal", .tup [.str "column", .str cn], .tup [.str "column", .str cn]]]) := Q.tup (k := 2) (b := 210) (n := 2) (fun d hd => by
      simp only [List.mem_cons, List.not_mem_nil, or_false] at hd
      rcases hd with rfl | rfl
      · exact (Q.str (by kernel_rfl)).up (by omega) (by omega)
      · exact a2) (by simp) (by omega)
    exact Q.tup (k := 3) (b := 427) (n := 1) (fun d hd => by
      rw [List.mem_singleton.mp hd]; exact a3) (by simp) (by omega)
  have hq0 : Q 4 432 (.tup []) := (Q.tup (k := 0) (b := 0) (n := 0) (fun d hd => by cases hd) (by simp) (by omega)).up (by omega) (by omega)
  have hqe : Q 3 861 (.tup []) := (Q.tup (k := 0) (b := 0) (n := 0) (fun d hd => by cases hd) (by simp) (by omega)).up (by omega) (by omega)
  have hcwd := cols_wd hc
  clear ecs ec
  have hal : (ah ++ [D.tup [.str "table", .str nm, .tup cs, .tup ks, .non, .tup []]]).length ≤ 6 := by simp; omega
  by_cases h0 : r2 = 0
  case' pos =>
    simp only [decide_eq_true h0]
    walk_at "go"
    rw [eat]
    walk_at "go"
    rw [eat]
    walk_at "go"
    obtain ⟨rs, hrs, hq⟩ : ∃ rs, rs = D.tup [.tup [.str "r", .tup [.str "equal", .tup [.str "column", .str cn], .tup [.str "column", .str cn]]]] ∧ Q 4 432 rs := ⟨_, rfl, hq1⟩
  case' neg =>
    simp only [decide_eq_false h0]
    walk_at "go"
    obtain ⟨rs, hrs, hq⟩ : ∃ rs, rs = D.tup [] ∧ Q 4 432 rs := ⟨_, rfl, hq0⟩
  all_goals
    rw [show biD .list [D.rol ah] = some (.lst ah) from rfl]
    walk_at "go"
    rw [op2_addl _ _ (by simp only [List.length_cons, List.length_nil]; show _ ≤ 16777216; omega)]
    walk_at "go"
    refine forL_wp (fun rest s => ∃ links z10 z11 z12 z14 z15 z16 z17 hp, s = ⟨[.val (.obj 1), .val (.str nm), .val (.rol ah), .val (.tup cs), .val (.lst out), .emp, .val (.tup ks), .val rs, .val (.tup [.str "table", .str nm, .tup cs, .tup ks, rs, .tup []]), .own links, z10, z11, z12, .emp, z14, z15, z16, z17], hp⟩ ∧ (∀ l ∈ links, Q 2 141 l) ∧ links.length + rest.length ≤ 6 ∧ (∀ d ∈ rest, ItD d) ∧ Dr (n + 50 - rest.length) hp) _ _ ⟨[], .emp, .emp, .emp, .emp, .emp, .emp, .emp, hp4, by rw [hrs], by simp, by simp only [List.length_append, List.length_cons, List.length_nil]; omega, ?_, hd4.up (by simp only [List.length_append, List.length_cons, List.length_nil]; omega)⟩ ?_ ?_
    · intro d hd
      rcases List.mem_append.mp hd with hd | hd
      · exact ha d hd
      · rw [List.mem_singleton.mp hd]
        have : ItD (.tup [.str "table", .str nm, .tup cs, .tup ks, rs, .tup []]) := .table nm cs ks rs (.tup []) hw hc hc1 hc5 hkl hkm hq hqe
        rw [hrs] at this
        exact this
    · rintro d rest s ⟨links, z10, z11, z12, z14, z15, z16, z17, hp5, rfl, hL, hl5, hI, hd5⟩
      have hl6 : links.length + (rest.length + 1) ≤ 6 := hl5
      have hI' : ∀ d ∈ rest, ItD d := fun x hx => hI x (by simp [hx])
      have hd5' : Dr (n + 50 - rest.length) hp5 := hd5.up (by simp only [List.length_cons]; omega)
      have hd6 : Dr (n + 50 - (rest.length + 1)) hp5 := hd5
      cases hI d (by simp) with
      | index n' t' ws' _ _ _ =>
        walk_at "go"
        exact ⟨links, _, z11, z12, z14, z15, z16, z17, hp5, rfl, hL, by omega, hI', hd5'⟩
      | view n' t' b' _ _ _ =>
        walk_at "go"
        exact ⟨links, _, z11, z12, z14, z15, z16, z17, hp5, rfl, hL, by omega, hI', hd5'⟩
      | table n' cs' ks' rs' ls' hn' hc' h1' h5' k2' km' hr' hl' =>
        have hcb' := cols_b hc'
        walk_at "go"
        refine draw_w (k + 2) hd6 (by omega) (by decide) (by decide) fun q hp6 _ _ hd7 => ?_
        walk_at "go"
        have hd8 : Dr (n + 50 - rest.length) hp6 := hd7.up (by omega)
        by_cases hq0' : q = 0
        · simp only [decide_eq_true hq0']
          walk_at "go"
          have hn1 : (cs'.map c0).length ≤ 5 := by rw [List.length_map]; exact h5'
          refine cmw_pure (mpG c0) (by kernel_rfl) (by show _ ≤ 16777216; omega) (fun d hd => ?_) ?_
          · obtain ⟨n1, k1, l1, rfl, _⟩ := hc' d hd
            walk_at "go"
            rfl
          walk_at "go"
          have hms : ∀ w ∈ ks', ∃ x, w = .str x ∧ memS w (cs'.map c0) = true := fun w hw' => by
            obtain ⟨x, rfl, _⟩ := cols_wd hc' w (km' w hw')
            exact ⟨x, rfl, mem_memS (km' _ hw') rfl⟩
          refine cmw_pure (mpG (kindAt cs')) (by kernel_rfl) (by show _ ≤ 16777216; omega) (fun d hd => ?_) ?_
          · obtain ⟨x, rfl, hm⟩ := hms d hd
            obtain ⟨i, y, e1, e2, e3, n3, l3, e4⟩ := kind_str hcb' hm
            walk_at "go"
            have e5 : mtD .index (.lst (cs'.map c0)) [.str x] = some (.int (i : Nat)) := by
              show (placeD (.str x) (cs'.map c0)).map _ = _
              rw [placeD_eq (pls_strs (cols_c0 hcb')) (by have := strs_depth (cols_c0 hcb'); omega), e1]; rfl
            rw [e5]
            walk_at "go"
            have e6 : L2.atI cs' (i : Int) = some (.tup [.str n3, .str y, .int l3]) := by
              rw [atk (by omega) (by omega), Int.toNat_natCast, e4]
            rw [e6]
            walk_at "go"
            show some _ = some (kindAt cs' (.str x))
            rw [e3]
          walk_at "go"
          have hkk : ∀ d ∈ ks'.map (kindAt cs'), ∃ x, d = .str x := kinds_str hcb' fun w hw' => by
            obtain ⟨x, rfl, hm⟩ := hms w hw'
            exact hm
          have hkl' : (ks'.map (kindAt cs')).length ≤ 2 := by rw [List.length_map]; exact k2'
          generalize ks'.map (kindAt cs') = kinds at hkk hkl'
          refine forL_wp (fun rest s => ∃ own left z16 z17, s = ⟨[.val (.obj 1), .val (.str nm), .val (.rol ah), .val (.tup cs), .val (.lst out), .emp, .val (.tup ks), .val rs, .val (.tup [.str "table", .str nm, .tup cs, .tup ks, rs, .tup []]), .own links, .val (.tup [.str "table", .str n', .tup cs', .tup ks', rs', ls']), .val (.lst (cs'.map c0)), .val (.lst kinds), .emp, .own own, .own left, z16, z17], hp6⟩ ∧ (∀ l ∈ own, ∃ x, l = .str x ∧ Wd x) ∧ own.length + rest.length ≤ 2 ∧ (∀ d ∈ rest, ∃ x, d = .str x) ∧ (∀ c ∈ left, ColD c) ∧ left.length ≤ 5) _ _ ⟨[], cs, _, _, rfl, by simp, by simpa using hkl', hkk, hc, hc5⟩ ?_ ?_
          · rintro d r s ⟨own, left, z16, z17, rfl, hO, hol2, hR, hF, hF5⟩
            obtain ⟨kd, rfl⟩ := hR d (by simp)
            walk_at "go"
            refine cmo_pure (fun it => if isS (c1 it) kd then some it else none) (by kernel_rfl) rfl (by show left.length ≤ 16777216; omega) (fun d hd => ?_) ?_
            · obtain ⟨n1, k1, l1, rfl, h6, h1, h2⟩ := hF d hd
              walk_at "go"
              have e1 : isS (c1 (.tup [.str n1, .str k1, .int l1])) kd = decide (k1 = kd) := rfl
              rw [e1]
              cases decide (k1 = kd) <;> (walk_at "go"; try rfl)
            walk_at "go"
            rw [flt_eq]
            have hfm2 : ∀ c ∈ left.filter (fun it => isS (c1 it) kd), c ∈ left := fun c hc => (List.mem_filter.mp hc).1
            generalize left.filter (fun it => isS (c1 it) kd) = fit at hfm2
            have hr1 : own.length + (r.length + 1) ≤ 2 := hol2
            have hR' : ∀ d ∈ r, ∃ x, d = .str x := fun d hd => hR d (by simp [hd])
            rw [ne_nilL]
            cases fit with
            | nil =>
              walk_at "go"
              exact ⟨own, left, _, _, rfl, hO, by omega, hR', hF, hF5⟩
            | cons c fr =>
              have hcl := hfm2 c (by simp)
              obtain ⟨n1, k1, l1, rfl, h6, h1, h2⟩ := hF c hcl
              obtain ⟨ys, er, hy1, hy2⟩ := rem_d (k := 1) (b := 99) (by omega) (fun x hx => col_q (hF x hx)) hcl
              walk_at "go"
              rw [append_d _ _ (by show own.length < 16777216; omega)]
              walk_at "go"
              rw [er]
              walk_at "go"
              refine ⟨own ++ [.str n1], ys, _, _, rfl, fun l hl => ?_, by rw [List.length_append]; show own.length + 1 + r.length ≤ 2; omega, hR', fun c hc => hF c (hy1 c hc), by omega⟩
              rcases List.mem_append.mp hl with hl | hl
              · exact hO l hl
              · rw [List.mem_singleton.mp hl]; exact ⟨n1, rfl, six_wd h6⟩
          · rintro s ⟨own, left, z16, z17, rfl, hO, hol2, hR, hF, hF5⟩
            walk_at "go"
            by_cases hlen : (own.length : Int) = kinds.length
            · simp only [decide_eq_true hlen]
              walk_at "go"
              rw [append_d _ _ (by show links.length < 16777216; omega)]
              walk_at "go"
              refine ⟨links ++ [_], _, _, _, _, _, _, _, hp6, rfl, fun l hl => ?_, by rw [List.length_append]; show links.length + 1 + rest.length ≤ 6; omega, hI', hd8⟩
              rcases List.mem_append.mp hl with hl | hl
              · exact hL l hl
              · rw [List.mem_singleton.mp hl]
                refine Q.tup (k := 1) (b := 67) (n := 2) (fun d hd => ?_) (by simp) (by omega)
                simp only [List.mem_cons, List.not_mem_nil, or_false] at hd
                rcases hd with rfl | rfl
                · exact Q.tup (k := 0) (b := 30) (n := 2) (fun d hd => by
                    obtain ⟨x, rfl, hx⟩ := hO d hd
                    exact hx) (by simpa using (show own.length ≤ 2 by omega)) (by omega)
                · exact hn'.up (by omega) (by omega)
            · simp only [decide_eq_false hlen]
              walk_at "go"
              exact ⟨links, _, _, _, _, _, _, _, hp6, rfl, hL, by omega, hI', hd8⟩
        · simp only [decide_eq_false hq0']
          walk_at "go"
          exact ⟨links, _, z11, z12, z14, z15, z16, z17, hp6, rfl, hL, by omega, hI', hd8⟩
    · rintro s ⟨links, z10, z11, z12, z14, z15, z16, z17, hp5, rfl, hL, hl5, hI, hd5⟩
      walk_at "go"
      rw [cut_to (by decide)]
      walk_at "go"
      rw [op2_addt _ _ (by simp only [List.length_cons, List.length_nil, List.length_take]; show _ ≤ 16777216; omega)]
      walk_at "go"
      refine K _ hp5 (.table nm cs ks rs (.tup links) hw hc hc1 hc5 hkl hkm hq ?_) (tag_yes _ _) (hd5.up (by omega))
      exact Q.tup (k := 2) (b := 141) (n := 6) hL (by simpa using hl5) (by omega)

set_option autoImplicit false
variable {f : D → HP → Prop} {e : Nat → List D → HP → Prop}
theorem enum_mem : ∀ (xs : List D) (k : Nat), ∀ d ∈ enumL k xs, ∃ i : Int, ∃ x ∈ xs, d = .tup [.int i, x]
  | [], _, d, h => by cases h
  | x :: xs, k, d, h => by
    rw [enumL] at h
    rcases List.mem_cons.mp h with rfl | h
    · exact ⟨_, x, by simp, rfl⟩
    · obtain ⟨i, y, hy, e⟩ := enum_mem xs (k + 1) d h
      exact ⟨i, y, by simp [hy], e⟩
theorem enum_len' : ∀ (xs : List D) (k : Nat), (enumL k xs).length = xs.length
  | [], _ => rfl
  | x :: xs, k => by rw [enumL, List.length_cons, List.length_cons, enum_len' xs (k + 1)]
def sixN : List Str := ["t", "u", "w", "i1", "v1", "people"]
theorem sixN_wd {x : Str} (h : x ∈ sixN) : Wd x := by
  simp only [sixN, List.mem_cons, List.not_mem_nil, or_false] at h
  rcases h with rfl | rfl | rfl | rfl | rfl | rfl <;> exact Q.str (by kernel_rfl)
theorem v_schema_w (k : Nat) {n : Nat} {hp : HP} (h : Dr n hp) (hn : n + 400 < 2 ^ 40) (K : ∀ xs hp', (∀ d ∈ xs, ItD d) → xs.length ≤ 4 → Dr (n + 400) hp' → f (.tup xs) hp') :
    @cwp (Ca (k + 6) n__law_v_schema [.obj 1] hp) ⟨f, e⟩ := by
  rw [w__law_v_schema]
  unfold b__law_v_schema
  walk_at "go"
  refine mixed_w (k + 2) h ?_ ?_ ?_ ?_ (fun out hp1 hd1 pm => ?_)
  · show n + 6 < 2 ^ 40; omega
  · decide
  · decide
  · decide
  walk_at "go"
  have hlen : out.length = 6 := pm.length_eq
  have hd1' : Dr (n + 6) hp1 := hd1
  refine draw_w (k + 3) hd1' (by omega) (by decide) (by decide) fun r hp2 r0 r1 hd2 => ?_
  walk_at "go"
  rw [cut_to (by omega)]
  have hl4 : (out.take r.toNat).length ≤ 4 := by rw [List.length_take]; omega
  have hstr : ∀ x ∈ out.take r.toNat, ∃ s, x = .str s ∧ Wd s := fun x hx => by
    have := pm.mem_iff.mp (List.mem_of_mem_take hx)
    simp only [List.mem_cons, List.not_mem_nil, or_false] at this
    rcases this with rfl | rfl | rfl | rfl | rfl | rfl <;> exact ⟨_, rfl, sixN_wd (by simp [sixN])⟩
  generalize out.take r.toNat = ns at hl4 hstr
  have hen := enum_mem ns 0
  have hel := enum_len' ns 0
  walk_at "go"
  refine forL_wp (fun rest s => ∃ found z2 z3 z4 z6 z7 z8 hp, s = ⟨[.val (.obj 1), .own found, z2, z3, z4, .emp, z6, z7, z8, .emp], hp⟩ ∧ (∀ d ∈ found, ItD d) ∧ found.length + rest.length ≤ 4 ∧ Dr (n + 400 - 80 * rest.length) hp ∧ ∀ x ∈ rest, ∃ (i : Int) (s : Str), x = .tup [.int i, .str s] ∧ Wd s) _ _ ⟨[], .emp, .emp, .emp, .emp, .emp, .emp, hp2, rfl, by simp, by simp; omega, hd2.up (by omega), fun x hx => ?_⟩ ?_ ?_
  · obtain ⟨i, y, hy, e1⟩ := hen x hx
    obtain ⟨s, rfl, hs⟩ := hstr y hy
    exact ⟨i, s, e1, hs⟩
  · rintro d rest s ⟨found, z2, z3, z4, z6, z7, z8, hp3, rfl, hF, hl, hd3, hs⟩
    obtain ⟨i, nm, rfl, hw⟩ := hs d (by simp)
    have hl' : found.length + (rest.length + 1) ≤ 4 := hl
    have hd3' : Dr (n + 400 - 80 * (rest.length + 1)) hp3 := hd3
    have hs' : ∀ x ∈ rest, ∃ (i : Int) (s : Str), x = .tup [.int i, .str s] ∧ Wd s := fun x hx => hs x (by simp [hx])
    walk_at "go"
    refine cmo_pure (fun it => if isS (c0 it) "table" then some it else none) (by kernel_rfl) rfl (by show found.length ≤ 16777216; omega) (fun d hd => ?_) ?_
    · obtain ⟨w, m, q, rfl⟩ := (hF d hd).it0
      walk_at "go"
      have e1 : isS (c0 (.tup (.str w :: .str m :: q))) "table" = decide (w = "table") := rfl
      rw [e1]
      cases decide (w = "table") <;> (walk_at "go"; try rfl)
    walk_at "go"
    rw [flt_eq]
    have htm : ∀ c ∈ found.filter (fun it => isS (c0 it) "table"), ItD c ∧ isS (c0 c) "table" = true := fun c hc => ⟨hF c (List.mem_filter.mp hc).1, (List.mem_filter.mp hc).2⟩
    have htl : (found.filter (fun it => isS (c0 it) "table")).length ≤ 4 := Nat.le_trans (List.length_filter_le _ _) (by omega)
    generalize found.filter (fun it => isS (c0 it) "table") = tables at htm htl
    refine draw_w (k + 3) hd3' (by omega) (by decide) (by decide) fun way hp4 _ _ hd4 => ?_
    walk_at "go"
    have tab : @cwp (Ca (k + 5) n__law_v_table [.obj 1, .str nm, .rol found] hp4) ⟨fun t hp' => ItD t ∧ Dr (n + 400 - 80 * rest.length) hp', e⟩ := by
      refine v_table_w k hw hF (by omega) hd4 (by omega) fun t hp' ht _ hd => ⟨ht, hd.up (by omega)⟩
    have snoc : ∀ {t : D}, ItD t → ∀ d ∈ found ++ [t], ItD d := fun {t} ht d hd => by
      rcases List.mem_append.mp hd with hd | hd
      · exact hF d hd
      · rw [List.mem_singleton.mp hd]; exact ht
    by_cases hw2 : way < 2
    · simp only [decide_eq_true hw2]
      walk_at "go"
      refine cwp_mono tab (fun t hp' ht => ?_) fun _ _ _ h => h
      walk_at "go"
      refine ⟨by rw [ht.1.q.n, ht.2.noR]; rfl, ?_⟩
      rw [append_d _ _ (by show found.length < 16777216; omega)]
      walk_at "go"
      exact ⟨found ++ [_], _, _, _, _, _, _, hp', rfl, snoc ht.1, by rw [List.length_append]; show found.length + 1 + rest.length ≤ 4; omega, ht.2, hs'⟩
    · simp only [decide_eq_false hw2]
      walk_at "go"
      rw [eq_nilL]
      cases tables with
      | nil =>
        walk_at "go"
        refine cwp_mono tab (fun t hp' ht => ?_) fun _ _ _ h => h
        walk_at "go"
        refine ⟨by rw [ht.1.q.n, ht.2.noR]; rfl, ?_⟩
        rw [append_d _ _ (by show found.length < 16777216; omega)]
        walk_at "go"
        exact ⟨found ++ [_], _, _, _, _, _, _, hp', rfl, snoc ht.1, by rw [List.length_append]; show found.length + 1 + rest.length ≤ 4; omega, ht.2, hs'⟩
      | cons t0 tr =>
        walk_at "go"
        by_cases hw3 : way = 2
        · simp only [decide_eq_true hw3]
          walk_at "go"
          refine pick_w (k + 2) hd4 (by omega) (by simp) (by show (t0 :: tr).length < _; omega) fun t ht hp5 hd5 => ?_
          obtain ⟨hi, htg⟩ := htm t ht
          cases hi with
          | index n' t' ws' _ _ _ => exact absurd htg (by rw [tag_no (by simp only [ofStr_eq, String.reduceEq])]; decide)
          | view n' t' b' _ _ _ => exact absurd htg (by rw [tag_no (by simp only [ofStr_eq, String.reduceEq])]; decide)
          | table n' cs' ks' rs' ls' hn' hc' h1' h5' k2' km' hr' hl' =>
            walk_at "go"
            refine cmw_pure (mpG c0) (by kernel_rfl) (by show _ ≤ 16777216; omega) (fun d hd => ?_) ?_
            · obtain ⟨n1, k1, l1, rfl, _⟩ := hc' d hd
              walk_at "go"
              rfl
            walk_at "go"
            have hcw := cols_wd hc'
            have hcl : (cs'.map c0).length ≤ 5 := by rw [List.length_map]; exact h5'
            have hcp : 1 ≤ (cs'.map c0).length := by rw [List.length_map]; exact h1'
            generalize cs'.map c0 = nms at hcw hcl hcp
            refine mixed_w (k + 2) hd5 (by omega) (by unfold WW; omega) (by omega) (pls_strs fun d hd => by obtain ⟨x, rfl, _⟩ := hcw d hd; exact ⟨x, rfl⟩) fun out2 hp6 hd6 pm2 => ?_
            walk_at "go"
            have hol : out2.length = nms.length := pm2.length_eq
            refine draw_w (k + 3) hd6 (by omega) (by omega) (by omega) fun r2 hp7 r20 r21 hd7 => ?_
            walk_at "go"
            rw [cut_to (by omega)]
            have hk3 : (out2.take (1 + r2).toNat).length ≤ 3 := by rw [List.length_take]; omega
            have hkw : ∀ w ∈ out2.take (1 + r2).toNat, ∃ x, w = .str x ∧ Wd x := fun w hw => hcw w (pm2.mem_iff.mp (List.mem_of_mem_take hw))
            generalize out2.take (1 + r2).toNat = ks at hk3 hkw
            walk_at "go"
            rw [append_d _ _ (by show found.length < 16777216; omega)]
            walk_at "go"
            exact ⟨found ++ [_], _, _, _, _, _, _, hp7, rfl, snoc (.index nm n' (.tup ks) hw hn' ((Q.tup (k := 0) (b := 30) (n := 3) (fun d hd => by obtain ⟨x, rfl, hx⟩ := hkw d hd; exact hx) hk3 (by omega)).up (by omega) (by omega))), by rw [List.length_append]; show found.length + 1 + rest.length ≤ 4; omega, hd7.up (by omega), hs'⟩
        · simp only [decide_eq_false hw3]
          walk_at "go"
          refine pick_w (k + 2) hd4 (by omega) (by simp) (by show (t0 :: tr).length < _; omega) fun t ht hp5 hd5 => ?_
          obtain ⟨hi, htg⟩ := htm t ht
          cases hi with
          | index n' t' ws' _ _ _ => exact absurd htg (by rw [tag_no (by simp only [ofStr_eq, String.reduceEq])]; decide)
          | view n' t' b' _ _ _ => exact absurd htg (by rw [tag_no (by simp only [ofStr_eq, String.reduceEq])]; decide)
          | table n' cs' ks' rs' ls' hn' hc' h1' h5' k2' km' hr' hl' =>
            walk_at "go"
            refine draw_w (k + 3) hd5 (by omega) (by decide) (by decide) fun r2 hp7 r20 r21 hd7 => ?_
            walk_at "go"
            rw [append_d _ _ (by show found.length < 16777216; omega)]
            walk_at "go"
            exact ⟨found ++ [_], _, _, _, _, _, _, hp7, rfl, snoc (.view nm n' r2 hw hn' (by omega)), by rw [List.length_append]; show found.length + 1 + rest.length ≤ 4; omega, hd7.up (by omega), hs'⟩
  · rintro s ⟨found, z2, z3, z4, z6, z7, z8, hp3, rfl, hF, hl, hd3, hs⟩
    walk_at "go"
    exact K _ hp3 hF (by simpa using hl) (hd3.up (by simp))

set_option autoImplicit false
variable {f : D → HP → Prop} {e : Nat → List D → HP → Prop}
theorem rng_in {lo hi : Int} {d : D} (h : d ∈ rng lo hi) : ∃ i : Int, d = .int i ∧ lo ≤ i ∧ i < hi := by
  unfold rng at h
  obtain ⟨k, hk, rfl⟩ := List.mem_map.mp h
  have := List.mem_range.mp hk
  exact ⟨_, rfl, by omega, by omega⟩
def strI (i : Int) : Str := toString i
theorem str_i {i : Int} (h : 0 ≤ i) (h1 : i < 30) : biD .str [.int i] = some (.str (strI i)) := by
  have t : ((List.range 30).all fun k => match biD .str [.int (k : Int)] with | some (.str s) => decide (s = strI (k : Int)) | _ => false) = true := by kernel_rfl
  have := List.all_eq_true.mp t i.toNat (List.mem_range.mpr (by omega))
  rw [Int.toNat_of_nonneg h] at this
  split at this
  · rename_i s e1
    rw [e1, of_decide_eq_true this]
  · cases this
def manyG (d : D) : Option D := match d with
  | .int i => some (.tup [.str "table", .str ("t" ++ strI i), .tup [.tup [.str "k", .str "number", .int 0]], .tup [.str "k"], .tup [], .tup []])
  | _ => none
def viewG (d : D) : Option D := match d with
  | .int i => some (.tup [.str "view", .str ("v" ++ strI i), .non, .int 0])
  | _ => none
theorem add_i {i : Int} (h : 0 ≤ i) (h1 : i < 30) (a : Str) (ha : ((List.range 30).all fun k => match op2 .add (.str a) (.str (strI (k : Int))) with | some (.str s) => decide (s = a ++ strI (k : Int)) | _ => false) = true) : op2 .add (.str a) (.str (strI i)) = some (.str (a ++ strI i)) := by
  have := List.all_eq_true.mp ha i.toNat (List.mem_range.mpr (by omega))
  rw [Int.toNat_of_nonneg h] at this
  split at this
  · rename_i s e1
    rw [e1, of_decide_eq_true this]
  · cases this
theorem many_12 : schemaB (.tup (cut (List.filterMap manyG (rng 0 13)) none (some 12))) = true := by kernel_rfl
theorem many_12g : gd (.tup (cut (List.filterMap manyG (rng 0 13)) none (some 12))) = true := by kernel_rfl
theorem many_13 : schemaB (.tup (List.filterMap manyG (rng 0 13))) = false := by kernel_rfl
theorem many_13g : gd (.tup (List.filterMap manyG (rng 0 13))) = true := by kernel_rfl
theorem views_30 : schemaB (.tup (List.filterMap viewG (rng 0 30))) = true := by kernel_rfl
theorem views_30g : gd (.tup (List.filterMap viewG (rng 0 30))) = true := by kernel_rfl
theorem views_l : (List.filterMap viewG (rng 0 30)).length + [D.tup [.str "view", .str "w", .non, .int 0]].length ≤ lim := Nat.le_of_ble_eq_true (by kernel_rfl)
theorem views_31 : schemaB (.tup (List.filterMap viewG (rng 0 30) ++ [.tup [.str "view", .str "w", .non, .int 0]])) = false := by kernel_rfl
theorem views_31g : gd (.tup (List.filterMap viewG (rng 0 30) ++ [.tup [.str "view", .str "w", .non, .int 0]])) = true := by kernel_rfl
theorem view_t : itemB (.tup [.str "view", .str "v", .non, .bl true]) = false := by kernel_rfl
theorem view_tg : gd (.tup [.str "view", .str "v", .non, .bl true]) = true := by kernel_rfl
theorem end_eq : op2 .eq (.lst [.bl true, .bl false, .bl true, .bl false, .bl false]) (.lst [.bl true, .bl false, .bl true, .bl false, .bl false]) = some (.bl true) := by kernel_rfl
theorem add_t {i : Int} (h : 0 ≤ i) (h1 : i < 30) : op2 .add (.str "t") (.str (strI i)) = some (.str ("t" ++ strI i)) := add_i h h1 "t" (by kernel_rfl)
theorem add_v {i : Int} (h : 0 ≤ i) (h1 : i < 30) : op2 .add (.str "v") (.str (strI i)) = some (.str ("v" ++ strI i)) := add_i h h1 "v" (by kernel_rfl)
def b_end : S := (.seq (.set (.one 11) (.bi .tuple (.cons (.comp (.tup (.cons (.const (.str "table")) (.cons (.op2 .add (.const (.str "t")) (.bi .str (.cons (.peek 12) .nil))) (.cons (.tup (.cons (.tup (.cons (.const (.str "k")) (.cons (.const (.str "number")) (.cons (.const (.int 0)) .nil)))) .nil)) (.cons (.tup (.cons (.const (.str "k")) .nil)) (.cons (.tup .nil) (.cons (.tup .nil) .nil))))))) (.one 12) (.sRng (.const (.int 13))) .nil) .nil)))
  (.seq (.set (.one 13) (.bi .tuple (.cons (.comp (.tup (.cons (.const (.str "view")) (.cons (.op2 .add (.const (.str "v")) (.bi .str (.cons (.peek 12) .nil))) (.cons (.const .non) (.cons (.const (.int 0)) .nil))))) (.one 12) (.sRng (.const (.int 30))) .nil) .nil)))
  (.seq (.set (.one 5) (.lst (.cons (.const (.bl true)) (.cons (.const (.bl false)) (.cons (.const (.bl true)) (.cons (.const (.bl false)) (.cons (.const (.bl false)) .nil)))))))
  (.ret (.op2 .eq (.lst (.cons (.callk n_is_schema [0] (.cons (.slc (.peek 11) .nil (.const (.int 12))) .nil)) (.cons (.callk n_is_schema [0] (.cons (.var 11) .nil)) (.cons (.callk n_is_schema [0] (.cons (.var 13) .nil)) (.cons (.callk n_is_schema [0] (.cons (.op2 .add (.peek 13) (.tup (.cons (.tup (.cons (.const (.str "view")) (.cons (.const (.str "w")) (.cons (.const .non) (.cons (.const (.int 0)) .nil))))) .nil))) .nil)) (.cons (.callk n_is_item [0] (.cons (.tup (.cons (.const (.str "view")) (.cons (.const (.str "v")) (.cons (.const .non) (.cons (.const (.bl true)) .nil))))) .nil)) .nil)))))) (.peek 5))))))
theorem law_end {Φ : Nat → List D → HP → CR} {G : List D} {g : Fl → Sg → Prop} {e' : Nat → List D → Sg → Prop} (hs1 : ∀ v, gd v = true → ∀ hp, Φ n_is_schema [v] hp = .ok (.bl (schemaB v)) hp) (hs2 : ∀ v, gd v = true → ∀ hp, Φ n_is_item [v] hp = .ok (.bl (itemB v)) hp)
    {x0 x1 z2 z3 z4 z5 z6 z7 z8 z9 z10 : Sl} {hp : HP} (K : ∀ s, g (.ret (.bl true)) s) : @wp Fl (ex ⟨Φ, G, WW⟩ b_end ⟨[x0, x1, z2, z3, z4, z5, z6, z7, z8, z9, z10, .emp, .emp, .emp], hp⟩) ⟨g, e'⟩ := by
  unfold b_end
  walk_at "go"
  refine ⟨by kernel_rfl, ?_⟩
  refine cmw_pure manyG (by kernel_rfl) (by rw [rng_len]; show 13 ≤ 16777216; omega) (fun d hd => ?_) ?_
  · obtain ⟨i, rfl, h0, h1⟩ := rng_in hd
    walk_at "go"
    rw [str_i (by omega) (by omega)]
    walk_at "go"
    rw [add_t (by omega) (by omega)]
    walk_at "go"
    rfl
  have m12 := many_12
  have m12g := many_12g
  have m13 := many_13
  have m13g := many_13g
  generalize List.filterMap manyG (rng 0 13) = my at m12 m12g m13 m13g ⊢
  walk_at "go"
  refine ⟨by kernel_rfl, ?_⟩
  refine cmw_pure viewG (by kernel_rfl) (by rw [rng_len]; show 30 ≤ 16777216; omega) (fun d hd => ?_) ?_
  · obtain ⟨i, rfl, h0, h1⟩ := rng_in hd
    walk_at "go"
    rw [str_i (by omega) (by omega)]
    walk_at "go"
    rw [add_v (by omega) (by omega)]
    walk_at "go"
    rfl
  have v30 := views_30
  have v30g := views_30g
  have v31 := views_31
  have v31g := views_31g
  have vl := views_l
  generalize List.filterMap viewG (rng 0 30) = vy at v30 v30g v31 v31g vl ⊢
  walk_at "go"
  rw [hs1 _ m12g, m12]
  walk_at "go"
  rw [hs1 _ m13g, m13]
  walk_at "go"
  rw [hs1 _ v30g, v30]
  walk_at "go"
  rw [op2_addt _ _ vl]
  walk_at "go"
  rw [hs1 _ v31g, v31]
  walk_at "go"
  rw [hs2 _ view_tg, view_t]
  walk_at "go"
  rw [end_eq]
  walk_at "go"
  exact K _

set_option autoImplicit false
variable {f : D → HP → Prop} {e : Nat → List D → HP → Prop}
theorem ItD.gd {d : D} (h : ItD d) : gd d = true := gq_gd d h.q.g
theorem non_sh : Sh 0 30 .non := ⟨rfl, rfl, by decide_cbv, by decide_cbv, Nat.le_refl 0⟩
theorem find_sh {xs : List D} (h : ∀ d ∈ xs, ItD d) (n : Str) : Sh 5 6000 (findD xs n) := by
  rcases find0 (n := n) (fun d hd => (h d hd).it0) with e1 | ⟨h1, _⟩
  · rw [e1]; exact non_sh.mono (by omega) (by omega)
  · exact (h _ h1).q.s
theorem flt_find0 {xs : List D} {n : Str} (hi : ∀ it ∈ xs, It0 it) : ((xs.filter fun it => isS (c1 it) n) = [] ∧ findD xs n = .non) ∨ ∃ r, (xs.filter fun it => isS (c1 it) n) = findD xs n :: r := by
  unfold findD
  cases e1 : xs.find? fun it => isS (c1 it) n with
  | none =>
    refine .inl ⟨?_, rfl⟩
    rw [List.filter_eq_nil_iff]
    exact List.find?_eq_none.mp e1
  | some b =>
    right
    rw [← List.head?_filter] at e1
    cases hf : xs.filter fun it => isS (c1 it) n with
    | nil => rw [hf] at e1; cases e1
    | cons a r => rw [hf] at e1; cases e1; exact ⟨r, rfl⟩
theorem law_w (ns : List Int) (hn : ns.length ≤ 63) : @cwp (Ca 60 n_law [.rol (ns.map .int)] []) ⟨fun d _ => d = .bl true, e⟩ := by
  rw [w_law 59]
  unfold b_law
  walk_at "go"
  refine begun_w 58 ns hn fun hp0 hd0 => ?_
  walk_at "go"
  rw [List.length_map]
  have hm : ∃ m : Nat, (6 + if (10 : Int) < (ns.length : Int) then 10 else (ns.length : Int)) = (m : Int) ∧ m ≤ 16 := by
    split
    · exact ⟨16, rfl, Nat.le_refl _⟩
    · exact ⟨6 + ns.length, by omega, by omega⟩
  obtain ⟨m, em, hm⟩ := hm
  rw [em]
  refine ⟨by unfold rngOk; simp only [Bool.and_eq_true, decide_eq_true_eq]; omega, ?_⟩
  refine forL_wp (fun rest s => ∃ z2 z3 z4 z5 z6 z7 z8 z9 z10 hp, s = ⟨[.val (.rol (ns.map .int)), .val (.obj 1), z2, z3, z4, z5, z6, z7, z8, z9, z10, .emp, .emp, .emp], hp⟩ ∧ nOwn z6 = true ∧ rest.length ≤ 16 ∧ Dr (600 * (16 - rest.length)) hp) _ _
    ⟨_, _, _, _, _, _, _, _, _, _, rfl, rfl, by rw [rng_len]; omega, hd0.up (by omega)⟩ ?_ ?_
  · rintro d rest s ⟨z2, z3, z4, z5, z6, z7, z8, z9, z10, hp, rfl, h6, hl, hd⟩
    rw [List.length_cons] at hl
    have hd : Dr (600 * (16 - rest.length) - 600) hp := hd.up (by rw [List.length_cons]; omega)
    generalize hN : 600 * (16 - rest.length) - 600 = N at hd
    have hN2 : N ≤ 9600 := by omega
    walk_at "go"
    refine v_schema_w 53 hd (by omega) fun xs hp1 hxs hx4 hd1 => ?_
    walk_at "go"
    have hgx : gq (.tup xs) = true := gq_mk (by omega) fun d hd => (hxs d hd).q.g
    have hq : Q 6 24011 (.tup xs) := Q.tup (k := 5) (b := 6000) (n := 4) (fun d hd => (hxs d hd).q) hx4 (by omega)
    refine bent_w 48 6 hgx hq.s.dp hd1 (by omega) fun v1 hp2 gv1 hd2 => ?_
    walk_at "go"
    refine bent_w 48 6 hgx hq.s.dp hd2 (by omega) fun v2 hp3 gv2 hd3 => ?_
    walk_at "go"
    rw [rev_tup]
    walk_at "go"
    have hcl : (cut xs none (some 1)).length ≤ 4 := Nat.le_trans cut_len hx4
    rw [op2_addt _ _ (by show _ ≤ 16777216; omega)]
    walk_at "go"
    have gdx : ∀ d ∈ xs, gd d = true := fun d hd => (hxs d hd).gd
    have gv : ∀ v ∈ [D.tup xs, v1, v2, .tup xs.reverse, .tup (xs ++ cut xs none (some 1)), .lst xs, .non], gd v = true := by
      intro v hv
      simp only [List.mem_cons, List.not_mem_nil, or_false] at hv
      rcases hv with rfl | rfl | rfl | rfl | rfl | rfl | rfl
      · exact gd_mk (by omega) gdx
      · exact gv1
      · exact gv2
      · exact gd_mk (by rw [List.length_reverse]; omega) fun d hd => gdx d (List.mem_reverse.mp hd)
      · refine gd_mk (by rw [List.length_append]; omega) fun d hd => ?_
        rcases List.mem_append.mp hd with hd | hd
        · exact gdx d hd
        · exact gdx d (cut_mem hd)
      · exact gd_mkl (by omega) gdx
      · rfl
    generalize [D.tup xs, v1, v2, .tup xs.reverse, .tup (xs ++ cut xs none (some 1)), .lst xs, .non] = vals at gv
    have hd3' : Dr (N + 540) hp3 := hd3.up (by omega)
    have tru : ∀ b : Bool, Ca 59 n__law_is_truth [.bl b, .bl b] hp3 = .ok (.bl true) hp3 := fun b => by rw [is_truth 58]; simp only [decide_true]
    refine forL_wp (fun rest s => ∃ z4 z5 z6, s = ⟨[.val (.rol (ns.map .int)), .val (.obj 1), .val d, .val (.tup xs), z4, z5, z6, z7, z8, z9, z10, .emp, .emp, .emp], hp3⟩ ∧ nOwn z6 = true ∧ ∀ v ∈ rest, gd v = true) vals _ ⟨_, _, _, rfl, h6, gv⟩ ?_ ?_
    · rintro v r s ⟨z4, z5, z6, rfl, h6, hv⟩
      have gv := hv v (by simp)
      have hv' : ∀ v ∈ r, gd v = true := fun x hx => hv x (by simp [hx])
      walk_at "go"
      rw [l_is 53 gv]
      walk_at "go"
      rw [is_schema 51 gv, schema_same gv]
      walk_at "go"
      rw [tru]
      walk_at "go"
      rw [is_schema 51 gv, schema_same gv]
      walk_at "go"
      rw [tru]
      walk_at "go"
      cases v with
      | tup ys =>
        have gy := (gd_tup gv).2
        walk_at "go"
        refine forL_wp (fun rest s => ∃ z6, s = ⟨[.val (.rol (ns.map .int)), .val (.obj 1), .val d, .val (.tup xs), .val (.tup ys), .val (.bl (lschemaB (.tup ys))), z6, z7, z8, z9, z10, .emp, .emp, .emp], hp3⟩ ∧ nOwn z6 = true ∧ ∀ v ∈ rest, gd v = true) ys _ ⟨_, rfl, h6, gy⟩ ?_ ?_
        · rintro y r2 s ⟨z6, rfl, h6, hy⟩
          walk_at "go"
          rw [is_item 52 (hy y (by simp))]
          walk_at "go"
          rw [l_item 54 (hy y (by simp))]
          walk_at "go"
          rw [tru]
          walk_at "go"
          exact ⟨_, rfl, rfl, fun x hx => hy x (by simp [hx])⟩
        · rintro s ⟨z6, rfl, h6, _⟩
          walk_at "go"
          exact ⟨_, _, _, rfl, h6, hv'⟩
      | _ =>
        first
        | (cases gv; done)
        | (walk_at "go"
           rw [forL]
           walk_at "go"
           exact ⟨_, _, _, rfl, h6, hv'⟩)
    · rintro s ⟨z4, z5, z6, rfl, h6, _⟩
      walk_at "go"
      have hi0 : ∀ it ∈ xs, It0 it := fun it h => (hxs it h).it0
      refine forL_wp (fun rest s => ∃ z5 z6 z7 z8 z9 z10, s = ⟨[.val (.rol (ns.map .int)), .val (.obj 1), .val d, .val (.tup xs), z4, z5, z6, z7, z8, z9, z10, .emp, .emp, .emp], hp3⟩ ∧ nOwn z6 = true ∧ ∀ v ∈ rest, ∃ n, v = .str n) _ _ ⟨_, _, _, _, _, _, rfl, h6, ?_⟩ ?_ ?_
      · intro v hv
        simp only [List.mem_cons, List.not_mem_nil, or_false] at hv
        rcases hv with rfl | rfl | rfl | rfl | rfl <;> exact ⟨_, rfl⟩
      · rintro v r s ⟨z5, z6, z7, z8, z9, z10, rfl, h6, hv⟩
        obtain ⟨nm, rfl⟩ := hv v (by simp)
        have hv' : ∀ v ∈ r, ∃ n, v = .str n := fun x hx => hv x (by simp [hx])
        have hsh := find_sh hxs nm
        have hrep := hsh.repr (by omega) (by show 6000 ≤ 16777216; omega)
        walk_at "go"
        refine cmw_pure (fun it => if isS (c1 it) nm then some it else none) (by show (nOwn z6 && true) = true; rw [h6]; rfl) (by show _ ≤ 16777216; omega) (fun d hd => ?_) ?_
        · obtain ⟨w, m, q, rfl⟩ := hi0 d hd
          walk_at "go"
          have e1 : isS (c1 (.tup (.str w :: .str m :: q))) nm = decide (m = nm) := rfl
          rw [e1]
          cases decide (m = nm) <;> (walk_at "go"; try rfl)
        walk_at "go"
        rw [flt_eq, ne_nilL]
        have hrepN : findD xs nm = .non → biD .repr [D.non] = some (.str (findD xs nm).py.shown) := fun e1 => by rw [← e1]; exact hrep
        have hno : D.noO (findD xs nm) = true := by
          rcases find0 (n := nm) hi0 with e1 | ⟨_, _, _, _, e1⟩
          · rw [e1]; rfl
          · rw [e1]; rfl
        have hrN : biD .repr [D.non] = some (.str D.non.py.shown) := non_sh.repr (by omega) (by show 30 ≤ 16777216; omega)
        have asks : ∀ x ∈ [D.tup [.fn n_table_of, .str "table"], .tup [.fn n_index_of, .str "index"], .tup [.fn n_view_of, .str "view"]], ∃ g kd, x = .tup [.fn g, .str kd] ∧ Ca 59 g [.tup xs, .str nm] hp3 = .ok (itemOf xs kd nm) hp3 := by
          intro x hx
          simp only [List.mem_cons, List.not_mem_nil, or_false] at hx
          rcases hx with rfl | rfl | rfl
          · exact ⟨_, _, rfl, table_of0 56 hi0 nm hp3⟩
          · exact ⟨_, _, rfl, index_of0 56 hi0 nm hp3⟩
          · exact ⟨_, _, rfl, view_of0 56 hi0 nm hp3⟩
        rcases flt_find0 (n := nm) hi0 with ⟨hf, e1⟩ | ⟨fr, hf⟩
        · rw [hf]
          simp only [List.isEmpty_nil, List.isEmpty_cons]
          walk_at "go"
          rw [named0 58 hi0]
          walk_at "go"
          try rw [dnO_no _ hno]
          walk_at "go"
          rw [hrep]
          walk_at "go"
          rw [hrepN e1]
          walk_at "go"
          rw [named0 58 hi0]
          walk_at "go"
          try rw [dnO_no _ hno]
          walk_at "go"
          rw [hrep]
          walk_at "go"
          rw [hrepN e1]
          walk_at "go"
          refine forL_wp (fun rest s => ∃ z9 z10, s = ⟨[.val (.rol (ns.map .int)), .val (.obj 1), .val d, .val (.tup xs), z4, .val .non, z6, .val (.str nm), .val (.lst []), z9, z10, .emp, .emp, .emp], hp3⟩ ∧ ∀ x ∈ rest, ∃ g kd, x = .tup [.fn g, .str kd] ∧ Ca 59 g [.tup xs, .str nm] hp3 = .ok (itemOf xs kd nm) hp3) _ _ ⟨_, _, rfl, asks⟩ ?_ ?_
          · rintro x r3 s ⟨z9, z10, rfl, hx⟩
            obtain ⟨g, kd, rfl, hg⟩ := hx x (by simp)
            have ei : itemOf xs kd nm = .non := by unfold itemOf; rw [e1]
            rw [ei] at hg
            walk_at "go"
            rw [hg]
            walk_at "go"
            rw [hrepN e1]
            walk_at "go"
            rw [hrepN e1]
            walk_at "go"
            exact ⟨_, _, rfl, fun y hy => hx y (by simp [hy])⟩
          · rintro s ⟨z9, z10, rfl, _⟩
            walk_at "go"
            exact ⟨_, _, _, _, _, _, rfl, h6, hv'⟩
        · rw [hf]
          simp only [List.isEmpty_nil, List.isEmpty_cons]
          walk_at "go"
          rw [named0 58 hi0]
          walk_at "go"
          try rw [dnO_no _ hno]
          walk_at "go"
          rw [hrep]
          walk_at "go"
          try rw [dnO_no _ hno]
          walk_at "go"
          rw [hrep]
          walk_at "go"
          rw [named0 58 hi0]
          walk_at "go"
          try rw [dnO_no _ hno]
          walk_at "go"
          rw [hrep]
          walk_at "go"
          try rw [dnO_no _ hno]
          walk_at "go"
          rw [hrep]
          walk_at "go"
          have hit : It0 (findD xs nm) := hi0 _ (List.mem_filter.mp (by rw [hf]; exact List.mem_cons_self)).1
          obtain ⟨w, m, q, e2⟩ := hit
          rw [e2] at hrep ⊢
          refine forL_wp (fun rest s => ∃ z9 z10, s = ⟨[.val (.rol (ns.map .int)), .val (.obj 1), .val d, .val (.tup xs), z4, .val (.tup (.str w :: .str m :: q)), z6, .val (.str nm), .val (.lst (.tup (.str w :: .str m :: q) :: fr)), z9, z10, .emp, .emp, .emp], hp3⟩ ∧ ∀ x ∈ rest, ∃ g kd, x = .tup [.fn g, .str kd] ∧ Ca 59 g [.tup xs, .str nm] hp3 = .ok (itemOf xs kd nm) hp3) _ _ ⟨_, _, rfl, asks⟩ ?_ ?_
          · rintro x r3 s ⟨z9, z10, rfl, hx⟩
            obtain ⟨g, kd, rfl, hg⟩ := hx x (by simp)
            have ei : itemOf xs kd nm = if decide (w = kd) = true then .tup (.str w :: .str m :: q) else .non := by unfold itemOf; rw [e2]; rfl
            rw [ei] at hg
            walk_at "go"
            rw [hg]
            cases hwk : decide (w = kd)
            · simp only [Bool.false_eq_true, if_false]
              walk_at "go"
              rw [hrN]
              walk_at "go"
              simp only [hwk, Bool.false_eq_true, if_false]
              rw [hrN]
              walk_at "go"
              exact ⟨_, _, rfl, fun y hy => hx y (by simp [hy])⟩
            · simp only [if_true]
              walk_at "go"
              rw [hrep]
              walk_at "go"
              simp only [hwk, if_true]
              rw [hrep]
              walk_at "go"
              exact ⟨_, _, rfl, fun y hy => hx y (by simp [hy])⟩
          · rintro s ⟨z9, z10, rfl, _⟩
            walk_at "go"
            exact ⟨_, _, _, _, _, _, rfl, h6, hv'⟩
      · rintro s ⟨z5, z6, z7, z8, z9, z10, rfl, h6, _⟩
        walk_at "go"
        refine forL_wp (fun rest s => ∃ z10, s = ⟨[.val (.rol (ns.map .int)), .val (.obj 1), .val d, .val (.tup xs), z4, z5, z6, z7, z8, z9, z10, .emp, .emp, .emp], hp3⟩ ∧ ∀ x ∈ rest, ∃ kd, x = .str kd) _ _ ⟨_, rfl, ?_⟩ ?_ ?_
        · intro v hv
          simp only [List.mem_cons, List.not_mem_nil, or_false] at hv
          rcases hv with rfl | rfl | rfl <;> exact ⟨_, rfl⟩
        · rintro x r3 s ⟨z10, rfl, hx⟩
          obtain ⟨kd, rfl⟩ := hx x (by simp)
          have hks : Sh 6 24011 (.tup (ofKind xs kd)) := Sh.tup (k := 5) (b := 6000) (n := 4) (fun d hd => (hxs d (List.mem_filter.mp hd).1).q.s) (Nat.le_trans (kind_len xs kd) hx4)
          have hrk := hks.repr (by omega) (by show 24011 ≤ 16777216; omega)
          walk_at "go"
          rw [items_of0 58 hi0 (by omega)]
          walk_at "go"
          rw [hrk]
          walk_at "go"
          refine cmw_pure (fun it => if isS (c0 it) kd then some it else none) (by show (nOwn z6 && true) = true; rw [h6]; rfl) (by show _ ≤ 16777216; omega) (fun d hd => ?_) ?_
          · obtain ⟨w, m, q, rfl⟩ := hi0 d hd
            walk_at "go"
            have e1 : isS (c0 (.tup (.str w :: .str m :: q))) kd = decide (w = kd) := rfl
            rw [e1]
            cases decide (w = kd) <;> (walk_at "go"; try rfl)
          walk_at "go"
          rw [flt_eq]
          rw [show (xs.filter fun it => isS (c0 it) kd) = ofKind xs kd from rfl, hrk]
          walk_at "go"
          exact ⟨_, rfl, fun y hy => hx y (by simp [hy])⟩
        · rintro s ⟨z10, rfl, _⟩
          walk_at "go"
          refine ⟨_, _, _, _, _, _, _, _, _, _, rfl, h6, by omega, hd3'.up ?_⟩
          omega
  · rintro s ⟨z2, z3, z4, z5, z6, z7, z8, z9, z10, hp, rfl, h6, hl, hd⟩
    refine law_end (Φ := Ca 59) (fun v g hp => is_schema 51 g hp) (fun v g hp => is_item 52 g hp) (fun s => ?_)
    walk_at "go"
theorem main : ∀ ns : List Int, ns.length ≤ 63 → ∃ hp', Phi (prog es) gl 200 60 n_law [.rol (ns.map .int)] [] = .ok (.bl true) hp' := fun ns hn => by
  obtain ⟨d, hp', e, h⟩ := cwp_ex (law_w (e := noE) ns hn)
  subst h
  exact ⟨hp', e⟩
end Lw

open PySem PySem.W PySem.Calls PyProof.Rows
theorem holds_here : PySem.Challenge.rw_onelinekept_k02_whole_schemas_judged.Holds := by
  w_on; o_law
  refine HandSHeadRun.head_any (r := OpenLaw.row PySem.Challenge.rw_onelinekept_k02_whole_schemas_judged) (q := view (OpenLaw.row PySem.Challenge.rw_onelinekept_k02_whole_schemas_judged).prog [55]) (H := Lw.hk) (ob := Lw.ob) (M := 4000) (loose := Lw.nms) (d := HandSHeadRun.topDef (OpenLaw.row PySem.Challenge.rw_onelinekept_k02_whole_schemas_judged).prog 55) (kwd := []) Lw.ob_eq
    (by kernel_rfl) (fun s => by kernel_rfl) Lw.run (by kernel_rfl) (by kernel_rfl) (by kernel_rfl) (by rfl) (by first | assumption | decide +kernel) (by decide +kernel) ⟨rfl, rfl, rfl, rfl, rfl, by decide +kernel⟩ ?hw ?hc
  case hw => w_witness2
  case hc =>
    refine Mi.walkG (l := PySem.Challenge.rw_onelinekept_k02_whole_schemas_judged) (n := 63) (k := 60) (li := 44) (x := "script") (Φ := Mi.Phi (Mi.prog Lw.es) Lw.gl 200 60) rfl (by decide) (by kernel_rfl) ⟨⟨rfl, by decide, by decide⟩, rfl⟩ ?F Lw.main
    intro w mg fa h Y G hmg0
    have hmg : mg ("law" : PySem.Str) = some (.ref fa) := by
      have e : (HandSHeadRun.topDef (OpenLaw.row PySem.Challenge.rw_onelinekept_k02_whole_schemas_judged).prog 55).name = ("law" : PySem.Str) := by kernel_rfl
      rw [← e]
      exact hmg0
    exact Lw.here w mg fa h Y G hmg


theorem PySem.Challenge.cw_onelinekept_k02_whole_schemas_judged_holds : PySem.Challenge.rw_onelinekept_k02_whole_schemas_judged.Holds := by
  exact holds_here
