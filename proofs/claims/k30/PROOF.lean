import PyProof.Rows.All
import Wide.All
import OpenK.AllK
import Wide.FinOn
import HandS.ForMost
import HandS.ForExc
import HandS.TupAny
import HandS.SortInts
import HandS.Style
import HandS.Deep
import HandS.Zip
import HandS.Conv
import HandS.IsInst
import HandS.NoneIn
import HandS.Dict
import HandS.Comp
import HandS.ExcField
import HandS.TryMany
import HandS.TryOnly
import HandS.Codes
import HandS.ExcInit
import HandS.ExcSuper
import HandS.Nested
import KE.KExcSuper
import KE.KSuper
import HandS.Strs
import HandS.SetFor
import HandS.RevTup
import HandS.Iter
import HandS.Small
import HandS.WordsExc
import HandS.Ends
import OpenK.KOps
import PySem.Challenge.RW_eachworkread_k30_whole_tight_sets
set_option Elab.async false
set_option linter.all false
set_option maxRecDepth 100000
/-! IL: a small language with a total evaluator. Values are trees; a local list that is changed is a cell; boxed lists and houses stand in a store. -/
namespace IL
open PySem

inductive D where
  | non | bl (b : Bool) | int (i : Int) | str (s : Str) | tup (ds : List D) | lst (ds : List D) | dct (ks : List L2.Key) (ds : List D)
  | book (ds rs : List D) | ref (n : Nat) | scr (ns : List Int) | me
  deriving Inhabited

/-- an object of the store -/
inductive Ob where
  | box (ds : List D) | inst (a b : Option D)
/-- a slot: no value, a value, a list or dict that only this slot holds -/
inductive Sl where
  | no | val (d : D) | cell (d : D)
structure Wd where
  e : List Sl
  s : List Ob
inductive R (α : Type) where
  | ok (a : α) (w : Wd) | exn (c : Nat) (x : Option D) (w : Wd) | bad
@[reducible] def R.bind {α β : Type} (r : R α) (k : α → Wd → R β) : R β := match r with
  | .ok a w => k a w
  | .exn c x w => .exn c x w
  | .bad => .bad
/-- no exception is looked for -/
def R.calm {α : Type} (r : R α) : R α := match r with
  | .ok a w => .ok a w
  | _ => .bad
@[simp] theorem R.bind_ok {α β : Type} (a : α) (w : Wd) (k : α → Wd → R β) : (R.ok a w).bind k = k a w := rfl
def R.opt {α : Type} (o : Option α) (w : Wd) : R α := match o with
  | some a => .ok a w
  | none => .bad
@[simp] theorem R.opt_some {α : Type} (a : α) (w : Wd) : R.opt (some a) w = .ok a w := rfl
@[simp] theorem R.opt_none {α : Type} (w : Wd) : R.opt (none : Option α) w = .bad := rfl
/-- what a call comes to -/
inductive CR where
  | ok (d : D) (fr : Bool) (s : List Ob) | exn (c : Nat) (x : Option D) (s : List Ob) | bad

inductive BOp where
  | add | sub | mul | mod | fdiv | pow
  deriving DecidableEq
inductive COp where
  | eq | ne | lt | le | gt | ge | isin | notin | is | isnot
  deriving DecidableEq
inductive B1 where
  | len | list | tuple | sorted | sum | all | abs | int | repr | max | min
  deriving DecidableEq
inductive Ty where
  | int | bool | list | tuple | book
  deriving DecidableEq

/-! ### equality of data -/
mutual
/-- as data of the library; none: a book, a dict, an object within -/
def D.py : D → Option PyData
  | .non => some .none
  | .bl b => some (.bool b)
  | .int i => some (.int i)
  | .str s => some (.str s)
  | .tup ds => match D.pys ds with | some xs => some (.tuple xs) | none => none
  | .lst ds => match D.pys ds with | some xs => some (.list xs) | none => none
  | _ => none
def D.pys : List D → Option (List PyData)
  | [] => some []
  | d :: ds => match D.py d, D.pys ds with | some x, some xs => some (x :: xs) | _, _ => none
end
def eqD (d e : D) : Bool := match d.py, e.py with
  | some x, some y => PyData.eqv x y
  | _, _ => false
def eqDs (ds es : List D) : Bool := match D.pys ds, D.pys es with
  | some xs, some ys => PyData.eqvAll xs ys
  | _, _ => false
mutual
/-- data (no book, dict, object within), at most n deep -/
def D.ok : Nat → D → Bool
  | _, .non => true
  | _, .bl _ => true
  | _, .int _ => true
  | _, .str s => PyData.strOk s
  | n + 1, .tup ds => D.oks n ds
  | n + 1, .lst ds => D.oks n ds
  | _, _ => false
def D.oks : Nat → List D → Bool
  | _, [] => true
  | n, d :: ds => D.ok n d && D.oks n ds
end
/-! ### operations -/
def lim : Nat := 100000
def binD : BOp → D → D → Option D
  | .add, .int i, .int j => some (.int (i + j))
  | .add, .str a, .str b => if a.length + b.length ≤ lim then some (.str (a ++ b)) else none
  | .add, .tup a, .tup b => if a.length + b.length ≤ lim then some (.tup (a ++ b)) else none
  | .add, .lst a, .lst b => if a.length + b.length ≤ lim then some (.lst (a ++ b)) else none
  | .sub, .int i, .int j => some (.int (i - j))
  | .mul, .int i, .int j => if (-(2 ^ 64) < j ∧ j < 2 ^ 64) ∨ (-(2 ^ 64) < i ∧ i < 2 ^ 64) then some (.int (i * j)) else none
  | .mul, .lst a, .int k => if 0 ≤ k ∧ k ≤ 1000 ∧ a.length ≤ 100 then some (.lst (List.replicate k.toNat a).flatten) else none
  | .mod, .int i, .int j => if 0 < j then some (.int (i % j)) else none
  | .fdiv, .int i, .int j => if 0 < j ∧ j < 1073741824 then some (.int (i / j)) else none
  | .pow, .int i, .int j => if 0 ≤ j ∧ j ≤ 1000 ∧ i.natAbs ≤ 1000 then some (.int (i ^ j.toNat)) else none
  | _, _, _ => none
def isFr : D → Bool
  | .lst _ => true
  | .dct _ _ => true
  | _ => false
def keyOf : D → Option L2.Key
  | .int i => some (.inl i)
  | .str s => some (.inr s)
  | _ => none
def dctGet : List L2.Key → List D → L2.Key → Option D
  | k :: ks, d :: ds, x => if k = x then some d else dctGet ks ds x
  | _, _, _ => none
def dctPut (ks : List L2.Key) (ds : List D) (k : L2.Key) (x : D) : List L2.Key × List D :=
  if (ks.any fun y => decide (y = k)) = true then (ks, (ks.zip ds).map fun p => if p.1 = k then x else p.2) else (ks ++ [k], ds ++ [x])
def keyD : L2.Key → D
  | .inl i => .int i
  | .inr s => .str s
def flatD : D → Bool
  | .non => true
  | .bl _ => true
  | .int _ => true
  | .str _ => true
  | _ => false
def inD (x : D) (ds : List D) : Bool := ds.any fun y => eqD y x
def okDs (ds : List D) : Bool := D.oks 60 ds
def inF (x : D) (ds : List D) : Option Bool := if flatD x && ds.all flatD then some (inD x ds) else none
def inT (x : D) (ds : List D) : Option Bool := if (flatD x && ds.all flatD) || (D.ok 60 x && okDs ds) then some (inD x ds) else none
def eqN (a b : D) : Option Bool := match a, b with
  | .str s, .str t => some (s == t)
  | x, y => if D.ok 60 x && D.ok 60 y then some (eqD x y) else none
/-- a book and another value -/
def eqB (ds rs : List D) : D → Option Bool
  | .book es ss => if okDs ds && okDs rs && (okDs es && okDs ss) then some (eqDs ds es && eqDs rs ss) else none
  | .non => some false
  | .bl _ => some false
  | .int _ => some false
  | .str _ => some false
  | .tup _ => some false
  | .lst _ => some false
  | .dct _ _ => some false
  | _ => none
def eqT (a b : D) : Option Bool := match a with
  | .book ds rs => eqB ds rs b
  | _ => eqN a b
def neT (a b : D) : Option Bool := match a with
  | .book _ _ => none
  | _ => (eqN a b).map not

mutual
/-- the object under construction stands nowhere in it -/
def noMe : D → Bool
  | .me => false
  | .tup ds => noMes ds
  | .lst ds => noMes ds
  | .dct _ ds => noMes ds
  | .book ds rs => noMes ds && noMes rs
  | _ => true
def noMes : List D → Bool
  | [] => true
  | d :: ds => noMe d && noMes ds
end
def noMeO : Ob → Bool
  | .box ds => noMes ds
  | .inst _ _ => true
mutual
def fixD : D → Bool
  | .non => true
  | .bl _ => true
  | .int _ => true
  | .str _ => true
  | .tup ds => fixDs ds
  | _ => false
def fixDs : List D → Bool
  | [] => true
  | d :: ds => fixD d && fixDs ds
end
def isNonD : D → Bool
  | .non => true
  | _ => false
def cmpD : COp → D → D → Option Bool
  | .eq, x, y => eqT x y
  | .ne, x, y => neT x y
  | .lt, .int i, .int j => some (decide (i < j))
  | .le, .int i, .int j => some (decide (i ≤ j))
  | .gt, .int i, .int j => some (decide (j < i))
  | .ge, .int i, .int j => some (decide (j ≤ i))
  | .isin, x, .lst ds => inT x ds
  | .isin, x, .tup ds => inF x ds
  | .isin, x, .dct ks _ => (keyOf x).map fun k => ks.any fun x => decide (x = k)
  | .notin, x, .lst ds => (inT x ds).map not
  | .notin, x, .tup ds => (inF x ds).map not
  | .notin, x, .dct ks _ => (keyOf x).map fun k => !ks.any fun x => decide (x = k)
  | .is, x, .non => some (isNonD x)
  | .is, .bl b, .bl c => some (b == c)
  | .isnot, x, .non => some (!isNonD x)
  | .isnot, .bl b, .bl c => some (!(b == c))
  | _, _, _ => none
/-- the place of an index -/
abbrev ixN : Nat → Int → Option Nat := L2.ixN
def ixL (ds : List D) (i : Int) : Option D := (ixN ds.length i).bind fun j => ds[j]?
def ixD : D → D → Option D
  | .lst ds, .int i => ixL ds i
  | .tup ds, .int i => ixL ds i
  | .dct ks ds, k => (keyOf k).bind fun k => dctGet ks ds k
  | _, _ => none
def cut {α : Type} (xs : List α) (lo hi : Option Int) : List α := (xs.drop (HT.sIx xs.length 0 lo)).take (HT.sIx xs.length xs.length hi - HT.sIx xs.length 0 lo)
def slD : D → Option Int → Option Int → Option D
  | .lst ds, lo, hi => some (.lst (cut ds lo hi))
  | .tup ds, lo, hi => some (.tup (cut ds lo hi))
  | .scr ns, lo, hi => some (.lst ((cut ns lo hi).map .int))
  | _, _, _ => none
def revD : D → Option D
  | .lst ds => some (.lst ds.reverse)
  | _ => none
def intsOf : List D → Option (List Int)
  | [] => some []
  | .int i :: ds => (intsOf ds).map (i :: ·)
  | _ :: _ => none
def boolsOf : List D → Option (List Bool)
  | [] => some []
  | .bl i :: ds => (boolsOf ds).map (i :: ·)
  | _ :: _ => none
def tupsOf : List D → Option (List (List Int))
  | [] => some []
  | .tup es :: ds => match intsOf es, tupsOf ds with | some x, some xs => some (x :: xs) | _, _ => none
  | _ :: _ => none
def lexLe : List Int → List Int → Bool
  | [], _ => true
  | _ :: _, [] => false
  | x :: xs, y :: ys => if x = y then lexLe xs ys else decide (x < y)
def insBy {α : Type} (le : α → α → Bool) (x : α) : List α → List α
  | [] => [x]
  | y :: ys => if le x y then x :: y :: ys else y :: insBy le x ys
def sortBy {α : Type} (le : α → α → Bool) : List α → List α
  | [] => []
  | x :: xs => insBy le x (sortBy le xs)
abbrev sortI : List Int → List Int := sortBy fun x y => decide (x ≤ y)
abbrev sortT : List (List Int) → List (List Int) := sortBy lexLe
def nonEmpty : List Int → Bool
  | [] => false
  | _ => true
def sortedD (ds : List D) : Option D := match intsOf ds with
  | some ns => some (.lst ((sortI ns).map .int))
  | none => match tupsOf ds with
    | some ts => if ts.all nonEmpty then some (.lst ((sortT ts).map fun t => .tup (t.map .int))) else none
    | none => none
def maxI : Int → List Int → Int
  | m, [] => m
  | m, x :: xs => maxI (if x > m then x else m) xs
def minI : Int → List Int → Int
  | m, [] => m
  | m, x :: xs => minI (if x < m then x else m) xs
def allFresh : B1 → Bool
  | .list => true
  | .sorted => true
  | _ => false
def b1D : B1 → D → Option D
  | .len, .lst ds => some (.int ds.length)
  | .len, .tup ds => some (.int ds.length)
  | .len, .scr ns => some (.int ns.length)
  | .len, .book ds _ => some (.int ds.length)
  | .list, .lst ds => some (.lst ds)
  | .list, .tup ds => some (.lst ds)
  | .list, .dct ks _ => some (.lst (ks.map keyD))
  | .tuple, .lst ds => some (.tup ds)
  | .tuple, .tup ds => some (.tup ds)
  | .sorted, .lst ds => sortedD ds
  | .sorted, .tup ds => match intsOf ds with | some ns => some (.lst ((sortI ns).map .int)) | none => none
  | .sum, .lst ds => (intsOf ds).map fun ns => .int ns.sum
  | .all, .lst ds => (boolsOf ds).map fun bs => .bl (bs.all id)
  | .abs, .int i => some (.int (if i < 0 then -i else i))
  | .int, .int i => some (.int i)
  | .int, .bl b => some (.int (if b then 1 else 0))
  | .repr, d => (match d.py with | some x => if x.showable && D.ok 60 d && decide (x.shown.length ≤ lim) then some (.str x.shown) else none | none => none)
  | .max, .lst ds => match intsOf ds with | some (n :: ns) => some (.int (maxI n ns)) | _ => none
  | .min, .lst ds => match intsOf ds with | some (n :: ns) => some (.int (minI n ns)) | _ => none
  | _, _ => none
def isiD : Ty → D → Option Bool
  | .int, .int _ => some true
  | .int, .bl _ => some true
  | .int, .non => some false
  | .int, .str _ => some false
  | .int, .tup _ => some false
  | .int, .lst _ => some false
  | .bool, .int _ => some false
  | .bool, .bl _ => some true
  | .bool, .non => some false
  | .bool, .str _ => some false
  | .bool, .tup _ => some false
  | .bool, .lst _ => some false
  | .list, .int _ => some false
  | .list, .bl _ => some false
  | .list, .non => some false
  | .list, .str _ => some false
  | .list, .tup _ => some false
  | .list, .lst _ => some true
  | .tuple, .int _ => some false
  | .tuple, .bl _ => some false
  | .tuple, .non => some false
  | .tuple, .str _ => some false
  | .tuple, .tup _ => some true
  | .tuple, .lst _ => some false
  | .int, .book _ _ => some false
  | .bool, .book _ _ => some false
  | .list, .book _ _ => some false
  | .tuple, .book _ _ => some false
  | .int, .dct _ _ => some false
  | .bool, .dct _ _ => some false
  | .list, .dct _ _ => some false
  | .tuple, .dct _ _ => some false
  | _, _ => none

/-! ### the language -/
inductive Tg where
  | nm (i : Nat) | t2 (a b : Tg) | t3 (a b c : Tg) | t4 (a b c d : Tg)
mutual
inductive E where
  | var (i : Nat) | int (i : Int) | str (s : Str) | bl (b : Bool) | non | glob (x : Str) (i : Int)
  | bin (o : BOp) (a b : E) | neg (a : E) | not (a : E) | cmp (o : COp) (a b : E) | cmpv (o : COp) (i : Nat) (b : E) | inv (o : COp) (a : E) (i : Nat)
  | chain (o p : COp) (a b c : E) | and (a b : E) | or (a b : E) | ite (c : T) (a b : E)
  | lst (es : Es) | tup (es : Es) | dct0 | dct1 (k v : E)
  | ix (a i : E) | ixv (i : Nat) (a : E) | sl (a : E) (lo hi : O) | rev (a : E)
  | comp (own : List Nat) (g : Tg) (it : It) (c : OT) (e : E)
  | call (f : Nat) (es : Es) | b1 (f : B1) (a : E) | lenv (i : Nat) | max2 (a b : E) | min2 (a b : E) | listR (a : E) | tupR (a : E) | sset (a : E)
  | isi (t : Ty) (a : E) | dem (a : E) | rdr (a : E) | mk (f : Nat) (a b : E) | pop (i : Nat) (a : E) | box (es : Es)
inductive T where
  | ev (e : E) | and (a b : T) | or (a b : T) | not (a : T)
  | cmp (o : COp) (a b : E) | cmpv (o : COp) (i : Nat) (b : E) | inv (o : COp) (a : E) (i : Nat) | chain (o p : COp) (a b c : E)
inductive OT where
  | no | yes (t : T)
inductive Es where
  | nil | cons (e : E) (es : Es)
inductive O where
  | no | yes (e : E)
inductive It where
  | seq (e : E) | r1 (e : E) | r2 (a b : E) | enm (e : E) | zip (a b : E)
end
inductive Flow where
  | nx | rt (d : D) (fr : Bool)
/-- what an except suite says: fld is the one value that the exception keeps -/
inductive SE where
  | con (d : D) | var (i : Nat) | fld | lstF (s : Str) | catF (s : Str)
inductive Su where
  | ret (e : SE) | app (i : Nat) (e : SE)
/-- an except clause: the exceptions' numbers, the slot of its name, its suite -/
structure Hd where
  cs : List Nat
  at_ : Option Nat
  su : Su
mutual
inductive S where
  | set (i : Nat) (e : E) | setT (g : Tg) (e : E) | par2 (i j : Nat) (a b : E) | par3 (i j k : Nat) (a b c : E)
  | exp (e : E) | app (i : Nat) (e : E) | seti (i : Nat) (ix e : E) | aug (i : Nat) (e : E)
  | ret (e : E) | retN | ite (c : T) (a b : Ss) | for_ (g : Tg) (it : It) (b : Ss) | wh (c : T) (b : Ss) | never | raise (c : Nat) (e : E) | raise0 (c : Nat) | try_ (b : Ss) (hs : List Hd) | done (a b : E)
inductive Ss where
  | nil | cons (s : S) (ss : Ss)
end

/-! ### slots -/
def Wd.get (w : Wd) (i : Nat) : Option D := match w.e[i]? with
  | some (.val d) => some d
  | some (.cell d) => some d
  | _ => none
def Wd.put (w : Wd) (i : Nat) (d : D) : Wd := { w with e := w.e.set i (.val d) }
def isMe : Option D → Option Unit
  | some .me => some ()
  | _ => none
/-- a value is stored: a new list or dict is the slot's own -/
def Wd.putF (w : Wd) (i : Nat) (d : D) (fr : Bool) : Wd := { w with e := w.e.set i (if fr && isFr d then .cell d else .val d) }
/-- a boxed list is read as a list -/
def Wd.deref (w : Wd) (d : D) : D := match d with
  | .ref n => (match w.s[n]? with | some (.box ds) => .lst ds | _ => d)
  | _ => d
/-- a list that only this slot holds -/
def Wd.cl (w : Wd) (i : Nat) : Option (List D) := match w.e[i]? with
  | some (.cell (.lst ds)) => some ds
  | _ => none
/-- read for good: a cell is one no more -/
def Wd.read (w : Wd) (i : Nat) : R D := match w.e[i]? with
  | some (.val d) => .ok d w
  | some (.cell d) => .ok d (w.put i d)
  | _ => .bad
def frzAt (e : List Sl) (i : Nat) : List Sl := match e[i]? with
  | some (.cell d) => e.set i (.val d)
  | _ => e
def freezeE : List Nat → List Sl → List Sl
  | [], e => e
  | v :: vs, e => frzAt (freezeE vs e) v
def hideE : List Nat → List Sl → List Sl
  | [], e => e
  | v :: vs, e => (hideE vs e).set v .no
def backE (old : List Sl) : List Nat → List Sl → List Sl
  | [], e => e
  | v :: vs, e => (backE old vs e).set v (old.getD v .no)
def asgT : Tg → D → Wd → Option Wd
  | .nm i, d, w => if i < w.e.length then some (w.put i d) else none
  | .t2 a b, d, w => match d with
    | .tup [x, y] => (asgT a x w).bind fun w => asgT b y w
    | .lst [x, y] => (asgT a x w).bind fun w => asgT b y w
    | _ => none
  | .t3 a b c, d, w => match d with
    | .tup [x, y, z] => (asgT a x w).bind fun w => (asgT b y w).bind fun w => asgT c z w
    | _ => none
  | .t4 a b c e, d, w => match d with
    | .tup [x, y, z, u] => (asgT a x w).bind fun w => (asgT b y w).bind fun w => (asgT c z w).bind fun w => asgT e u w
    | _ => none
def Tg.vars : Tg → List Nat
  | .nm i => [i]
  | .t2 a b => a.vars ++ b.vars
  | .t3 a b c => a.vars ++ b.vars ++ c.vars
  | .t4 a b c d => a.vars ++ b.vars ++ c.vars ++ d.vars
def compL (f : D → Wd → R (Option D)) : List D → Wd → R (List D)
  | [], w => .ok [] w
  | d :: ds, w => (f d w).bind fun o w => (compL f ds w).bind fun rs w => .ok (match o with | some r => r :: rs | none => rs) w
def forL (f : D → Wd → R Flow) : List D → Wd → R Flow
  | [], w => .ok .nx w
  | d :: ds, w => (f d w).bind fun fl w => match fl with
    | .nx => forL f ds w
    | .rt d fr => .ok (.rt d fr) w
def whL (c : Wd → R Bool) (f : Wd → R Flow) : Nat → Wd → R Flow
  | 0, _ => .bad
  | n + 1, w => (c w).bind fun b w => if b then (f w).bind fun fl w => match fl with
    | .nx => whL c f n w
    | .rt d fr => .ok (.rt d fr) w else .ok .nx w
def seqOf : D → Option (List D)
  | .lst ds => some ds
  | .tup ds => some ds
  | .dct ks _ => some (ks.map keyD)
  | _ => none
def itemsOf : D → Option (List D)
  | .lst ds => some ds
  | .tup ds => some ds
  | _ => none
def enumD (i : Int) : List D → List D
  | [] => []
  | d :: ds => .tup [.int i, d] :: enumD (i + 1) ds
def zipL (xs ys : List D) : List D := List.zipWith (fun x y => .tup [x, y]) xs ys
def zipD : D → D → Option (List D)
  | .lst xs, .lst ys => some (zipL xs ys)
  | .tup xs, .tup ys => some (zipL xs ys)
  | _, _ => none
def rng (lo hi : Int) : List D := (List.range (hi - lo).toNat).map fun (i : Nat) => .int (lo + (i : Int))
def boolOf : D → Option Bool
  | .bl b => some b
  | _ => none
def intOf : D → Option Int
  | .int b => some b
  | _ => none
def dedup : List Int → List Int
  | [] => []
  | x :: xs => if x ∈ xs then dedup xs else x :: dedup xs
def tupI : D → Option (List Int)
  | .tup ds => intsOf ds
  | _ => none
/-- a constant -/
def conD : D → Bool
  | .non => true
  | .bl _ => true
  | .int _ => true
  | .str _ => true
  | _ => false
def seV (x : Option D) : SE → Wd → R (D × Bool)
  | .con d, w => if conD d then .ok (d, false) w else .bad
  | .var i, w => (w.read i).bind fun d w => .ok (d, false) w
  | .fld, w => (R.opt x w).bind fun d w => .ok (d, false) w
  | .lstF s, w => (R.opt x w).bind fun d w => .ok (.lst [.str s, d], true) w
  | .catF s, w => (R.opt x w).bind fun d w => (R.opt (b1D .repr d) w).bind fun r w => (R.opt (binD .add (.str s) r) w).bind fun r w => .ok (r, false) w
def runSu (x : Option D) : Su → Wd → R Flow
  | .ret e, w => (seV x e w).bind fun y w => .ok (.rt y.1 y.2) w
  | .app i e, w => (R.opt (w.cl i) w).bind fun _ w => (seV x e w).bind fun y w => (R.opt (w.cl i) w).bind fun ds w => if ds.length < lim then .ok .nx { w with e := w.e.set i (.cell (.lst (ds ++ [y.1]))) } else .bad
/-- the slot of the clause's name holds nothing -/
def slotNo (w : Wd) : Option Nat → Bool
  | none => true
  | some i => match w.e[i]? with
    | some .no => true
    | _ => false
def tryR (hs : List Hd) : R Flow → R Flow
  | .ok a w => .ok a w
  | .exn c x w => (match hs.find? fun h => h.cs.contains c with
    | some h => if slotNo w h.at_ then runSu x h.su w else .bad
    | none => .exn c x w)
  | .bad => .bad
section
variable (cf : Nat → List D → List Ob → CR)
mutual
def ev : E → Wd → R (D × Bool)
  | .var i, w => (w.read i).bind fun d w => .ok (d, false) w
  | .int i, w => .ok (.int i, false) w
  | .str s, w => .ok (.str s, false) w
  | .bl b, w => .ok (.bl b, false) w
  | .non, w => .ok (.non, false) w
  | .glob _ i, w => .ok (.int i, false) w
  | .bin o a b, w => (ev a w).bind fun x w => (ev b w).bind fun y w => (R.opt (binD o x.1 y.1) w).bind fun d w => .ok (d, isFr d) w
  | .neg a, w => (ev a w).bind fun x w => (R.opt (intOf x.1) w).bind fun i w => .ok (.int (-i), false) w
  | .not a, w => (ev a w).bind fun x w => (R.opt (boolOf x.1) w).bind fun b w => .ok (.bl (!b), false) w
  | .cmp o a b, w => (ev a w).bind fun x w => (ev b w).bind fun y w => (R.opt (cmpD o x.1 y.1) w).bind fun b w => .ok (.bl b, false) w
  | .cmpv o i b, w => (R.opt (w.get i) w).bind fun _ w => (ev b w).bind fun y w => (R.opt (w.get i) w).bind fun x w => (R.opt (cmpD o x y.1) w).bind fun b w => .ok (.bl b, false) w
  | .inv o a i, w => (ev a w).bind fun x w => (R.opt (w.get i) w).bind fun y w => (R.opt (cmpD o x.1 y) w).bind fun b w => .ok (.bl b, false) w
  | .chain o p a b c, w => (ev a w).bind fun x w => (ev b w).bind fun y w => (R.opt (cmpD o x.1 y.1) w).bind fun k w =>
      if k then (ev c w).bind fun z w => (R.opt (cmpD p y.1 z.1) w).bind fun b w => .ok (.bl b, false) w else .ok (.bl false, false) w
  | .and a b, w => (ev a w).bind fun x w => (R.opt (boolOf x.1) w).bind fun k w => if k then (ev b w).bind fun y w => .ok (y.1, false) w else .ok (.bl false, false) w
  | .or a b, w => (ev a w).bind fun x w => (R.opt (boolOf x.1) w).bind fun k w => if k then .ok (.bl true, false) w else (ev b w).bind fun y w => .ok (y.1, false) w
  | .ite c a b, w => (evT c w).bind fun k w => if k then ev a w else ev b w
  | .lst es, w => (evs es w).bind fun ds w => if ds.length ≤ lim then .ok (.lst ds, true) w else .bad
  | .tup es, w => (evs es w).bind fun ds w => if ds.length ≤ lim then .ok (.tup ds, false) w else .bad
  | .dct0, w => .ok (.dct [] [], true) w
  | .dct1 k v, w => (ev k w).bind fun x w => (ev v w).bind fun y w => (R.opt (keyOf x.1) w).bind fun k w => .ok (.dct [k] [y.1], true) w
  | .ix a i, w => (ev a w).bind fun x w => (ev i w).bind fun y w => (R.opt (ixD x.1 y.1) w).bind fun d w => .ok (d, false) w
  | .ixv i a, w => (R.opt (w.get i) w).bind fun _ w => (ev a w).bind fun y w => (R.opt (w.get i) w).bind fun x w => (R.opt (ixD (w.deref x) y.1) w).bind fun d w => .ok (d, false) w
  | .sl a lo hi, w => (ev a w).bind fun x w => (evO lo w).bind fun l w => (evO hi w).bind fun h w => (R.opt (slD x.1 l h) w).bind fun d w => .ok (d, isFr d) w
  | .rev a, w => (ev a w).bind fun x w => (R.opt (revD x.1) w).bind fun d w => .ok (d, isFr d) w
  | .comp own g it c e, w => (evI it w).bind fun xs w =>
      if xs.length ≤ lim then
      (compL (fun d w => ((R.opt (asgT g d w) w).bind fun w' _ => (evC c w').bind fun k w => if k then (ev e w).bind fun r w => .ok (some r.1) { w with e := hideE own w.e } else .ok none { w with e := hideE own w.e }).calm) xs
        { w with e := hideE own (freezeE own w.e) }).bind fun rs w2 => .ok (.lst rs, true) { w2 with e := backE (freezeE own w.e) own w2.e }
      else .bad
  | .call f es, w => (evs es w).bind fun ds w => match cf f ds w.s with
    | .ok d fr s => .ok (d, fr) { w with s := s }
    | .exn c x s => .exn c x { w with s := s }
    | .bad => .bad
  | .b1 f a, w => (ev a w).bind fun x w => (R.opt (b1D f x.1) w).bind fun d w => .ok (d, isFr d) w
  | .lenv i, w => (R.opt (w.get i) w).bind fun x w => (R.opt (b1D .len x) w).bind fun d w => .ok (d, false) w
  | .max2 a b, w => (ev a w).bind fun x w => (ev b w).bind fun y w => (R.opt (intOf x.1) w).bind fun i w => (R.opt (intOf y.1) w).bind fun j w => .ok (.int (if j > i then j else i), false) w
  | .min2 a b, w => (ev a w).bind fun x w => (ev b w).bind fun y w => (R.opt (intOf x.1) w).bind fun i w => (R.opt (intOf y.1) w).bind fun j w => .ok (.int (if j < i then j else i), false) w
  | .listR a, w => (ev a w).bind fun x w => (R.opt (intOf x.1) w).bind fun i w => if i ≤ 1000 ∧ -1000000 ≤ i then .ok (.lst (rng 0 i), true) w else .bad
  | .tupR a, w => (ev a w).bind fun x w => (R.opt (intOf x.1) w).bind fun i w => if i ≤ 1000 ∧ -1000000 ≤ i then .ok (.tup (rng 0 i), false) w else .bad
  | .sset a, w => (ev a w).bind fun x w => (R.opt (tupI x.1) w).bind fun ns w => if ns.length ≤ 60 then .ok (.lst ((sortI (dedup ns)).map .int), true) w else .bad
  | .isi t a, w => (ev a w).bind fun x w => (R.opt (isiD t x.1) w).bind fun b w => .ok (.bl b, false) w
  | .dem a, w => (ev a w).bind fun x w => match x.1 with | .book ds _ => .ok (.lst ds, true) w | _ => .bad
  | .rdr a, w => (ev a w).bind fun x w => match x.1 with | .book _ rs => .ok (.lst rs, true) w | _ => .bad
  | .mk f a b, w => (ev a w).bind fun x w => (ev b w).bind fun y w => match cf f [.me, x.1, y.1] w.s with
    | .exn 7 (some (.tup [.lst ds, .lst rs])) s => if fixDs ds && fixDs rs && noMe x.1 && noMe y.1 && w.s.all noMeO && s.all noMeO then .ok (.book ds rs, false) { w with s := s } else .bad
    | _ => .bad
  | .pop i a, w => (R.opt (w.cl i) w).bind fun _ w => (ev a w).bind fun y w => (R.opt (w.cl i) w).bind fun ds w => (R.opt (intOf y.1) w).bind fun k w => (R.opt (ixN ds.length k) w).bind fun j w =>
      (R.opt ds[j]? w).bind fun d w => if (-(2 ^ 63) ≤ k ∧ k < 2 ^ 63) then .ok (d, false) { w with e := w.e.set i (.cell (.lst (ds.eraseIdx j))) } else .bad
  | .box es, w => (evs es w).bind fun ds w => if ds.length ≤ lim then .ok (.ref w.s.length, false) { w with s := w.s ++ [.box ds] } else .bad
def evs : Es → Wd → R (List D)
  | .nil, w => .ok [] w
  | .cons e es, w => (ev e w).bind fun x w => (evs es w).bind fun xs w => .ok (x.1 :: xs) w
def evO : O → Wd → R (Option Int)
  | .no, w => .ok none w
  | .yes e, w => (ev e w).bind fun x w => (R.opt (intOf x.1) w).bind fun i w => .ok (some i) w
def evC : OT → Wd → R Bool
  | .no, w => .ok true w
  | .yes e, w => evT e w
def evI : It → Wd → R (List D)
  | .seq e, w => (ev e w).bind fun x w => R.opt (itemsOf x.1) w
  | .r1 e, w => (ev e w).bind fun x w => (R.opt (intOf x.1) w).bind fun i w => if i ≤ 1000000 ∧ -1000000 ≤ i then .ok (rng 0 i) w else .bad
  | .r2 a b, w => (ev a w).bind fun x w => (ev b w).bind fun y w => (R.opt (intOf x.1) w).bind fun i w => (R.opt (intOf y.1) w).bind fun j w =>
      if i ≤ 1000000 ∧ -1000000 ≤ i ∧ j ≤ 1000000 ∧ -1000000 ≤ j then .ok (rng i j) w else .bad
  | .enm e, w => (ev e w).bind fun x w => match x.1 with
    | .lst ds => .ok (enumD 0 ds) w
    | _ => .bad
  | .zip a b, w => (ev a w).bind fun x w => (ev b w).bind fun y w => R.opt (zipD x.1 y.1) w
/-- a test -/
def evT : T → Wd → R Bool
  | .and a b, w => (evT a w).bind fun k w => if k then evT b w else .ok false w
  | .or a b, w => (evT a w).bind fun k w => if k then .ok true w else evT b w
  | .not a, w => (evT a w).bind fun k w => .ok (!k) w
  | .ev e, w => (ev e w).bind fun x w => R.opt (boolOf x.1) w
  | .cmp o a b, w => (ev a w).bind fun x w => (ev b w).bind fun y w => R.opt (cmpD o x.1 y.1) w
  | .cmpv o i b, w => (R.opt (w.get i) w).bind fun _ w => (ev b w).bind fun y w => (R.opt (w.get i) w).bind fun x w => R.opt (cmpD o x y.1) w
  | .inv o a i, w => (ev a w).bind fun x w => (R.opt (w.get i) w).bind fun y w => R.opt (cmpD o x.1 y) w
  | .chain o p a b c, w => (ev a w).bind fun x w => (ev b w).bind fun y w => (R.opt (cmpD o x.1 y.1) w).bind fun k w =>
      if k then (ev c w).bind fun z w => R.opt (cmpD p y.1 z.1) w else .ok false w
end
mutual
def runS : S → Wd → R Flow
  | .set i e, w => (ev cf e w).bind fun x w => if i < w.e.length then .ok .nx (w.putF i x.1 x.2) else .bad
  | .setT g e, w => (ev cf e w).bind fun x w => (R.opt (asgT g x.1 w) w).bind fun w' _ => .ok .nx w'
  | .par2 i j a b, w => (ev cf a w).bind fun x w => (ev cf b w).bind fun y w => if i < w.e.length ∧ j < w.e.length then .ok .nx ((w.putF i x.1 x.2).putF j y.1 y.2) else .bad
  | .par3 i j k a b c, w => (ev cf a w).bind fun x w => (ev cf b w).bind fun y w => (ev cf c w).bind fun z w =>
      if i < w.e.length ∧ j < w.e.length ∧ k < w.e.length then .ok .nx (((w.putF i x.1 x.2).putF j y.1 y.2).putF k z.1 z.2) else .bad
  | .exp e, w => (ev cf e w).bind fun _ w => .ok .nx w
  | .app i e, w => (R.opt (w.cl i) w).bind fun _ w => (ev cf e w).bind fun x w => (R.opt (w.cl i) w).bind fun ds w => if ds.length < lim then .ok .nx { w with e := w.e.set i (.cell (.lst (ds ++ [x.1]))) } else .bad
  | .seti i ix e, w => (ev cf e w).bind fun x w => (R.opt (w.get i) w).bind fun _ w => (ev cf ix w).bind fun k w => match w.e[i]? with
    | some (.cell (.lst ds)) => (R.opt (intOf k.1) w).bind fun k w => (R.opt (ixN ds.length k) w).bind fun j w => .ok .nx { w with e := w.e.set i (.cell (.lst (ds.set j x.1))) }
    | some (.cell (.dct ks ds)) => (R.opt (keyOf k.1) w).bind fun k w => if ds.length < lim then .ok .nx { w with e := w.e.set i (.cell (.dct (dctPut ks ds k x.1).1 (dctPut ks ds k x.1).2)) } else .bad
    | some (.val (.ref n)) => match w.s[n]? with
      | some (.box ds) => (R.opt (intOf k.1) w).bind fun k w => (R.opt (ixN ds.length k) w).bind fun j w => .ok .nx { w with s := w.s.set n (.box (ds.set j x.1)) }
      | _ => .bad
    | _ => .bad
  | .aug i e, w => (R.opt (w.get i) w).bind fun _ w => (ev cf e w).bind fun x w => (R.opt (w.get i) w).bind fun y w => (R.opt (intOf y) w).bind fun a w => (R.opt (intOf x.1) w).bind fun b w => if i < w.e.length then .ok .nx (w.put i (.int (a + b))) else .bad
  | .ret e, w => (ev cf e w).bind fun x w => .ok (.rt x.1 x.2) w
  | .retN, w => .ok (.rt .non false) w
  | .ite c a b, w => (evT cf c w).bind fun k w => if k then runs a w else runs b w
  | .for_ g it b, w => (evI cf it w).bind fun xs w => forL (fun d w => (R.opt (asgT g d w) w).bind fun w' _ => runs b w') xs w
  | .wh c b, w => whL (fun w => evT cf c w) (fun w => runs b w) 100000 w
  | .never, _ => .bad
  | .raise c e, w => (ev cf e w).bind fun x w => .exn c (some x.1) w
  | .raise0 c, w => .exn c none w
  | .try_ b hs, w => tryR hs (runs b w)
  | .done a b, w => (ev cf a w).bind fun x w => (R.opt (isMe (w.get 0)) w).bind fun _ w => (ev cf b w).bind fun y w => (R.opt (isMe (w.get 0)) w).bind fun _ w => if x.2 && y.2 then .exn 7 (some (.tup [x.1, y.1])) w else .bad
def runs : Ss → Wd → R Flow
  | .nil, w => .ok .nx w
  | .cons s ss, w => (runS s w).bind fun fl w => match fl with
    | .nx => runs ss w
    | .rt d fr => .ok (.rt d fr) w
end
end
/-- a def: its name, its parameters' number, its slots' names, its body -/
structure Df where
  name : Str
  np : Nat
  vars : List Str
  body : Ss
def fin (r : R Flow) : CR := match r with
  | .ok .nx w => .ok .non false w.s
  | .ok (.rt d fr) w => .ok d fr w.s
  | .exn c x w => .exn c x w.s
  | .bad => .bad
def callF (tab : List Df) : Nat → Nat → List D → List Ob → CR
  | 0, _, _, _ => .bad
  | n + 1, f, ds, s => match tab[f]? with
    | some d => if ds.length = d.np then fin (runs (callF tab n) d.body ⟨ds.map .val ++ List.replicate (d.vars.length - d.np) .no, s⟩) else .bad
    | none => .bad
end IL

set_option Elab.async false
set_option linter.all false
set_option maxRecDepth 100000
set_option maxHeartbeats 1000000
/-! IL: how trees stand in the abstract heap, and what evaluation keeps. -/
namespace IL
open PySem L2

structure Cb where
  C : Addr
  me : Addr
def fix : HO → Bool
  | .tup _ => true
  | .frz _ _ => true
  | _ => false
mutual
def rep (K : PySem.W.Frag) (CB : Cb) (N : Addr → Prop) (M : List Addr) (H : Hp) : D → V → Prop
  | .non, v => v = .non
  | .bl b, v => v = .bl b
  | .int i, v => v = .int i
  | .str s, v => v = .str s
  | .tup ds, v => ∃ a vs, v = .ref a ∧ SqT K H a vs ∧ reps K CB N M H ds vs
  | .lst ds, v => ∃ a vs, v = .ref a ∧ H a = some (.lst vs) ∧ N a ∧ reps K CB N M H ds vs
  | .dct ks ds, v => ∃ a vs, v = .ref a ∧ H a = some (.dK (ks.zip vs)) ∧ N a ∧ ks.length = ds.length ∧ reps K CB N M H ds vs
  | .book ds rs, v => ∃ a dx l1 l2 v1 v2, v = .ref a ∧ H a = some (.ins CB.C dx [("wanted", .ref l1), ("hands", .ref l2)]) ∧ N a ∧ (H l1 = some (.lst v1) ∧ N l1 ∧ reps K CB (fun _ => False) [] H ds v1) ∧ (H l2 = some (.lst v2) ∧ N l2 ∧ reps K CB (fun _ => False) [] H rs v2)
  | .ref n, v => ∃ a, v = .ref a ∧ M[n]? = some a
  | .me, v => v = .ref CB.me
  | .scr ns, v => ∃ a, v = .ref a ∧ ((∃ o, H a = some (.frz o (.lst (ns.map V.int)))) ∨ ∀ H' : Hp, SqL K H' a (ns.map V.int))
def reps (K : PySem.W.Frag) (CB : Cb) (N : Addr → Prop) (M : List Addr) (H : Hp) : List D → List V → Prop
  | [], vs => vs = []
  | d :: ds, vs => ∃ v ws, vs = v :: ws ∧ rep K CB N M H d v ∧ reps K CB N M H ds ws
end
section
variable {K : PySem.W.Frag} {CB : Cb} {N N' N'' : Addr → Prop} {M M' M'' : List Addr} {H H' H'' : Hp}
/-- what stood and was clean stays, and stays clean -/
structure Tr (N : Addr → Prop) (M : List Addr) (H : Hp) (N' : Addr → Prop) (M' : List Addr) (H' : Hp) : Prop where
  keep : ∀ a o, H a = some o → (N a ∨ fix o = true) → H' a = some o
  cl : ∀ a o, H a = some o → N a → N' a
  pre : ∀ (n : Nat) a, M[n]? = some a → M'[n]? = some a
theorem Tr.refl : Tr N M H N M H := ⟨fun _ _ h _ => h, fun _ _ _ h => h, fun _ _ h => h⟩
theorem Tr.trans (a : Tr N M H N' M' H') (b : Tr N' M' H' N'' M'' H'') : Tr N M H N'' M'' H'' where
  keep := fun x o h hn => b.keep x o (a.keep x o h hn) (hn.imp (a.cl x o h) id)
  cl := fun x o h hn => b.cl x o (a.keep x o h (.inl hn)) (a.cl x o h hn)
  pre := fun n x h => b.pre n x (a.pre n x h)
theorem Tr.weaken (h : ∀ a o, H a = some o → N a → N' a) : Tr N M H N' M H := ⟨fun _ _ h _ => h, h, fun _ _ h => h⟩
theorem Tr.fix (t : Tr N M H N' M' H') : Tr (fun _ => False) [] H (fun _ => False) [] H' := ⟨fun a o h hn => t.keep a o h (hn.elim False.elim .inr), fun _ _ _ h => h, fun _ _ h => h⟩
theorem sqT_tr (t : Tr N M H N' M' H') {a : Addr} {vs : List V} (h : SqT K H a vs) : SqT K H' a vs := by
  rcases h with (h | ⟨o, h⟩) | h
  · exact .inl (.inl (t.keep _ _ h (.inr rfl)))
  · exact .inl (.inr ⟨o, t.keep _ _ h (.inr rfl)⟩)
  · exact .inr h
mutual
theorem rep_tr : ∀ {N : Addr → Prop} {M : List Addr} {N' : Addr → Prop} {M' : List Addr} (t : Tr N M H N' M' H') (d : D) (v : V), rep K CB N M H d v → rep K CB N' M' H' d v
  | _, _, _, _, t, .non, _, h => h
  | _, _, _, _, t, .bl _, _, h => h
  | _, _, _, _, t, .int _, _, h => h
  | _, _, _, _, t, .str _, _, h => h
  | _, _, _, _, t, .tup ds, v, h => by
    unfold rep at h ⊢
    obtain ⟨a, vs, e, hs, hr⟩ := h
    exact ⟨a, vs, e, sqT_tr t hs, reps_tr t ds vs hr⟩
  | _, _, _, _, t, .lst ds, v, h => by
    unfold rep at h ⊢
    obtain ⟨a, vs, e, h1, h2, hr⟩ := h
    exact ⟨a, vs, e, t.keep _ _ h1 (.inl h2), t.cl _ _ h1 h2, reps_tr t ds vs hr⟩
  | _, _, _, _, t, .dct ks ds, v, h => by
    unfold rep at h ⊢
    obtain ⟨a, vs, e, h1, h2, h3, hr⟩ := h
    exact ⟨a, vs, e, t.keep _ _ h1 (.inl h2), t.cl _ _ h1 h2, h3, reps_tr t ds vs hr⟩
  | _, _, _, _, t, .book ds rs, v, h => by
    unfold rep at h ⊢
    obtain ⟨a, dx, l1, l2, v1, v2, e, h1, h2, ⟨h3, h4, h5⟩, h6, h7, h8⟩ := h
    exact ⟨a, dx, l1, l2, v1, v2, e, t.keep _ _ h1 (.inl h2), t.cl _ _ h1 h2, ⟨t.keep _ _ h3 (.inl h4), t.cl _ _ h3 h4, reps_tr (Tr.fix t) ds v1 h5⟩, t.keep _ _ h6 (.inl h7), t.cl _ _ h6 h7, reps_tr (Tr.fix t) rs v2 h8⟩
  | _, _, _, _, t, .ref n, v, h => by
    unfold rep at h ⊢
    obtain ⟨a, e, h1⟩ := h
    exact ⟨a, e, t.pre _ _ h1⟩
  | _, _, _, _, t, .me, v, h => h
  | _, _, _, _, t, .scr ns, v, h => by
    unfold rep at h ⊢
    obtain ⟨a, e, h1⟩ := h
    exact ⟨a, e, h1.imp (fun ⟨o, h1⟩ => ⟨o, t.keep _ _ h1 (.inr rfl)⟩) id⟩
theorem reps_tr : ∀ {N : Addr → Prop} {M : List Addr} {N' : Addr → Prop} {M' : List Addr} (t : Tr N M H N' M' H') (ds : List D) (vs : List V), reps K CB N M H ds vs → reps K CB N' M' H' ds vs
  | _, _, _, _, t, [], _, h => h
  | _, _, _, _, t, d :: ds, vs, h => by
    unfold reps at h ⊢
    obtain ⟨v, ws, e, h1, h2⟩ := h
    exact ⟨v, ws, e, rep_tr t d v h1, reps_tr t ds ws h2⟩
end
end
end IL

set_option Elab.async false
set_option linter.all false
set_option maxRecDepth 100000
set_option maxHeartbeats 1000000
namespace IL
open PySem L2

/-- the exceptions by number: the class, the one attribute -/
structure Gm where
  K : PySem.W.Frag
  CB : Cb
  ex : Nat → Option (Addr × Str)
/-- an exception is told by its number and what it keeps -/
def Gm.xr (Γ : Gm) (n : Nat) (o : Option D) (N : Addr → Prop) (M : List Addr) (H : Hp) (cls : Value) (dd : Option Addr) : Prop := ∃ C f, Γ.ex n = some (C, f) ∧ cls = .ref C ∧ match o with
  | none => dd = none
  | some d => ∃ dx v, dd = some dx ∧ H dx = some (.xd [(f, v)]) ∧ N dx ∧ rep Γ.K Γ.CB N M H d v
theorem xr_tr {Γ : Gm} {n : Nat} {o : Option D} {N N' : Addr → Prop} {M M' : List Addr} {H H' : Hp} {cls : Value} {dd : Option Addr} (t : Tr N M H N' M' H') (h : Γ.xr n o N M H cls dd) : Γ.xr n o N' M' H' cls dd := by
  obtain ⟨C, f, h1, h2, h3⟩ := h
  refine ⟨C, f, h1, h2, ?_⟩
  cases o with
  | none => exact h3
  | some d =>
    obtain ⟨dx, v, g1, g2, g3, g4⟩ := h3
    exact ⟨dx, v, g1, t.keep _ _ g2 (.inl g3), t.cl _ _ g2 g3, rep_tr t _ _ g4⟩
structure Bs where
  N : Addr → Prop
  Hb : Hp
  Mb : List Addr
structure Cf where
  M : List Addr
  e : List Sl
  s : List Ob
  σ : St
  H : Hp
def Bs.ne (B : Bs) (p : Addr) : Bs := { B with N := fun a => B.N a ∧ a ≠ p }
def Cf.isCell (c : Cf) (a : Addr) : Prop := ∃ (i : Nat) (d : D), c.e[i]? = some (.cell d) ∧ c.σ[i]? = some (some (.ref a))
def Cl (B : Bs) (c : Cf) (a : Addr) : Prop := B.N a ∧ a ∉ c.M ∧ ¬ c.isCell a
abbrev Gm.R (Γ : Gm) (B : Bs) (c : Cf) (d : D) (v : V) : Prop := rep Γ.K Γ.CB (Cl B c) c.M c.H d v
abbrev Gm.Rs (Γ : Gm) (B : Bs) (c : Cf) (ds : List D) (vs : List V) : Prop := reps Γ.K Γ.CB (Cl B c) c.M c.H ds vs
def cellAt (Γ : Gm) (N : Addr → Prop) (M : List Addr) (H : Hp) (d : D) (p : Addr) : Prop := match d with
  | .lst ds => ∃ vs, H p = some (.lst vs) ∧ reps Γ.K Γ.CB N M H ds vs
  | .dct ks ds => ∃ vs, H p = some (.dK (ks.zip vs)) ∧ ks.length = ds.length ∧ reps Γ.K Γ.CB N M H ds vs
  | _ => False
def obAt (Γ : Gm) (N : Addr → Prop) (M : List Addr) (H : Hp) (o : Ob) (p : Addr) : Prop := match o with
  | .box ds => ∃ vs, H p = some (.lst vs) ∧ reps Γ.K Γ.CB N M H ds vs
  | .inst _ _ => False
abbrev TrC (B : Bs) (c : Cf) (B' : Bs) (c' : Cf) : Prop := Tr (Cl B c) c.M c.H (Cl B' c') c'.M c'.H
structure Rel (Γ : Gm) (B : Bs) (c : Cf) : Prop where
  len : c.e.length = c.σ.length
  new : ∀ a, c.H a = none → B.N a
  frame : ∀ a o, B.Hb a = some o → a ∉ B.Mb → c.H a = some o
  mpre : ∀ (n : Nat) a, B.Mb[n]? = some a → c.M[n]? = some a
  mnew : ∀ a ∈ c.M, a ∈ B.Mb ∨ B.Hb a = none
  mnd : c.M.Nodup
  mlen : c.M.length = c.s.length
  val : ∀ (i : Nat) d, c.e[i]? = some (.val d) → ∃ v, c.σ[i]? = some (some v) ∧ Γ.R B c d v
  cell : ∀ (i : Nat) d, c.e[i]? = some (.cell d) → ∃ p, c.σ[i]? = some (some (.ref p)) ∧ B.Hb p = none ∧ B.N p ∧ p ∉ c.M ∧ cellAt Γ (Cl B c) c.M c.H d p
  apart : ∀ (i j : Nat) d d' p, c.e[i]? = some (.cell d) → c.e[j]? = some (.cell d') → c.σ[i]? = some (some (.ref p)) → c.σ[j]? = some (some (.ref p)) → i = j
  sto : ∀ (n : Nat) ob, c.s[n]? = some ob → ∃ a, c.M[n]? = some a ∧ obAt Γ (Cl B c) c.M c.H ob a
section
variable {Γ : Gm} {B B' : Bs} {c c' : Cf} {N N' : Addr → Prop} {M M' : List Addr} {H H' : Hp} {d : D} {p : Addr}
theorem cell_tr (t : Tr N M H N' M' H') (e : H' p = H p) (h : cellAt Γ N M H d p) : cellAt Γ N' M' H' d p := by
  cases d <;> simp only [cellAt] at h ⊢
  · obtain ⟨vs, h1, h2⟩ := h
    exact ⟨vs, e.trans h1, reps_tr t _ _ h2⟩
  · obtain ⟨vs, h1, h3, h2⟩ := h
    exact ⟨vs, e.trans h1, h3, reps_tr t _ _ h2⟩
theorem ob_tr {o : Ob} (t : Tr N M H N' M' H') (e : H' p = H p) (h : obAt Γ N M H o p) : obAt Γ N' M' H' o p := by
  cases o <;> simp only [obAt] at h ⊢
  obtain ⟨vs, h1, h2⟩ := h
  exact ⟨vs, e.trans h1, reps_tr t _ _ h2⟩
theorem cell_some (h : cellAt Γ N M H d p) : ∃ o, H p = some o ∧ fix o = false := by
  cases d <;> simp only [cellAt] at h
  · obtain ⟨vs, h1, _⟩ := h; exact ⟨_, h1, rfl⟩
  · obtain ⟨vs, h1, _⟩ := h; exact ⟨_, h1, rfl⟩
theorem ob_some {o : Ob} (h : obAt Γ N M H o p) : ∃ o, H p = some o ∧ fix o = false := by
  cases o <;> simp only [obAt] at h
  obtain ⟨vs, h1, _⟩ := h; exact ⟨_, h1, rfl⟩
/-- all slots and objects stay; what they stand at stays -/
theorem Rel.same (hR : Rel Γ B c) (t : TrC B c B' c') (he : c'.e = c.e) (hs : c'.s = c.s) (hσ : c'.σ = c.σ) (hM : c'.M = c.M) (hHb : B'.Hb = B.Hb) (hMb : B'.Mb = B.Mb)
    (new : ∀ a, c'.H a = none → B'.N a) (kc : ∀ p, c.isCell p → c'.H p = c.H p ∧ B'.N p) (ko : ∀ p ∈ c.M, c'.H p = c.H p) (fr : ∀ a o, B.Hb a = some o → a ∉ B.Mb → c'.H a = some o) : Rel Γ B' c' where
  len := by rw [he, hσ]; exact hR.len
  new := new
  frame := by rw [hHb, hMb]; exact fr
  mpre := by rw [hMb, hM]; exact hR.mpre
  mnew := by rw [hMb, hM, hHb]; exact hR.mnew
  mnd := by rw [hM]; exact hR.mnd
  mlen := by rw [hM, hs]; exact hR.mlen
  val := fun i d h => by
    rw [he] at h
    obtain ⟨v, h1, h2⟩ := hR.val i d h
    exact ⟨v, by rw [hσ]; exact h1, rep_tr t _ _ h2⟩
  cell := fun i d h => by
    rw [he] at h
    obtain ⟨p, h1, h2, h3, h4, h5⟩ := hR.cell i d h
    obtain ⟨k1, k2⟩ := kc p ⟨i, d, h, h1⟩
    exact ⟨p, by rw [hσ]; exact h1, by rw [hHb]; exact h2, k2, by rw [hM]; exact h4, cell_tr t k1 h5⟩
  apart := by rw [he, hσ]; exact hR.apart
  sto := fun n ob h => by
    rw [hs] at h
    obtain ⟨a, h1, h2⟩ := hR.sto n ob h
    exact ⟨a, by rw [hM]; exact h1, ob_tr t (ko a (List.mem_of_getElem? h1)) h2⟩
theorem isCell_eq (he : c'.e = c.e) (hσ : c'.σ = c.σ) {a : Addr} : c'.isCell a ↔ c.isCell a := by unfold Cf.isCell; rw [he, hσ]
theorem Rel.cellH (hR : Rel Γ B c) {p : Addr} (h : c.isCell p) : (∃ o, c.H p = some o ∧ fix o = false) ∧ B.N p ∧ p ∉ c.M ∧ B.Hb p = none := by
  obtain ⟨i, d, h1, h2⟩ := h
  obtain ⟨q, h3, h4, h5, h6, h7⟩ := hR.cell i d h1
  rw [h2] at h3
  cases h3
  exact ⟨cell_some h7, h5, h6, h4⟩
theorem Rel.obH (hR : Rel Γ B c) {p : Addr} (h : p ∈ c.M) : ∃ o, c.H p = some o ∧ fix o = false := by
  obtain ⟨n, hn⟩ := List.getElem?_of_mem h
  have hl : n < c.s.length := by rw [← hR.mlen]; exact (List.getElem?_eq_some_iff.mp hn).1
  obtain ⟨a, h1, h2⟩ := hR.sto n _ (List.getElem?_eq_getElem hl)
  rw [hn] at h1; cases h1
  exact ob_some h2
/-- a new object -/
theorem Rel.alloc (hR : Rel Γ B c) {p : Addr} (hp : c.H p = none) (o : HO) : Rel Γ (B.ne p) { c with H := upd c.H p o } ∧ TrC B c (B.ne p) { c with H := upd c.H p o } := by
  have t : TrC B c (B.ne p) { c with H := upd c.H p o } := ⟨fun a u h _ => by
      show upd c.H p o a = some u
      rw [upd_ne (ne_of_none h hp)]; exact h,
    fun a u h ⟨n1, n2, n3⟩ => ⟨⟨n1, ne_of_none h hp⟩, n2, n3⟩, fun _ _ h => h⟩
  have ne : ∀ a u, c.H a = some u → upd c.H p o a = c.H a := fun a u h => by rw [upd_ne (ne_of_none h hp)]
  refine ⟨hR.same t rfl rfl rfl rfl rfl rfl (fun a h => ?_) (fun q h => ?_) (fun q h => ?_) fun a u h hn => ?_, t⟩
  · by_cases e : a = p
    · subst e
      rw [show ({ c with H := upd c.H a o } : Cf).H = upd c.H a o from rfl, upd_same] at h; cases h
    · rw [show ({ c with H := upd c.H p o } : Cf).H = upd c.H p o from rfl, upd_ne e] at h
      exact ⟨hR.new a h, e⟩
  · obtain ⟨⟨u, h1, _⟩, h2, _⟩ := hR.cellH h
    exact ⟨ne q u h1, h2, ne_of_none h1 hp⟩
  · obtain ⟨u, h1, _⟩ := hR.obH h
    exact ne q u h1
  · exact (ne a u (hR.frame a u h hn)).trans (hR.frame a u h hn)
theorem Rel.weaken (hR : Rel Γ (B.ne p) c) : Rel Γ B c := by
  refine hR.same (Tr.weaken fun a _ _ ⟨⟨h1, _⟩, h2⟩ => ⟨h1, h2⟩) rfl rfl rfl rfl rfl rfl (fun a h => (hR.new a h).1) (fun q h => ⟨rfl, (hR.cellH h).2.1.1⟩) (fun _ _ => rfl) fun a o h hn => hR.frame a o h hn
theorem tr_weaken : TrC (B.ne p) c B c := Tr.weaken fun a _ _ ⟨⟨h1, _⟩, h2⟩ => ⟨h1, h2⟩
theorem Rel.strengthen (hR : Rel Γ B c) (hp : c.H p = none) : ∀ {d v}, Γ.R B c d v → rep Γ.K Γ.CB (Cl (B.ne p) c) c.M c.H d v :=
  fun h => rep_tr (Tr.weaken fun a u e ⟨h1, h2, h3⟩ => ⟨⟨h1, ne_of_none e hp⟩, h2, h3⟩) _ _ h
/-- a slot is set -/
def Cf.put (c : Cf) (i : Nat) (s : Sl) (v : Option V) : Cf := { c with e := c.e.set i s, σ := c.σ.set i v }
theorem put_cell {i : Nat} {s : Sl} {v : Option V} {a : Addr} (h : (c.put i s v).isCell a) : (∃ d, s = .cell d ∧ v = some (.ref a)) ∨ c.isCell a := by
  obtain ⟨j, d, h1, h2⟩ := h
  by_cases e : i = j
  · subst e
    rw [show (c.put i s v).e = c.e.set i s from rfl, List.getElem?_set, if_pos rfl] at h1
    rw [show (c.put i s v).σ = c.σ.set i v from rfl, List.getElem?_set, if_pos rfl] at h2
    split at h1 <;> split at h2 <;> simp at h1 h2
    exact .inl ⟨d, h1, h2⟩
  · rw [show (c.put i s v).e = c.e.set i s from rfl, List.getElem?_set_ne e] at h1
    rw [show (c.put i s v).σ = c.σ.set i v from rfl, List.getElem?_set_ne e] at h2
    exact .inr ⟨j, d, h1, h2⟩
theorem put_other {i j : Nat} {s : Sl} {v : Option V} (e : i ≠ j) : (c.put i s v).e[j]? = c.e[j]? ∧ (c.put i s v).σ[j]? = c.σ[j]? := by
  exact ⟨List.getElem?_set_ne e, List.getElem?_set_ne e⟩
theorem put_self {i : Nat} {s : Sl} {v : Option V} (hR : Rel Γ B c) {t : Sl} (h : (c.put i s v).e[i]? = some t) : t = s ∧ (c.put i s v).σ[i]? = some v := by
  rw [show (c.put i s v).e = c.e.set i s from rfl, List.getElem?_set, if_pos rfl] at h
  split at h
  · rename_i hl
    refine ⟨by cases h; rfl, ?_⟩
    rw [show (c.put i s v).σ = c.σ.set i v from rfl, List.getElem?_set, if_pos rfl, if_pos (by rw [← hR.len]; exact hl)]
  · cases h
/-- a slot becomes a value, or nothing -/
theorem putVal_tr {i : Nat} {s : Sl} {v : Option V} (hs : ∀ d, s ≠ .cell d) : TrC B c B (c.put i s v) :=
  Tr.weaken fun a _ _ ⟨h1, h2, h3⟩ => ⟨h1, h2, fun h => (put_cell h).elim (fun ⟨d, e, _⟩ => hs d e) h3⟩
theorem Rel.putVal {i : Nat} {s : Sl} {v : Option V} (hR : Rel Γ B c) (hs : ∀ d, s ≠ .cell d) (hv : ∀ d, s = .val d → ∃ x, v = some x ∧ Γ.R B (c.put i s v) d x) : Rel Γ B (c.put i s v) := by
  have t : TrC B c B (c.put i s v) := putVal_tr hs
  refine ⟨?_, hR.new, hR.frame, hR.mpre, hR.mnew, hR.mnd, hR.mlen, fun j d h => ?_, fun j d h => ?_, fun j k d d' q h1 h2 h3 h4 => ?_, fun n ob h => ?_⟩
  · show (c.e.set i s).length = (c.σ.set i v).length
    rw [List.length_set, List.length_set]; exact hR.len
  · by_cases e : i = j
    · subst e
      obtain ⟨e1, e2⟩ := put_self hR h
      obtain ⟨x, e3, h3⟩ := hv d e1.symm
      exact ⟨x, by rw [e2, e3], h3⟩
    · rw [(put_other e).1] at h
      obtain ⟨x, h1, h2⟩ := hR.val j d h
      exact ⟨x, by rw [(put_other e).2]; exact h1, rep_tr t _ _ h2⟩
  · by_cases e : i = j
    · subst e
      exact absurd (put_self hR h).1.symm (hs d)
    · rw [(put_other e).1] at h
      obtain ⟨q, h1, h2, h3, h4, h5⟩ := hR.cell j d h
      exact ⟨q, by rw [(put_other e).2]; exact h1, h2, h3, h4, cell_tr t rfl h5⟩
  · have ej : i ≠ j := fun z => by subst z; exact hs d (put_self hR h1).1.symm
    have ek : i ≠ k := fun z => by subst z; exact hs d' (put_self hR h2).1.symm
    rw [(put_other ej).1] at h1
    rw [(put_other ek).1] at h2
    rw [(put_other ej).2] at h3
    rw [(put_other ek).2] at h4
    exact hR.apart j k d d' q h1 h2 h3 h4
  · obtain ⟨a, h1, h2⟩ := hR.sto n ob h
    exact ⟨a, h1, ob_tr t rfl h2⟩
/-- a slot gets a new list or dict of its own -/
theorem putCell_tr {i : Nat} {d : D} : TrC (B.ne p) c B (c.put i (.cell d) (some (.ref p))) :=
  Tr.weaken fun a _ _ ⟨⟨h1, h0⟩, h2, h3⟩ => ⟨h1, h2, fun h => (put_cell h).elim (fun ⟨d, _, e⟩ => h0 (by cases e; rfl)) h3⟩
theorem Rel.putCell {i : Nat} {d : D} (hR : Rel Γ (B.ne p) c) (hc : ¬ c.isCell p) (hb : B.Hb p = none) (hn : B.N p) (hm : p ∉ c.M) (h : cellAt Γ (Cl (B.ne p) c) c.M c.H d p) : Rel Γ B (c.put i (.cell d) (some (.ref p))) := by
  have t : TrC (B.ne p) c B (c.put i (.cell d) (some (.ref p))) := putCell_tr
  refine ⟨?_, fun a h => (hR.new a h).1, hR.frame, hR.mpre, hR.mnew, hR.mnd, hR.mlen, fun j d h => ?_, fun j d' h' => ?_, fun j k d' d'' q h1 h2 h3 h4 => ?_, fun n ob h => ?_⟩
  · show (c.e.set i _).length = (c.σ.set i _).length
    rw [List.length_set, List.length_set]; exact hR.len
  · by_cases e : i = j
    · subst e
      have := (put_self hR h).1
      cases this
    · rw [(put_other e).1] at h
      obtain ⟨x, h1, h2⟩ := hR.val j d h
      exact ⟨x, by rw [(put_other e).2]; exact h1, rep_tr t _ _ h2⟩
  · by_cases e : i = j
    · subst e
      obtain ⟨e1, e2⟩ := put_self hR h'
      cases e1
      exact ⟨p, e2, hb, hn, hm, cell_tr t rfl h⟩
    · rw [(put_other e).1] at h'
      obtain ⟨q, h1, h2, h3, h4, h5⟩ := hR.cell j d' h'
      exact ⟨q, by rw [(put_other e).2]; exact h1, h2, h3.1, h4, cell_tr t rfl h5⟩
  · by_cases ej : i = j
    · by_cases ek : i = k
      · exact ej.symm.trans ek
      · subst ej
        rw [(put_self hR h1).2] at h3
        rw [(put_other ek).1] at h2
        rw [(put_other ek).2] at h4
        cases h3
        exact absurd ⟨k, d'', h2, h4⟩ hc
    · by_cases ek : i = k
      · subst ek
        rw [(put_self hR h2).2] at h4
        rw [(put_other ej).1] at h1
        rw [(put_other ej).2] at h3
        cases h4
        exact absurd ⟨j, d', h1, h3⟩ hc
      · rw [(put_other ej).1] at h1
        rw [(put_other ek).1] at h2
        rw [(put_other ej).2] at h3
        rw [(put_other ek).2] at h4
        exact hR.apart j k d' d'' q h1 h2 h3 h4
  · obtain ⟨a, h1, h2⟩ := hR.sto n ob h
    exact ⟨a, h1, ob_tr t rfl h2⟩
/-- an object that is not clean is changed -/
theorem dirty_tr {o : HO} (hR : Rel Γ B c) (hp : c.isCell p ∨ p ∈ c.M) {c' : Cf} (hM : c'.M = c.M) (hcl : ∀ a, c'.isCell a → c.isCell a) (hH : c'.H = upd c.H p o) : TrC B c B c' := by
  have hf : ∃ u, c.H p = some u ∧ fix u = false := hp.elim (fun h => (hR.cellH h).1) hR.obH
  obtain ⟨u, hu, hfu⟩ := hf
  refine ⟨fun a w h hn => ?_, fun a w h ⟨h1, h2, h3⟩ => ⟨h1, by rw [hM]; exact h2, fun z => h3 (hcl a z)⟩, fun n a h => by rw [hM]; exact h⟩
  rw [hH, upd_ne (fun e => ?_)]
  · exact h
  · subst e
    rcases hn with ⟨_, h2, h3⟩ | hn
    · exact hp.elim h3 h2
    · rw [hu] at h; cases h
      rw [hfu] at hn; cases hn
/-- a cell's list or dict is changed -/
theorem Rel.cellUpd {i : Nat} {d d' : D} {o : HO} (hR : Rel Γ B c) (h0 : c.e[i]? = some (.cell d)) (h1 : c.σ[i]? = some (some (.ref p)))
    (hn : cellAt Γ (Cl B { c with e := c.e.set i (.cell d'), H := upd c.H p o }) c.M (upd c.H p o) d' p) :
    Rel Γ B { c with e := c.e.set i (.cell d'), H := upd c.H p o } := by
  have hcl : ∀ a, ({ c with e := c.e.set i (.cell d'), H := upd c.H p o } : Cf).isCell a → c.isCell a := fun a ⟨j, x, e1, e2⟩ => by
    by_cases e : i = j
    · subst e; exact ⟨i, d, h0, e2⟩
    · rw [show ({ c with e := c.e.set i (.cell d'), H := upd c.H p o } : Cf).e = c.e.set i (.cell d') from rfl, List.getElem?_set_ne e] at e1
      exact ⟨j, x, e1, e2⟩
  have t : TrC B c B { c with e := c.e.set i (.cell d'), H := upd c.H p o } := dirty_tr hR (.inl ⟨i, d, h0, h1⟩) rfl hcl rfl
  have hc := hR.cellH ⟨i, d, h0, h1⟩
  have hl : i < c.e.length := (List.getElem?_eq_some_iff.mp h0).1
  refine ⟨by show (c.e.set i _).length = _; rw [List.length_set]; exact hR.len, fun a h => ?_, fun a u h hm => ?_, hR.mpre, hR.mnew, hR.mnd, hR.mlen, fun j x h => ?_, fun j x h => ?_, fun j k x y q e1 e2 e3 e4 => ?_, fun n ob h => ?_⟩
  · by_cases e : a = p
    · subst e; exact hc.2.1
    · exact hR.new a (by rw [← h]; exact (upd_ne e).symm)
  · show upd c.H p o a = some u
    rw [upd_ne (fun e => by subst e; rw [hc.2.2.2] at h; cases h)]
    exact hR.frame a u h hm
  · by_cases e : i = j
    · subst e
      rw [show ({ c with e := c.e.set i (.cell d'), H := upd c.H p o } : Cf).e = c.e.set i (.cell d') from rfl, List.getElem?_set, if_pos rfl, if_pos hl] at h
      cases h
    · rw [show ({ c with e := c.e.set i (.cell d'), H := upd c.H p o } : Cf).e = c.e.set i (.cell d') from rfl, List.getElem?_set_ne e] at h
      obtain ⟨v, h2, h3⟩ := hR.val j x h
      exact ⟨v, h2, rep_tr t _ _ h3⟩
  · by_cases e : i = j
    · subst e
      rw [show ({ c with e := c.e.set i (.cell d'), H := upd c.H p o } : Cf).e = c.e.set i (.cell d') from rfl, List.getElem?_set, if_pos rfl, if_pos hl] at h
      cases h
      exact ⟨p, h1, hc.2.2.2, hc.2.1, hc.2.2.1, hn⟩
    · rw [show ({ c with e := c.e.set i (.cell d'), H := upd c.H p o } : Cf).e = c.e.set i (.cell d') from rfl, List.getElem?_set_ne e] at h
      obtain ⟨q, h2, h3, h4, h5, h6⟩ := hR.cell j x h
      have hq : q ≠ p := fun z => by subst z; exact e (hR.apart i j d x q h0 h h1 h2)
      exact ⟨q, h2, h3, h4, h5, cell_tr t (upd_ne hq) h6⟩
  · have g : ∀ (m : Nat) z, ({ c with e := c.e.set i (.cell d'), H := upd c.H p o } : Cf).e[m]? = some (.cell z) → ∃ z', c.e[m]? = some (.cell z') := fun m z hz => by
      by_cases e : i = m
      · subst e; exact ⟨d, h0⟩
      · rw [show ({ c with e := c.e.set i (.cell d'), H := upd c.H p o } : Cf).e = c.e.set i (.cell d') from rfl, List.getElem?_set_ne e] at hz
        exact ⟨z, hz⟩
    obtain ⟨x', e1'⟩ := g j x e1
    obtain ⟨y', e2'⟩ := g k y e2
    exact hR.apart j k x' y' q e1' e2' e3 e4
  · obtain ⟨a, h2, h3⟩ := hR.sto n ob h
    exact ⟨a, h2, ob_tr t (upd_ne fun e => hc.2.2.1 (by rw [← e]; exact List.mem_of_getElem? h2)) h3⟩
/-- a boxed list is changed -/
theorem Rel.boxUpd {n : Nat} {ds : List D} {o : HO} {ob : Ob} (hR : Rel Γ B c) (h0 : c.M[n]? = some p) (hl : c.s[n]? = some ob)
    (hn : obAt Γ (Cl B { c with s := c.s.set n (.box ds), H := upd c.H p o }) c.M (upd c.H p o) (.box ds) p) :
    Rel Γ B { c with s := c.s.set n (.box ds), H := upd c.H p o } ∧ TrC B c B { c with s := c.s.set n (.box ds), H := upd c.H p o } := by
  have hpM : p ∈ c.M := List.mem_of_getElem? h0
  have t : TrC B c B { c with s := c.s.set n (.box ds), H := upd c.H p o } := dirty_tr hR (.inr hpM) rfl (fun _ h => h) rfl
  have hne : ∀ q, q ∉ c.M → q ≠ p := fun q h e => by subst e; exact h hpM
  obtain ⟨u, hu, _⟩ := hR.obH hpM
  have hln : n < c.s.length := (List.getElem?_eq_some_iff.mp hl).1
  refine ⟨⟨hR.len, fun a h => ?_, fun a u h hm => ?_, hR.mpre, hR.mnew, hR.mnd, by show _ = (c.s.set n _).length; rw [List.length_set]; exact hR.mlen, fun j x h => ?_, fun j x h => ?_, hR.apart, fun m ob h => ?_⟩, t⟩
  · refine hR.new a ?_
    by_cases e : a = p
    · subst e
      rw [show ({ c with s := c.s.set n (.box ds), H := upd c.H a o } : Cf).H = upd c.H a o from rfl, upd_same] at h; cases h
    · rw [← h]; exact (upd_ne e).symm
  · show upd c.H p o a = some u
    rw [upd_ne (fun e => ?_)]
    · exact hR.frame a u h hm
    · subst e
      rcases hR.mnew a hpM with z | z
      · exact hm z
      · rw [z] at h; cases h
  · obtain ⟨v, h2, h3⟩ := hR.val j x h
    exact ⟨v, h2, rep_tr t _ _ h3⟩
  · obtain ⟨q, h2, h3, h4, h5, h6⟩ := hR.cell j x h
    exact ⟨q, h2, h3, h4, h5, cell_tr t (upd_ne (hne q h5)) h6⟩
  · by_cases e : n = m
    · subst e
      rw [show ({ c with s := c.s.set n (.box ds), H := upd c.H p o } : Cf).s = c.s.set n (.box ds) from rfl, List.getElem?_set, if_pos rfl, if_pos hln] at h
      cases h
      exact ⟨p, h0, hn⟩
    · rw [show ({ c with s := c.s.set n (.box ds), H := upd c.H p o } : Cf).s = c.s.set n (.box ds) from rfl, List.getElem?_set_ne e] at h
      obtain ⟨a, h2, h3⟩ := hR.sto m ob h
      refine ⟨a, h2, ob_tr t (upd_ne fun z => e ?_) h3⟩
      subst z
      exact (List.getElem?_inj (List.getElem?_eq_some_iff.mp h0).1 hR.mnd).mp (h0.trans h2.symm)
/-- a new boxed list -/
theorem Rel.boxNew {ds : List D} {vs : List V} (hR : Rel Γ B c) (hp : c.H p = none) (hb : B.Hb p = none) (hd : Γ.Rs B c ds vs) :
    Rel Γ B { c with s := c.s ++ [.box ds], M := c.M ++ [p], H := upd c.H p (.lst vs) } ∧ TrC B c B { c with s := c.s ++ [.box ds], M := c.M ++ [p], H := upd c.H p (.lst vs) } := by
  have pM : p ∉ c.M := fun h => by obtain ⟨u, hu, _⟩ := hR.obH h; rw [hp] at hu; cases hu
  have t : TrC B c B { c with s := c.s ++ [.box ds], M := c.M ++ [p], H := upd c.H p (.lst vs) } := ⟨fun a u h _ => by
      show upd c.H p _ a = some u
      rw [upd_ne (ne_of_none h hp)]; exact h,
    fun a u h ⟨n1, n2, n3⟩ => ⟨n1, fun z => by
      rcases List.mem_append.mp z with z | z
      · exact n2 z
      · rw [List.mem_singleton] at z; exact ne_of_none h hp z, n3⟩, fun n a h => by
      show (c.M ++ [p])[n]? = some a
      rw [List.getElem?_append_left (List.getElem?_eq_some_iff.mp h).1]; exact h⟩
  refine ⟨⟨hR.len, fun a h => ?_, fun a u h hm => ?_, fun n a h => t.pre n a (hR.mpre n a h), fun a h => ?_, ?_, by show (c.M ++ [p]).length = (c.s ++ [_]).length; rw [List.length_append, List.length_append, hR.mlen]; rfl, fun j x h => ?_, fun j x h => ?_, hR.apart, fun m ob h => ?_⟩, t⟩
  · by_cases e : a = p
    · subst e; exact hR.new a hp
    · exact hR.new a (by rw [← h]; exact (upd_ne e).symm)
  · show upd c.H p _ a = some u
    have := hR.frame a u h hm
    rw [upd_ne (ne_of_none this hp)]; exact this
  · rcases List.mem_append.mp h with z | z
    · exact hR.mnew a z
    · rw [List.mem_singleton] at z; subst z; exact .inr hb
  · exact List.nodup_append.mpr ⟨hR.mnd, by simp, fun a h b h' e => by rw [List.mem_singleton] at h'; subst h'; subst e; exact pM h⟩
  · obtain ⟨v, h2, h3⟩ := hR.val j x h
    exact ⟨v, h2, rep_tr t _ _ h3⟩
  · obtain ⟨q, h2, h3, h4, h5, h6⟩ := hR.cell j x h
    obtain ⟨u, hu, _⟩ := cell_some h6
    refine ⟨q, h2, h3, h4, fun z => ?_, cell_tr t (upd_ne (ne_of_none hu hp)) h6⟩
    rcases List.mem_append.mp z with z | z
    · exact h5 z
    · rw [List.mem_singleton] at z; exact ne_of_none hu hp z
  · by_cases e : m < c.s.length
    · rw [show ({ c with s := c.s ++ [.box ds], M := c.M ++ [p], H := upd c.H p (.lst vs) } : Cf).s = c.s ++ [.box ds] from rfl, List.getElem?_append_left e] at h
      obtain ⟨a, h2, h3⟩ := hR.sto m ob h
      obtain ⟨u, hu, _⟩ := ob_some h3
      exact ⟨a, t.pre m a h2, ob_tr t (upd_ne (ne_of_none hu hp)) h3⟩
    · rw [show ({ c with s := c.s ++ [.box ds], M := c.M ++ [p], H := upd c.H p (.lst vs) } : Cf).s = c.s ++ [.box ds] from rfl, List.getElem?_append_right (by omega)] at h
      have e2 : m - c.s.length = 0 := by
        have := (List.getElem?_eq_some_iff.mp h).1
        simp at this; omega
      rw [e2] at h
      cases h
      refine ⟨p, ?_, vs, upd_same, reps_tr t _ _ hd⟩
      show (c.M ++ [p])[m]? = some p
      rw [List.getElem?_append_right (by rw [hR.mlen]; omega), hR.mlen, e2]; rfl
end
end IL

set_option Elab.async false
set_option linter.all false
set_option maxRecDepth 100000
set_option maxHeartbeats 1000000
namespace IL
open PySem L2

section
variable {Γ : Gm} {B B' : Bs} {c c' c1 c2 : Cf} {d : D} {p : Addr} {v : V} {fr : Bool} {W : WX}
theorem Rel.fresh (hR : Rel Γ B c) {p : Addr} (hp : c.H p = none) : B.Hb p = none ∧ B.N p ∧ p ∉ c.M ∧ ¬ c.isCell p := by
  have pM : p ∉ c.M := fun h => by obtain ⟨u, hu, _⟩ := hR.obH h; rw [hp] at hu; cases hu
  refine ⟨?_, hR.new p hp, pM, fun h => by obtain ⟨⟨u, hu, _⟩, _⟩ := hR.cellH h; rw [hp] at hu; cases hu⟩
  cases e : B.Hb p with
  | none => rfl
  | some o =>
    by_cases hm : p ∈ B.Mb
    · obtain ⟨n, hn⟩ := List.getElem?_of_mem hm
      exact absurd (List.mem_of_getElem? (hR.mpre n p hn)) pM
    · rw [hR.frame p o e hm] at hp; cases hp
/-- what a value's evaluation leaves -/
def Post (Γ : Gm) (B : Bs) (c : Cf) (d : D) (fr : Bool) (v : V) : Prop :=
  Γ.R B c d v ∧ (fr = true → ∃ p, v = .ref p ∧ B.Hb p = none ∧ B.N p ∧ p ∉ c.M ∧ Rel Γ (B.ne p) c ∧ cellAt Γ (Cl (B.ne p) c) c.M c.H d p)
def Run {α : Type} (Γ : Gm) (B : Bs) (c : Cf) (W : WX) (r : R α) (K : α → Cf → Prop) : Prop := match r with
  | .ok a w => ∀ c' : Cf, c'.e = w.e → c'.s = w.s → c'.σ = c.σ → Rel Γ B c' → TrC B c B c' → K a c'
  | .exn x o w => ∀ (c' : Cf) cls dd, c'.e = w.e → c'.s = w.s → c'.σ = c.σ → Rel Γ B c' → TrC B c B c' → Γ.xr x o (Cl B c') c'.M c'.H cls dd → W cls dd c'.σ c'.H
  | .bad => False
abbrev Cf.w (c : Cf) : Wd := ⟨c.e, c.s⟩
theorem Run.imp {α : Type} {r : R α} {K K' : α → Cf → Prop} (h : Run Γ B c W r K) (hk : ∀ a c', c'.σ = c.σ → Rel Γ B c' → TrC B c B c' → K a c' → K' a c') : Run Γ B c W r K' := by
  cases r with
  | ok a w => exact fun c' e1 e2 e3 R t => hk a c' e3 R t (h c' e1 e2 e3 R t)
  | exn x o w => exact h
  | bad => exact h
theorem Run.from {α : Type} {r : R α} {K : α → Cf → Prop} (h : Run Γ B c W r K) (hσ : c1.σ = c.σ) (t : TrC B c B c1) : Run Γ B c1 W r K := by
  cases r with
  | ok a w => exact fun c' e1 e2 e3 R t' => h c' e1 e2 (e3.trans hσ) R (t.trans t')
  | exn x o w => exact fun c' cls dd e1 e2 e3 R t' q => h c' cls dd e1 e2 (e3.trans hσ) R (t.trans t') q
  | bad => exact h
theorem Run.bind {α β : Type} {r : R α} {k : α → Wd → R β} {K : β → Cf → Prop} (h : Run Γ B c W (r.bind k) K) : Run Γ B c W r fun a c1 => Run Γ B c1 W (k a c1.w) K := by
  cases r with
  | ok a w =>
    intro c1 e1 e2 e3 R t
    have e : c1.w = w := by unfold Cf.w; rw [e1, e2]
    rw [e]
    exact Run.from h e3 t
  | exn x o w => exact h
  | bad => exact h
theorem Run.okI {α : Type} {a : α} {K : α → Cf → Prop} (h : Run Γ B c W (.ok a c.w) K) (hR : Rel Γ B c) : K a c := h c rfl rfl rfl hR .refl
theorem Run.opt {α β : Type} {o : Option α} {k : α → Wd → R β} {K : β → Cf → Prop} (h : Run Γ B c W ((R.opt o c.w).bind k) K) : ∃ a, o = some a ∧ Run Γ B c W (k a c.w) K := by
  cases o with
  | none => exact False.elim h
  | some a => exact ⟨a, rfl, h⟩
/-- the readings -/
def tE (Γ : Gm) (W : WX) (r : Wd → R (D × Bool)) : TE := fun σ H Q => ∃ B c, c.σ = σ ∧ c.H = H ∧ Rel Γ B c ∧ Run Γ B c W (r c.w) fun x c' => ∀ v, Post Γ B c' x.1 x.2 v → Q v c'.H
def tA (Γ : Gm) (W : WX) (r : Wd → R (List D)) : TA := fun σ H Q => ∃ B c, c.σ = σ ∧ c.H = H ∧ Rel Γ B c ∧ Run Γ B c W (r c.w) fun ds c' => ∀ vs, Γ.Rs B c' ds vs → Q vs c'.H
def tT (Γ : Gm) (W : WX) (r : Wd → R Bool) : TT := fun σ H Q => ∃ B c, c.σ = σ ∧ c.H = H ∧ Rel Γ B c ∧ Run Γ B c W (r c.w) fun b c' => Q b c'.H
def tO (Γ : Gm) (W : WX) (r : Wd → R (Option Int)) : TO := fun σ H Q => ∃ B c, c.σ = σ ∧ c.H = H ∧ Rel Γ B c ∧ Run Γ B c W (r c.w) fun b c' => Q b c'.H
/-- how a value is handed on -/
def Fin (Γ : Gm) (B : Bs) (c : Cf) (d : D) (fr : Bool) (Q : VK) : Prop := ∀ v c', c'.e = c.e → c'.s = c.s → c'.σ = c.σ → Rel Γ B c' → TrC B c B c' → Post Γ B c' d fr v → Q v c'.H
theorem Fin.of {Q : VK} (h : Run Γ B c W (.ok (d, fr) c.w) fun x c' => ∀ v, Post Γ B c' x.1 x.2 v → Q v c'.H) : Fin Γ B c d fr Q := fun v c' e1 e2 e3 R t P => h c' e1 e2 e3 R t v P
variable {Q : VK} {ds : List D} {vs : List V}
theorem Fin.val (h : Fin Γ B c d false Q) (hR : Rel Γ B c) (hv : Γ.R B c d v) : Q v c.H := h v c rfl rfl rfl hR .refl ⟨hv, fun e => nomatch e⟩
theorem Fin.int {i : Int} (h : Fin Γ B c (.int i) false Q) (hR : Rel Γ B c) : Q (.int i) c.H := h.val hR rfl
theorem Fin.bl {b : Bool} (h : Fin Γ B c (.bl b) false Q) (hR : Rel Γ B c) : Q (.bl b) c.H := h.val hR rfl
theorem Fin.lst (h : Fin Γ B c (.lst ds) fr Q) (hR : Rel Γ B c) (hv : Γ.Rs B c ds vs) (hp : c.H p = none) : Q (.ref p) (upd c.H p (.lst vs)) := by
  obtain ⟨R1, t1⟩ := hR.alloc hp (.lst vs)
  have f := hR.fresh hp
  have g : Γ.Rs (B.ne p) { c with H := upd c.H p (.lst vs) } ds vs := reps_tr t1 _ _ hv
  refine h (.ref p) { c with H := upd c.H p (.lst vs) } rfl rfl rfl R1.weaken (t1.trans tr_weaken) ⟨?_, fun _ => ⟨p, rfl, f.1, f.2.1, f.2.2.1, R1, vs, upd_same, g⟩⟩
  exact ⟨p, vs, rfl, upd_same, ⟨f.2.1, f.2.2.1, fun z => f.2.2.2 z⟩, reps_tr tr_weaken _ _ g⟩
theorem Fin.dct {ks : List Key} (h : Fin Γ B c (.dct ks ds) fr Q) (hR : Rel Γ B c) (hl : ks.length = ds.length) (hv : Γ.Rs B c ds vs) (hp : c.H p = none) : Q (.ref p) (upd c.H p (.dK (ks.zip vs))) := by
  obtain ⟨R1, t1⟩ := hR.alloc hp (.dK (ks.zip vs))
  have f := hR.fresh hp
  have g : Γ.Rs (B.ne p) { c with H := upd c.H p (.dK (ks.zip vs)) } ds vs := reps_tr t1 _ _ hv
  refine h (.ref p) { c with H := upd c.H p (.dK (ks.zip vs)) } rfl rfl rfl R1.weaken (t1.trans tr_weaken) ⟨?_, fun _ => ⟨p, rfl, f.1, f.2.1, f.2.2.1, R1, vs, upd_same, hl, g⟩⟩
  exact ⟨p, vs, rfl, upd_same, ⟨f.2.1, f.2.2.1, fun z => f.2.2.2 z⟩, hl, reps_tr tr_weaken _ _ g⟩
theorem Fin.tup (h : Fin Γ B c (.tup ds) false Q) (hR : Rel Γ B c) (hv : Γ.Rs B c ds vs) (hp : c.H p = none) : Q (.ref p) (upd c.H p (.tup vs)) := by
  obtain ⟨R1, t1⟩ := hR.alloc hp (.tup vs)
  refine h (.ref p) { c with H := upd c.H p (.tup vs) } rfl rfl rfl R1.weaken (t1.trans tr_weaken) ⟨?_, fun e => nomatch e⟩
  exact ⟨p, vs, rfl, SqT.of upd_same, reps_tr (t1.trans tr_weaken) _ _ hv⟩
/-! ### lists of values by their trees -/
section
variable {K : PySem.W.Frag} {CB : Cb} {N : Addr → Prop} {M : List Addr} {H : Hp}
theorem reps_len : ∀ {ds : List D} {vs : List V}, reps K CB N M H ds vs → vs.length = ds.length
  | [], vs, h => by unfold reps at h; rw [h]; rfl
  | d :: ds, vs, h => by
    unfold reps at h
    obtain ⟨v, ws, rfl, _, h2⟩ := h
    rw [List.length_cons, List.length_cons, reps_len h2]
theorem reps_append : ∀ {ds es : List D} {vs ws : List V}, reps K CB N M H ds vs → reps K CB N M H es ws → reps K CB N M H (ds ++ es) (vs ++ ws)
  | [], es, vs, ws, h, g => by unfold reps at h; rw [h]; exact g
  | d :: ds, es, vs, ws, h, g => by
    unfold reps at h
    obtain ⟨v, us, rfl, h1, h2⟩ := h
    show reps K CB N M H (d :: (ds ++ es)) _
    unfold reps
    exact ⟨v, us ++ ws, rfl, h1, reps_append h2 g⟩
theorem reps_get : ∀ {ds : List D} {vs : List V} {i : Nat} {d : D}, reps K CB N M H ds vs → ds[i]? = some d → ∃ v, vs[i]? = some v ∧ rep K CB N M H d v
  | [], _, _, _, _, e => by simp at e
  | d :: ds, vs, 0, x, h, e => by
    unfold reps at h
    obtain ⟨v, us, rfl, h1, h2⟩ := h
    simp at e; subst e
    exact ⟨v, rfl, h1⟩
  | d :: ds, vs, i + 1, x, h, e => by
    unfold reps at h
    obtain ⟨v, us, rfl, h1, h2⟩ := h
    obtain ⟨u, e1, e2⟩ := reps_get (i := i) h2 (by simpa using e)
    exact ⟨u, by simpa using e1, e2⟩
theorem reps_set : ∀ {ds : List D} {vs : List V} {i : Nat} {d : D} {v : V}, reps K CB N M H ds vs → rep K CB N M H d v → reps K CB N M H (ds.set i d) (vs.set i v)
  | [], vs, i, d, v, h, g => by unfold reps at h; subst h; simp [reps]
  | x :: ds, vs, 0, d, v, h, g => by
    unfold reps at h
    obtain ⟨u, us, rfl, h1, h2⟩ := h
    show reps K CB N M H (d :: ds) (v :: us)
    unfold reps; exact ⟨v, us, rfl, g, h2⟩
  | x :: ds, vs, i + 1, d, v, h, g => by
    unfold reps at h
    obtain ⟨u, us, rfl, h1, h2⟩ := h
    show reps K CB N M H (x :: ds.set i d) (u :: us.set i v)
    unfold reps; exact ⟨u, _, rfl, h1, reps_set h2 g⟩
theorem reps_take : ∀ {ds : List D} {vs : List V} (n : Nat), reps K CB N M H ds vs → reps K CB N M H (ds.take n) (vs.take n)
  | ds, vs, 0, h => by simp [reps]
  | [], vs, n + 1, h => by unfold reps at h; subst h; simp [reps]
  | d :: ds, vs, n + 1, h => by
    unfold reps at h
    obtain ⟨u, us, rfl, h1, h2⟩ := h
    show reps K CB N M H (d :: ds.take n) (u :: us.take n)
    unfold reps; exact ⟨u, _, rfl, h1, reps_take n h2⟩
theorem reps_drop : ∀ {ds : List D} {vs : List V} (n : Nat), reps K CB N M H ds vs → reps K CB N M H (ds.drop n) (vs.drop n)
  | ds, vs, 0, h => by simpa using h
  | [], vs, n + 1, h => by unfold reps at h; subst h; simp [reps]
  | d :: ds, vs, n + 1, h => by
    unfold reps at h
    obtain ⟨u, us, rfl, h1, h2⟩ := h
    show reps K CB N M H (ds.drop n) (us.drop n)
    exact reps_drop n h2
theorem reps_erase : ∀ {ds : List D} {vs : List V} (n : Nat), reps K CB N M H ds vs → reps K CB N M H (ds.eraseIdx n) (vs.eraseIdx n)
  | [], vs, n, h => by unfold reps at h; subst h; simp [reps]
  | d :: ds, vs, 0, h => by
    unfold reps at h
    obtain ⟨u, us, rfl, h1, h2⟩ := h
    exact h2
  | d :: ds, vs, n + 1, h => by
    unfold reps at h
    obtain ⟨u, us, rfl, h1, h2⟩ := h
    show reps K CB N M H (d :: ds.eraseIdx n) (u :: us.eraseIdx n)
    unfold reps; exact ⟨u, _, rfl, h1, reps_erase n h2⟩
theorem reps_reverse : ∀ {ds : List D} {vs : List V}, reps K CB N M H ds vs → reps K CB N M H ds.reverse vs.reverse
  | [], vs, h => by unfold reps at h; subst h; simp [reps]
  | d :: ds, vs, h => by
    unfold reps at h
    obtain ⟨u, us, rfl, h1, h2⟩ := h
    rw [List.reverse_cons, List.reverse_cons]
    refine reps_append (reps_reverse h2) ?_
    unfold reps; exact ⟨u, [], rfl, h1, by unfold reps; rfl⟩
theorem reps_cut {ds : List D} {vs : List V} (lo hi : Option Int) (h : reps K CB N M H ds vs) : reps K CB N M H (cut ds lo hi) (L2.cutV vs lo hi) := by
  have e := reps_len h
  unfold cut L2.cutV
  rw [e]
  exact reps_take _ (reps_drop _ h)
theorem reps_rep {ds : List D} {vs : List V} (h : reps K CB N M H ds vs) : ∀ n : Nat, reps K CB N M H (List.replicate n ds).flatten (List.replicate n vs).flatten
  | 0 => by simp [reps]
  | n + 1 => by
    rw [List.replicate_succ, List.replicate_succ, List.flatten_cons, List.flatten_cons]
    exact reps_append h (reps_rep h n)
theorem reps_ints : ∀ (ns : List Int), reps K CB N M H (ns.map .int) (ns.map V.int)
  | [] => by simp [reps]
  | n :: ns => by
    show reps K CB N M H (.int n :: ns.map .int) (V.int n :: ns.map V.int)
    unfold reps; exact ⟨_, _, rfl, rfl, reps_ints ns⟩
theorem ints_reps : ∀ {ds : List D} {ns : List Int} {vs : List V}, intsOf ds = some ns → reps K CB N M H ds vs → vs = ns.map V.int
  | [], ns, vs, e, h => by unfold reps at h; simp [intsOf] at e; subst e; exact h
  | d :: ds, ns, vs, e, h => by
    cases d <;> simp [intsOf] at e
    rename_i i
    obtain ⟨ms, e1, rfl⟩ := e
    unfold reps at h
    obtain ⟨u, us, rfl, h1, h2⟩ := h
    rw [ints_reps e1 h2]
    have : u = V.int i := h1
    rw [this]; rfl
theorem bools_reps : ∀ {ds : List D} {ns : List Bool} {vs : List V}, boolsOf ds = some ns → reps K CB N M H ds vs → vs = ns.map V.bl
  | [], ns, vs, e, h => by unfold reps at h; simp [boolsOf] at e; subst e; exact h
  | d :: ds, ns, vs, e, h => by
    cases d <;> simp [boolsOf] at e
    rename_i i
    obtain ⟨ms, e1, rfl⟩ := e
    unfold reps at h
    obtain ⟨u, us, rfl, h1, h2⟩ := h
    rw [bools_reps e1 h2]
    have : u = V.bl i := h1
    rw [this]; rfl
mutual
theorem py_dp : ∀ {d : D} {x : PyData} {v : V}, d.py = some x → rep K CB N M H d v → Dp K H v x
  | .non, x, v, e, h => by simp [D.py] at e; subst e; have : v = V.non := h; subst this; exact .non
  | .bl b, x, v, e, h => by simp [D.py] at e; subst e; have : v = V.bl b := h; subst this; exact .bl b
  | .int b, x, v, e, h => by simp [D.py] at e; subst e; have : v = V.int b := h; subst this; exact .int b
  | .str b, x, v, e, h => by simp [D.py] at e; subst e; have : v = V.str b := h; subst this; exact .str b
  | .tup ds, x, v, e, h => by
    unfold D.py at e
    split at e
    · rename_i xs hx
      cases e
      unfold rep at h
      obtain ⟨a, vs, rfl, h1, h2⟩ := h
      exact .tup h1 (pys_dp hx h2)
    · cases e
  | .lst ds, x, v, e, h => by
    unfold D.py at e
    split at e
    · rename_i xs hx
      cases e
      unfold rep at h
      obtain ⟨a, vs, rfl, h1, _, h2⟩ := h
      exact .lst (SqL.of h1) (pys_dp hx h2)
    · cases e
  | .dct _ _, _, _, e, _ => by simp [D.py] at e
  | .book _ _, _, _, e, _ => by simp [D.py] at e
  | .ref _, _, _, e, _ => by simp [D.py] at e
  | .scr _, _, _, e, _ => by simp [D.py] at e
  | .me, _, _, e, _ => by simp [D.py] at e
theorem pys_dp : ∀ {ds : List D} {xs : List PyData} {vs : List V}, D.pys ds = some xs → reps K CB N M H ds vs → DpAll K H vs xs
  | [], xs, vs, e, h => by simp [D.pys] at e; subst e; unfold reps at h; subst h; exact .nil
  | d :: ds, xs, vs, e, h => by
    unfold D.pys at e
    split at e
    · rename_i x xs' h1 h2
      cases e
      unfold reps at h
      obtain ⟨u, us, rfl, g1, g2⟩ := h
      exact .cons (py_dp h1 g1) (pys_dp h2 g2)
    · cases e
end
end
end
/-! ### deep equality -/
mutual
theorem ok_py : ∀ (n : Nat) (d : D), D.ok n d = true → ∃ x, d.py = some x ∧ x.canLay0 = true ∧ x.depth ≤ n
  | n, .non, _ => ⟨_, rfl, rfl, by simp [PyData.depth]⟩
  | n, .bl _, _ => ⟨_, rfl, rfl, by simp [PyData.depth]⟩
  | n, .int _, _ => ⟨_, rfl, rfl, by simp [PyData.depth]⟩
  | n, .str x, h => ⟨_, rfl, by simpa [PyData.canLay0, D.ok] using h, by simp [PyData.depth]⟩
  | 0, .tup ds, h => by simp [D.ok] at h
  | 0, .lst ds, h => by simp [D.ok] at h
  | n + 1, .tup ds, h => by
    obtain ⟨xs, h1, h2, h3⟩ := oks_py n ds (by simpa [D.ok] using h)
    exact ⟨.tuple xs, by simp [D.py, h1], by simpa [PyData.canLay0] using h2, by simp only [PyData.depth]; omega⟩
  | n + 1, .lst ds, h => by
    obtain ⟨xs, h1, h2, h3⟩ := oks_py n ds (by simpa [D.ok] using h)
    exact ⟨.list xs, by simp [D.py, h1], by simpa [PyData.canLay0] using h2, by simp only [PyData.depth]; omega⟩
  | n, .dct _ _, h => by cases n <;> simp [D.ok] at h
  | n, .book _ _, h => by cases n <;> simp [D.ok] at h
  | n, .ref _, h => by cases n <;> simp [D.ok] at h
  | n, .scr _, h => by cases n <;> simp [D.ok] at h
  | n, .me, h => by cases n <;> simp [D.ok] at h
theorem oks_py : ∀ (n : Nat) (ds : List D), D.oks n ds = true → ∃ xs, D.pys ds = some xs ∧ PyData.canLayAll0 xs = true ∧ PyData.depthAll xs ≤ n
  | n, [], _ => ⟨[], rfl, rfl, by simp [PyData.depthAll]⟩
  | n, d :: ds, h => by
    simp only [D.oks, Bool.and_eq_true] at h
    obtain ⟨x, h1, h2, h3⟩ := ok_py n d h.1
    obtain ⟨xs, g1, g2, g3⟩ := oks_py n ds h.2
    exact ⟨x :: xs, by simp [D.pys, h1, g1], by simp [PyData.canLayAll0, h2, g2], by simp only [PyData.depthAll]; omega⟩
end
theorem eqv_eq {d e : D} {x y : PyData} (h : d.py = some x) (g : e.py = some y) : PyData.eqv x y = eqD d e := by unfold eqD; rw [h, g]
theorem eqvs_eq {ds es : List D} {xs ys : List PyData} (h : D.pys ds = some xs) (g : D.pys es = some ys) : PyData.eqvAll xs ys = eqDs ds es := by unfold eqDs; rw [h, g]
theorem shaped_ok {d : D} (h : D.ok 60 d = true) : ∃ x, d.py = some x ∧ SeqAt.shaped x = true := by
  obtain ⟨x, h1, h2, h3⟩ := ok_py 60 d h
  exact ⟨x, h1, by unfold SeqAt.shaped; rw [h2, decide_eq_true (by omega)]; rfl⟩
end IL

set_option Elab.async false
set_option linter.all false
set_option maxRecDepth 100000
set_option maxHeartbeats 1000000
namespace IL
open PySem L2

theorem lim_le {n : Nat} (h : n ≤ lim) : n ≤ sizeLine := Nat.le_trans h (by decide)
section
variable {Γ : Gm} {B : Bs} {c : Cf} {d d1 d2 : D} {v v1 v2 : V} {fr : Bool} {Q : VK} {X : Cx}
/-- read where it stands: a value, or a list or dict of a slot's own -/
def Gm.T (Γ : Gm) (B : Bs) (c : Cf) (d : D) (v : V) : Prop := match d with
  | .lst ds => ∃ a vs, v = .ref a ∧ c.H a = some (.lst vs) ∧ Γ.Rs B c ds vs
  | .dct ks ds => ∃ a vs, v = .ref a ∧ c.H a = some (.dK (ks.zip vs)) ∧ ks.length = ds.length ∧ Γ.Rs B c ds vs
  | d => Γ.R B c d v
theorem T_of (h : Γ.R B c d v) : Γ.T B c d v := by
  cases d <;> first | exact h | (obtain ⟨a, vs, e, h1, h2, h3⟩ := h; exact ⟨a, vs, e, h1, h3⟩)
theorem T_cell {p : Addr} (h : cellAt Γ (Cl B c) c.M c.H d p) : Γ.T B c d (.ref p) := by
  cases d <;> first | exact False.elim h | (obtain ⟨vs, h1, h2⟩ := h; exact ⟨p, vs, rfl, h1, h2⟩)
theorem T_dp {x : PyData} (e : d.py = some x) (h : Γ.T B c d v) : Dp Γ.K c.H v x := by
  cases d with
  | lst ds =>
    obtain ⟨a, vs, rfl, h1, h2⟩ := h
    unfold D.py at e
    split at e
    · rename_i xs hx
      cases e
      exact .lst (SqL.of h1) (pys_dp hx h2)
    · cases e
  | dct ks ds => simp [D.py] at e
  | _ => exact py_dp (K := Γ.K) (CB := Γ.CB) (N := Cl B c) (M := c.M) (H := c.H) e h
theorem T_flat (f : IL.flatD d = true) (h : Γ.T B c d v) : Γ.R B c d v := by
  cases d <;> first | exact h | (simp [IL.flatD] at f)
/-! ### two-place operators -/
def rNo : R2 := fun _ _ _ _ => False
def rAddA (K : PySem.W.Frag) : R2 := fun x y H Q => (∃ i j, x = .int i ∧ y = .int j ∧ Q (.int (i + j)) H) ∨ (∃ i j, x = .str i ∧ y = .str j ∧ i.length + j.length ≤ sizeLine ∧ Q (.str (i ++ j)) H) ∨ rCatA K x y H Q ∨ rCat x y H Q
theorem op_addA : OpR X (binaryOp .Add) (rAddA X.K) := OpR.or (r := rI0 fun i j => .int (i + j)) op_add (OpR.or op_add_str (OpR.or op_catA op_cat))
def rMulA : R2 := fun x y H Q => (rI CMul fun i j => .int (i * j)) x y H Q ∨ rRep x y H Q
theorem op_mulA : OpR X (binaryOp .Mult) rMulA := OpR.or op_mul op_rep
def rBin (K : PySem.W.Frag) : BOp → R2
  | .add => rAddA K
  | .sub => rI0 fun i j => .int (i - j)
  | .mul => rMulA
  | .mod => rI (fun _ j => 0 < j) fun i j => .int (i % j)
  | .fdiv => rI CDiv fun i j => .int (i / j)
  | .pow => rI CPow fun i j => .int (i ^ j.toNat)
def pyBin : BOp → Operator
  | .add => .Add
  | .sub => .Sub
  | .mul => .Mult
  | .mod => .Mod
  | .fdiv => .FloorDiv
  | .pow => .Pow
theorem op_bin (o : BOp) : OpR X (binaryOp (pyBin o)) (rBin X.K o) := by
  cases o
  · exact op_addA
  · exact op_sub
  · exact op_mulA
  · exact op_mod
  · exact op_fdiv
  · exact op_pow
theorem fit_bin {o : BOp} (hR : Rel Γ B c) (h1 : Γ.R B c d1 v1) (h2 : Γ.R B c d2 v2) (h : binD o d1 d2 = some d) (F : Fin Γ B c d (isFr d) Q) : rBin Γ.K o v1 v2 c.H Q := by
  unfold binD at h
  split at h
  · cases h; cases h1; cases h2
    exact .inl ⟨_, _, rfl, rfl, F.int hR⟩
  · split at h <;> cases h
    cases h1; cases h2
    rename_i hz
    exact .inr (.inl ⟨_, _, rfl, rfl, lim_le hz, F.val hR rfl⟩)
  · rename_i da db
    split at h <;> cases h
    rename_i hz
    obtain ⟨a, xs, rfl, g1, g2⟩ := h1
    obtain ⟨b, ys, rfl, k1, k2⟩ := h2
    have l1 := reps_len g2
    have l2 := reps_len k2
    refine .inr (.inr (.inl ⟨a, b, xs, ys, rfl, rfl, g1, k1, lim_le (by rw [l1, l2]; exact hz), fun e => ?_, fun _ e => ?_, fun _ _ p hp => F.tup hR (reps_append g2 k2) hp⟩))
    · have e0 : da = [] := List.length_eq_zero_iff.mp (by rw [← l1, e]; rfl)
      subst e0
      exact F.val hR ⟨b, ys, rfl, k1, k2⟩
    · have e0 : db = [] := List.length_eq_zero_iff.mp (by rw [← l2, e]; rfl)
      subst e0
      refine F.val hR ⟨a, xs, rfl, g1, ?_⟩
      rw [List.append_nil]; exact g2
  · split at h <;> cases h
    rename_i hz
    obtain ⟨a, xs, rfl, g1, _, g2⟩ := h1
    obtain ⟨b, ys, rfl, k1, _, k2⟩ := h2
    exact .inr (.inr (.inr ⟨a, b, xs, ys, rfl, rfl, g1, k1, lim_le (by rw [reps_len g2, reps_len k2]; exact hz), fun p hp => F.lst hR (reps_append g2 k2) hp⟩))
  · cases h; cases h1; cases h2
    exact ⟨_, _, rfl, rfl, F.int hR⟩
  · split at h <;> cases h
    rename_i hz
    cases h1; cases h2
    exact .inl ⟨_, _, rfl, rfl, hz.symm, F.int hR⟩
  · rename_i da kk
    split at h <;> cases h
    rename_i hz
    obtain ⟨a, xs, rfl, g1, _, g2⟩ := h1
    cases h2
    obtain ⟨z1, z2, z3⟩ := hz
    rw [← reps_len g2] at z3
    refine .inr ⟨a, _, xs, rfl, rfl, g1, by omega, by omega, ?_, fun p hp => F.lst hR (reps_rep g2 _) hp⟩
    have z4 : kk.toNat ≤ 1000 := by omega
    exact lim_le (Nat.le_trans (Nat.mul_le_mul z3 z4) (by decide))
  · split at h <;> cases h
    rename_i hz
    cases h1; cases h2
    exact ⟨_, _, rfl, rfl, hz, F.int hR⟩
  · split at h <;> cases h
    rename_i hz
    cases h1; cases h2
    exact ⟨_, _, rfl, rfl, ⟨hz.1, hz.2⟩, F.int hR⟩
  · split at h <;> cases h
    rename_i hz
    cases h1; cases h2
    exact ⟨_, _, rfl, rfl, ⟨hz.1, by omega, by have := hz.2.2; omega⟩, F.int hR⟩
  · cases h
/-! ### comparisons -/
def pyCmp : COp → CmpOp
  | .eq => .Eq | .ne => .NotEq | .lt => .Lt | .le => .LtE | .gt => .Gt | .ge => .GtE | .isin => .In | .notin => .NotIn | .is => .Is | .isnot => .IsNot
/-- an own == (books), by hand -/
def rBook (Γ : Gm) : R2 := fun x y H Q => ∃ B c ds rs e k, c.H = H ∧ Rel Γ B c ∧ Γ.R B c (.book ds rs) x ∧ Γ.T B c e y ∧ eqB ds rs e = some k ∧ Q (.bl k) H
def rIsA : R2 := fun x y H Q => (y = .non ∧ Q (.bl (decide (x = .non))) H) ∨ rIsB x y H Q
def rIsnA : R2 := fun x y H Q => (y = .non ∧ Q (.bl (!decide (x = .non))) H) ∨ rNotB x y H Q
theorem op_isA : OpR X (compareOp .Is) rIsA := OpR.or op_isN op_isBl
theorem op_isnA : OpR X (compareOp .IsNot) rIsnA := OpR.or op_notN op_notBl
def rCmp (Γ : Gm) : COp → R2
  | .eq => fun x y H Q => rEq x y H Q ∨ rEqD Γ.K x y H Q ∨ rBook Γ x y H Q
  | .ne => fun x y H Q => rNe x y H Q ∨ rNeD Γ.K x y H Q
  | .lt => rI0 fun i j => .bl (decide (i < j))
  | .le => rI0 fun i j => .bl (decide (i ≤ j))
  | .gt => rI0 fun i j => .bl (decide (j < i))
  | .ge => rI0 fun i j => .bl (decide (j ≤ i))
  | .isin => fun x y H Q => rIn Γ.K false x y H Q ∨ rInD Γ.K x y H Q ∨ ∃ a kvs k, y = .ref a ∧ H a = some (.dK kvs) ∧ x = kV k ∧ Q (.bl (valV kvs k).isSome) H
  | .notin => fun x y H Q => rIn Γ.K true x y H Q ∨ rNotInD Γ.K x y H Q ∨ ∃ a kvs k, y = .ref a ∧ H a = some (.dK kvs) ∧ x = kV k ∧ Q (.bl (!(valV kvs k).isSome)) H
  | .is => rIsA
  | .isnot => rIsnA
/-- the answer, handed on -/
def FinB (Γ : Gm) (B : Bs) (c : Cf) (k : Bool) (Q : VK) : Prop := ∀ c', c'.e = c.e → c'.s = c.s → c'.σ = c.σ → Rel Γ B c' → TrC B c B c' → Q (.bl k) c'.H
theorem FinB.now {k : Bool} (F : FinB Γ B c k Q) (hR : Rel Γ B c) : Q (.bl k) c.H := F c rfl rfl rfl hR .refl
theorem flat_rep {K : PySem.W.Frag} {CB : Cb} {N : Addr → Prop} {M : List Addr} {H : Hp} {d : D} {v : V} (h : rep K CB N M H d v) (f : IL.flatD d = true) : L2.flatV v = true := by
  cases d <;> simp [IL.flatD] at f <;> (have h' := h; cases h'; rfl)
theorem flats_reps {K : PySem.W.Frag} {CB : Cb} {N : Addr → Prop} {M : List Addr} {H : Hp} : ∀ {ds : List D} {vs : List V}, reps K CB N M H ds vs → ds.all IL.flatD = true → vs.all L2.flatV = true
  | [], vs, h, _ => by unfold reps at h; subst h; rfl
  | d :: ds, vs, h, f => by
    unfold reps at h
    obtain ⟨u, us, rfl, h1, h2⟩ := h
    rw [List.all_cons, Bool.and_eq_true] at f
    rw [List.all_cons, flat_rep h1 f.1, flats_reps h2 f.2]; rfl
theorem eqV_rep {K : PySem.W.Frag} {CB : Cb} {N : Addr → Prop} {M : List Addr} {H : Hp} {d e : D} {v u : V} (h : rep K CB N M H d v) (g : rep K CB N M H e u) (fd : IL.flatD d = true) (fe : IL.flatD e = true) : L2.eqV v u = eqD d e := by
  cases d <;> simp [IL.flatD] at fd <;> cases e <;> simp [IL.flatD] at fe <;> (cases h; cases g; rfl)
theorem inV_rep {K : PySem.W.Frag} {CB : Cb} {N : Addr → Prop} {M : List Addr} {H : Hp} {d : D} {v : V} (h : rep K CB N M H d v) (fd : IL.flatD d = true) : ∀ {ds : List D} {vs : List V}, reps K CB N M H ds vs → ds.all IL.flatD = true → L2.inV v vs = inD d ds
  | [], vs, g, _ => by unfold reps at g; subst g; rfl
  | e :: ds, vs, g, f => by
    unfold reps at g
    obtain ⟨u, us, rfl, g1, g2⟩ := g
    rw [List.all_cons, Bool.and_eq_true] at f
    have ih := inV_rep h fd g2 f.2
    unfold L2.inV inD at ih ⊢
    rw [List.any_cons, List.any_cons, ih, eqV_rep g1 h f.1 fd]
theorem pys_any {d : D} {x : PyData} (h : d.py = some x) : ∀ {ds : List D} {xs : List PyData}, D.pys ds = some xs → (xs.any fun z => PyData.eqv z x) = inD d ds
  | [], xs, e => by simp [D.pys] at e; subst e; rfl
  | f :: ds, xs, e => by
    unfold D.pys at e
    split at e <;> cases e
    rename_i h1 h2
    have ih := pys_any h h2
    unfold inD at ih ⊢
    rw [List.any_cons, List.any_cons, ih, eqv_eq h1 h]
theorem val_zip : ∀ {ks : List Key} {vs : List V} {k : Key}, ks.length = vs.length → (valV (ks.zip vs) k).isSome = ks.any fun x => decide (x = k)
  | [], vs, k, _ => by simp [valV]
  | x :: ks, [], k, h => by simp at h
  | x :: ks, v :: vs, k, h => by
    have ih := val_zip (ks := ks) (vs := vs) (k := k) (by simpa using h)
    unfold valV at ih ⊢
    rw [List.zip_cons_cons, List.find?_cons, List.any_cons]
    by_cases e : x = k
    · simp [e]
    · simp [e]; simpa using ih
theorem in_flat {neg : Bool} {a : Addr} {ds : List D} {vs : List V} {k : Bool} (hv : Γ.T B c d v1) (hs : SqL Γ.K c.H a vs ∨ SqT Γ.K c.H a vs) (hd : Γ.Rs B c ds vs)
    (h : inF d ds = some k) (Fk : Q (.bl (if neg then !k else k)) c.H) : rIn Γ.K neg v1 (.ref a) c.H Q := by
  unfold inF at h
  split at h <;> cases h
  rename_i hc
  rw [Bool.and_eq_true] at hc
  have hv := T_flat hc.1 hv
  refine ⟨a, vs, rfl, hs, flat_rep hv hc.1, flats_reps hd hc.2, ?_⟩
  rw [inV_rep hv hc.1 hd hc.2]; exact Fk
theorem in_any {neg : Bool} {a : Addr} {ds : List D} {vs : List V} {k : Bool} (hv : Γ.T B c d v1) (hs : SqL Γ.K c.H a vs) (hd : Γ.Rs B c ds vs)
    (h : inT d ds = some k) (Fk : Q (.bl (if neg then !k else k)) c.H) : rIn Γ.K neg v1 (.ref a) c.H Q ∨ (if neg then rNotInD Γ.K else rInD Γ.K) v1 (.ref a) c.H Q := by
  unfold inT at h
  split at h <;> cases h
  rename_i hc
  rw [Bool.or_eq_true, Bool.and_eq_true, Bool.and_eq_true] at hc
  rcases hc with ⟨f1, f2⟩ | ⟨o1, o2⟩
  · have hv := T_flat f1 hv
    refine .inl ⟨a, vs, rfl, .inl hs, flat_rep hv f1, flats_reps hd f2, ?_⟩
    rw [inV_rep hv f1 hd f2]; exact Fk
  · right
    obtain ⟨x, hx, sx⟩ := shaped_ok o1
    obtain ⟨xs, hxs, c1, c2⟩ := oks_py 60 ds o2
    have sl : SeqAt.shaped (.list xs) = true := by
      unfold SeqAt.shaped
      simp only [PyData.canLay0, c1, PyData.depth, Bool.true_and]
      exact decide_eq_true (by omega)
    cases neg
    · refine ⟨x, xs, T_dp hx hv, .lst hs (pys_dp hxs hd), sx, sl, ?_⟩
      rw [pys_any hx hxs]; exact Fk
    · refine ⟨x, xs, T_dp hx hv, .lst hs (pys_dp hxs hd), sx, sl, ?_⟩
      rw [pys_any hx hxs]; exact Fk
theorem key_rep {K : PySem.W.Frag} {CB : Cb} {N : Addr → Prop} {M : List Addr} {H : Hp} {d : D} {v : V} {k : Key} (h : rep K CB N M H d v) (e : keyOf d = some k) : v = kV k := by
  cases d <;> simp [keyOf] at e <;> (subst e; exact h)
theorem eq_ref {e d : D} {b : Bool} (h : eqN d e = some b) : (∃ s t, d = .str s ∧ e = .str t ∧ b = (s == t)) ∨ (D.ok 60 d = true ∧ D.ok 60 e = true ∧ b = eqD d e) := by
  unfold eqN at h
  split at h
  · cases h; exact .inl ⟨_, _, rfl, rfl, rfl⟩
  · split at h <;> cases h
    rename_i hc
    rw [Bool.and_eq_true] at hc
    exact .inr ⟨hc.1, hc.2, rfl⟩
theorem str_beq (s t : Str) : decide (V.str s = V.str t) = (s == t) := by
  rw [L2.dec_str]
theorem fit_eqN {neg : Bool} {b : Bool} (hR : Rel Γ B c) (h1 : Γ.T B c d1 v1) (h2 : Γ.T B c d2 v2) (h : eqN d1 d2 = some b) (F : FinB Γ B c (if neg then !b else b) Q) : rCmp Γ (if neg then .ne else .eq) v1 v2 c.H Q := by
  rcases eq_ref h with ⟨s, t, rfl, rfl, rfl⟩ | ⟨o1, o2, rfl⟩
  · cases h1; cases h2
    have F' := F.now hR
    cases neg
    · exact .inl ⟨rfl, by rw [str_beq]; exact F'⟩
    · exact .inl ⟨rfl, by rw [str_beq]; exact F'⟩
  · obtain ⟨x, hx, sx⟩ := shaped_ok o1
    obtain ⟨y, hy, sy⟩ := shaped_ok o2
    have F' := F.now hR
    cases neg
    · refine .inr (.inl ⟨x, y, T_dp hx h1, T_dp hy h2, sx, sy, ?_⟩)
      rw [eqv_eq hx hy]; exact F'
    · refine .inr ⟨x, y, T_dp hx h1, T_dp hy h2, sx, sy, ?_⟩
      rw [eqv_eq hx hy]; exact F'
theorem fit_eqT {b : Bool} (hR : Rel Γ B c) (h1 : Γ.T B c d1 v1) (h2 : Γ.T B c d2 v2) (h : eqT d1 d2 = some b) (F : FinB Γ B c b Q) : rCmp Γ .eq v1 v2 c.H Q := by
  by_cases hb : ∃ ds rs, d1 = .book ds rs
  · obtain ⟨ds, rs, rfl⟩ := hb
    exact .inr (.inr ⟨B, c, ds, rs, d2, b, rfl, hR, h1, h2, h, F.now hR⟩)
  · have e : eqT d1 d2 = eqN d1 d2 := by
      cases d1 <;> first | rfl | exact absurd ⟨_, _, rfl⟩ hb
    rw [e] at h
    exact fit_eqN (neg := false) hR h1 h2 h F
theorem map_some {α β : Type} {o : Option α} {f : α → β} {b : β} (h : o.map f = some b) : ∃ a, o = some a ∧ f a = b := by
  cases o with
  | none => cases h
  | some a => exact ⟨a, rfl, Option.some.inj h⟩
theorem non_rep {K : PySem.W.Frag} {CB : Cb} {N : Addr → Prop} {M : List Addr} {H : Hp} {d : D} {v : V} (h : rep K CB N M H d v) : isNonD d = decide (v = V.non) := by
  cases d with
  | non => cases h; rfl
  | bl b => cases h; rfl
  | int b => cases h; rfl
  | str b => cases h; rfl
  | tup ds => obtain ⟨a, vs, rfl, _⟩ := h; rfl
  | lst ds => obtain ⟨a, vs, rfl, _⟩ := h; rfl
  | dct ks ds => obtain ⟨a, vs, rfl, _⟩ := h; rfl
  | book ds rs => obtain ⟨a, _, _, _, _, _, rfl, _⟩ := h; rfl
  | ref n => obtain ⟨a, rfl, _⟩ := h; rfl
  | scr ns => obtain ⟨a, rfl, _⟩ := h; rfl
  | me => cases h; rfl
theorem T_key {k : Key} (e : keyOf d = some k) (h : Γ.T B c d v) : Γ.R B c d v := by
  cases d <;> first | exact h | (simp [keyOf] at e)
theorem non_T (h : Γ.T B c d v) : isNonD d = decide (v = V.non) := by
  cases d with
  | lst ds => obtain ⟨a, vs, rfl, _⟩ := h; rfl
  | dct ks ds => obtain ⟨a, vs, rfl, _⟩ := h; rfl
  | _ => exact non_rep (K := Γ.K) (CB := Γ.CB) (N := Cl B c) (M := c.M) (H := c.H) h
theorem fit_cmp {o : COp} {b : Bool} (hR : Rel Γ B c) (h1 : Γ.T B c d1 v1) (h2 : Γ.T B c d2 v2) (h : cmpD o d1 d2 = some b) (F : FinB Γ B c b Q) : rCmp Γ o v1 v2 c.H Q := by
  unfold cmpD at h
  split at h
  · exact fit_eqT hR h1 h2 h F
  · have e : neT d1 d2 = (eqN d1 d2).map not := by
      cases d1 <;> first | rfl | exact absurd h (by intro z; cases z)
    rw [e] at h
    obtain ⟨k, e, rfl⟩ := map_some h
    exact fit_eqN (neg := true) hR h1 h2 e F
  · cases h; cases h1; cases h2; exact ⟨_, _, rfl, rfl, F.now hR⟩
  · cases h; cases h1; cases h2; exact ⟨_, _, rfl, rfl, F.now hR⟩
  · cases h; cases h1; cases h2; exact ⟨_, _, rfl, rfl, F.now hR⟩
  · cases h; cases h1; cases h2; exact ⟨_, _, rfl, rfl, F.now hR⟩
  · obtain ⟨a, vs, rfl, g1, g2⟩ := h2
    rcases in_any (neg := false) h1 (SqL.of (K := Γ.K) g1) g2 h (Q := Q) (F.now hR) with q | q
    · exact .inl q
    · exact .inr (.inl q)
  · obtain ⟨a, vs, rfl, g1, g2⟩ := h2
    exact .inl (in_flat (neg := false) h1 (.inr g1) g2 h (F.now hR))
  · obtain ⟨a, vs, rfl, g1, gl, g2⟩ := h2
    obtain ⟨k, e, rfl⟩ := map_some h
    refine .inr (.inr ⟨a, _, k, rfl, g1, key_rep (T_key e h1) e, ?_⟩)
    rw [val_zip (by rw [reps_len g2, gl])]; exact F.now hR
  · obtain ⟨a, vs, rfl, g1, g2⟩ := h2
    obtain ⟨k, e, rfl⟩ := map_some h
    rcases in_any (neg := true) h1 (SqL.of (K := Γ.K) g1) g2 e (Q := Q) (F.now hR) with q | q
    · exact .inl q
    · exact .inr (.inl q)
  · obtain ⟨a, vs, rfl, g1, g2⟩ := h2
    obtain ⟨k, e, rfl⟩ := map_some h
    exact .inl (in_flat (neg := true) h1 (.inr g1) g2 e (F.now hR))
  · obtain ⟨a, vs, rfl, g1, gl, g2⟩ := h2
    obtain ⟨k, e, rfl⟩ := map_some h
    refine .inr (.inr ⟨a, _, k, rfl, g1, key_rep (T_key e h1) e, ?_⟩)
    rw [val_zip (by rw [reps_len g2, gl])]; exact F.now hR
  · cases h; cases h2
    have := F.now hR
    rw [non_T h1] at this
    exact .inl ⟨rfl, this⟩
  · cases h; cases h1; cases h2
    refine .inr ⟨_, _, rfl, rfl, ?_⟩
    have := F.now hR
    rw [Bool.beq_eq_decide_eq] at this; exact this
  · cases h; cases h2
    have := F.now hR
    rw [non_T h1] at this
    exact .inl ⟨rfl, this⟩
  · cases h; cases h1; cases h2
    refine .inr ⟨_, _, rfl, rfl, ?_⟩
    have := F.now hR
    rw [Bool.beq_eq_decide_eq] at this; exact this
  · cases h
/-! ### subscripts -/
def rIxA (K : PySem.W.Frag) : R2 := fun x y H Q => rIxL K x y H Q ∨ rIxT K x y H Q ∨ ∃ a kvs k v, x = .ref a ∧ H a = some (.dK kvs) ∧ y = kV k ∧ valV kvs k = some v ∧ Q v H
theorem ixL_get {K : PySem.W.Frag} {CB : Cb} {N : Addr → Prop} {M : List Addr} {H : Hp} {ds : List D} {vs : List V} {i : Int} {d : D} (g : reps K CB N M H ds vs) (h : ixL ds i = some d) : ∃ v, atI vs i = some v ∧ rep K CB N M H d v := by
  unfold ixL at h
  unfold atI
  rw [reps_len g]
  cases e : ixN ds.length i with
  | none => rw [e] at h; cases h
  | some j =>
    rw [e] at h
    obtain ⟨v, h1, h2⟩ := reps_get g h
    exact ⟨v, by rw [show L2.ixN ds.length i = some j from e]; exact h1, h2⟩
theorem dct_get {K : PySem.W.Frag} {CB : Cb} {N : Addr → Prop} {M : List Addr} {H : Hp} {k : Key} {d : D} : ∀ {ks : List Key} {ds : List D} {vs : List V}, reps K CB N M H ds vs → dctGet ks ds k = some d → ∃ v, valV (ks.zip vs) k = some v ∧ rep K CB N M H d v
  | [], ds, vs, _, h => by simp [dctGet] at h
  | x :: ks, [], vs, _, h => by simp [dctGet] at h
  | x :: ks, e :: ds, vs, g, h => by
    unfold reps at g
    obtain ⟨u, us, rfl, g1, g2⟩ := g
    unfold dctGet at h
    by_cases hx : x = k
    · rw [if_pos hx] at h; cases h
      exact ⟨u, by simp [valV, hx], g1⟩
    · rw [if_neg hx] at h
      obtain ⟨v, h1, h2⟩ := dct_get g2 h
      exact ⟨v, by unfold valV at h1 ⊢; rw [List.zip_cons_cons, List.find?_cons]; simp [hx]; simpa using h1, h2⟩
theorem fit_ix (hR : Rel Γ B c) (h1 : Γ.T B c d1 v1) (h2 : Γ.R B c d2 v2) (h : ixD d1 d2 = some d) (F : Fin Γ B c d false Q) : rIxA Γ.K v1 v2 c.H Q := by
  unfold ixD at h
  split at h
  · obtain ⟨a, vs, rfl, g1, g2⟩ := h1
    cases h2
    obtain ⟨v, e1, e2⟩ := ixL_get g2 h
    exact .inl ⟨a, vs, _, v, rfl, rfl, SqL.of g1, e1, F.val hR e2⟩
  · obtain ⟨a, vs, rfl, g1, g2⟩ := h1
    cases h2
    obtain ⟨v, e1, e2⟩ := ixL_get g2 h
    exact .inr (.inl ⟨a, vs, _, v, rfl, rfl, g1, e1, F.val hR e2⟩)
  · obtain ⟨a, vs, rfl, g1, gl, g2⟩ := h1
    rename_i k
    cases e : keyOf d2 with
    | none => rw [e] at h; cases h
    | some k =>
      rw [e] at h
      obtain ⟨v, e1, e2⟩ := dct_get g2 h
      exact .inr (.inr ⟨a, _, k, v, rfl, g1, key_rep h2 e, e1, F.val hR e2⟩)
  · cases h
/-! ### slices -/
def rSlAll (K : PySem.W.Frag) : V → Option Int → Option Int → Hp → VK → Prop := fun x lo hi H Q => rSlL K x lo hi H Q ∨ rSlA K x lo hi H Q
theorem sl_all : SlR X (rSlAll X.K) := SlR.or sl_list sl_tupA
theorem fit_sl {lo hi : Option Int} (hR : Rel Γ B c) (h1 : Γ.R B c d1 v1) (h : slD d1 lo hi = some d) (F : Fin Γ B c d (isFr d) Q) : rSlAll Γ.K v1 lo hi c.H Q := by
  unfold slD at h
  split at h <;> cases h
  · obtain ⟨a, vs, rfl, g1, _, g2⟩ := h1
    exact .inl ⟨a, vs, rfl, SqL.of g1, fun p hp => F.lst hR (reps_cut lo hi g2) hp⟩
  · obtain ⟨a, vs, rfl, g1, g2⟩ := h1
    rename_i ds
    refine .inr ⟨a, vs, rfl, g1, fun e => F.val hR ⟨a, vs, rfl, g1, ?_⟩, fun _ p hp => F.tup hR (reps_cut lo hi g2) hp⟩
    have : cut ds lo hi = ds := by
      unfold cut
      rw [← reps_len g2, e.1, e.2, List.drop_zero, Nat.sub_zero, reps_len g2, List.take_length]
    rw [this]; exact g2
  · obtain ⟨a, rfl, g⟩ := h1
    rename_i ns
    have hs : SqL Γ.K c.H a (ns.map V.int) := g.elim (fun ⟨o, g⟩ => .inl (.inr ⟨o, g⟩)) fun g => g c.H
    refine .inl ⟨a, _, rfl, hs, fun p hp => F.lst hR ?_ hp⟩
    have e : cutV (ns.map V.int) lo hi = (cut ns lo hi).map V.int := by
      unfold cutV cut
      rw [List.length_map, ← List.map_drop, ← List.map_take]
    rw [e]; exact reps_ints _
end
end IL

set_option Elab.async false
set_option linter.all false
set_option maxRecDepth 100000
set_option maxHeartbeats 1000000
/-! IL: when a text of the language says what a text of Python says. -/
namespace IL
open PySem L2

/-- the defs' names, the constants -/
structure Nm where
  fs : List Str
  cs : List (Str × Int)
  ib : Nat
  xs : List (Str × Str) := []
def isVis (sc : Scope) (x : Str) : Bool := match sc.names.lookup x with
  | some .local => true
  | some .cell => true
  | some .free => true
  | _ => false
def isGl (sc : Scope) (x : Str) : Bool := match sc.names.lookup x with
  | some .globalImplicit => true
  | _ => false
def isLoc (sc : Scope) (x : Str) : Bool := match sc.names.lookup x with
  | some .local => true
  | some .cell => true
  | _ => false
def isPl (sc : Scope) (x : Str) : Bool := match sc.names.lookup x with
  | some .local => true
  | _ => false
def okName (x : Str) : Bool := !(x == ("__debug__" : Str)) && !(x == ("__classdict__" : Str))
def noStar : Expr → Bool
  | .Starred _ _ => false
  | _ => true
def noSlice : Expr → Bool
  | .Slice _ _ _ _ => false
  | _ => true
def noSet : Expr → Bool
  | .Set _ _ _ => false
  | _ => true
def plainT : Expr → Bool
  | .UnaryOp .Not _ _ => false
  | .BoolOp _ _ _ => false
  | .IfExp _ _ _ _ => false
  | .Compare _ _ _ _ => false
  | _ => true
def noBool : Expr → Bool
  | .UnaryOp .Not _ _ => false
  | .BoolOp _ _ _ => false
  | .IfExp _ _ _ _ => false
  | _ => true
def noComp : Expr → Bool
  | .ListComp _ _ _ _ => false
  | .SetComp _ _ _ _ => false
  | .DictComp _ _ _ _ _ => false
  | _ => true
def noCall : Expr → Bool
  | .Call _ _ _ _ => false
  | _ => true
def isName (N : List Str) (sc : Scope) (i : Nat) : Expr → Bool
  | .Name x _ => decide (N[i]? = some x) && isVis sc x && okName x
  | _ => false
def isBi (sc : Scope) (y : String) : Expr → Bool
  | .Name x _ => decide (x = Str.ofString y) && isGl sc x
  | _ => false
def b1Name : B1 → String
  | .len => "len" | .list => "list" | .tuple => "tuple" | .sorted => "sorted" | .sum => "sum" | .all => "all" | .abs => "abs" | .int => "int" | .repr => "repr" | .max => "max" | .min => "min"
def tyName : Ty → String
  | .int => "int" | .bool => "bool" | .list => "list" | .tuple => "tuple" | .book => "Book"
def oneLine : Expr → Bool
  | .Call (.Attribute _ _ p) _ _ q => p.endLine == q.line
  | _ => false
def chkTg (N : List Str) (sc : Scope) : Tg → Expr → Bool
  | .nm i, .Name x _ => decide (N[i]? = some x) && isLoc sc x
  | .t2 a b, .Tuple [x, y] _ _ => chkTg N sc a x && chkTg N sc b y
  | .t3 a b c, .Tuple [x, y, z] _ _ => chkTg N sc a x && chkTg N sc b y && chkTg N sc c z
  | .t4 a b c d, .Tuple [x, y, z, u] _ _ => chkTg N sc a x && chkTg N sc b y && chkTg N sc c z && chkTg N sc d u
  | _, _ => false
def isTupE : Expr → Bool
  | .Tuple _ _ _ => true
  | _ => false
def ownOf (N : List Str) (own : List Nat) : List (Str × Nat) := own.filterMap fun i => (N[i]?).map fun x => (x, i)
/-! ### the forms of Python's expressions -/
def asConst : Expr → Option Const
  | .Constant c _ _ => some c
  | _ => none
def asName : Expr → Option Str
  | .Name x _ => some x
  | _ => none
def asBin : Expr → Option (Operator × Expr × Expr)
  | .BinOp x o y _ => some (o, x, y)
  | _ => none
def asUn : Expr → Option (UnaryOp × Expr)
  | .UnaryOp o x _ => some (o, x)
  | _ => none
def asCmp1 : Expr → Option (CmpOp × Expr × Expr)
  | .Compare x [o] [y] _ => some (o, x, y)
  | _ => none
def asCmp2 : Expr → Option (CmpOp × CmpOp × Expr × Expr × Expr)
  | .Compare x [o, o'] [y, z] _ => some (o, o', x, y, z)
  | _ => none
def asAnd : Expr → Option (Expr × Expr)
  | .BoolOp .And [x, y] _ => some (x, y)
  | .BoolOp .And (x :: y :: z :: r) p => some (x, .BoolOp .And (y :: z :: r) p)
  | _ => none
def asOr : Expr → Option (Expr × Expr)
  | .BoolOp .Or [x, y] _ => some (x, y)
  | .BoolOp .Or (x :: y :: z :: r) p => some (x, .BoolOp .Or (y :: z :: r) p)
  | _ => none
def asIf : Expr → Option (Expr × Expr × Expr)
  | .IfExp t x y _ => some (t, x, y)
  | _ => none
def asList : Expr → Option (List Expr)
  | .List xs _ => some xs
  | _ => none
def asTup : Expr → Option (List Expr)
  | .Tuple xs _ _ => some xs
  | _ => none
def asDict0 : Expr → Bool
  | .Dict [] [] _ => true
  | _ => false
def asDict1 : Expr → Option (Expr × Expr)
  | .Dict [some x] [y] _ => some (x, y)
  | _ => none
def asSub : Expr → Option (Expr × Expr)
  | .Subscript x y _ => some (x, y)
  | _ => none
def asSlice : Expr → Option (Option Expr × Option Expr)
  | .Slice l h none _ => some (l, h)
  | _ => none
def isRevS : Expr → Bool
  | .Slice none none (some (.UnaryOp .USub (.Constant (.int 1) _ _) _)) _ => true
  | _ => false
def asLC : Expr → Option (Expr × Expr × Expr × List Expr × Scope)
  | .ListComp elt [⟨tg, iter, ifs, 0⟩] scope _ => some (elt, tg, iter, ifs, scope)
  | _ => none
def asCall : Expr → Option (Expr × List Expr)
  | .Call f xs [] _ => some (f, xs)
  | _ => none
def asAttr : Expr → Option (Expr × Str)
  | .Attribute o m _ => some (o, m)
  | _ => none
def as1 : List Expr → Option Expr
  | [x] => some x
  | _ => none
def as2 : List Expr → Option (Expr × Expr)
  | [x, y] => some (x, y)
  | _ => none
def isNil : List Expr → Bool
  | [] => true
  | _ => false
/-- a built-in's call of one, two arguments -/
def asB1 (sc : Scope) (n : String) (x : Expr) : Option Expr := match asCall x with
  | some (f, xs) => (match as1 xs with | some y => if isBi sc n f && noStar y then some y else none | none => none)
  | none => none
def asB2 (sc : Scope) (n : String) (x : Expr) : Option (Expr × Expr) := match asCall x with
  | some (f, xs) => (match as2 xs with | some (y, z) => if isBi sc n f && noStar y && noStar z then some (y, z) else none | none => none)
  | none => none
/-- o.m(), o.m(y) -/
def asM0 (m : String) (x : Expr) : Option Expr := match asCall x with
  | some (f, xs) => (match asAttr f with | some (o, n) => if isNil xs && decide (n = Str.ofString m) then some o else none | none => none)
  | none => none
def asM1 (m : String) (x : Expr) : Option (Expr × Expr) := match asCall x with
  | some (f, xs) => (match asAttr f, as1 xs with | some (o, n), some y => if noStar y && decide (n = Str.ofString m) then some (o, y) else none | _, _ => none)
  | none => none
mutual
def chkE (nm : Nm) (N : List Str) (sc : Scope) : E → Expr → Bool
  | .var i, x => isName N sc i x
  | .int i, x => match asConst x with | some (.int j) => decide (i = j) | _ => false
  | .str s, x => match asConst x with | some (.str t) => decide (s = t) | _ => false
  | .bl b, x => match asConst x with | some (.bool c) => b == c | _ => false
  | .non, x => match asConst x with | some .none => true | _ => false
  | .glob y i, x => match asName x with | some z => decide (z = y) && isGl sc z && decide (nm.cs.lookup y = some i) && okName z | none => false
  | .bin o a b, x => match asBin x with | some (op, y, z) => decide (op = pyBin o) && chkE nm N sc a y && chkE nm N sc b z | none => false
  | .neg a, x => match asUn x with | some (op, y) => decide (op = .USub) && chkE nm N sc a y | none => false
  | .not a, x => match asUn x with | some (op, y) => decide (op = .Not) && chkE nm N sc a y | none => false
  | .cmp o a b, x => match asCmp1 x with | some (op, y, z) => decide (op = pyCmp o) && chkE nm N sc a y && chkE nm N sc b z && !behindInMarks op z | none => false
  | .cmpv o i b, x => match asCmp1 x with | some (op, y, z) => decide (op = pyCmp o) && isName N sc i y && chkE nm N sc b z && !behindInMarks op z | none => false
  | .inv o a i, x => match asCmp1 x with | some (op, y, z) => decide (op = pyCmp o) && chkE nm N sc a y && isName N sc i z && !behindInMarks op z | none => false
  | .chain o p a b c, x => match asCmp2 x with | some (op, op', y, z, u) => decide (op = pyCmp o) && decide (op' = pyCmp p) && chkE nm N sc a y && chkE nm N sc b z && chkE nm N sc c u && !lastMarks [op, op'] [z, u] | none => false
  | .and a b, x => match asAnd x with | some (y, z) => chkE nm N sc a y && chkE nm N sc b z | none => false
  | .or a b, x => match asOr x with | some (y, z) => chkE nm N sc a y && chkE nm N sc b z | none => false
  | .ite c a b, x => match asIf x with | some (t, y, z) => chkT nm N sc c t && chkE nm N sc a y && chkE nm N sc b z | none => false
  | .lst es, x => match asList x with | some xs => chkEs nm N sc es xs | none => false
  | .tup es, x => match asTup x with | some xs => chkEs nm N sc es xs | none => false
  | .dct0, x => asDict0 x
  | .dct1 a b, x => match asDict1 x with | some (y, z) => chkE nm N sc a y && chkE nm N sc b z | none => false
  | .ix a i, x => match asSub x with | some (y, z) => chkE nm N sc a y && chkE nm N sc i z && noSlice z | none => false
  | .ixv j i, x => match asSub x with | some (y, z) => isName N sc j y && chkE nm N sc i z && noSlice z | none => false
  | .sl a lo hi, x => match asSub x with | some (y, z) => (match asSlice z with | some (l, h) => chkE nm N sc a y && chkO nm N sc lo l && chkO nm N sc hi h | none => false) | none => false
  | .rev a, x => match asSub x with | some (y, z) => chkE nm N sc a y && isRevS z | none => false
  | .comp own g it c e, x => match asLC x with
    | some (elt, tg, iter, ifs, scope) => blkC N sc scope (ownOf N own) && decide ((ownOf N own).map (·.2) = own) && (g.vars.all fun i => decide (i ∈ own)) && chkTg N scope g tg && chkI nm N sc it tg iter && chkC nm N (relS scope sc) c ifs && chkE nm N (relS scope sc) e elt && noSet iter
    | none => false
  | .call f es, x => match asCall x with | some (y, xs) => (match asName y with | some z => decide (nm.fs[f]? = some z) && isGl sc z && okName z && !isNil xs && chkEs nm N sc es xs | none => false) | none => false
  | .b1 f a, x => match asB1 sc (b1Name f) x with | some y => chkE nm N sc a y | none => false
  | .lenv i, x => match asB1 sc "len" x with | some y => isName N sc i y | none => false
  | .max2 a b, x => match asB2 sc "max" x with | some (y, z) => chkE nm N sc a y && chkE nm N sc b z | none => false
  | .min2 a b, x => match asB2 sc "min" x with | some (y, z) => chkE nm N sc a y && chkE nm N sc b z | none => false
  | .listR a, x => match asB1 sc "list" x with | some y => (match asB1 sc "range" y with | some z => chkE nm N sc a z | none => false) | none => false
  | .tupR a, x => match asB1 sc "tuple" x with | some y => (match asB1 sc "range" y with | some z => chkE nm N sc a z | none => false) | none => false
  | .sset a, x => match asB1 sc "sorted" x with | some y => (match asB1 sc "set" y with | some z => chkE nm N sc a z | none => false) | none => false
  | .isi t a, x => match asB2 sc "isinstance" x with | some (y, z) => chkE nm N sc a y && isBi sc (tyName t) z && decide (t ≠ .book) && noStar z | none => false
  | .dem a, x => match asM0 "demands" x with | some y => chkE nm N sc a y && noCall y && oneLine x | none => false
  | .rdr a, x => match asM0 "readers" x with | some y => chkE nm N sc a y && noCall y && oneLine x | none => false
  | .mk f a b, x => match asB2 sc "Book" x with | some (y, z) => decide (f = nm.ib) && chkE nm N sc a y && chkE nm N sc b z | none => false
  | .pop i a, x => match asM1 "pop" x with | some (y, z) => isName N sc i y && chkE nm N sc a z && oneLine x | none => false
  | .box es, x => match asList x with | some xs => chkEs nm N sc es xs | none => false
def chkEs (nm : Nm) (N : List Str) (sc : Scope) : Es → List Expr → Bool
  | .nil, xs => isNil xs
  | .cons e es, xs => match xs with | x :: xs => chkE nm N sc e x && noStar x && chkEs nm N sc es xs | [] => false
def chkO (nm : Nm) (N : List Str) (sc : Scope) : O → Option Expr → Bool
  | .no, x => x.isNone
  | .yes e, x => match x with | some x => chkE nm N sc e x | none => false
def chkC (nm : Nm) (N : List Str) (sc : Scope) : OT → List Expr → Bool
  | .no, xs => isNil xs
  | .yes t, xs => match as1 xs with | some x => chkT nm N sc t x | none => false
def chkI (nm : Nm) (N : List Str) (sc : Scope) : It → Expr → Expr → Bool
  | .seq e, _, x => chkE nm N sc e x && noSet x
  | .r1 e, _, x => match asB1 sc "range" x with | some y => chkE nm N sc e y | none => false
  | .r2 a b, _, x => match asB2 sc "range" x with | some (y, z) => chkE nm N sc a y && chkE nm N sc b z | none => false
  | .enm e, tg, x => match asB1 sc "enumerate" x with | some y => isTupE tg && chkE nm N sc e y | none => false
  | .zip a b, tg, x => match asB2 sc "zip" x with | some (y, z) => isTupE tg && chkE nm N sc a y && chkE nm N sc b z | none => false
def chkT (nm : Nm) (N : List Str) (sc : Scope) : T → Expr → Bool
  | .and a b, x => match asAnd x with | some (y, z) => chkT nm N sc a y && chkT nm N sc b z | none => false
  | .or a b, x => match asOr x with | some (y, z) => chkT nm N sc a y && chkT nm N sc b z | none => false
  | .not a, x => match asUn x with | some (op, y) => decide (op = .Not) && chkT nm N sc a y | none => false
  | .ev e, x => chkE nm N sc e x && plainT x
  | .cmp o a b, x => match asCmp1 x with | some (op, y, z) => decide (op = pyCmp o) && chkE nm N sc a y && chkE nm N sc b z && !behindInMarks op z | none => false
  | .cmpv o i b, x => match asCmp1 x with | some (op, y, z) => decide (op = pyCmp o) && isName N sc i y && chkE nm N sc b z && !behindInMarks op z | none => false
  | .inv o a i, x => match asCmp1 x with | some (op, y, z) => decide (op = pyCmp o) && chkE nm N sc a y && isName N sc i z && !behindInMarks op z | none => false
  | .chain o p a b c, x => match asCmp2 x with | some (op, op', y, z, u) => decide (op = pyCmp o) && decide (op' = pyCmp p) && chkE nm N sc a y && chkE nm N sc b z && chkE nm N sc c u && !lastMarks [op, op'] [z, u] | none => false
end
/-! ### what the forms say -/
theorem asConst_eq {x : Expr} {c : Const} (h : asConst x = some c) : ∃ k p, x = .Constant c k p := by
  cases x <;> cases h; exact ⟨_, _, rfl⟩
theorem asName_eq {x : Expr} {c : Str} (h : asName x = some c) : ∃ p, x = .Name c p := by
  cases x <;> cases h; exact ⟨_, rfl⟩
theorem asBin_eq {x y z : Expr} {o : Operator} (h : asBin x = some (o, y, z)) : ∃ p, x = .BinOp y o z p := by
  cases x <;> cases h; exact ⟨_, rfl⟩
theorem asUn_eq {x y : Expr} {o : UnaryOp} (h : asUn x = some (o, y)) : ∃ p, x = .UnaryOp o y p := by
  cases x <;> cases h; exact ⟨_, rfl⟩
theorem asCmp1_eq {x y z : Expr} {o : CmpOp} (h : asCmp1 x = some (o, y, z)) : ∃ p, x = .Compare y [o] [z] p := by
  unfold asCmp1 at h; split at h <;> cases h; exact ⟨_, rfl⟩
theorem asCmp2_eq {x y z u : Expr} {o o' : CmpOp} (h : asCmp2 x = some (o, o', y, z, u)) : ∃ p, x = .Compare y [o, o'] [z, u] p := by
  unfold asCmp2 at h; split at h <;> cases h; exact ⟨_, rfl⟩
theorem asAnd_eq {x y z : Expr} (h : asAnd x = some (y, z)) : (∃ p, x = .BoolOp .And [y, z] p) ∨ ∃ a b r p, x = .BoolOp .And (y :: a :: b :: r) p ∧ z = .BoolOp .And (a :: b :: r) p := by
  unfold asAnd at h; split at h <;> cases h
  · exact .inl ⟨_, rfl⟩
  · exact .inr ⟨_, _, _, _, rfl, rfl⟩
theorem asOr_eq {x y z : Expr} (h : asOr x = some (y, z)) : (∃ p, x = .BoolOp .Or [y, z] p) ∨ ∃ a b r p, x = .BoolOp .Or (y :: a :: b :: r) p ∧ z = .BoolOp .Or (a :: b :: r) p := by
  unfold asOr at h; split at h <;> cases h
  · exact .inl ⟨_, rfl⟩
  · exact .inr ⟨_, _, _, _, rfl, rfl⟩
theorem asIf_eq {x t y z : Expr} (h : asIf x = some (t, y, z)) : ∃ p, x = .IfExp t y z p := by
  cases x <;> cases h; exact ⟨_, rfl⟩
theorem asList_eq {x : Expr} {xs : List Expr} (h : asList x = some xs) : ∃ p, x = .List xs p := by
  cases x <;> cases h; exact ⟨_, rfl⟩
theorem asTup_eq {x : Expr} {xs : List Expr} (h : asTup x = some xs) : ∃ k p, x = .Tuple xs k p := by
  cases x <;> cases h; exact ⟨_, _, rfl⟩
theorem asDict0_eq {x : Expr} (h : asDict0 x = true) : ∃ p, x = .Dict [] [] p := by
  unfold asDict0 at h; split at h
  · exact ⟨_, rfl⟩
  · cases h
theorem asDict1_eq {x y z : Expr} (h : asDict1 x = some (y, z)) : ∃ p, x = .Dict [some y] [z] p := by
  unfold asDict1 at h; split at h <;> cases h; exact ⟨_, rfl⟩
theorem asSub_eq {x y z : Expr} (h : asSub x = some (y, z)) : ∃ p, x = .Subscript y z p := by
  cases x <;> cases h; exact ⟨_, rfl⟩
theorem asSlice_eq {x : Expr} {l h' : Option Expr} (h : asSlice x = some (l, h')) : ∃ p, x = .Slice l h' none p := by
  unfold asSlice at h; split at h <;> cases h; exact ⟨_, rfl⟩
theorem isRevS_eq {x : Expr} (h : isRevS x = true) : ∃ k p1 p2 p3, x = .Slice none none (some (.UnaryOp .USub (.Constant (.int 1) k p1) p2)) p3 := by
  unfold isRevS at h; split at h
  · exact ⟨_, _, _, _, rfl⟩
  · cases h
theorem asLC_eq {x elt tg iter : Expr} {ifs : List Expr} {scope : Scope} (h : asLC x = some (elt, tg, iter, ifs, scope)) : ∃ p, x = .ListComp elt [⟨tg, iter, ifs, 0⟩] scope p := by
  unfold asLC at h; split at h <;> cases h; exact ⟨_, rfl⟩
theorem asCall_eq {x f : Expr} {xs : List Expr} (h : asCall x = some (f, xs)) : ∃ p, x = .Call f xs [] p := by
  unfold asCall at h; split at h <;> cases h; exact ⟨_, rfl⟩
theorem asAttr_eq {x o : Expr} {m : Str} (h : asAttr x = some (o, m)) : ∃ p, x = .Attribute o m p := by
  cases x <;> cases h; exact ⟨_, rfl⟩
theorem as1_eq {xs : List Expr} {y : Expr} (h : as1 xs = some y) : xs = [y] := by
  unfold as1 at h; split at h <;> cases h; rfl
theorem as2_eq {xs : List Expr} {y z : Expr} (h : as2 xs = some (y, z)) : xs = [y, z] := by
  unfold as2 at h; split at h <;> cases h; rfl
theorem isNil_eq {xs : List Expr} (h : isNil xs = true) : xs = [] := by
  cases xs
  · rfl
  · cases h
theorem asB1_eq {sc : Scope} {n : String} {x y : Expr} (h : asB1 sc n x = some y) : ∃ f p, x = .Call f [y] [] p ∧ isBi sc n f = true ∧ noStar y = true := by
  unfold asB1 at h
  split at h
  · rename_i f xs hc
    split at h
    · rename_i z hz
      split at h <;> cases h
      rename_i hb
      rw [Bool.and_eq_true] at hb
      obtain ⟨p, rfl⟩ := asCall_eq hc
      rw [as1_eq hz]
      exact ⟨f, p, rfl, hb.1, hb.2⟩
    · cases h
  · cases h
theorem asB2_eq {sc : Scope} {n : String} {x y z : Expr} (h : asB2 sc n x = some (y, z)) : ∃ f p, x = .Call f [y, z] [] p ∧ isBi sc n f = true ∧ noStar y = true ∧ noStar z = true := by
  unfold asB2 at h
  split at h
  · rename_i f xs hc
    split at h
    · rename_i u w hz
      split at h <;> cases h
      rename_i hb
      rw [Bool.and_eq_true, Bool.and_eq_true] at hb
      obtain ⟨p, rfl⟩ := asCall_eq hc
      rw [as2_eq hz]
      exact ⟨f, p, rfl, hb.1.1, hb.1.2, hb.2⟩
    · cases h
  · cases h
theorem asM0_eq {m : String} {x o : Expr} (h : asM0 m x = some o) : ∃ q p, x = .Call (.Attribute o (Str.ofString m) q) [] [] p := by
  unfold asM0 at h
  split at h
  · rename_i f xs hc
    split at h
    · rename_i o' n hz
      split at h <;> cases h
      rename_i hb
      rw [Bool.and_eq_true] at hb
      obtain ⟨p, rfl⟩ := asCall_eq hc
      obtain ⟨q, rfl⟩ := asAttr_eq hz
      rw [isNil_eq hb.1, of_decide_eq_true hb.2]
      exact ⟨q, p, rfl⟩
    · cases h
  · cases h
theorem asM1_eq {m : String} {x o y : Expr} (h : asM1 m x = some (o, y)) : ∃ q p, x = .Call (.Attribute o (Str.ofString m) q) [y] [] p ∧ noStar y = true := by
  unfold asM1 at h
  split at h
  · rename_i f xs hc
    split at h
    · rename_i o' n z hz h1
      split at h <;> cases h
      rename_i hb
      rw [Bool.and_eq_true] at hb
      obtain ⟨p, rfl⟩ := asCall_eq hc
      obtain ⟨q, rfl⟩ := asAttr_eq hz
      rw [as1_eq h1, of_decide_eq_true hb.2]
      exact ⟨q, p, rfl, hb.1⟩
    · cases h
  · cases h
end IL

set_option Elab.async false
set_option linter.all false
set_option maxRecDepth 100000
set_option maxHeartbeats 4000000
/-! IL: an own exception whose __init__ says super().__init__(text) and keeps one value. -/
namespace IL
open PySem L2 PySem.W PySem.Calls PySem.Spec PyProof.Rows
/-- what the written part says of the class at C and its __init__ at f -/
structure XcAt (P : Program) (K : PySem.W.Frag) (C f : Addr) (fd : FuncData) (st : Stmt) (fld arg : Str) : Prop where
  oex : OexC K C
  ex : ∃ (oc : Value) (od an : Option Addr) (osl : Array (Option Value)) (name qual : Str) (dV kV doc pm ct : Value) (cda cc : Addr),
    fd = PySem.W.fnX name qual (defArgs st) (defBody st) (defScope st) [("__class__", cc)] dV kV doc pm an (.ref cda) ct ∧ K.lookup f = some ⟨oc, od, .func fd, osl⟩ ∧ PySem.W.codeIn K (.ref cda) qual = true ∧
    (∃ ccl cdd vs ccs file tf, K.lookup cda = some ⟨ccl, cdd, .fields vs, ccs⟩ ∧ vs[2]? = some (.str file tf) ∧ ((P.main.file : Str) == file) = true) ∧
    (∃ cl cld csl, K.lookup cc = some ⟨cl, cld, .cell (some (.ref C)), csl⟩)
  cls : ∃ cd, PySem.W.clsIn K C = some cd
  mro : PySem.W.mroIn K C (.ref C) = some true
  sup : PySem.W.ks_superIn K C C "__init__" = some (some (.builtin "ValueError.__init__"))
  sub : PySem.W.subIn K (.ref C) (.type "ValueError") = some true
  any : PySem.W.nsIn K cStatics "thirdparty.any" = some none
  fno : PySem.W.findIn K (.ref C) fld = some none
  top : (P.main.scope.names.lookup ("super" : Str)).isSome = false
def asSup : Stmt → Option (Str × Nat)
  | .Expr (.Call (.Attribute (.Call (.Name f _) [] [] _) m _) [.Constant (.str _) _ _] [] _) _ => if f = "super" ∧ m = "__init__" then some (m, 0) else none
  | _ => none
theorem asSup_eq {st : Stmt} {x : Str × Nat} (h : asSup st = some x) : ∃ p0 p1 p2 m j p3 p4 p5, st = .Expr (.Call (.Attribute (.Call (.Name "super" p0) [] [] p1) "__init__" p2) [.Constant (.str m) j p3] [] p4) p5 := by
  unfold asSup at h
  split at h
  · split at h
    · rename_i hx
      obtain ⟨rfl, rfl⟩ := hx
      exact ⟨_, _, _, _, _, _, _, _, rfl⟩
    · cases h
  · cases h
section
variable {X : Cx} {pins : List (Addr × Obj)} {σ : L2.St} {H : Hp} {s : Shared} {a C f cda cc : Addr} {D : Ends} {body : List Stmt} {fd : FuncData}
theorem sup_run {p0 p1 p2 p3 p4 p5 : Pos} {m : Str} {j : Nat} {oc : Value} {od : Option Addr} {osl : Array (Option Value)} {ar : Arg} {vs : Array Value} {file : Str} {tf : Tok} {ccl cl : Value} {cdd cld : Option Addr} {ccs csl : Array (Option Value)} {cd : ClassData}
    (I : Inv X pins σ H s) (hm : X.mg "super" = none) (T : OexC X.K C) (hks : X.env.kindOf "super" = some .globalImplicit) (hkc : X.env.kindOf "__class__" = some .free) (hfu : X.env.func = some f) (hlf : X.K.lookup f = some ⟨oc, od, .func fd, osl⟩)
    (hp : (fd.params.posonlyargs ++ fd.params.args).head? = some ar) (hco : X.env.code = .ref cda) (hcd : X.K.lookup cda = some ⟨ccl, cdd, .fields vs, ccs⟩) (hvs : vs[2]? = some (.str file tf)) (hfile : ((X.prog.main.file : Str) == file) = true)
    (hcl : X.env.cells.lookup (Str.ofString "__class__") = some cc) (hcell : X.K.lookup cc = some ⟨cl, cld, .cell (some (.ref C)), csl⟩) (hC : PySem.W.clsIn X.K C = some cd) (hmro : PySem.W.mroIn X.K C (.ref C) = some true) (hsup : PySem.W.ks_superIn X.K C C "__init__" = some (some (.builtin "ValueError.__init__")))
    (hsub : PySem.W.subIn X.K (.ref C) (.type "ValueError") = some true) (hany : PySem.W.nsIn X.K cStatics "thirdparty.any" = some none) (htop : (X.prog.main.scope.names.lookup ("super" : Str)).isSome = false)
    (hN : X.N[0]? = some ar.arg) (hka : X.env.scope.names.lookup ar.arg = some .local) (hσ : σ[0]? = some (some (.ref a))) (ha : H a = some (exo a C none)) (h : D.nx σ H) :
    PySem.wpAt (model X.prog X.w) X.A (.func body X.env) (exec (.Expr (.Call (.Attribute (.Call (.Name "super" p0) [] [] p1) "__init__" p2) [.Constant (.str m) j p3] [] p4) p5) X.env) (SP X pins D) X.xe s := by
  have hi : interactive X.env = false := by
    unfold interactive
    rw [I.ok.kind]; rfl
  refine ks_wpAt_Expr_any ?_ hi rfl
  rw [arm_eval_Call]
  have hpos : ∃ p', methodCallPos true (.Call (.Name "super" p0) [] [] p1) X.env p2 p4 = pure p' := by
    unfold methodCallPos importBound
    by_cases hl : (p2.endLine == p4.line) = true
    · exact ⟨p4, by rw [if_pos (by rw [hl]; rfl)]⟩
    · exact ⟨{ p4 with line := p2.endLine }, by rw [if_neg (by rw [Bool.eq_false_iff.mpr hl]; decide)]; rfl⟩
  obtain ⟨p', hpos⟩ := hpos
  refine PySem.wpAt_bind (PySem.wpAt_mono (Q := fun ov s1 => wpAny (model X.prog X.w) X.A (getMethod ov "__init__" (do return (← importBound (.Call (.Name "super" p0) [] [] p1) X.env).getD true)) (fun fx s2 => wpAny (model X.prog X.w) X.A (callWith p' fx.1 fx.2 (backTo p4 (starEach [.Constant (.str m) j p3] X.env)) []) (fun _ => SP X pins D .next) X.xe s2) X.xe s1) ?_ (fun ov s1 h1 => PySem.wpAt_of_wpAny (wpAny_bind (wpAny_standAt ?_))) fun _ _ z => z)
  rotate_left
  · show wpAny _ _ (methodCall _ _ _ _ _ _ _ _ _) _ _ _
    unfold methodCall
    rw [show methodCallForm ([Expr.Constant (Const.str m) j p3].length + ([] : List Keyword).length) (backTo p4 (starEach [.Constant (.str m) j p3] X.env)) (backToKw p4 (keywordEach [] X.env)) = true from rfl]
    refine wpAny_bind (wpAny_holding ?_)
    show wpAny _ _ (getMethod _ _ _) _ _ _
    exact wpAny_mono h1 (fun fx s2 h2 => wpAny_bind (wpAny_of_eq hpos h2)) fun _ _ z => z
  have KX := I.kIn
  obtain ⟨mm, hns, look⟩ := I.loc
  have hkl : X.env.kindOf ar.arg = some .local := hka
  obtain ⟨u, ru, hl⟩ := look 0 ar.arg (.ref a) hN hσ (.inl hka)
  obtain rfl : u = Value.ref a := ru
  have hself : mm ar.arg = some (.ref a) := by
    rcases hl with ⟨_, e⟩ | ⟨z | z, _⟩
    · exact e
    · rw [hkl] at z; cases z
    · rw [hkl] at z; cases z
  obtain ⟨t1, ho⟩ := exo_at I.hok ha
  obtain ⟨oD, hD1, hD2⟩ : ∃ oD, s.heap.get? C = some oD ∧ oD.data = .cls cd := by
    unfold PySem.W.clsIn at hC
    split at hC
    · rename_i c d cd' sl hh
      cases hC
      exact ⟨_, KX _ _ hh, rfl⟩
    · cases hC
  refine ks_wpAt_super_base hks hkc rfl hfu (KX _ _ hlf) rfl hp hco (KX _ _ hcd) rfl hvs hfile htop ?_
  obtain ⟨mb, b1, b2⟩ := I.mod.blt
  refine ks_loadName_global I.ok.kind hks (Calls.loadGlobal_builtin (by rw [I.ok.glob]; exact I.mod.glob.keeps I.bk) hm (by rw [I.ok.blt]; exact b1.keeps I.bk) ((b2 "super" (by decide)).trans (by first | rfl | decide +kernel)) ⟨rfl, ?_⟩)
  refine wpAny_loadName_free I.ok.kind hkc hcl ⟨_, KX _ _ hcell, rfl⟩ ?_
  refine wpAny_loadName_local I.ok.kind hkl hns hself ?_
  obtain ⟨hh, g, d, t, os⟩ := s
  refine ks_wpAny_isType_cls hD1 hD2 ⟨rfl, ?_⟩
  refine ks_wpAny_call_super hD1 hD2 ho rfl (fun c e => by cases e) (PySem.W.looks_mroIn KX hmro) (fun h1 e1 k1 => ?_)
  have I1 : Inv X pins σ H ⟨h1, g, d, t, os⟩ := I.kept (t' := t) k1
  have KX1 := I1.kIn
  have ho1 := k1 _ _ ho
  have hin : PySem.W.Looks (model X.prog X.w) h1 (isInstance (.ref a) (.type "ValueError")) true := (PySem.W.InstAt.type (x := a) (C := C) (od := none) ⟨ho1, rfl, rfl, trivial⟩).andThen (PySem.W.looks_subIn KX1 hsub)
  have hsup' := hsup
  unfold PySem.W.ks_superIn at hsup'
  rw [hC, Option.bind_some] at hsup'
  refine kxs_getMethod kxs_ValueError e1 (PySem.W.looks_opaque KX1 hany) (l₀ := cd.mro) (fun A Q E s k q => wpAny_bind ((PySem.W.looks_clsIn KX1 hC) A _ E s k (wpAny_pure q))) rfl KX1 hsup' hin (fun e => ?_) rfl ?_
  · subst e
    rw [hD1] at ho
    cases ho; cases hD2
  have hu : (h1.push (kxs_mw "ValueError.__init__" a)).get? h1.objs.size = some (kxs_mw "ValueError.__init__" a) := Heap.get?_push_at rfl rfl
  have k2 : ∀ b o, h1.get? b = some o → (h1.push (kxs_mw "ValueError.__init__" a)).get? b = some o := fun b o e => Heap.get?_push_of_some _ e
  refine kxs_callWith (i := "ValueError.__init__") (x := a) rfl (Calls.evalArgs_plain (Calls.spliced_cons (wpAny_Constant_str (x := m) (k := j) (pos := p3) (Calls.spliced_nil ⟨hu, ?_⟩))))
  have I2 : Inv X pins σ H ⟨h1.push (kxs_mw "ValueError.__init__" a), g, d, t + 1 + 1, os⟩ := I1.kept (t' := t + 1 + 1) k2
  have ho2 := k2 _ _ ho1
  refine wpAny_call (codeAny_of_tree ?_)
  show wpAny _ X.A.in1 (callAny (.ref h1.objs.size) ⟨_, []⟩) _ _ _
  simp only [callAny]
  refine wpAny_bind (wpAny_load hu ?_)
  simp only [kxs_mw, show (Value.type "method-wrapper" == Value.type "method" || Value.type "method-wrapper" == Value.type "builtin_function_or_method" || Value.type "method-wrapper" == Value.type "method-wrapper") = true by decide, if_true]
  refine PySem.W.KFB.if_so (by decide) ?_
  obtain ⟨nm, q, N, bs, bm, sn, sub, ab, col, dd, k0, k1', k2', k3, k5, hCC, hbm⟩ := T.cls
  refine wpAny_bind (PySem.ESX.check_bound F.excBase_ValueError (I2.kIn _ _ hCC) ho2 rfl ?_)
  refine wpAny_bind (wpAny_pure (wpAny_pure ?_))
  refine ⟨Code.quiet_builtin _ (by decide +kernel), codeAny_builtin F.excBase_ValueError.initEntry ?_⟩
  rw [Around.under_plainId F.excBase_ValueError.init.plain _]
  wp_walk
  have eu : upd H a (exo a C none) = H := by
    funext b
    by_cases hb : b = a
    · rw [hb, upd_same, ha]
    · rw [upd_ne hb]
  refine ⟨σ, H, ?_, h⟩
  have key : ∀ (h' : Heap) (t2 : Addr), (∀ b o, b ≠ a → (h1.push (kxs_mw "ValueError.__init__" a)).get? b = some o → h'.get? b = some o) → h'.get? a = some ({ cls := .ref C, dict := none, data := .fields #[.ref t2, .none, .none, .none, .bool false, .none] } : Obj) → Inv X pins σ H ⟨h', g, d, t + 1 + 1, os⟩ := fun h' t2 k e => by
    have J := I2.write (h' := h') (t' := t + 1 + 1) (x := a) (e := a) (o := exo a C none) (by rw [ha]; exact True.intro) (.inl rfl) k ⟨_, e⟩ (exo_ok e)
    rw [eu] at J; exact J
  refine key _ (h1.push (kxs_mw "ValueError.__init__" a)).objs.size (fun b o hb hbo => (Heap.get?_update_other _ _ (Ne.symm hb)).trans (Heap.get?_push_of_some _ hbo)) ?_
  exact (Heap.get?_update_self _ (Heap.get?_push_of_some _ ho2) rfl).trans rfl
end
theorem gl_is {X : Cx} {x : Str} (h : isGl X.env.scope x = true) : Gl X x := by
  unfold isGl at h
  split at h
  · rename_i q; exact q
  · cases h
/-- self.f = value, both names -/
def asFldN : Stmt → Option (Str × Str × Str)
  | .Assign [.Attribute (.Name o _) a _] (.Name v _) _ => some (o, a, v)
  | _ => none
theorem asFldN_eq {b : Stmt} {o a v : Str} (h : asFldN b = some (o, a, v)) : ∃ p1 p2 p3 p4, b = .Assign [.Attribute (.Name o p1) a p2] (.Name v p3) p4 := by
  unfold asFldN at h; split at h <;> cases h; exact ⟨_, _, _, _, rfl⟩
/-- the text of such an __init__ -/
def xiOk (fld arg : Str) (st : Stmt) : Bool := match defBody st with
  | [s1, s2] => (asSup s1).isSome && (match asFldN s2 with | some (o, a, v) => decide (o = "self" ∧ a = fld ∧ v = arg) | none => false) && NdefX.nscB ["self", arg, "__class__"] ["self", arg] ["__class__"] (defScope st) && okName "self" && okName arg && decide (arg ≠ "self") &&
      (match ((defArgs st).posonlyargs ++ (defArgs st).args).head? with | some ar => decide (ar.arg = "self") | none => false) && isGl (defScope st) "super"
  | _ => false
/-- what it promises -/
def spX (C : Addr) (fld : Str) : Sp := fun vs H Q _ => ∃ a v, vs = [.ref a, v] ∧ H a = some (exo a C none) ∧ ∀ dx, H dx = none → dx ≠ a → Q .non (upd (upd H dx (exd dx [(fld, v)])) a (exo a C (some dx)))
section
variable {P : Program} {w : World} {K : PySem.W.Frag} {mg : Str → Option Value} {base : Heap} {C f : Addr} {fd : FuncData} {st : Stmt} {fld arg : Str} {CX : CXT}
theorem xinit_ok (T : XcAt P K C f fd st fld arg) (hm : mg "super" = none) (hx : xiOk fld arg st = true) (k : Nat) : FnOk P w K mg base CX (k + 1) f fd ["self", arg] (spX C fld) := by
  obtain ⟨oc, od, an, osl, name, qual, dV, kV, doc, pm, ct, cda, cc, rfl, lk, hcd, ⟨ccl, cdd, vs0, ccs, file, tf, hc1, hc2, hc3⟩, cl, cld, csl, hcell⟩ := T.ex
  obtain ⟨cd, hcls⟩ := T.cls
  unfold xiOk at hx
  split at hx
  · rename_i s1 s2 hb
    simp only [Bool.and_eq_true] at hx
    obtain ⟨⟨⟨⟨⟨⟨⟨x1, x2⟩, x3⟩, x4⟩, x5⟩, x6⟩, x7⟩, x8⟩ := hx
    obtain ⟨y, hy⟩ := Option.isSome_iff_exists.mp x1
    obtain ⟨p0, p1, p2, m, j, p3, p4, p5, rfl⟩ := asSup_eq hy
    split at x2
    · rename_i o a v hf
      obtain ⟨rfl, rfl, rfl⟩ := of_decide_eq_true x2
      obtain ⟨q1, q2, q3, q4, rfl⟩ := asFldN_eq hf
      have S := NdefX.nscope_by x3
      split at x7
      · rename_i ar har
        have hin : ar.arg = "self" := of_decide_eq_true x7
        refine ⟨fun vs H Q E ⟨a, v, e, _⟩ => by rw [e]; rfl, fun A outer s H args us vs Q E hr e0 hbd r hsp => ?_⟩
        obtain ⟨a0, v0, rfl, ha, hq⟩ := hsp
        have KX : K.In s.heap := e0.mod.kin.keeps fun b o e => (e0.bs b o e).1
        have lim : s.heap.NoLimit := e0.mod.nolimit.keeps fun b o e => (e0.bs b o e).1
        have hl : us.length = 2 := by rw [← r.length]; rfl
        refine codeAny_call_function hr.depth (KX _ _ lk) rfl S.co S.gen rfl (PySem.W.codeRec_of KX hcd) (hbd _ _ _ _ ?_)
        refine wpAny_newFunctionEnv S.nocell (fun ⟨n, _⟩ hy => S.par n (List.of_mem_zip hy).1) (fun h₁ hns hsb => ⟨lim.fresh _ hsb, ?_⟩) S.kind
        have kp : ∀ b o, s.heap.get? b = some o → h₁.get? b = some o := fun b o e => hsb.extBut b o (Nat.ne_of_lt (Heap.lt_size e)) (Heap.get?_push_of_some _ e)
        have CA : NdefX.CellsAt [((Str.ofString "__class__"), cc)] [Str.ofString "__class__"] [none] s.heap H := by
          have hcH : H cc = none := (e0.bs cc _ (e0.mod.kin _ _ hcell)).2
          have one : ∀ y c, List.lookup y [((Str.ofString "__class__"), cc)] = some c → y = Str.ofString "__class__" ∧ c = cc := fun y c z => by
            rw [List.lookup_cons] at z
            split at z
            · rename_i q; cases z; exact ⟨by simpa using q, rfl⟩
            · cases z
          refine ⟨rfl, fun y c z => ?_, fun x y c z1 z2 => (one _ _ z1).1.trans (one _ _ z2).1.symm, fun i y z => ?_⟩
          · obtain ⟨_, rfl⟩ := one y c z
            exact ⟨hcH, _, _, KX _ _ hcell, rfl⟩
          · cases i with
            | zero =>
              cases z
              exact ⟨cc, by rw [List.lookup_cons]; simp, fun v z => by cases z⟩
            | succ i => simp at z
        have I := NdefX.inv_startN (CX := CX) (E := E) (F := ⟨name, qual, defArgs st, defBody st, defScope st, [((Str.ofString "__class__"), cc)], cda⟩) (f := f) (tk := s.toks + ([Str.ofString "self", v].zip us).length) S hr.hd e0 rfl r CA hns kp
        generalize hX : NdefX.ncx CX P w K mg base [Str.ofString "self", v, Str.ofString "__class__"] ⟨name, qual, defArgs st, defBody st, defScope st, [((Str.ofString "__class__"), cc)], cda⟩ f A outer s H E = X at I
        show codeAny _ _ (.func (defBody st) (NdefX.envF ⟨name, qual, defArgs st, defBody st, defScope st, [((Str.ofString "__class__"), cc)], cda⟩ f s.heap.objs.size)) _ _
        refine ks_codeAny_funcAt ?_
        have hex : ∀ env, execs (defBody st) env = execs [Stmt.Expr (((Expr.Name "super" p0).Call [] [] p1).Attribute "__init__" p2 |>.Call [Expr.Constant (Const.str m) j p3] [] p4) p5, Stmt.Assign [(Expr.Name "self" q1).Attribute a q2] (Expr.Name v q3) q4] env := fun env => by rw [hb]
        rw [hex]
        have hE : NdefX.envF ⟨name, qual, defArgs st, defBody st, defScope st, [((Str.ofString "__class__"), cc)], cda⟩ f s.heap.objs.size = X.env := by rw [← hX]; rfl
        have hA : A.deeper (NdefX.envF ⟨name, qual, defArgs st, defBody st, defScope st, [((Str.ofString "__class__"), cc)], cda⟩ f s.heap.objs.size) = X.A := by rw [← hX]; rfl
        have hNe : X.N = [Str.ofString "self", v, Str.ofString "__class__"] := by rw [← hX]; rfl
        have hP : X.prog = P := by rw [← hX]; rfl
        have hW : X.w = w := by rw [← hX]; rfl
        have hK : X.K = K := by rw [← hX]; rfl
        have hG : X.mg = mg := by rw [← hX]; rfl
        have hxe : X.xe = fun e s' => wpAny (model P w) X.A (leaving X.env e) (fun _ s'' => CX outer H s E e s'') (fun e' s'' => CX outer H s E e' s'') s' := by rw [← hX]; rfl
        have hs0 : X.s_0 = s ∧ X.H_0 = H ∧ X.fs = frs outer ∧ X.ex = [] := by rw [← hX]; exact ⟨rfl, rfl, rfl, rfl⟩
        have hsc : X.env.scope = defScope st := by rw [← hX]; rfl
        have r1 := sup_run (X := X) (pins := []) (body := defBody st) (a := a0) (C := C) (f := f) (D := { nx := fun σ' H' => σ' = NdefX.startF [Str.ofString "self", v, Str.ofString "__class__"] [.ref a0, v0] [none] ∧ H' = H, rt := fun _ _ => False })
          (p0 := p0) (p1 := p1) (p2 := p2) (p3 := p3) (p4 := p4) (p5 := p5) (m := m) (j := j) I (by rw [hG]; exact hm) (by rw [hK]; exact T.oex) (gl_is (by rw [hsc]; exact x8)) (by show X.env.scope.names.lookup _ = _; rw [hsc]; exact S.frk _ (List.mem_singleton.mpr rfl)) (by rw [← hX]; rfl) (by rw [hK]; exact lk) har (by rw [← hX]; rfl) (by rw [hK]; exact hc1) hc2 (by rw [hP]; exact hc3) (by rw [← hX]; rfl)
          (by rw [hK]; exact hcell) (by rw [hK]; exact hcls) (by rw [hK]; exact T.mro) (by rw [hK]; exact T.sup) (by rw [hK]; exact T.sub) (by rw [hK]; exact T.any) (by rw [hP]; exact T.top) (by rw [hNe, hin]; rfl) (by rw [hsc, hin]; exact S.par _ (List.mem_cons_self)) rfl ha ⟨rfl, rfl⟩
        have nd : X.N.Nodup := by rw [hNe]; exact S.nd
        have vis : ∀ {x : Str}, x ∈ [Str.ofString "self", v] → Vis X.env.scope x := fun hx => .inl (by rw [hsc]; exact S.par _ hx)
        have k1 : (Str.ofString "self" == ("__debug__" : Str)) = false ∧ (Str.ofString "self" == ("__classdict__" : Str)) = false := by
          unfold okName at x4; rw [Bool.and_eq_true, Bool.not_eq_true', Bool.not_eq_true'] at x4; exact x4
        have k2 : (v == ("__debug__" : Str)) = false ∧ (v == ("__classdict__" : Str)) = false := by
          unfold okName at x5; rw [Bool.and_eq_true, Bool.not_eq_true', Bool.not_eq_true'] at x5; exact x5
        have s2 : PSs X [Stmt.Assign [(Expr.Name "self" q1).Attribute a q2] (Expr.Name v q3) q4] _ := pss_one (ps_ost (f := a) (p' := q2) (pos := q4) (pe_var (i := 0) (pos := q1) (by rw [hNe]; rfl) (vis List.mem_cons_self) k1.1 k1.2) (pe_var (i := 1) (pos := q3) (by rw [hNe]; rfl) (vis (List.mem_cons_of_mem _ List.mem_cons_self)) k2.1 k2.2))
        have hA' : A.deeper X.env = X.A := by rw [← hE]; exact hA
        rw [hP, hW] at r1
        rw [hE, hA']
        refine ks_wpAt_execs_cons ?_
        refine ks_wpAt_mono r1 (fun fl s1 h1 => ?_) fun e s' z => by rw [hxe] at z; exact z
        cases fl with
        | next =>
          obtain ⟨σ', H', J, rfl, rfl⟩ := h1
          refine PySem.wpAt_of_wpAny ?_
          have hrun := s2.run [] s1 _ _ { nx := fun _ H' => Q .non H', rt := fun _ _ => False } J ?_
          · rw [hP, hW] at hrun
            refine wpAny_mono hrun (fun fl s2 h2 => ?_) fun e s' z => by rw [hxe] at z; exact z
            cases fl with
            | next =>
              obtain ⟨σ', H', J', q⟩ := h2
              refine ⟨V.non, H', ?_, J'.bare, ?_, ?_, rfl, q⟩
              · rw [J'.os, hs0.1]
              · have := J'.base; rw [hs0.1, hs0.2.1, hs0.2.2.1, hs0.2.2.2] at this; exact this
              · have := J'.hok; rw [hP, hW] at this; exact this
            | ret u => exact let ⟨_, _, _, _, _, q⟩ := h2; q.elim
            | brk => exact let ⟨_, _, _, q⟩ := h2; q.elim
            | cont => exact let ⟨_, _, _, q⟩ := h2; q.elim
          · refine ⟨v0, rfl, .ref a0, rfl, a0, C, rfl, by rw [hK]; exact T.oex, by rw [hK]; exact T.fno, .inl ⟨ha, hq⟩⟩
        | ret u => exact let ⟨_, _, _, _, _, q⟩ := h1; q.elim
        | brk => exact let ⟨_, _, _, q⟩ := h1; q.elim
        | cont => exact let ⟨_, _, _, q⟩ := h1; q.elim
      · cases x7
    · cases x2
  · cases hx
end
end IL

set_option Elab.async false
set_option linter.all false
set_option maxRecDepth 100000
set_option maxHeartbeats 1000000
/-! IL: contexts, calls, the rules that lean on the program's own classes. -/
namespace IL
open PySem L2

/-- a def keeps its promise wherever no repr is under way -/
structure FnG (P : Program) (w : World) (K : PySem.W.Frag) (mg : Str → Option Value) (base : Heap) (CX : CXT) (k : Nat) (f : Addr) (fd : FuncData) (ps : List Str) (sp : Sp) : Prop where
  len : ∀ vs H Q E, sp vs H Q E → vs.length = ps.length
  run : ∀ (A : Around) (outer : List Env) (s : Shared) (H : Hp) (args : Args) (us : List Value) (vs : List V) (Q : VK) (E : XK), A.guards = some [] → Room k A → Env0 P w K mg base A outer s H →
    BindsTo s fd args (ps.zip us) → Vals vs us → sp vs H Q E → codeAny (model P w) A (.call (.ref f) args) (L2.CR CX outer P w H s Q E) s
theorem FnG.mono {P : Program} {w : World} {K : PySem.W.Frag} {mg : Str → Option Value} {base : Heap} {CX : CXT} {j k : Nat} {f : Addr} {fd : FuncData} {ps : List Str} {sp : Sp} (F : FnG P w K mg base CX j f fd ps sp) (h : j ≤ k) :
    FnG P w K mg base CX k f fd ps sp :=
  ⟨F.len, fun A outer s H args us vs Q E g hr => F.run A outer s H args us vs Q E g (hr.mono h)⟩
theorem FnG.of {P : Program} {w : World} {K : PySem.W.Frag} {mg : Str → Option Value} {base : Heap} {CX : CXT} {k : Nat} {f : Addr} {fd : FuncData} {ps : List Str} {sp : Sp} (F : FnOk P w K mg base CX k f fd ps sp) : FnG P w K mg base CX k f fd ps sp :=
  ⟨F.len, fun A outer s H args us vs Q E _ hr => F.run A outer s H args us vs Q E hr⟩
/-- the program around -/
structure Pg where
  P : Program
  w : World
  mg : Str → Option Value
  base : Heap
structure At (Γ : Gm) (g : Pg) (X : Cx) : Prop where
  p : X.prog = g.P
  w : X.w = g.w
  k : X.K = Γ.K
  m : X.mg = g.mg
  b : X.base = g.base
/-- what an expression may lean on -/
structure Ct (Γ : Gm) (g : Pg) (k : Nat) (X : Cx) (W : WX) : Prop where
  at_ : At Γ g X
  calm : X.calm = true
  tk : Takes X W
  gd : X.A.guards = some []
  room : Room k X.A
  nd : X.N.Nodup
/-- a call of a def: by the evaluator -/
def spF (Γ : Gm) (cf : Nat → List D → List Ob → CR) (np f : Nat) : Sp := fun vs H Q E => ∃ (N : Addr → Prop) (M : List Addr) (s : List Ob) (ds : List D), ds.length = np ∧
  Rel Γ ⟨N, H, M⟩ ⟨M, [], s, [], H⟩ ∧ Γ.Rs ⟨N, H, M⟩ ⟨M, [], s, [], H⟩ ds vs ∧ match cf f ds s with
    | .ok d fr s' => ∀ v c', c'.e = [] → c'.σ = [] → c'.s = s' → Rel Γ ⟨N, H, M⟩ c' → TrC ⟨N, H, M⟩ ⟨M, [], s, [], H⟩ ⟨N, H, M⟩ c' → Post Γ ⟨N, H, M⟩ c' d fr v → Q v c'.H
    | .exn x o s' => ∀ cls dd c', c'.e = [] → c'.σ = [] → c'.s = s' → Rel Γ ⟨N, H, M⟩ c' → TrC ⟨N, H, M⟩ ⟨M, [], s, [], H⟩ ⟨N, H, M⟩ c' → Γ.xr x o (Cl ⟨N, H, M⟩ c') c'.M c'.H cls dd → E cls dd c'.H
    | .bad => False
/-- a result, whatever it takes: nothing that stood is changed -/
def Res (Γ : Gm) (H : Hp) (B : Bs) (c : Cf) (d : D) (fr : Bool) (Q : VK) : Prop := Fin Γ B c d fr Q
def rMk (Γ : Gm) (cf : Nat → List D → List Ob → CR) (ib : Nat) : List V → Hp → VK → Prop := fun vs H Q => ∃ B c d1 d2 v1 v2 ds rs s', vs = [v1, v2] ∧ c.H = H ∧ Rel Γ B c ∧ Γ.R B c d1 v1 ∧ Γ.R B c d2 v2 ∧ cf ib [.me, d1, d2] c.s = .exn 7 (some (.tup [.lst ds, .lst rs])) s' ∧ fixDs ds = true ∧ fixDs rs = true ∧ (noMe d1 = true ∧ noMe d2 = true ∧ c.s.all noMeO = true ∧ s'.all noMeO = true) ∧
  ∀ v c', c'.e = c.e → c'.s = s' → c'.σ = c.σ → Rel Γ B c' → TrC B c B c' → Post Γ B c' (.book ds rs) false v → Q v c'.H
def rDem (Γ : Gm) : V → Hp → VK → Prop := fun v H Q => ∃ B c ds rs, c.H = H ∧ Rel Γ B c ∧ Γ.R B c (.book ds rs) v ∧ Fin Γ B c (.lst ds) true Q
def rRdr (Γ : Gm) : V → Hp → VK → Prop := fun v H Q => ∃ B c ds rs, c.H = H ∧ Rel Γ B c ∧ Γ.R B c (.book ds rs) v ∧ Fin Γ B c (.lst rs) true Q
def rLenB (Γ : Gm) : List V → Hp → VK → Prop := fun vs H Q => ∃ v B c ds rs, vs = [v] ∧ c.H = H ∧ Rel Γ B c ∧ Γ.R B c (.book ds rs) v ∧ Fin Γ B c (.int ds.length) false Q
def bnames : List String := ["len", "list", "tuple", "sorted", "sum", "all", "abs", "int", "repr", "max", "min", "range", "enumerate", "zip", "isinstance", "set", "bool"]
/-- what isinstance asks of the class -/
structure BkTy (K : PySem.W.Frag) (C : Addr) : Prop where
  ins : C8.InsC K C
  no : PySem.W.kitOne K (.ref C) (.type "int") = some false ∧ PySem.W.kitOne K (.ref C) (.type "bool") = some false ∧ PySem.W.kitOne K (.ref C) (.type "list") = some false ∧ PySem.W.kitOne K (.ref C) (.type "tuple") = some false
  cls : (PySem.W.clsIn K C).isSome = true ∧ PySem.W.typeIn K (.ref C) = some (.type "type")
/-- an exception's class -/
structure XcR (g : Pg) (K : PySem.W.Frag) (C : Addr) (fld : Str) : Prop where
  oex : OexC K C
  xf : XfC K C
  fno : PySem.W.findIn K (.ref C) fld = some none
  ini : ∃ fI fd arg, PySem.W.findIn K (.ref C) "__init__" = some (some (.ref fI)) ∧ PySem.W.typeIn K (.ref fI) = some (.type "function") ∧ Binds K fd ["self", arg] [] ∧ FnOk g.P g.w K g.mg g.base (L2.CX g.P g.w) 1 fI fd ["self", arg] (spX C fld)
structure Own (Γ : Gm) (g : Pg) (nm : Nm) (k : Nat) : Prop where
  ty : BkTy Γ.K Γ.CB.C
  beq : ∀ X, At Γ g X → X.A.guards = some [] → Room k X.A → OpR X (compareOp .Eq) (rBook Γ)
  bn : ∀ x ∈ bnames, g.mg (Str.ofString x) = none
  cs : ∀ x i, nm.cs.lookup x = some i → ∃ t, g.mg x = some (.int i t)
  blen : ∀ X, At Γ g X → X.A.guards = some [] → Room k X.A → CallR X (.builtin "len") (rLenB Γ)
  dem : ∀ X, At Γ g X → X.A.guards = some [] → Room k X.A → ∀ o p q t, PE X o t → noCall o = true → (p.endLine == q.line) = true → PE X (.Call (.Attribute o (Str.ofString "demands") p) [] [] q) fun σ H Q => t σ H fun v H1 => rDem Γ v H1 Q
  x7 : ∀ n, n < 8 → Γ.ex n = none
  lv : 2 ≤ k
  exc : ∀ (j : Nat) x fld, nm.xs[j]? = some (x, fld) → ∃ C, Γ.ex (8 + j) = some (C, fld) ∧ g.mg x = some (.ref C) ∧ XcR g Γ.K C fld
  exm : ∀ (i j : Nat) C C' f f', Γ.ex i = some (C, f) → Γ.ex j = some (C', f') → PySem.W.exmOne Γ.K (.ref C) (.ref C') = some (decide (i = j))
  rdr : ∀ X, At Γ g X → X.A.guards = some [] → Room k X.A → ∀ o p q t, PE X o t → noCall o = true → (p.endLine == q.line) = true → PE X (.Call (.Attribute o (Str.ofString "readers") p) [] [] q) fun σ H Q => t σ H fun v H1 => rRdr Γ v H1 Q
/-- the defs that are called -/
structure Calls (Γ : Gm) (g : Pg) (nm : Nm) (k : Nat) (cf : Nat → List D → List Ob → CR) : Prop where
  call : ∀ (f : Nat) (x : Str), nm.fs[f]? = some x → ∃ fa fd ps, g.mg x = some (.ref fa) ∧ PySem.W.keepIn Γ.K (.ref fa) = true ∧ Binds Γ.K fd ps [] ∧ FnG g.P g.w Γ.K g.mg g.base (L2.CX g.P g.w) k fa fd ps (spF Γ cf ps.length f) ∧ ∀ ds s, ds.length ≠ ps.length → cf f ds s = .bad
  make : ∀ X, At Γ g X → X.A.guards = some [] → Room k X.A → Gl X (Str.ofString "Book") → ∀ a b p q t, noStar a = true → noStar b = true → PA X [a, b] t → PE X (.Call (.Name (Str.ofString "Book") p) [a, b] [] q) fun σ H Q => t σ H fun vs H1 => rMk Γ cf nm.ib vs H1 Q
/-! ### calls -/
section
variable {Γ : Gm} {g : Pg} {k : Nat} {X : Cx} {W : WX} {B : Bs} {c : Cf}
theorem star_cons {x : Expr} {xs : List Expr} {env : Env} (h : noStar x = true) : starEach (x :: xs) env = (false, eval x env) :: starEach xs env := by
  cases x <;> first | rfl | cases h
theorem star_any {pos : Pos} {env : Env} : ∀ {xs : List Expr}, xs.all noStar = true → (backTo pos (starEach xs env)).any (·.1) = false
  | [], _ => rfl
  | x :: xs, h => by
    rw [List.all_cons, Bool.and_eq_true] at h
    rw [star_cons h.1]
    have ih := star_any (pos := pos) (env := env) h.2
    unfold backTo at ih ⊢
    rw [List.map_cons, List.any_cons]
    simp only [Bool.false_or]
    exact ih
theorem chkEs_star {nm : Nm} {N : List Str} {sc : Scope} : ∀ {es : Es} {xs : List Expr}, chkEs nm N sc es xs = true → xs.all noStar = true
  | .nil, xs, h => by rw [isNil_eq h]; rfl
  | .cons e es, [], h => by simp [chkEs] at h
  | .cons e es, x :: xs, h => by
    simp only [chkEs, Bool.and_eq_true] at h
    rw [List.all_cons, h.1.2, chkEs_star h.2]; rfl
theorem pe_callG {fa : Addr} {fd : FuncData} {ps : List Str} {sp : Sp} {x : Str} {p pos : Pos} {e : Expr} {es : List Expr} {t : TA} (F : FnG X.prog X.w X.K X.mg X.base (L2.CX X.prog X.w) k fa fd ps sp) (hgd : X.A.guards = some []) (hr : Room k X.A) (tk : Takes X W)
    (hg : Gl X x) (hm : X.mg x = some (.ref fa)) (hk : PySem.W.keepIn X.K (.ref fa) = true) (hb : Binds X.K fd ps []) (ha : PA X (e :: es) t) (hs : (e :: es).all noStar = true) (hdb : (x == ("__debug__" : Str)) = false) :
    PE X (.Call (.Name x p) (e :: es) [] pos) (tCallS sp (WE W) t) := by
  rw [List.all_cons, Bool.and_eq_true] at hs
  refine ⟨fun pins s σ H Q I h => wpAny_Call_Name_kw (ld_glob I hg hm ?_ hdb)⟩
  refine PySem.W.callWith_K (h₀ := X.base) I.ok.mod.kin hk (thn (ha.run pos pins s σ H _ I h) fun us s1 ⟨vs, H1, I1, r, q⟩ => ⟨I1.kIn, ?_⟩) (star_cons hs.1) (star_any hs.2)
  have q' : sp vs H1 Q (WE W σ) := q
  have hl : us.length = ps.length := by rw [← r.length]; exact F.len _ _ _ _ q'
  have b := hb s1 us I1.kIn (by rw [List.append_nil]; exact hl)
  rw [List.append_nil] at b
  refine wpAny_call (codeAny_mono (F.run X.A X.stack s1 H1 ⟨us, []⟩ us vs Q (WE W σ) hgd hr I1.env0 b r q') fun r' s' hq => ?_)
  cases r' with
  | error u => exact passAt tk σ pins H1 s1 u s' I1 hq
  | ok fl =>
    cases fl with
    | ret u => exact I1.after hq
    | next => exact hq.elim
    | brk => exact hq.elim
    | cont => exact hq.elim
/-- a caller's state as a callee finds it -/
def Bs.callee (B : Bs) (c : Cf) : Bs := ⟨fun a => B.N a ∧ ¬ c.isCell a, c.H, c.M⟩
def Cf.callee (c : Cf) : Cf := ⟨c.M, [], c.s, [], c.H⟩
theorem noCell {M : List Addr} {s : List Ob} {H : Hp} {a : Addr} : ¬ Cf.isCell ⟨M, [], s, [], H⟩ a := fun ⟨i, d, h, _⟩ => by simp at h
theorem noCell' {c : Cf} (h : c.e = []) {a : Addr} : ¬ c.isCell a := fun ⟨i, d, e, _⟩ => by rw [h] at e; simp at e
theorem cl_callee {a : Addr} : Cl (B.callee c) c.callee a ↔ Cl B c a := ⟨fun ⟨⟨h1, h2⟩, h3, _⟩ => ⟨h1, h3, h2⟩, fun ⟨h1, h2, h3⟩ => ⟨⟨h1, h3⟩, h2, noCell⟩⟩
theorem tr_to : TrC B c (B.callee c) c.callee := Tr.weaken fun a _ _ h => cl_callee.mpr h
theorem Rel.callee (hR : Rel Γ B c) : Rel Γ (B.callee c) c.callee where
  len := rfl
  new := fun a h => ⟨hR.new a h, fun z => by obtain ⟨⟨u, hu, _⟩, _⟩ := hR.cellH z; rw [show c.H a = none from h] at hu; cases hu⟩
  frame := fun _ _ h _ => h
  mpre := fun _ _ h => h
  mnew := fun _ h => .inl h
  mnd := hR.mnd
  mlen := hR.mlen
  val := fun i d h => by simp [Cf.callee] at h
  cell := fun i d h => by simp [Cf.callee] at h
  apart := fun i j d d' p h => by simp [Cf.callee] at h
  sto := fun n ob h => by
    obtain ⟨a, h1, h2⟩ := hR.sto n ob h
    exact ⟨a, h1, ob_tr tr_to rfl h2⟩
/-- behind a call -/
def Cf.back (c c' : Cf) : Cf := ⟨c'.M, c.e, c'.s, c.σ, c'.H⟩
variable {c' : Cf}
theorem cl_back (he : c'.e = []) {a : Addr} (h : Cl (B.callee c) c' a) : Cl B (c.back c') a := ⟨h.1.1, h.2.1, h.1.2⟩
theorem tr_back (hR : Rel Γ B c) (he : c'.e = []) (t : TrC (B.callee c) c.callee (B.callee c) c') : TrC B c B (c.back c') :=
  (tr_to.trans t).trans (Tr.weaken fun a _ _ h => cl_back he h)
theorem Rel.backG {B1 Bc : Bs} (hR : Rel Γ B c) (hR' : Rel Γ Bc c') (eH : Bc.Hb = c.H) (eM : Bc.Mb = c.M) (bH : B1.Hb = B.Hb) (bM : B1.Mb = B.Mb) (tb : TrC B c B1 (c.back c')) (tw : TrC Bc c' B1 (c.back c'))
    (new : ∀ a, c'.H a = none → B1.N a) (kN : ∀ p, c.isCell p → B1.N p) : Rel Γ B1 (c.back c') := by
  have keepC : ∀ p, c.isCell p → c'.H p = c.H p ∧ p ∉ c'.M := fun p h => by
    obtain ⟨⟨u, hu, _⟩, _, hm, _⟩ := hR.cellH h
    refine ⟨(hR'.frame p u (by rw [eH]; exact hu) (by rw [eM]; exact hm)).trans hu.symm, fun z => ?_⟩
    rcases hR'.mnew p z with z | z
    · rw [eM] at z; exact hm z
    · rw [eH] at z; rw [z] at hu; cases hu
  refine ⟨hR.len, new, fun a o h hm => ?_, fun n a h => tb.pre n a (hR.mpre n a (by rw [← bM]; exact h)), fun a h => ?_, hR'.mnd, hR'.mlen, fun i d h => ?_, fun i d h => ?_, hR.apart, fun n ob h => ?_⟩
  · rw [bH] at h
    rw [bM] at hm
    have h1 := hR.frame a o h hm
    refine hR'.frame a o (by rw [eH]; exact h1) fun z => ?_
    rw [eM] at z
    rcases hR.mnew a z with z | z
    · exact hm z
    · rw [z] at h; cases h
  · rw [bH, bM]
    rcases hR'.mnew a h with z | z
    · rw [eM] at z; exact hR.mnew a z
    · rw [eH] at z
      exact .inr (hR.fresh z).1
  · obtain ⟨v, h1, h2⟩ := hR.val i d h
    exact ⟨v, h1, rep_tr tb _ _ h2⟩
  · obtain ⟨p, h1, h2, h3, h4, h5⟩ := hR.cell i d h
    obtain ⟨k1, k2⟩ := keepC p ⟨i, d, h, h1⟩
    exact ⟨p, h1, by rw [bH]; exact h2, kN p ⟨i, d, h, h1⟩, k2, cell_tr tb k1 h5⟩
  · obtain ⟨a, h1, h2⟩ := hR'.sto n ob h
    exact ⟨a, h1, ob_tr tw rfl h2⟩
theorem Rel.back (hR : Rel Γ B c) (he : c'.e = []) (hR' : Rel Γ (B.callee c) c') (t : TrC (B.callee c) c.callee (B.callee c) c') : Rel Γ B (c.back c') :=
  hR.backG hR' rfl rfl rfl rfl (tr_back hR he t) (Tr.weaken fun a _ _ h => cl_back he h) (fun a h => (hR'.new a h).1) fun p h => (hR.cellH h).2.1
theorem post_back {d : D} {fr : Bool} {v : V} (hR : Rel Γ B c) (he : c'.e = []) (t : TrC (B.callee c) c.callee (B.callee c) c') (h : Post Γ (B.callee c) c' d fr v) : Post Γ B (c.back c') d fr v := by
  have tw : TrC (B.callee c) c' B (c.back c') := Tr.weaken fun a _ _ h => cl_back he h
  refine ⟨rep_tr tw _ _ h.1, fun e => ?_⟩
  obtain ⟨p, h1, h2, h3, h4, h5, h6⟩ := h.2 e
  have h2' : c.H p = none := h2
  have hf := hR.fresh h2'
  obtain ⟨u, hu, _⟩ := cell_some h6
  have tb := tr_back hR he t
  have tw1 : TrC ((B.callee c).ne p) c' (B.ne p) (c.back c') := Tr.weaken fun a _ _ h => ⟨⟨h.1.1.1, h.1.2⟩, h.2.1, h.1.1.2⟩
  refine ⟨p, h1, hf.1, hf.2.1, h4, hR.backG h5 rfl rfl rfl rfl ⟨tb.keep, fun a o h n => ?_, tb.pre⟩ tw1 (fun a h => ⟨(h5.new a h).1.1, fun z => ?_⟩) fun q h => ⟨(hR.cellH h).2.1, fun z => ?_⟩, cell_tr tw1 rfl h6⟩
  · obtain ⟨n1, n2, n3⟩ := tb.cl a o h n
    exact ⟨⟨n1, ne_of_none h h2'⟩, n2, n3⟩
  · subst z; rw [hu] at h; cases h
  · subst z; exact hf.2.2.2 h
end
end IL

set_option Elab.async false
set_option linter.all false
set_option maxRecDepth 100000
set_option maxHeartbeats 2000000
namespace IL
open PySem L2
section
variable {Γ : Gm} {g : Pg} {nm : Nm} {k : Nat} {cf : Nat → List D → List Ob → CR} {X : Cx} {W : WX} {B : Bs} {c : Cf} {σ : St} {H : Hp} {Q : VK} {e : Expr} {d : D} {v : V} {fr : Bool} {α β : Type}
theorem pe_imp {t t' : TE} (h : PE X e t) (hi : ∀ σ H Q, t' σ H Q → t σ H Q) : PE X e t' := ⟨fun pins s σ H Q I q => h.run pins s σ H Q I (hi σ H Q q)⟩
theorem pt_imp {t t' : TT} (h : PT X e t) (hi : ∀ σ H Q, t' σ H Q → t σ H Q) : PT X e t' := ⟨fun pins s σ H Q I q => h.run pins s σ H Q I (hi σ H Q q)⟩
theorem pw_imp {t t' : TT} (h : PW X e t) (hi : ∀ σ H Q, t' σ H Q → t σ H Q) : PW X e t' := ⟨fun wh pins s σ H Q I q => h.run wh pins s σ H Q I (hi σ H Q q)⟩
theorem pa_imp {es : List Expr} {t t' : TA} (h : PA X es t) (hi : ∀ σ H Q, t' σ H Q → t σ H Q) : PA X es t' := ⟨fun pos pins s σ H Q I q => h.run pos pins s σ H Q I (hi σ H Q q)⟩
/-- what follows an expression's evaluation -/
abbrev KE (Γ : Gm) (B : Bs) (Q : VK) : D × Bool → Cf → Prop := fun x c' => ∀ v, Post Γ B c' x.1 x.2 v → Q v c'.H
theorem tE_def {r : Wd → R (D × Bool)} : tE Γ W r σ H Q ↔ ∃ B c, c.σ = σ ∧ c.H = H ∧ Rel Γ B c ∧ Run Γ B c W (r c.w) (KE Γ B Q) := Iff.rfl
/-- one operand, then the rest -/
theorem one {ra : Wd → R (D × Bool)} {K : Bs → α → Cf → Prop} {f : D × Bool → Wd → R α} (hR : Rel Γ B c) (h : Run Γ B c W ((ra c.w).bind f) (K B)) {P : V → Hp → Prop}
    (G : ∀ c' x v, c'.σ = c.σ → Rel Γ B c' → TrC B c B c' → Post Γ B c' x.1 x.2 v → Run Γ B c' W (f x c'.w) (K B) → P v c'.H) : tE Γ W ra c.σ c.H P :=
  ⟨B, c, rfl, rfl, hR, (Run.bind h).imp fun x c' e R t h1 v p => G c' x v e R t p h1⟩
theorem oneA {ra : Wd → R (List D)} {K : Bs → α → Cf → Prop} {f : List D → Wd → R α} (hR : Rel Γ B c) (h : Run Γ B c W ((ra c.w).bind f) (K B)) {P : List V → Hp → Prop}
    (G : ∀ c' x v, c'.σ = c.σ → Rel Γ B c' → TrC B c B c' → Γ.Rs B c' x v → Run Γ B c' W (f x c'.w) (K B) → P v c'.H) : tA Γ W ra c.σ c.H P :=
  ⟨B, c, rfl, rfl, hR, (Run.bind h).imp fun x c' e R t h1 v p => G c' x v e R t p h1⟩
theorem oneT {ra : Wd → R Bool} {K : Bs → α → Cf → Prop} {f : Bool → Wd → R α} (hR : Rel Γ B c) (h : Run Γ B c W ((ra c.w).bind f) (K B)) {P : Bool → Hp → Prop}
    (G : ∀ c' x, c'.σ = c.σ → Rel Γ B c' → TrC B c B c' → Run Γ B c' W (f x c'.w) (K B) → P x c'.H) : tT Γ W ra c.σ c.H P :=
  ⟨B, c, rfl, rfl, hR, (Run.bind h).imp fun x c' e R t h1 => G c' x e R t h1⟩
theorem oneO {ra : Wd → R (Option Int)} {K : Bs → α → Cf → Prop} {f : Option Int → Wd → R α} (hR : Rel Γ B c) (h : Run Γ B c W ((ra c.w).bind f) (K B)) {P : Option Int → Hp → Prop}
    (G : ∀ c' x, c'.σ = c.σ → Rel Γ B c' → TrC B c B c' → Run Γ B c' W (f x c'.w) (K B) → P x c'.H) : tO Γ W ra c.σ c.H P :=
  ⟨B, c, rfl, rfl, hR, (Run.bind h).imp fun x c' e R t h1 => G c' x e R t h1⟩
theorem sig {t : TE} {σ' : St} (e : σ' = σ) (h : t σ' H Q) : t σ H Q := e ▸ h
theorem sigT {t : TT} {σ' : St} {Q : Bool → Hp → Prop} (e : σ' = σ) (h : t σ' H Q) : t σ H Q := e ▸ h
theorem sigA {t : TA} {σ' : St} {Q : List V → Hp → Prop} (e : σ' = σ) (h : t σ' H Q) : t σ H Q := e ▸ h
theorem sigO {t : TO} {σ' : St} {Q : Option Int → Hp → Prop} (e : σ' = σ) (h : t σ' H Q) : t σ H Q := e ▸ h
/-- two operands by a rule on values -/
theorem two {ra rb : Wd → R (D × Bool)} {f : D × Bool → D × Bool → Wd → R (D × Bool)} {r : R2} (h : tE Γ W (fun w => (ra w).bind fun x w => (rb w).bind fun y w => f x y w) σ H Q)
    (G : ∀ B c x y v1 v2, Rel Γ B c → Γ.R B c x.1 v1 → Γ.R B c y.1 v2 → Run Γ B c W (f x y c.w) (KE Γ B Q) → r v1 v2 c.H Q) : tOp r (tE Γ W ra) (tE Γ W rb) σ H Q := by
  obtain ⟨B, c, rfl, rfl, hR, h⟩ := h
  exact one (K := fun B => KE Γ B Q) hR h fun c1 x v1 e1 R1 t1 p1 h1 => sig (t := tE Γ W rb) e1 (one (K := fun B => KE Γ B Q) R1 h1 fun c2 y v2 e2 R2 t2 p2 h2 => G B c2 x y v1 v2 R2 (rep_tr t2 _ _ p1.1) p2.1 h2)
theorem pe_name {i : Nat} (h : isName X.N X.env.scope i e = true) : PE X e (tVar i) := by
  cases e <;> simp only [isName, Bool.false_eq_true] at h
  rename_i x p
  rw [Bool.and_eq_true, Bool.and_eq_true] at h
  obtain ⟨⟨h1, h2⟩, h3⟩ := h
  have h1' := of_decide_eq_true h1
  unfold okName at h3
  rw [Bool.and_eq_true, Bool.not_eq_true', Bool.not_eq_true'] at h3
  refine pe_var h1' ?_ h3.1 h3.2
  unfold isVis at h2
  split at h2
  · rename_i q; exact .inl q
  · rename_i q; exact .inr (.inl q)
  · rename_i q; exact .inr (.inr q)
  · cases h2
theorem gl_of {x : Str} (h : isGl X.env.scope x = true) : Gl X x := by
  unfold isGl at h
  split at h
  · rename_i q; exact q
  · cases h
/-- what a slot holds -/
theorem Rel.get {i : Nat} (hR : Rel Γ B c) (h : c.w.get i = some d) : ∃ v, c.σ[i]? = some (some v) ∧ Γ.T B c d v := by
  unfold Wd.get at h
  split at h
  · rename_i x hx
    cases h
    obtain ⟨v, h1, h2⟩ := hR.val i _ hx
    exact ⟨v, h1, T_of h2⟩
  · rename_i x hx
    cases h
    obtain ⟨p, h1, _, _, _, h2⟩ := hR.cell i _ hx
    exact ⟨_, h1, T_cell h2⟩
  · cases h
theorem put_same {i : Nat} {s : Sl} {v : V} (h : c.σ[i]? = some (some v)) : c.put i s (some v) = { c with e := c.e.set i s } := by
  unfold Cf.put
  congr 1
  obtain ⟨hl, he⟩ := List.getElem?_eq_some_iff.mp h
  rw [← he]; exact List.set_getElem_self hl
/-- a slot is read for good -/
theorem Rel.freeze {i : Nat} (hR : Rel Γ B c) (h : c.e[i]? = some (.cell d)) : ∃ v, c.σ[i]? = some (some v) ∧ Rel Γ B { c with e := c.e.set i (.val d) } ∧ TrC B c B { c with e := c.e.set i (.val d) } ∧ Γ.R B { c with e := c.e.set i (.val d) } d v := by
  obtain ⟨p, h1, h2, h3, h4, h5⟩ := hR.cell i d h
  have e := put_same (s := .val d) h1
  have t : TrC B c B { c with e := c.e.set i (.val d) } := e ▸ putVal_tr (fun _ z => nomatch z)
  have nc : ¬ Cf.isCell { c with e := c.e.set i (.val d) } p := fun ⟨j, x, z1, z2⟩ => by
    by_cases ej : i = j
    · subst ej
      rw [show ({ c with e := c.e.set i (.val d) } : Cf).e = c.e.set i (.val d) from rfl, List.getElem?_set, if_pos rfl] at z1
      split at z1 <;> cases z1
    · rw [show ({ c with e := c.e.set i (.val d) } : Cf).e = c.e.set i (.val d) from rfl, List.getElem?_set_ne ej] at z1
      exact ej (hR.apart i j d x p h z1 h1 z2)
  have hr : Γ.R B { c with e := c.e.set i (.val d) } d (.ref p) := by
    have h6 := cell_tr t rfl h5
    cases d <;> first | exact False.elim h6 | skip
    · obtain ⟨vs, g1, g2⟩ := h6
      exact ⟨p, vs, rfl, g1, ⟨h3, h4, nc⟩, g2⟩
    · obtain ⟨vs, g1, gl, g2⟩ := h6
      exact ⟨p, vs, rfl, g1, ⟨h3, h4, nc⟩, gl, g2⟩
  refine ⟨_, h1, ?_, t, hr⟩
  rw [← e]
  refine hR.putVal (fun _ z => nomatch z) fun d' z => ?_
  cases z
  exact ⟨_, rfl, e ▸ hr⟩
theorem var_ok {i : Nat} (h : tE Γ W (fun w => (w.read i).bind fun d w => .ok (d, false) w) σ H Q) : tVar i σ H Q := by
  obtain ⟨B, c, rfl, rfl, hR, h⟩ := h
  cases he : c.e[i]? with
  | none => unfold Wd.read Cf.w at h; simp only [he] at h; exact h.elim
  | some s =>
    cases s with
    | no => unfold Wd.read Cf.w at h; simp only [he] at h; exact h.elim
    | val d =>
      unfold Wd.read Cf.w at h
      simp only [he] at h
      obtain ⟨v, h1, h2⟩ := hR.val i d he
      exact ⟨v, h1, h c rfl rfl rfl hR .refl v ⟨h2, fun z => nomatch z⟩⟩
    | cell d =>
      unfold Wd.read Cf.w at h
      simp only [he] at h
      obtain ⟨v, h1, R1, t1, r1⟩ := hR.freeze he
      have q := h { c with e := c.e.set i (.val d) } rfl rfl rfl R1 t1 v ⟨r1, fun z => nomatch z⟩
      exact ⟨v, h1, q⟩
theorem op_cmp (hO : Own Γ g nm k) (hX : Ct Γ g k X W) (o : COp) : OpR X (compareOp (pyCmp o)) (rCmp Γ o) := by
  have e : X.K = Γ.K := hX.at_.k
  have hu : X.A.units + 65 < cLine := by have := hX.room.un; omega
  have hdin : OpR X (compareOp .In) (fun x y H Q => ∃ a kvs k, y = .ref a ∧ H a = some (.dK kvs) ∧ x = kV k ∧ Q (.bl (valV kvs k).isSome) H) := fun pins s σ H x y u v Q I rx ry h => by
    obtain ⟨a, kvs, kk, rfl, h1, rfl, q⟩ := h
    cases ry
    exact d_in (by omega) I (DGet.k h1) rx fun s' I' => ⟨.bl _, H, I', rfl, q⟩
  have hdni : OpR X (compareOp .NotIn) (fun x y H Q => ∃ a kvs k, y = .ref a ∧ H a = some (.dK kvs) ∧ x = kV k ∧ Q (.bl (!(valV kvs k).isSome)) H) := fun pins s σ H x y u v Q I rx ry h => by
    obtain ⟨a, kvs, kk, rfl, h1, rfl, q⟩ := h
    cases ry
    exact d_notIn (by omega) I (DGet.k h1) rx fun s' I' => ⟨.bl _, H, I', rfl, q⟩
  cases o
  · exact OpR.or op_eq (OpR.or (e ▸ op_eqD (by omega)) (hO.beq X hX.at_ hX.gd hX.room))
  · exact OpR.or op_ne (e ▸ op_neD (by omega))
  · exact op_lt
  · exact op_le
  · exact op_gt
  · exact op_ge
  · exact OpR.or (e ▸ op_in_seq) (OpR.or (e ▸ op_inD hu) hdin)
  · exact OpR.or (e ▸ op_notIn_seq) (OpR.or (e ▸ op_notInD hu) hdni)
  · exact op_isA
  · exact op_isnA
open PySem.Spec PyProof.Rows in
theorem tail_dict {prog : Program} {w : World} {A : Around} {E : Value → Shared → Prop} {s : Shared} {value slice : Expr} {o i : Value} {Q : Value → Shared → Prop} (hT : s.TypeIs o "dict") (hs : subscripted slice false o i = operate [o, i] (getItem o i))
    (h : wpAny (model prog w) A (getItem o i) Q E s) : wpAny (model prog w) A (subscriptTail value slice o i) Q E s := by
  have last : wpAny (model prog w) A (subscripted slice false o i) (fun r s' => wpAny (model prog w) A (letTemporaryGo value o r >>= fun _ => pure r) Q E s') E s := by
    rw [hs]
    exact wpAny_operating (thn h fun r s' q => wpAny_bind (wpAny_letTemporaryGo (wpAny_pure q)))
  unfold subscriptTail
  apply wpAny_bind
  rw [getitemInPython_of_ne hT.not_modules]
  apply wpAny_bind
  apply wpAny_specialOf hT PySem.F.slot_dict_getitem.lookup
  first
    | exact wpAny_pure (wpAny_bind last)
    | exact wpAny_bind (wpAny_pure (wpAny_bind last))
    | exact wpAny_bind last
open PySem.Spec PyProof.Rows in
theorem ix_all (hX : Ct Γ g k X W) : IxR X (rIxA Γ.K) := by
  have e : X.K = Γ.K := hX.at_.k
  have hu : X.A.units + 1 < cLine := by have := hX.room.un; omega
  refine IxR.or (e ▸ ix_list) (IxR.or (e ▸ ix_tup) fun value slice pins s σ H x y u v Q I rx ry h hs => ?_)
  obtain ⟨a, kvs, kk, w, rfl, h1, rfl, h2, q⟩ := h
  cases rx
  have g : DGet H a (kV kk) (some w) := by rw [← h2]; exact DGet.k h1
  exact tail_dict (dict_typeIs I g) hs (d_getItem hu I g ry fun w' s' I' r => ⟨w, H, I', r, q⟩)
/-- an answer that is handed on -/
theorem FinB.of {b : Bool} (h : Run Γ B c W (.ok (.bl b, false) c.w) (KE Γ B Q)) : FinB Γ B c b Q := fun c' e1 e2 e3 R t => h c' e1 e2 e3 R t _ ⟨rfl, fun z => nomatch z⟩
theorem cmp_end {o : COp} {d1 d2 : D} {v1 v2 : V} (hR : Rel Γ B c) (h1 : Γ.T B c d1 v1) (h2 : Γ.T B c d2 v2) (h : Run Γ B c W ((R.opt (cmpD o d1 d2) c.w).bind fun b w => .ok (.bl b, false) w) (KE Γ B Q)) : rCmp Γ o v1 v2 c.H Q := by
  obtain ⟨b, hb, h⟩ := Run.opt h
  exact fit_cmp hR h1 h2 hb (FinB.of h)
theorem T_tr {c' : Cf} (hR : Rel Γ B c) (t : TrC B c B c') (h : Γ.R B c d v) : Γ.T B c' d v := T_of (rep_tr t _ _ h)
end
end IL

set_option Elab.async false
set_option linter.all false
set_option maxRecDepth 100000
set_option maxHeartbeats 2000000
/-! IL: sorted of a list of tuples of ints, any number of them, of any lengths above 0. -/
namespace SrtO
open PySem PyProof.Rows Srt
def ltL : List Int → List Int → Bool
  | [], [] => false
  | [], _ :: _ => true
  | _ :: _, [] => false
  | x :: xs, y :: ys => if x = y then ltL xs ys else decide (x < y)
theorem ltL_asym : ∀ x y, ltL x y = true → ltL y x = false
  | [], [], h => by cases h
  | [], _ :: _, _ => rfl
  | _ :: _, [], h => by cases h
  | x :: xs, y :: ys, h => by
    unfold ltL at h ⊢
    by_cases e : x = y
    · subst e
      rw [if_pos rfl] at h ⊢
      exact ltL_asym xs ys h
    · rw [if_neg e] at h
      rw [if_neg (fun z => e z.symm)]
      have := of_decide_eq_true h
      exact decide_eq_false (by omega)
theorem ltL_tr : ∀ x y z, ltL y x = false → ltL z y = false → ltL z x = false
  | [], _, [], _, _ => rfl
  | [], [], _ :: _, _, _ => rfl
  | [], _ :: _, _ :: _, h, _ => rfl
  | _ :: _, [], _, h, _ => by cases h
  | _ :: _, _ :: _, [], _, h => by cases h
  | x :: xs, y :: ys, z :: zs, h1, h2 => by
    unfold ltL at h1 h2 ⊢
    by_cases e1 : y = x
    · subst e1
      rw [if_pos rfl] at h1
      by_cases e2 : z = y
      · subst e2
        rw [if_pos rfl] at h2 ⊢
        exact ltL_tr xs ys zs h1 h2
      · rw [if_neg e2] at h2 ⊢; exact h2
    · rw [if_neg e1] at h1
      have a1 := of_decide_eq_false h1
      by_cases e2 : z = y
      · subst e2
        rw [if_neg e1]; exact decide_eq_false (by omega)
      · rw [if_neg e2] at h2
        have a2 := of_decide_eq_false h2
        rw [if_neg (by omega)]; exact decide_eq_false (by omega)
theorem ltL_eq : ∀ x y, ltL x y = false → ltL y x = false → x = y
  | [], [], _, _ => rfl
  | [], _ :: _, h, _ => by cases h
  | _ :: _, [], _, h => by cases h
  | x :: xs, y :: ys, h1, h2 => by
    unfold ltL at h1 h2
    by_cases e : x = y
    · subst e
      rw [if_pos rfl] at h1 h2
      rw [ltL_eq xs ys h1 h2]
    · rw [if_neg e] at h1
      rw [if_neg (fun z => e z.symm)] at h2
      have a1 := of_decide_eq_false h1
      have a2 := of_decide_eq_false h2
      omega
theorem ltL_swo {α : Type} (k : α → List Int) : Swo fun v u => ltL (k v) (k u) := ⟨fun x y h => ltL_asym _ _ h, fun x y z h1 h2 => ltL_tr _ _ _ h1 h2⟩
/-- what a tuple of ints holds -/
def tints (h : Heap) : Value → List Int
  | .ref a => match h.get? a with
    | some o => match o.data with
      | .seq xs _ => xs.toList.map iv
      | _ => []
    | none => []
  | _ => []
def IsTs (h : Heap) (v : Value) (ns : List Int) : Prop := ∃ a o its n, v = .ref a ∧ h.get? a = some o ∧ o.cls = .type "tuple" ∧ o.data = .seq its n ∧ IntsAre its.toList ns
theorem IsTs.ints {h : Heap} {v : Value} {ns : List Int} (t : IsTs h v ns) : tints h v = ns := by
  obtain ⟨a, o, its, n, rfl, ho, hc, hd, hi⟩ := t
  unfold tints
  dsimp only
  rw [ho]
  dsimp only
  rw [hd]
  exact iv_ints hi
theorem IsTs.keeps {h h' : Heap} {v : Value} {ns : List Int} (t : IsTs h v ns) (k : ∀ b o, h.get? b = some o → o.cls = .type "tuple" → h'.get? b = some o) : IsTs h' v ns := by
  obtain ⟨a, o, its, n, e, ho, hc, hd, hi⟩ := t
  exact ⟨a, o, its, n, e, k a o ho hc, hc, hd, hi⟩
section
variable {prog : Program} {w : World} {A : Around} {E : Value → Shared → Prop} {s : Shared}
theorem ts_lex {b fin : Bool} {Q : Bool → Shared → Prop} : ∀ {its its2 : List Value} {ns ms : List Int} (i : Nat), IntsAre its ns → IntsAre its2 ms → fin = decide (ns.length < ms.length) → Q (ltL ns ms) s → PySem.W.KatLex prog w A b fin Q (its.zip its2) i s
  | _, _, _, _, i, .nil, .nil, hf, hq => by subst hf; exact PySem.W.kat_nil hq
  | _, _, _, _, i, .nil, .cons m t r, hf, hq => by
    subst hf
    refine PySem.W.kat_nil ?_
    rw [decide_eq_true (by simp)]
    exact hq
  | _, _, _, _, i, .cons m t r, .nil, hf, hq => by
    subst hf
    refine PySem.W.kat_nil ?_
    rw [decide_eq_false (by simp)]
    exact hq
  | _, _, _, _, i, .cons n t r, .cons m u q, hf, hq => by
    rw [List.zip_cons_cons]
    refine PySem.W.kat_cons (SeqAt.EqAt.int_int n t m u prog w _ _ ?_)
    refine PySem.W.kat_go (fun e => ?_) (fun e => ?_)
    · have ex : n = m := by simpa using e
      refine PySem.W.kat_yes (ts_lex (i + 1) r q (by rw [hf]; simp) ?_)
      unfold ltL at hq
      rw [if_pos ex] at hq
      exact hq
    · have ex : ¬ n = m := by simpa using e
      unfold ltL at hq
      rw [if_neg ex] at hq
      refine PySem.W.kat_no ?_
      by_cases hb : (b && i == 0) = true
      · rw [hb]; exact oneLt_int hq
      · rw [Bool.not_eq_true _ |>.mp hb]
        exact PySem.W.kat_one _ _ (PyProof.Rows.lt_int hq)
theorem ts_cmp {vs : List Value} (hp : ∀ v ∈ vs, IsTs s.heap v (tints s.heap v)) : Cmp prog w A s (tuples' true) (fun p => p.1 ∈ vs) (lt2 fun v u => ltL (tints s.heap v) (tints s.heap u)) := by
  intro p q hm hm'
  have h1 := hp _ hm
  have h2 := hp _ hm'
  show wpAny (model prog w) A (keyLt' (tuples' true) p.1 q.1) (fun r s' => s' = s ∧ r = ltL (tints s.heap p.1) (tints s.heap q.1)) (fun _ _ => False) s
  generalize tints s.heap p.1 = ns at h1 ⊢
  generalize tints s.heap q.1 = ms at h2 ⊢
  obtain ⟨a, o, its, n, e, ho, hc, hd, hi⟩ := h1
  obtain ⟨a', o', its', n', e', ho', hc', hd', hi'⟩ := h2
  rw [e, e']
  refine PySem.W.kat_lt ho hd ho' hd' (ts_lex 0 hi hi' ?_ ⟨rfl, rfl⟩)
  have l1 := hi.length
  have l2 := hi'.length
  rw [Array.length_toList] at l1 l2
  rw [l1, l2]
theorem ts_firsts {h : Heap} : ∀ {vs : List Value}, (∀ v ∈ vs, IsTs h v (tints h v) ∧ tints h v ≠ []) → ∃ fs, PySem.W.KatTups h vs fs ∧ fs.length = vs.length ∧ ∀ f ∈ fs, ∃ x t, f = Value.int x t
  | [], _ => ⟨[], trivial, rfl, fun f m => nomatch m⟩
  | v :: vs, hv => by
    obtain ⟨fs, h1, h2, h3⟩ := ts_firsts (vs := vs) fun u m => hv u (List.mem_cons_of_mem _ m)
    obtain ⟨⟨a, o, its, n, e, ho, hc, hd, hi⟩, hne⟩ := hv v List.mem_cons_self
    generalize tints h v = ns at hi hne
    subst e
    cases hl : its.toList with
    | nil => rw [hl] at hi; cases hi; exact absurd rfl hne
    | cons f r =>
      rw [hl] at hi
      cases hi with
      | cons x t _ =>
        refine ⟨Value.int x t :: fs, PySem.W.KatTups.cons ho hc hd ?_ h1, by rw [List.length_cons, List.length_cons, h2], fun f m => ?_⟩
        · rw [← Array.getElem?_toList, hl]; rfl
        · rcases List.mem_cons.mp m with e | m
          · exact ⟨x, t, e⟩
          · exact h3 f m
theorem ts_sortable {a : Addr} {vs : List Value} (h0 : 0 < vs.length) (hp : ∀ v ∈ vs, IsTs s.heap v (tints s.heap v) ∧ tints s.heap v ≠ []) (ha : ∀ o, s.heap.get? a = some o → o.cls ≠ .type "tuple") : SortableO prog w A s a vs fun v u => ltL (tints s.heap v) (tints s.heap u) := by
  intro h' keep
  have hk : ∀ v ∈ vs, IsTs h' v (tints s.heap v) := fun v hm => (hp v hm).1.keeps fun b o e c => keep b o (fun z => by subst z; exact ha o e c) e
  have ee : ∀ v ∈ vs, tints h' v = tints s.heap v := fun v hm => (hk v hm).ints
  have hp' : ∀ v ∈ vs, IsTs h' v (tints h' v) ∧ tints h' v ≠ [] := fun v hm => by
    rw [ee v hm]; exact ⟨hk v hm, (hp v hm).2⟩
  obtain ⟨fs, h1, h2, h3⟩ := ts_firsts hp'
  refine ⟨tuples' true, fun Q E hq => ?_, fun p q hm hm' => ?_⟩
  · refine PySem.W.kat_kind (T := .type "int") h1 (by omega) (fun f hm => ?_) (by rfl) ?_
    · obtain ⟨x, t, rfl⟩ := h3 f hm
      exact PySem.W.Looks.now
    · have e : (Value.type "int" != Value.type "tuple") = true := by first | decide +kernel | rfl | decide
      rw [e]
      exact hq
  · have q1 := ts_cmp (prog := prog) (w := w) (A := A) (s := { s with heap := h' }) (fun v hm => (hp' v hm).1) p q hm hm'
    show wpAny (model prog w) A (keyLt' (tuples' true) p.1 q.1) (fun r s' => s' = { s with heap := h' } ∧ r = ltL (tints s.heap p.1) (tints s.heap q.1)) (fun _ _ => False) { s with heap := h' }
    rw [← ee _ hm, ← ee _ hm']
    exact q1
theorem sorted_ts {l : Addr} {vs : List Value} {Q : Value → Shared → Prop} (hl : s.heap.IsList l vs.toArray) (hz : vs.length ≤ sizeLine) (hp : ∀ v ∈ vs, IsTs s.heap v (tints s.heap v) ∧ tints s.heap v ≠ [])
    (h : ∀ (h' : Heap) (d : Addr) (out : List Value), Srtd (fun v u => ltL (tints s.heap v) (tints s.heap u)) out → out.Perm vs → (∀ b o, s.heap.get? b = some o → h'.get? b = some o) → s.heap.objs.size ≤ d → (∃ n, h'.get? d = some (seqObj "list" out.toArray n)) → Q (.ref d) { s with heap := h' }) :
    wpAny (model prog w) A (call (.builtin "sorted") [.ref l]) Q E s := by
  refine sorted_ord (ltL_swo (tints s.heap)) hl hz (fun h2 h₁ a ha kk => ?_) fun out hs hb => ?_
  · have hk : ∀ v ∈ vs, IsTs h₁ v (tints s.heap v) := fun v hm => (hp v hm).1.keeps fun b o e c => (kk b o e).2
    have ee : ∀ v ∈ vs, tints h₁ v = tints s.heap v := fun v hm => (hk v hm).ints
    have hS := ts_sortable (prog := prog) (w := w) (A := A.in1.in1) (s := { s with heap := h₁ }) (a := a) (vs := vs) (by omega) (fun v hm => by
      show IsTs h₁ v (tints h₁ v) ∧ tints h₁ v ≠ []
      rw [ee v hm]; exact ⟨hk v hm, (hp v hm).2⟩) (fun o e => by
      have e' : some o = some (seqObj "list" vs.toArray 0) := e.symm.trans ha
      cases e'
      intro c
      exact absurd (Value.type.inj c) (by decide))
    intro h' keep
    obtain ⟨κ, k1, k2⟩ := hS h' keep
    refine ⟨κ, k1, fun p q hm hm' => ?_⟩
    have q1 := k2 p q hm hm'
    show wpAny (model prog w) _ (keyLt' κ p.1 q.1) (fun r s' => s' = _ ∧ r = ltL (tints s.heap p.1) (tints s.heap q.1)) (fun _ _ => False) _
    rw [← ee _ hm, ← ee _ hm']
    exact q1
  · exact h _ _ out hs hb.perm (fun b o e => sortedAll_old e) (Nat.le_succ _) (sortedAll_at s.heap vs out.toArray)
end
end SrtO
namespace IL
open PySem L2
/-! ### the one sorted list -/
theorem lexLe_lt : ∀ x y : List Int, lexLe x y = !SrtO.ltL y x
  | [], [] => rfl
  | [], _ :: _ => rfl
  | _ :: _, [] => rfl
  | x :: xs, y :: ys => by
    unfold lexLe SrtO.ltL
    by_cases e : x = y
    · subst e
      rw [if_pos rfl, if_pos rfl, lexLe_lt xs ys]
    · rw [if_neg e, if_neg (fun z => e z.symm)]
      by_cases h : x < y
      · rw [decide_eq_true h, decide_eq_false (by omega)]; rfl
      · rw [decide_eq_false h, decide_eq_true (by omega)]; rfl
theorem insBy_perm {α : Type} (le : α → α → Bool) (x : α) : ∀ l : List α, (insBy le x l).Perm (x :: l)
  | [] => .refl _
  | y :: l => by
    unfold insBy
    split
    · exact .refl _
    · exact ((insBy_perm le x l).cons y).trans (.swap x y l)
theorem sortBy_perm {α : Type} (le : α → α → Bool) : ∀ l : List α, (sortBy le l).Perm l
  | [] => .refl _
  | x :: l => (insBy_perm le x _).trans ((sortBy_perm le l).cons x)
theorem insT_srt (x : List Int) : ∀ {l : List (List Int)}, SrtO.Srtd SrtO.ltL l → SrtO.Srtd SrtO.ltL (insBy lexLe x l)
  | [], _ => List.pairwise_singleton _ _
  | y :: l, h => by
    unfold insBy
    have h' := List.pairwise_cons.mp h
    split
    · rename_i hc
      rw [lexLe_lt] at hc
      have hc : SrtO.ltL y x = false := by simpa using hc
      refine List.pairwise_cons.mpr ⟨fun z hz => ?_, h⟩
      rcases List.mem_cons.mp hz with e | hz
      · subst e; exact hc
      · exact SrtO.ltL_tr _ _ _ hc (h'.1 z hz)
    · rename_i hc
      rw [lexLe_lt] at hc
      have hc : SrtO.ltL y x = true := by simpa using hc
      refine List.pairwise_cons.mpr ⟨fun z hz => ?_, insT_srt x h'.2⟩
      rcases List.mem_cons.mp ((insBy_perm lexLe x l).mem_iff.mp hz) with e | hz
      · subst e; exact SrtO.ltL_asym _ _ hc
      · exact h'.1 z hz
theorem sortT_srt : ∀ l : List (List Int), SrtO.Srtd SrtO.ltL (sortT l)
  | [] => .nil
  | x :: l => insT_srt x (sortT_srt l)
theorem srtT_one : ∀ {l m : List (List Int)}, l.Perm m → SrtO.Srtd SrtO.ltL l → SrtO.Srtd SrtO.ltL m → l = m
  | [], m, p, _, _ => (List.Perm.eq_nil p.symm).symm
  | x :: l, [], p, _, _ => absurd p.length_eq (by simp)
  | x :: l, y :: m, p, h1, h2 => by
    have h1' := List.pairwise_cons.mp h1
    have h2' := List.pairwise_cons.mp h2
    have rf : ∀ z, SrtO.ltL z z = false := fun z => by
      cases e : SrtO.ltL z z with
      | false => rfl
      | true => rw [SrtO.ltL_asym _ _ e] at e; cases e
    have a : SrtO.ltL x y = false := by
      rcases List.mem_cons.mp (p.mem_iff.mp (List.mem_cons_self (a := x) (l := l))) with e | hx
      · rw [e]; exact rf y
      · exact h2'.1 x hx
    have b : SrtO.ltL y x = false := by
      rcases List.mem_cons.mp (p.mem_iff.mpr (List.mem_cons_self (a := y) (l := m))) with e | hy
      · rw [e]; exact rf x
      · exact h1'.1 y hy
    have e := SrtO.ltL_eq _ _ a b
    subst e
    rw [srtT_one ((List.perm_cons x).mp p) h1'.2 h2'.2]
theorem sortT_one {l m : List (List Int)} (p : m.Perm l) (h : SrtO.Srtd SrtO.ltL m) : m = sortT l := srtT_one (p.trans (sortBy_perm _ l).symm) h (sortT_srt l)
/-! ### as a rule -/
/-- tuples of ints -/
def TsV (K : PySem.W.Frag) (H : Hp) : List V → List (List Int) → Prop
  | [], [] => True
  | x :: xs, t :: ts => (∃ a, x = .ref a ∧ SqT K H a (t.map V.int)) ∧ TsV K H xs ts
  | _, _ => False
def rSortedTs (K : PySem.W.Frag) : List V → Hp → VK → Prop := fun vs H Q => ∃ (a : Addr) (xs : List V) (ts : List (List Int)), vs = [V.ref a] ∧ SqL K H a xs ∧ TsV K H xs ts ∧ (∀ t ∈ ts, t ≠ []) ∧
  ∀ ys p, TsV K H ys (sortT ts) → H p = none → Q (.ref p) (upd H p (.lst ys))
section
variable {X : Cx}
theorem tsv_ref {K : PySem.W.Frag} {H : Hp} : ∀ {xs : List V} {ts : List (List Int)}, TsV K H xs ts → ∀ x ∈ xs, ∃ a, x = V.ref a
  | [], _, _, x, m => nomatch m
  | x :: xs, [], h, _, _ => h.elim
  | x :: xs, t :: ts, h, y, m => by
    obtain ⟨⟨a, e, _⟩, h⟩ := h
    rcases List.mem_cons.mp m with z | m
    · exact ⟨a, z.trans e⟩
    · exact tsv_ref h y m
theorem tsv_ints {pins : List (Addr × Obj)} {s : Shared} {σ : L2.St} {H : Hp} (I : Inv X pins σ H s) : ∀ {xs : List V} {ts : List (List Int)} {us : List Value}, TsV X.K H xs ts → Vals xs us →
    us.map (SrtO.tints s.heap) = ts ∧ ∀ u ∈ us, SrtO.IsTs s.heap u (SrtO.tints s.heap u) ∧ ∃ a, u = .ref a ∧ SqT X.K H a ((SrtO.tints s.heap u).map V.int)
  | [], [], us, _, r => by cases r; exact ⟨rfl, fun u m => nomatch m⟩
  | [], _ :: _, us, h, _ => h.elim
  | x :: xs, [], us, h, _ => h.elim
  | x :: xs, t :: ts, us, h, r => by
    obtain ⟨⟨a, e, hs⟩, h⟩ := h
    cases r with
    | cons rx r =>
      rename_i u us
      obtain ⟨g1, g2⟩ := tsv_ints I h r
      subst e
      obtain rfl : u = Value.ref a := rx
      obtain ⟨its, r2, ⟨o, ho, hc, n, hd⟩, _⟩ := I.tuple hs
      have ht : SrtO.IsTs s.heap (.ref a) t := ⟨a, o, its.toArray, n, rfl, ho, hc, hd, by simpa using r2.ints⟩
      have et := ht.ints
      refine ⟨by rw [List.map_cons, et, g1], fun u m => ?_⟩
      rcases List.mem_cons.mp m with z | m
      · subst z
        rw [et]; exact ⟨ht, a, rfl, hs⟩
      · exact g2 u m
theorem tsv_of {K : PySem.W.Frag} {H : Hp} {f : Value → List Int} : ∀ {us : List Value}, (∀ u ∈ us, ∃ a, u = Value.ref a ∧ SqT K H a ((f u).map V.int)) → TsV K H (us.map backV) (us.map f)
  | [], _ => trivial
  | u :: us, h => by
    refine ⟨?_, tsv_of fun v m => h v (List.mem_cons_of_mem _ m)⟩
    obtain ⟨a, e, hs⟩ := h u List.mem_cons_self
    subst e
    exact ⟨a, rfl, hs⟩
theorem cr_sortedTs : CallR X (.builtin "sorted") (rSortedTs X.K) := by
  intro pins s σ H vs us Q I r h
  obtain ⟨a, xs, ts, rfl, hs, ht, hne, q⟩ := h
  obtain ⟨its, rv, hl, hz⟩ := I.list hs
  obtain ⟨u, rfl, ru⟩ := vals1 r
  obtain rfl : u = Value.ref a := ru
  obtain ⟨e1, e2⟩ := refs_back rv (tsv_ref ht)
  obtain ⟨g1, g2⟩ := tsv_ints I ht rv
  refine SrtO.sorted_ts hl.isList (by rw [← rv.length]; exact hz) (fun v hv => ⟨(g2 v hv).1, hne _ (by rw [← g1]; exact List.mem_map_of_mem hv)⟩) fun h' d out h1 h2 kp hd hn => ?_
  have h3 : ∀ u ∈ out, ∃ a, u = Value.ref a := fun u hu => e2 u (h2.mem_iff.mp hu)
  obtain ⟨n, hn⟩ := hn
  have ho : out.map (SrtO.tints s.heap) = sortT ts := sortT_one (by rw [← g1]; exact h2.map _) (List.pairwise_map.mpr h1)
  refine ⟨.ref d, upd H d (.lst (out.map backV)), I.laid (t' := s.toks) kp hd ⟨?_, out, n, vals_back h3, hn⟩, rfl, q _ d ?_ (I.hok.fresh hd)⟩
  · rw [List.length_map, h2.length_eq, ← rv.length]
    exact hz
  · rw [← ho]
    exact tsv_of fun u hu => (g2 u (h2.mem_iff.mp hu)).2
end
/-- trees of tuples of ints -/
def tupD (t : List Int) : D := .tup (t.map .int)
section
variable {K : PySem.W.Frag} {CB : Cb} {N : Addr → Prop} {M : List Addr} {H : Hp}
theorem reps_ints' {ns : List Int} {vs : List V} (h : reps K CB N M H (ns.map .int) vs) : vs = ns.map V.int := by
  induction ns generalizing vs with
  | nil => unfold reps at h; exact h
  | cons n ns ih =>
    have h' : reps K CB N M H (.int n :: ns.map .int) vs := h
    unfold reps at h'
    obtain ⟨v, ws, rfl, h1, h2⟩ := h'
    have : v = V.int n := h1
    rw [ih h2, this]; rfl
theorem tsv_reps : ∀ {ts : List (List Int)} {vs : List V}, reps K CB N M H (ts.map tupD) vs → TsV K H vs ts
  | [], vs, h => by unfold reps at h; subst h; trivial
  | t :: ts, vs, h => by
    have h' : reps K CB N M H (tupD t :: ts.map tupD) vs := h
    unfold reps at h'
    obtain ⟨v, ws, rfl, h1, h2⟩ := h'
    have h1' : rep K CB N M H (.tup (t.map .int)) v := h1
    unfold rep at h1'
    obtain ⟨a, us, e, hs, hr⟩ := h1'
    rw [reps_ints' hr] at hs
    exact ⟨⟨a, e, hs⟩, tsv_reps h2⟩
theorem reps_tsv : ∀ {ts : List (List Int)} {vs : List V}, TsV K H vs ts → reps K CB N M H (ts.map tupD) vs
  | [], [], _ => by simp [reps]
  | [], _ :: _, h => h.elim
  | t :: ts, [], h => h.elim
  | t :: ts, v :: vs, h => by
    obtain ⟨⟨a, e, hs⟩, h⟩ := h
    show reps K CB N M H (tupD t :: ts.map tupD) (v :: vs)
    unfold reps
    refine ⟨v, vs, rfl, ?_, reps_tsv h⟩
    show rep K CB N M H (.tup (t.map .int)) v
    unfold rep
    exact ⟨a, _, e, hs, reps_ints t⟩
end
theorem ints_of : ∀ {ds : List D} {ns : List Int}, intsOf ds = some ns → ds = ns.map .int
  | [], ns, e => by simp [intsOf] at e; subst e; rfl
  | d :: ds, ns, e => by
    cases d <;> simp [intsOf] at e
    obtain ⟨ms, e1, rfl⟩ := e
    rw [ints_of e1]; rfl
theorem tups_of : ∀ {ds : List D} {ts : List (List Int)}, tupsOf ds = some ts → ds = ts.map tupD
  | [], ns, e => by simp [tupsOf] at e; subst e; rfl
  | d :: ds, ns, e => by
    cases d <;> simp [tupsOf] at e
    rename_i es
    cases h1 : intsOf es with
    | none => rw [h1] at e; simp at e
    | some x =>
      cases h2 : tupsOf ds with
      | none => rw [h1, h2] at e; simp at e
      | some xs =>
        rw [h1, h2] at e
        simp at e
        subst e
        rw [tups_of h2, ints_of h1]; rfl
end IL

set_option Elab.async false
set_option linter.all false
set_option maxRecDepth 100000
set_option maxHeartbeats 2000000
namespace IL
open PySem L2
section
variable {Γ : Gm} {g : Pg} {nm : Nm} {k : Nat} {cf : Nat → List D → List Ob → CR} {X : Cx} {W : WX} {B : Bs} {c : Cf} {σ : L2.St} {H : Hp} {Q : VK} {e : Expr} {d d1 : D} {v v1 : V} {fr : Bool}
/-! ### sorted of a tuple of ints -/
def rSortedT (K : PySem.W.Frag) : List V → Hp → VK → Prop := fun vs H Q => ∃ (a : Addr) (ns : List Int), vs = [V.ref a] ∧ SqT K H a (ns.map V.int) ∧
  ∀ (ns' : List Int) (p : Addr), ns'.Perm ns → ns'.Pairwise (· ≤ ·) → H p = none → Q (.ref p) (upd H p (.lst (ns'.map V.int)))
open PyProof.Rows in
theorem collect_tup {prog : Program} {w : World} {A : Around} {E : Value → Shared → Prop} {s : Shared} {l : Addr} {vs : List Value} {Q : List Value → Shared → Prop} (hl : s.heap.IsTuple l vs.toArray) (hz : vs.length ≤ sizeLine)
    (h : Q vs { s with heap := (s.heap.push (seqObj "list" #[] 0)).update s.heap.objs.size (Obj.mapSeq (· ++ vs.toArray)) }) : wpAny (model prog w) A (collect (.ref l)) Q E s := by
  obtain ⟨o, ho, hc, n, hd⟩ := id hl
  have hs0 : (s.heap.push (seqObj "list" #[] 0)).get? s.heap.objs.size = some (seqObj "list" #[] 0) := Heap.get?_push_size _ rfl
  have hs1 : (s.heap.push (seqObj "list" #[] 0)).get? l = some o := Heap.get?_push_of_some _ ho
  unfold collect
  apply wpAny_bind
  apply wpAny_runValue
  apply codeAny_builtin entry_proto_collect'
  show wpAny _ _ (newList [] >>= fun x => again (.builtin "list.__iadd__" ⟨[x, .ref l], []⟩)) _ _ s
  apply wpAny_bind
  refine wpAny_newList ?_ (by decide)
  apply wpAny_pure
  refine ⟨Code.quiet_builtin _ (by decide +kernel), codeAny_builtin entry_list_iadd' ?_⟩
  show wpAny _ _ (Builtin.List.listExtendWith (.ref s.heap.objs.size) (.ref l) (.ref s.heap.objs.size)) _ _ { s with heap := s.heap.push (seqObj "list" #[] 0) }
  unfold Builtin.List.listExtendWith
  refine wpAny_bind (wpAny_typeOf (T := "tuple") ⟨o, hs1, hc⟩ ?_)
  rw [if_pos (by rw [show (Value.type "tuple" == Value.type "tuple") = true from rfl, Bool.or_true])]
  refine wpAny_bind (listItems_at hs1 hd ?_)
  refine wpAny_bind (listItems_at (xs := #[]) (n := 0) hs0 rfl ?_)
  rw [if_neg (by simp)]
  refine wpAny_bind (listUpdate_at (xs := #[]) (n := 0) hs0 rfl ?_ (Nat.zero_le _) (by show (#[] ++ vs.toArray).size ≤ sizeLine + 1; simp only [Array.size_append, List.size_toArray, List.length_nil]; omega))
  apply wpAny_pure
  show wpAny (model prog w) A (load s.heap.objs.size >>= fun o => match o.data with | .seq xs _ => pure xs.toList | _ => unsupported "internal:collect") Q E { s with heap := (s.heap.push (seqObj "list" #[] 0)).update s.heap.objs.size (Obj.mapSeq (· ++ vs.toArray)) }
  refine wpAny_bind (wpAny_load (get?_update_seq hs0 _) ?_)
  show wpAny _ _ (pure ((#[] : Array Value) ++ vs.toArray).toList) Q E _
  rw [show ((#[] : Array Value) ++ vs.toArray).toList = vs by simp]
  exact wpAny_pure h
open PyProof.Rows in
theorem cr_sortedT : CallR X (.builtin "sorted") (rSortedT X.K) := by
  intro pins s σ H vs us Q I r h
  obtain ⟨a, ns, rfl, hs, q⟩ := h
  obtain ⟨its, rv, ht, hz⟩ := I.tuple hs
  rw [Vals.ref1 r]
  have hi := rv.ints
  have hl : its.length ≤ sizeLine := by rw [← rv.length]; exact hz
  apply Calls.call_function_entry kind_sorted plain_sorted entry_sorted (args_sorted1 _)
  unfold Builtin.«sorted»
  apply wpAny_bind (m := checkCount "sorted" 1 1 _)
  apply wpAny_pure
  apply wpAny_bind
  apply collect_tup ht hl
  apply wpAny_bind
  refine wpAny_newList ?_ hl
  have hsz : ((s.heap.push (seqObj "list" #[] 0)).update s.heap.objs.size (Obj.mapSeq (· ++ its.toArray))).objs.size = s.heap.objs.size + 1 := by
    rw [Heap.size_update, size_push']
  generalize hh : (s.heap.push (seqObj "list" #[] 0)).update s.heap.objs.size (Obj.mapSeq (· ++ its.toArray)) = h' at hsz
  have old0 : ∀ b u, s.heap.get? b = some u → h'.get? b = some u := fun b u e => by
    rw [← hh, Heap.get?_update_ne _ _ _ _ (Nat.ne_of_lt (Heap.lt_size e))]
    exact Heap.get?_push_of_some _ e
  have hoL : (h'.push (seqObj "list" its.toArray 0)).get? (s.heap.objs.size + 1) = some (seqObj "list" its.toArray 0) := by
    rw [← hsz]; exact Heap.get?_push_size _ rfl
  show wpAny _ _ _ _ _ { s with heap := h'.push (seqObj "list" its.toArray 0) }
  rw [hsz]
  refine wpAny_bind (wpAny_holding (wpAny_call_entry slot_list_sort ⟨_, hoL, rfl⟩ entry_list_sort
    (SrtO.list_sort_ord SrtO.swo_int hoL hl (fun h2 => SrtO.ints_sortable hi h2) fun out h1 h2 => ⟨.none, rfl, ?_⟩) (args_list_sort _)))
  obtain ⟨k1, k2, k3⟩ := SrtO.ints_out hi h1 h2
  obtain ⟨ep, he'⟩ := sortedHeap_at (vs := its) (out := out.toArray) hoL
  have hlen : ((out.map SrtO.iv).map V.int).length ≤ sizeLine := by
    rw [List.length_map, k2.length_eq]
    rw [List.length_map] at hz
    exact hz
  refine wpAny_pure ⟨_, rfl, .ref (s.heap.objs.size + 1), upd H (s.heap.objs.size + 1) (.lst ((out.map SrtO.iv).map V.int)), ?_, rfl, q _ _ k2 k3 (I.hok.fresh (Nat.le_succ _))⟩
  refine I.laid (t' := s.toks) (fun b u e => ?_) (Nat.le_succ _) ⟨hlen, out, ep, vals_of_ints k1, he'⟩
  have n2 : (h'.push (seqObj "list" its.toArray 0)).get? b = some u := Heap.get?_push_of_some _ (old0 b u e)
  rw [sortedHeap_old (Nat.ne_of_lt (Nat.lt_succ_of_lt (Heap.lt_size e))) (Heap.lt_size n2)]; exact n2
/-! ### sorted(set(tuple of ints)) -/
def rSetTup (K : PySem.W.Frag) (w : World) : List V → Hp → VK → Prop := fun vs H Q => ∃ (a : Addr) (ns : List Int), vs = [V.ref a] ∧ SqT K H a (ns.map V.int) ∧ ns.length ≤ 60 ∧
  ∀ (p : Addr) (c : Nat), H p = none → c ≤ ns.length → Q (.ref p) (upd H p (SetO w p (fun j => decide (j ∈ ns)) c))
theorem cr_setTup (hc : X.calm = true) : CallR X (.type "set") (rSetTup X.K X.w) := by
  intro pins s σ H vs us Q I r h
  obtain ⟨a, ns, rfl, hs, hl, q⟩ := h
  obtain ⟨its, rv, ht, hz⟩ := I.tuple hs
  rw [Vals.ref1 r]
  refine call_set_tupI ns (I.ok.hd hc) (show s.heap.IsTuple a its.toArray from ht) (by simpa using rv.ints) (by unfold scanBound; omega) fun h' tk c R1 hcn k => ?_
  exact ⟨.ref _, upd H s.heap.objs.size (SetO X.w s.heap.objs.size (fun j => decide (j ∈ ns)) c), I.laid (t' := tk) k (Nat.le_refl _) (setO_new R1), rfl, q _ c (I.hok.fresh (Nat.le_refl _)) hcn⟩
theorem lt_uniq : ∀ {l m : List Int}, l.Pairwise (· < ·) → m.Pairwise (· < ·) → (∀ k, k ∈ l ↔ k ∈ m) → l = m
  | [], [], _, _, _ => rfl
  | [], y :: m, _, _, h => absurd ((h y).mpr List.mem_cons_self) (by simp)
  | x :: l, [], _, _, h => absurd ((h x).mp List.mem_cons_self) (by simp)
  | x :: l, y :: m, h1, h2, h => by
    have a1 := List.pairwise_cons.mp h1
    have a2 := List.pairwise_cons.mp h2
    have e : x = y := by
      rcases List.mem_cons.mp ((h x).mp List.mem_cons_self) with e | hx
      · exact e
      · rcases List.mem_cons.mp ((h y).mpr List.mem_cons_self) with e | hy
        · exact e.symm
        · have := a2.1 x hx; have := a1.1 y hy; omega
    subst e
    rw [lt_uniq a1.2 a2.2 fun k => ?_]
    constructor
    · intro hk
      rcases List.mem_cons.mp ((h k).mp (List.mem_cons_of_mem _ hk)) with e | q
      · have := a1.1 k hk; omega
      · exact q
    · intro hk
      rcases List.mem_cons.mp ((h k).mpr (List.mem_cons_of_mem _ hk)) with e | q
      · have := a2.1 k hk; omega
      · exact q
theorem dedup_mem (k : Int) : ∀ l : List Int, k ∈ dedup l ↔ k ∈ l
  | [] => .rfl
  | x :: l => by
    unfold dedup
    split
    · rename_i hx
      rw [dedup_mem k l, List.mem_cons]
      exact ⟨.inr, fun h => h.elim (fun e => e ▸ hx) id⟩
    · rw [List.mem_cons, List.mem_cons, dedup_mem k l]
theorem dedup_nodup : ∀ l : List Int, (dedup l).Nodup
  | [] => .nil
  | x :: l => by
    unfold dedup
    split
    · exact dedup_nodup l
    · rename_i hx
      exact List.nodup_cons.mpr ⟨fun z => hx ((dedup_mem x l).mp z), dedup_nodup l⟩
/-! ### repr of data -/
def rRepr (K : PySem.W.Frag) : List V → Hp → VK → Prop := fun vs H Q => ∃ x d, vs = [x] ∧ Dp K H x d ∧ d.showable = true ∧ d.hasDict = false ∧ d.depth ≤ 60 ∧ d.shown.length ≤ sizeLine ∧ Q (.str d.shown) H
theorem cr_repr (hgd : X.A.guards = some []) (hu : X.A.units + 70 < cLine) : CallR X (.builtin "repr") (rRepr X.K) := by
  intro pins s σ H vs us Q I r h
  obtain ⟨x, d, rfl, hd, hs, hn, hdp, hz, q⟩ := h
  obtain ⟨u, rfl, ru⟩ := vals1 r
  cases d with
  | none => cases hd; cases ru; exact PySem.P.repr_of_none ⟨.str _, H, I.tok _, ⟨_, rfl⟩, q⟩
  | bool b => cases hd; cases ru; exact PySem.P.repr_of_bool ⟨.str _, H, I.tok _, ⟨_, rfl⟩, q⟩
  | int i =>
    cases hd; obtain ⟨t, rfl⟩ := ru
    exact PySem.P.repr_of_int (of_decide_eq_true hs) ⟨.str _, H, I.tok _, ⟨_, rfl⟩, q⟩
  | str y =>
    cases hd; obtain ⟨t, rfl⟩ := ru
    exact PySem.P.repr_of_str ⟨.str _, H, I.tok _, ⟨_, rfl⟩, q⟩ hz
  | list ds =>
    obtain ⟨as, rd⟩ := Dp.reads I _ x u hd ru
    cases hd
    cases ru
    exact repr_of_reads' rd hs (fun z => by rw [hn] at z; cases z) hgd (by omega) (fun _ _ e => e) (fun h' t tk hk => ⟨.str _, H, I.kept (t' := tk) hk, ⟨_, rfl⟩, q⟩) hz
  | tuple ds =>
    obtain ⟨as, rd⟩ := Dp.reads I _ x u hd ru
    cases hd
    cases ru
    exact repr_of_reads' rd hs (fun z => by rw [hn] at z; cases z) hgd (by omega) (fun _ _ e => e) (fun h' t tk hk => ⟨.str _, H, I.kept (t' := tk) hk, ⟨_, rfl⟩, q⟩) hz
  | dict _ => cases hd
/-! ### sorted lists are one -/
theorem sorted_one : ∀ {l m : List Int}, l.Perm m → l.Pairwise (· ≤ ·) → m.Pairwise (· ≤ ·) → l = m
  | [], m, p, _, _ => (List.nil_perm.mp p).symm
  | x :: l, [], p, _, _ => absurd p.length_eq (by simp)
  | x :: l, y :: m, p, h1, h2 => by
    have hx : x ∈ y :: m := p.mem_iff.mp List.mem_cons_self
    have hy : y ∈ x :: l := p.mem_iff.mpr List.mem_cons_self
    have h1' := List.pairwise_cons.mp h1
    have h2' := List.pairwise_cons.mp h2
    have e : x = y := by
      have a : x ≤ y := (List.mem_cons.mp hy).elim (fun z => by omega) (h1'.1 y)
      have b : y ≤ x := (List.mem_cons.mp hx).elim (fun z => by omega) (h2'.1 x)
      omega
    subst e
    rw [sorted_one ((List.perm_cons x).mp p) h1'.2 h2'.2]
theorem ins_perm {α : Type} (le : α → α → Bool) (x : α) : ∀ l : List α, (insBy le x l).Perm (x :: l)
  | [] => .refl _
  | y :: l => by
    unfold insBy
    split
    · exact .refl _
    · exact ((ins_perm le x l).cons y).trans (List.Perm.swap x y l)
theorem sort_perm {α : Type} (le : α → α → Bool) : ∀ l : List α, (sortBy le l).Perm l
  | [] => .refl _
  | x :: l => by
    unfold sortBy
    exact (ins_perm le x _).trans ((sort_perm le l).cons x)
theorem ins_sorted (x : Int) : ∀ {l : List Int}, l.Pairwise (· ≤ ·) → (insBy (fun x y => decide (x ≤ y)) x l).Pairwise (· ≤ ·)
  | [], _ => List.pairwise_singleton _ _
  | y :: l, h => by
    have h' := List.pairwise_cons.mp h
    unfold insBy
    split
    · rename_i hc
      have hc := of_decide_eq_true hc
      exact List.pairwise_cons.mpr ⟨fun z hz => (List.mem_cons.mp hz).elim (fun e => by omega) fun hz => by have := h'.1 z hz; omega, h⟩
    · rename_i hc
      have hc : ¬ x ≤ y := fun z => hc (decide_eq_true z)
      refine List.pairwise_cons.mpr ⟨fun z hz => ?_, ins_sorted x h'.2⟩
      have := (ins_perm _ x l).mem_iff.mp hz
      exact (List.mem_cons.mp this).elim (fun e => by omega) (h'.1 z)
theorem sortI_sorted : ∀ l : List Int, (sortI l).Pairwise (· ≤ ·)
  | [] => List.Pairwise.nil
  | x :: l => ins_sorted x (sortI_sorted l)
theorem sset_lt (l : List Int) : (sortI (dedup l)).Pairwise (· < ·) := by
  have h1 := sortI_sorted (dedup l)
  have h2 : (sortI (dedup l)).Nodup := (sortBy_perm _ (dedup l)).nodup_iff.mpr (dedup_nodup l)
  exact (h1.and h2).imp fun h => by have := h.2; omega
theorem sset_mem (k : Int) (l : List Int) : k ∈ sortI (dedup l) ↔ k ∈ l := by rw [(sortBy_perm _ _).mem_iff, dedup_mem]
theorem sortI_one {l m : List Int} (p : m.Perm l) (h : m.Pairwise (· ≤ ·)) : m = sortI l := sorted_one (p.trans (sort_perm _ l).symm) h (sortI_sorted l)
theorem maxI_mem : ∀ (m : Int) (l : List Int), maxI m l ∈ m :: l ∧ m ≤ maxI m l ∧ ∀ y ∈ l, y ≤ maxI m l
  | m, [] => ⟨List.mem_cons_self, Int.le_refl _, fun y h => nomatch h⟩
  | m, x :: l => by
    unfold maxI
    obtain ⟨h1, h2, h3⟩ := maxI_mem (if x > m then x else m) l
    have hm : m ≤ (if x > m then x else m) ∧ x ≤ (if x > m then x else m) := by split <;> omega
    refine ⟨?_, by omega, fun y hy => (List.mem_cons.mp hy).elim (fun e => by omega) (h3 y)⟩
    rcases List.mem_cons.mp h1 with e | e
    · rw [e]; split <;> simp
    · exact List.mem_cons_of_mem _ (List.mem_cons_of_mem _ e)
theorem minI_mem : ∀ (m : Int) (l : List Int), minI m l ∈ m :: l ∧ minI m l ≤ m ∧ ∀ y ∈ l, minI m l ≤ y
  | m, [] => ⟨List.mem_cons_self, Int.le_refl _, fun y h => nomatch h⟩
  | m, x :: l => by
    unfold minI
    obtain ⟨h1, h2, h3⟩ := minI_mem (if x < m then x else m) l
    have hm : (if x < m then x else m) ≤ m ∧ (if x < m then x else m) ≤ x := by split <;> omega
    refine ⟨?_, by omega, fun y hy => (List.mem_cons.mp hy).elim (fun e => by omega) (h3 y)⟩
    rcases List.mem_cons.mp h1 with e | e
    · rw [e]; split <;> simp
    · exact List.mem_cons_of_mem _ (List.mem_cons_of_mem _ e)
/-! ### built-ins of one argument -/
def rB1 (Γ : Gm) : B1 → List V → Hp → VK → Prop
  | .len => fun xs H Q => (∃ x n, xs = [x] ∧ LenV Γ.K x H n ∧ Q (.int n) H) ∨ rLenB Γ xs H Q
  | .list => fun xs H Q => (∃ p ys, xs = [.ref p] ∧ (SqL Γ.K H p ys ∨ SqT Γ.K H p ys) ∧ ∀ l, H l = none → Q (.ref l) (upd H l (.lst ys))) ∨ rListD xs H Q
  | .tuple => fun xs H Q => ∃ p ys, xs = [.ref p] ∧ ((SqL Γ.K H p ys ∧ ∀ l, H l = none → Q (.ref l) (upd H l (.tup ys))) ∨ (SqT Γ.K H p ys ∧ Q (.ref p) H))
  | .sorted => fun xs H Q => rSortedI Γ.K xs H Q ∨ rSortedT Γ.K xs H Q ∨ rSortedTs Γ.K xs H Q
  | .sum => rSum Γ.K
  | .all => rAll Γ.K
  | .abs => fun xs H Q => ∃ i, xs = [.int i] ∧ Q (.int (if i < 0 then -i else i)) H
  | .int => fun xs H Q => (∃ i, xs = [.int i] ∧ Q (.int i) H) ∨ ∃ k, xs = [.bl k] ∧ Q (.int (if k then 1 else 0)) H
  | .repr => rRepr Γ.K
  | .max => rMax Γ.K
  | .min => rMin Γ.K
theorem callr_or {f : Value} {r r' : List V → Hp → VK → Prop} (h : CallR X f r) (h' : CallR X f r') : CallR X f (fun xs H Q => r xs H Q ∨ r' xs H Q) := CallR.or h h'
def b1Fun : B1 → Value
  | .list => .type "list" | .tuple => .type "tuple" | .int => .type "int"
  | f => .builtin (b1Name f)
theorem cr_b1 (hO : Own Γ g nm k) (hX : Ct Γ g k X W) (f : B1) : CallR X (b1Fun f) (rB1 Γ f) := by
  have e : X.K = Γ.K := hX.at_.k
  have hu := hX.room.un
  cases f
  · exact CallR.or (e ▸ call_len) (hO.blen X hX.at_ hX.gd hX.room)
  · exact CallR.or (e ▸ call_list_of) (call_list_dK hX.calm)
  · have h := call_tuple_of (X := X)
    rw [e] at h; exact h
  · exact CallR.or (e ▸ cr_sortedI) (CallR.or (e ▸ cr_sortedT) (e ▸ cr_sortedTs))
  · have h := cr_sum (X := X) hX.calm
    rw [e] at h; exact h
  · have h := cr_all (X := X) hX.calm
    rw [e] at h; exact h
  · exact call_abs
  · exact call_int1
  · have h := cr_repr (X := X) hX.gd (by omega)
    rw [e] at h; exact h
  · have h := cr_max (X := X) hX.calm
    rw [e] at h; exact h
  · have h := cr_min (X := X) hX.calm
    rw [e] at h; exact h
/-- a call of a built-in: its name, its arguments -/
theorem pe_bi {fs : List Expr} {y : String} {x : Expr} {u : Value} {r : List V → Hp → VK → Prop} {t : TA} {p : Pos} {a : Expr} (hO : Own Γ g nm k) (hX : Ct Γ g k X W) (hx : isBi X.env.scope y x = true) (hy : y ∈ bnames) (hu : (∃ id, u = .builtin id) ∨ ∃ T, u = .type T)
    (hv : bootBuiltins (Str.ofString y) = some u) (hc : CallR X u r) (hn : Str.ofString y ≠ "__name__") (hd : (Str.ofString y == ("__debug__" : Str)) = false) (ha : PA X (a :: fs) t) (hs : (a :: fs).all noStar = true) : PE X (.Call x (a :: fs) [] p) (tCB r t) := by
  cases x <;> simp only [isBi, Bool.false_eq_true] at hx
  rw [Bool.and_eq_true] at hx
  obtain ⟨e, hg⟩ := hx
  have e := of_decide_eq_true e
  subst e
  have hm : X.mg (Str.ofString y) = none := by rw [hX.at_.m]; exact hO.bn y hy
  rw [List.all_cons, Bool.and_eq_true] at hs
  rcases hu with ⟨id, rfl⟩ | ⟨T, rfl⟩
  · exact pe_callB hc (gl_of hg) hm hv ha hn hd (star_cons hs.1) (star_any hs.2)
  · exact pe_callTy hc (gl_of hg) hm hv ha hn hd (star_cons hs.1) (star_any hs.2)
theorem b1_boot (f : B1) : b1Name f ∈ bnames ∧ ((∃ id, b1Fun f = .builtin id) ∨ ∃ T, b1Fun f = .type T) ∧ bootBuiltins (Str.ofString (b1Name f)) = some (b1Fun f) ∧ Str.ofString (b1Name f) ≠ "__name__" ∧ (Str.ofString (b1Name f) == ("__debug__" : Str)) = false := by
  cases f <;> exact ⟨by decide, by first | exact .inl ⟨_, rfl⟩ | exact .inr ⟨_, rfl⟩, by decide +kernel, by decide +kernel, by decide +kernel⟩
theorem T_sq {ds : List D} {v : V} (h : Γ.T B c (.lst ds) v) : ∃ a vs, v = .ref a ∧ SqL Γ.K c.H a vs ∧ Γ.Rs B c ds vs := by
  obtain ⟨a, vs, e, h1, h2⟩ := h
  exact ⟨a, vs, e, SqL.of h1, h2⟩
theorem keys_map : ∀ {ks : List Key} {vs : List V}, ks.length = vs.length → (ks.zip vs).map (fun kv => kV kv.1) = ks.map kV
  | [], _, _ => rfl
  | k :: ks, [], h => by simp at h
  | k :: ks, v :: vs, h => by simp [keys_map (ks := ks) (vs := vs) (by simpa using h)]
theorem reps_keys {K : PySem.W.Frag} {CB : Cb} {N : Addr → Prop} {M : List Addr} {H : Hp} : ∀ ks : List Key, reps K CB N M H (ks.map keyD) (ks.map kV)
  | [] => by simp [reps]
  | k :: ks => by
    show reps K CB N M H (keyD k :: ks.map keyD) (kV k :: ks.map kV)
    unfold reps
    refine ⟨_, _, rfl, ?_, reps_keys ks⟩
    cases k <;> rfl
mutual
theorem py_nd : ∀ (d : D) (x : PyData), d.py = some x → x.hasDict = false
  | .non, x, h => by simp [D.py] at h; subst h; rfl
  | .bl _, x, h => by simp [D.py] at h; subst h; rfl
  | .int _, x, h => by simp [D.py] at h; subst h; rfl
  | .str _, x, h => by simp [D.py] at h; subst h; rfl
  | .tup ds, x, h => by
    unfold D.py at h
    split at h <;> cases h
    rename_i xs hx
    simpa only [PyData.hasDict] using pys_nd ds xs hx
  | .lst ds, x, h => by
    unfold D.py at h
    split at h <;> cases h
    rename_i xs hx
    simpa only [PyData.hasDict] using pys_nd ds xs hx
  | .dct _ _, _, h => by simp [D.py] at h
  | .book _ _, _, h => by simp [D.py] at h
  | .ref _, _, h => by simp [D.py] at h
  | .scr _, _, h => by simp [D.py] at h
  | .me, _, h => by simp [D.py] at h
theorem pys_nd : ∀ (ds : List D) (xs : List PyData), D.pys ds = some xs → PyData.hasDictAll xs = false
  | [], xs, h => by simp [D.pys] at h; subst h; rfl
  | d :: ds, xs, h => by
    unfold D.pys at h
    split at h <;> cases h
    rename_i h1 h2
    simp only [PyData.hasDictAll, py_nd d _ h1, pys_nd ds _ h2, Bool.or_false]
end
theorem fit_b1 {f : B1} (hR : Rel Γ B c) (h1 : Γ.T B c d1 v1) (h : b1D f d1 = some d) (hl : f = .len ∨ Γ.R B c d1 v1) (F : Fin Γ B c d (isFr d) Q) : rB1 Γ f [v1] c.H Q := by
  unfold b1D at h
  split at h
  · cases h
    obtain ⟨a, vs, rfl, g1, g2⟩ := T_sq h1
    exact .inl ⟨_, _, rfl, .inl ⟨vs, g1, rfl⟩, by rw [reps_len g2]; exact F.int hR⟩
  · cases h
    obtain ⟨a, vs, rfl, g1, g2⟩ := h1
    exact .inl ⟨_, _, rfl, .inr ⟨vs, g1, rfl⟩, by rw [reps_len g2]; exact F.int hR⟩
  · cases h
    obtain ⟨a, rfl, g⟩ := h1
    rename_i ns
    have hs : SqL Γ.K c.H a (ns.map V.int) := g.elim (fun ⟨o, g⟩ => .inl (.inr ⟨o, g⟩)) fun g => g c.H
    exact .inl ⟨_, _, rfl, .inl ⟨_, hs, rfl⟩, by rw [List.length_map]; exact F.int hR⟩
  · cases h
    exact .inr ⟨v1, B, c, _, _, rfl, rfl, hR, h1, F⟩
  · cases h
    obtain ⟨a, vs, rfl, g1, g2⟩ := T_sq h1
    exact .inl ⟨a, vs, rfl, .inl g1, fun p hp => F.lst hR g2 hp⟩
  · cases h
    obtain ⟨a, vs, rfl, g1, g2⟩ := h1
    exact .inl ⟨a, vs, rfl, .inr g1, fun p hp => F.lst hR g2 hp⟩
  · cases h
    obtain ⟨a, vs, rfl, g1, gl, g2⟩ := h1
    refine .inr ⟨a, _, rfl, g1, fun p hp => ?_⟩
    rw [keys_map (by rw [reps_len g2, gl])]
    exact F.lst hR (reps_keys _) hp
  · cases h
    obtain ⟨a, vs, rfl, g1, g2⟩ := T_sq h1
    exact ⟨a, vs, rfl, .inl ⟨g1, fun p hp => F.tup hR g2 hp⟩⟩
  · cases h
    obtain ⟨a, vs, rfl, g1, g2⟩ := h1
    exact ⟨a, vs, rfl, .inr ⟨g1, F.val hR ⟨a, vs, rfl, g1, g2⟩⟩⟩
  · obtain ⟨a, vs, rfl, g1, g2⟩ := T_sq h1
    unfold sortedD at h
    split at h
    · rename_i ns hi
      cases h
      have := ints_reps hi g2
      subst this
      refine .inl ⟨a, ns, rfl, g1, fun ns' p hp hs hn => ?_⟩
      rw [sortI_one hp hs]
      exact F.lst hR (reps_ints _) hn
    · split at h
      · rename_i ts hi
        split at h <;> cases h
        rename_i hc
        have e := tups_of hi
        subst e
        refine .inr (.inr ⟨a, vs, ts, rfl, g1, tsv_reps g2, fun t m => ?_, fun ys p hy hn => F.lst hR (reps_tsv hy) hn⟩)
        have := List.all_eq_true.mp hc t m
        intro z; subst z; cases this
      · cases h
  · obtain ⟨a, vs, rfl, g1, g2⟩ := h1
    split at h
    · rename_i ns hi
      cases h
      have := ints_reps hi g2
      subst this
      refine .inr (.inl ⟨a, ns, rfl, g1, fun ns' p hp hs hn => ?_⟩)
      rw [sortI_one hp hs]
      exact F.lst hR (reps_ints _) hn
    · cases h
  · obtain ⟨a, vs, rfl, g1, g2⟩ := T_sq h1
    obtain ⟨ns, hi, rfl⟩ := map_some h
    have := ints_reps hi g2
    subst this
    exact ⟨a, ns, rfl, g1, F.int hR⟩
  · obtain ⟨a, vs, rfl, g1, g2⟩ := T_sq h1
    obtain ⟨ns, hi, rfl⟩ := map_some h
    have := bools_reps hi g2
    subst this
    exact ⟨a, ns, rfl, g1, F.bl hR⟩
  · cases h; cases h1
    exact ⟨_, rfl, F.int hR⟩
  · cases h; cases h1
    exact .inl ⟨_, rfl, F.int hR⟩
  · cases h; cases h1
    exact .inr ⟨_, rfl, F.int hR⟩
  · split at h
    · rename_i x hx
      split at h <;> cases h
      rename_i hc
      rw [Bool.and_eq_true, Bool.and_eq_true] at hc
      obtain ⟨y, hy, _, hdp⟩ := ok_py 60 _ hc.1.2
      rw [hx] at hy; cases hy
      exact ⟨v1, x, rfl, T_dp hx h1, hc.1.1, py_nd _ _ hx, hdp, lim_le (of_decide_eq_true hc.2), F.val hR rfl⟩
    · cases h
  · obtain ⟨a, vs, rfl, g1, g2⟩ := T_sq h1
    split at h
    · rename_i n ns hi
      cases h
      have := ints_reps hi g2
      subst this
      refine ⟨a, n :: ns, rfl, g1, by simp, fun m hm hle => ?_⟩
      obtain ⟨q1, q2, q3⟩ := maxI_mem n ns
      have e : m = maxI n ns := by
        have a1 := hle _ q1
        have a2 : m ≤ maxI n ns := (List.mem_cons.mp hm).elim (fun z => by omega) (q3 m)
        omega
      rw [e]; exact F.int hR
    · cases h
  · obtain ⟨a, vs, rfl, g1, g2⟩ := T_sq h1
    split at h
    · rename_i n ns hi
      cases h
      have := ints_reps hi g2
      subst this
      refine ⟨a, n :: ns, rfl, g1, by simp, fun m hm hle => ?_⟩
      obtain ⟨q1, q2, q3⟩ := minI_mem n ns
      have e : m = minI n ns := by
        have a1 := hle _ q1
        have a2 : minI n ns ≤ m := (List.mem_cons.mp hm).elim (fun z => by omega) (q3 m)
        omega
      rw [e]; exact F.int hR
    · cases h
  · cases h
end
end IL

set_option Elab.async false
set_option linter.all false
set_option maxRecDepth 100000
set_option maxHeartbeats 2000000
/-! IL: what a loop walks over, what it stores to. -/
namespace IL
open PySem L2
section
variable {Γ : Gm} {g : Pg} {nm : Nm} {k : Nat} {cf : Nat → List D → List Ob → CR} {X : Cx} {W : WX} {B : Bs} {c : Cf} {σ : L2.St} {H : Hp} {Q : VK} {x : Expr} {d : D} {v : V}
/-- the walk gives these trees, as things stand -/
structure Src (Γ : Gm) (J : L2.It) (ds : List D) (B : Bs) (c : Cf) : Prop where
  stop : ∀ i, ds.length ≤ i → J.stop i c.H
  go : ∀ i, i < ds.length → J.go i c.H
  yld : ∀ i d, ds[i]? = some d → ∀ x H', J.yld i c.H x H' → ∃ c', c'.e = c.e ∧ c'.s = c.s ∧ c'.σ = c.σ ∧ c'.H = H' ∧ Rel Γ B c' ∧ TrC B c B c' ∧ Γ.R B c' d x
/-- .. and however they come to stand -/
def Srcs (Γ : Gm) (J : L2.It) (ds : List D) (B : Bs) (c : Cf) : Prop := ∀ B' c', Rel Γ B' c' → TrC B c B' c' → Src Γ J ds B' c'
theorem Srcs.now {J : L2.It} {ds : List D} (h : Srcs Γ J ds B c) (hR : Rel Γ B c) : Src Γ J ds B c := h B c hR .refl
theorem Srcs.tr {J : L2.It} {ds : List D} {B' : Bs} {c' : Cf} (h : Srcs Γ J ds B c) (t : TrC B c B' c') : Srcs Γ J ds B' c' := fun B'' c'' R t' => h B'' c'' R (t.trans t')
def tI (Γ : Gm) (W : WX) (r : Wd → R (List D)) : TI := fun σ H R => ∃ B c, c.σ = σ ∧ c.H = H ∧ Rel Γ B c ∧ Run Γ B c W (r c.w) fun ds c' => ∀ J, Srcs Γ J ds B c' → R J c'.H
theorem pi_imp {tg : Expr} {t t' : TI} (h : PI X tg x t) (hi : ∀ σ H R, t' σ H R → t σ H R) : PI X tg x t' := ⟨fun pins s σ H R I q => h.run pins s σ H R I (hi σ H R q)⟩
theorem pi_or {tg : Expr} {t t' : TI} (h : PI X tg x t) (h' : PI X tg x t') : PI X tg x fun σ H R => t σ H R ∨ t' σ H R :=
  ⟨fun pins s σ H R I q => q.elim (h.run pins s σ H R I) (h'.run pins s σ H R I)⟩
theorem src_list {ds : List D} (h : Γ.R B c (.lst ds) v) : ∃ a, v = .ref a ∧ (∃ xs, SqL Γ.K c.H a xs) ∧ Srcs Γ (Itl Γ.K a) ds B c := by
  obtain ⟨a, vs, rfl, h1, h2, h3⟩ := id h
  refine ⟨a, rfl, ⟨vs, SqL.of h1⟩, fun B' c' R t => ?_⟩
  have h' : Γ.R B' c' (.lst ds) (.ref a) := rep_tr t _ _ h
  obtain ⟨a', us, e, g1, g2, g3⟩ := h'
  cases e
  have l := reps_len g3
  refine ⟨fun i hi => ⟨us, SqL.of g1, by omega⟩, fun i hi => ⟨us, us[i]'(by omega), SqL.of g1, by simp [l, hi]⟩, fun i d hd x H' y => ?_⟩
  obtain ⟨rfl, y⟩ := y
  obtain ⟨u, e1, e2⟩ := reps_get g3 hd
  have := y us (SqL.of g1)
  rw [e1] at this; cases this
  exact ⟨c', rfl, rfl, rfl, rfl, R, .refl, e2⟩
theorem src_tup {ds : List D} (h : Γ.R B c (.tup ds) v) : ∃ a, v = .ref a ∧ (∃ xs, SqT Γ.K c.H a xs) ∧ Srcs Γ (Itt Γ.K a) ds B c := by
  obtain ⟨a, vs, rfl, h1, h3⟩ := id h
  refine ⟨a, rfl, ⟨vs, h1⟩, fun B' c' R t => ?_⟩
  have g1 := sqT_tr t h1
  have g3 := reps_tr t _ _ h3
  have l := reps_len g3
  refine ⟨fun i hi => ⟨vs, g1, by omega⟩, fun i hi => ⟨vs, vs[i]'(by omega), g1, by simp [l, hi]⟩, fun i d hd x H' y => ?_⟩
  obtain ⟨rfl, y⟩ := y
  obtain ⟨u, e1, e2⟩ := reps_get g3 hd
  have := y vs g1
  rw [e1] at this; cases this
  exact ⟨c', rfl, rfl, rfl, rfl, R, .refl, e2⟩
theorem rng_len (lo hi : Int) : (rng lo hi).length = (hi - lo).toNat := by simp [rng]
theorem src_rng (lo hi : Int) : Srcs Γ (Itr lo (hi - lo).toNat) (rng lo hi) B c := fun B' c' R t => by
  refine ⟨fun i h => by rw [rng_len] at h; exact h, fun i h => by rw [rng_len] at h; exact h, fun i d hd x H' y => ?_⟩
  obtain ⟨rfl, rfl⟩ := y
  refine ⟨c', rfl, rfl, rfl, rfl, R, .refl, ?_⟩
  unfold rng at hd
  rw [List.getElem?_map] at hd
  cases e : (List.range (hi - lo).toNat)[i]? with
  | none => rw [e] at hd; cases hd
  | some j =>
    rw [e] at hd
    obtain ⟨h1, h2⟩ := List.getElem?_eq_some_iff.mp e
    simp at h2
    subst h2
    cases hd
    rfl
theorem enum_len : ∀ (ds : List D) (i : Int), (enumD i ds).length = ds.length
  | [], _ => rfl
  | d :: ds, i => by simp [enumD, enum_len ds]
theorem enum_get : ∀ (ds : List D) (j : Int) (i : Nat), (enumD j ds)[i]? = (ds[i]?).map fun d => .tup [.int (j + i), d]
  | [], _, _ => by simp [enumD]
  | d :: ds, j, 0 => by simp [enumD]
  | d :: ds, j, i + 1 => by
    simp only [enumD, List.getElem?_cons_succ]
    rw [enum_get ds (j + 1) i]
    congr 1
    funext d
    congr 3
    omega
theorem two_rs {d e : D} {u : V} (h : Γ.R B c d v) (h' : Γ.R B c e u) : Γ.Rs B c [d, e] [v, u] := by
  show reps _ _ _ _ _ [d, e] [v, u]
  unfold reps
  refine ⟨v, [u], rfl, h, ?_⟩
  unfold reps
  exact ⟨u, [], rfl, h', by unfold reps; rfl⟩
/-- a new pair -/
theorem pair_new {T : Addr} {d e : D} {u : V} (hR : Rel Γ B c) (hT : c.H T = none) (h : Γ.R B c d v) (h' : Γ.R B c e u) :
    ∃ c', c'.e = c.e ∧ c'.s = c.s ∧ c'.σ = c.σ ∧ c'.H = upd c.H T (.tup [v, u]) ∧ Rel Γ B c' ∧ TrC B c B c' ∧ Γ.R B c' (.tup [d, e]) (.ref T) := by
  obtain ⟨R1, t1⟩ := hR.alloc hT (.tup [v, u])
  exact ⟨{ c with H := upd c.H T (.tup [v, u]) }, rfl, rfl, rfl, rfl, R1.weaken, t1.trans tr_weaken, T, [v, u], rfl, SqT.of upd_same, reps_tr (t1.trans tr_weaken) _ _ (two_rs h h')⟩
theorem src_enm {ds : List D} (h : Γ.R B c (.lst ds) v) : ∃ a xs, v = .ref a ∧ SqL Γ.K c.H a xs ∧ Srcs Γ (Ite Γ.K a) (enumD 0 ds) B c := by
  obtain ⟨a, vs, rfl, h1, h2, h3⟩ := id h
  refine ⟨a, vs, rfl, SqL.of h1, fun B' c' R t => ?_⟩
  have h' : Γ.R B' c' (.lst ds) (.ref a) := rep_tr t _ _ h
  obtain ⟨a', us, e, g1, g2, g3⟩ := h'
  cases e
  have l := reps_len g3
  refine ⟨fun i hi => ⟨us, SqL.of g1, by rw [enum_len] at hi; omega⟩, fun i hi => ⟨us, us[i]'(by rw [enum_len] at hi; omega), SqL.of g1, by rw [enum_len] at hi; simp [l, hi]⟩, fun i d hd x H' y => ?_⟩
  obtain ⟨T, z, rfl, hT, rfl, y⟩ := y
  rw [enum_get] at hd
  cases hi : ds[i]? with
  | none => rw [hi] at hd; cases hd
  | some d0 =>
    rw [hi] at hd
    cases hd
    obtain ⟨u, e1, e2⟩ := reps_get g3 hi
    have := y us (SqL.of g1)
    rw [e1] at this; cases this
    have e0 : (0 : Int) + (i : Int) = (i : Int) := by omega
    rw [e0]
    exact pair_new R hT rfl e2
theorem zip_get (xs ys : List D) (i : Nat) (d : D) (h : (zipL xs ys)[i]? = some d) : ∃ x y, xs[i]? = some x ∧ ys[i]? = some y ∧ d = .tup [x, y] := by
  unfold zipL at h
  rw [List.getElem?_zipWith] at h
  cases hx : xs[i]? <;> cases hy : ys[i]? <;> simp [hx, hy] at h
  exact ⟨_, _, rfl, rfl, h.symm⟩
theorem src_zipL {ds es : List D} {u : V} (h : Γ.R B c (.lst ds) v) (h' : Γ.R B c (.lst es) u) : ∃ a b xs ys, [v, u] = [.ref a, .ref b] ∧ SqL Γ.K c.H a xs ∧ SqL Γ.K c.H b ys ∧ Srcs Γ (Itz Γ.K a b) (zipL ds es) B c := by
  obtain ⟨a, vs, rfl, h1, h2, h3⟩ := id h
  obtain ⟨b, ws, rfl, k1, k2, k3⟩ := id h'
  refine ⟨a, b, vs, ws, rfl, SqL.of h1, SqL.of k1, fun B' c' R t => ?_⟩
  have q : Γ.R B' c' (.lst ds) (.ref a) := rep_tr t _ _ h
  have q' : Γ.R B' c' (.lst es) (.ref b) := rep_tr t _ _ h'
  obtain ⟨_, us, e, g1, _, g3⟩ := q
  cases e
  obtain ⟨_, ws, e, j1, _, j3⟩ := q'
  cases e
  have l := reps_len g3
  have l' := reps_len j3
  have hz : (zipL ds es).length = min ds.length es.length := by simp [zipL]
  refine ⟨fun i hi => ⟨us, ws, SqL.of g1, SqL.of j1, by omega⟩, fun i hi => ⟨us, ws, us[i]'(by omega), ws[i]'(by omega), SqL.of g1, SqL.of j1, by simp, by simp⟩, fun i d hd x H' y => ?_⟩
  obtain ⟨T, z1, z2, rfl, hT, rfl, y1, y2⟩ := y
  obtain ⟨d1, d2, i1, i2, rfl⟩ := zip_get _ _ _ _ hd
  obtain ⟨u1, e1, e2⟩ := reps_get g3 i1
  obtain ⟨u2, f1, f2⟩ := reps_get j3 i2
  have y1 := y1 us (SqL.of g1)
  rw [e1] at y1; cases y1
  have y2 := y2 ws (SqL.of j1)
  rw [f1] at y2; cases y2
  exact pair_new R hT e2 f2
theorem src_zipT {ds es : List D} {u : V} (h : Γ.R B c (.tup ds) v) (h' : Γ.R B c (.tup es) u) : ∃ a b xs ys, [v, u] = [.ref a, .ref b] ∧ SqT Γ.K c.H a xs ∧ SqT Γ.K c.H b ys ∧ Srcs Γ (RZ.ItzT Γ.K a b) (zipL ds es) B c := by
  obtain ⟨a, vs, rfl, h1, h3⟩ := id h
  obtain ⟨b, ws, rfl, k1, k3⟩ := id h'
  refine ⟨a, b, vs, ws, rfl, h1, k1, fun B' c' R t => ?_⟩
  have g1 := sqT_tr t h1
  have g3 := reps_tr t _ _ h3
  have j1 := sqT_tr t k1
  have j3 := reps_tr t _ _ k3
  have l := reps_len g3
  have l' := reps_len j3
  have hz : (zipL ds es).length = min ds.length es.length := by simp [zipL]
  refine ⟨fun i hi => ⟨vs, ws, g1, j1, by omega⟩, fun i hi => ⟨vs, ws, vs[i]'(by omega), ws[i]'(by omega), g1, j1, by simp, by simp⟩, fun i d hd x H' y => ?_⟩
  obtain ⟨T, z1, z2, rfl, hT, rfl, y1, y2⟩ := y
  obtain ⟨d1, d2, i1, i2, rfl⟩ := zip_get _ _ _ _ hd
  obtain ⟨u1, e1, e2⟩ := reps_get g3 i1
  obtain ⟨u2, f1, f2⟩ := reps_get j3 i2
  have y1 := y1 vs g1
  rw [e1] at y1; cases y1
  have y2 := y2 ws j1
  rw [f1] at y2; cases y2
  exact pair_new R hT e2 f2
/-! ### targets -/
def gRd (Γ : Gm) (g : Tg) : TG := fun x σ H Q => ∃ B c d w', c.σ = σ ∧ c.H = H ∧ Rel Γ B c ∧ Γ.R B c d x ∧ asgT g d c.w = some w' ∧
  ∀ c', c'.e = w'.e → c'.s = w'.s → c'.H = c.H → c'.σ.length = c.σ.length → (∀ j, j ∉ g.vars → c'.σ[j]? = c.σ[j]?) → Rel Γ B c' → TrC B c B c' → Q c'.σ c'.H
theorem pg_imp {t t' : TG} (h : PG X x t) (hi : ∀ v σ H Q, t' v σ H Q → t v σ H Q) : PG X x t' := ⟨fun pins s σ H v u Q I r q => h.run pins s σ H v u Q I r (hi v σ H Q q)⟩
theorem pg_or {t t' : TG} (h : PG X x t) (h' : PG X x t') : PG X x (fun v σ H Q => t v σ H Q ∨ t' v σ H Q) := ⟨fun pins s σ H v u Q I r q => q.elim (h.run pins s σ H v u Q I r) (h'.run pins s σ H v u Q I r)⟩
theorem asg_cons {N : List Str} {sc : Scope} {g : Tg} {x : Expr} {xs : List Expr} {env : Env} (h : chkTg N sc g x = true) : assignEach (x :: xs) env = (false, assign x env) :: assignEach xs env := by
  cases x <;> first | rfl | (cases g <;> simp [chkTg] at h)
theorem chkTg2 {N : List Str} {sc : Scope} {a b : Tg} (h : chkTg N sc (.t2 a b) x = true) : ∃ y z k p, x = .Tuple [y, z] k p ∧ chkTg N sc a y = true ∧ chkTg N sc b z = true := by
  unfold chkTg at h
  split at h <;> rename_i e
  · cases e
  · cases e
    rw [Bool.and_eq_true] at h
    exact ⟨_, _, _, _, rfl, h.1, h.2⟩
  · cases e
  · cases e
  · cases h
theorem chkTg3 {N : List Str} {sc : Scope} {a b c : Tg} (h : chkTg N sc (.t3 a b c) x = true) : ∃ y z u k p, x = .Tuple [y, z, u] k p ∧ chkTg N sc a y = true ∧ chkTg N sc b z = true ∧ chkTg N sc c u = true := by
  unfold chkTg at h
  split at h <;> rename_i e
  · cases e
  · cases e
  · cases e
    simp only [Bool.and_eq_true] at h
    exact ⟨_, _, _, _, _, rfl, h.1.1, h.1.2, h.2⟩
  · cases e
  · cases h
theorem chkTg4 {N : List Str} {sc : Scope} {a b c e : Tg} (h : chkTg N sc (.t4 a b c e) x = true) : ∃ y z u w k p, x = .Tuple [y, z, u, w] k p ∧ chkTg N sc a y = true ∧ chkTg N sc b z = true ∧ chkTg N sc c u = true ∧ chkTg N sc e w = true := by
  unfold chkTg at h
  split at h <;> rename_i e
  · cases e
  · cases e
  · cases e
  · cases e
    simp only [Bool.and_eq_true] at h
    exact ⟨_, _, _, _, _, _, rfl, h.1.1.1, h.1.1.2, h.1.2, h.2⟩
  · cases h
theorem rs_cons {ds : List D} {vs : List V} (h : Γ.Rs B c (d :: ds) vs) : ∃ u us, vs = u :: us ∧ Γ.R B c d u ∧ Γ.Rs B c ds us := by
  have h' : reps Γ.K Γ.CB (Cl B c) c.M c.H (d :: ds) vs := h
  unfold reps at h'
  exact h'
theorem rs_nil {vs : List V} (h : Γ.Rs B c [] vs) : vs = [] := by
  have h' : reps Γ.K Γ.CB (Cl B c) c.M c.H [] vs := h
  unfold reps at h'
  exact h'
def Lc (X : Cx) (sc : Scope) : Prop := ∀ x, Loc sc x → Loc X.env.scope x ∧ (X.fn x = true ∨ X.env.scope.names.lookup x = some .local)
theorem loc_of {sc : Scope} {x : Str} (h : isLoc sc x = true) : Loc sc x := by
  unfold isLoc at h
  split at h
  · rename_i e; exact .inl e
  · rename_i e; exact .inr e
  · cases h
/-- the next target's part -/
theorem gRd_next {a : Tg} {e : D} {u : V} {w' w'' : Wd} {P : L2.St → Hp → Prop} {c1 : Cf} {g0 : Tg} (hv : ∀ j, j ∉ g0.vars → j ∉ a.vars) (hR : Rel Γ B c1) (h : Γ.R B c1 e u) (ha : asgT a e c1.w = some w'')
    (q : ∀ c', c'.e = w''.e → c'.s = w''.s → c'.H = c1.H → c'.σ.length = c1.σ.length → (∀ j, j ∉ a.vars → c'.σ[j]? = c1.σ[j]?) → Rel Γ B c' → TrC B c1 B c' → P c'.σ c'.H) : gRd Γ a u c1.σ c1.H P :=
  ⟨B, c1, e, w'', rfl, rfl, hR, h, ha, q⟩
theorem w_eq {c : Cf} {w : Wd} (h : c.e = w.e) (h' : c.s = w.s) : c.w = w := by unfold Cf.w; rw [h, h']
theorem pg_rd {N : List Str} {sc : Scope} (hc : X.calm = true) (hN : X.N.Nodup) (hl : Lc X sc) (hK : X.K = Γ.K) (hNN : X.N = N) : ∀ (g : Tg) {x : Expr}, chkTg N sc g x = true → PG X x (gRd Γ g)
  | .nm i, x, h => by
    unfold chkTg at h
    split at h <;> rename_i e <;> try cases e
    · rw [Bool.and_eq_true] at h
      obtain ⟨l1, l2⟩ := hl _ (loc_of h.2)
      have hi := of_decide_eq_true h.1
      rw [← hNN] at hi
      refine pg_imp (pg_name hN hi l1 l2) fun v σ H Q q => ?_
      obtain ⟨B, c, d, w', rfl, rfl, hR, hv, ha, q⟩ := q
      unfold asgT at ha
      split at ha <;> cases ha
      have hs : ∀ d', (Sl.val d) ≠ .cell d' := fun _ z => nomatch z
      have t : TrC B c B (c.put i (.val d) (some v)) := putVal_tr hs
      refine q (c.put i (.val d) (some v)) rfl rfl rfl (by show (c.σ.set _ _).length = _; rw [List.length_set]) (fun j hj => ?_) (hR.putVal hs fun d' z => ?_) t
      · show (c.σ.set i _)[j]? = _
        rw [List.getElem?_set_ne]
        intro z; subst z; exact hj (by simp [Tg.vars])
      · cases z
        exact ⟨v, rfl, rep_tr t _ _ hv⟩
    · cases h
  | .t2 a b, x, h => by
    obtain ⟨y, z, kk, p, rfl, h1, h2⟩ := chkTg2 h
    have hs := pgs_cons (pg_rd hc hN hl hK hNN a h1) (pgs_cons (pg_rd hc hN hl hK hNN b h2) pgs_nil (by rw [asg_cons h2]; rfl)) (by rw [asg_cons h1]; rfl)
    refine pg_imp (pg_or (pg_tup (n := 2) hc hs (by rw [asg_cons h1, asg_cons h2]; rfl) (by rw [asg_cons h1, asg_cons h2]; rfl)) (pg_unl (n := 2) hc hs (by rw [asg_cons h1, asg_cons h2]; rfl) (by rw [asg_cons h1, asg_cons h2]; rfl))) fun v σ H Q q => ?_
    obtain ⟨B, c, d, w', rfl, rfl, hR, hv, ha, q⟩ := q
    unfold asgT at ha
    split at ha <;> try cases ha
    · rename_i d1 d2
      obtain ⟨w1, a1, ha⟩ := Option.bind_eq_some_iff.mp ha
      obtain ⟨p, vs, rfl, s1, r⟩ := hv
      obtain ⟨v1, us, rfl, r1, r⟩ := rs_cons r
      obtain ⟨v2, us, rfl, r2, r⟩ := rs_cons r
      have := rs_nil r; subst this
      refine .inl ⟨p, [v1, v2], rfl, by rw [hK]; exact s1, rfl, v1, [v2], rfl, B, c, d1, w1, rfl, rfl, hR, r1, a1, fun c1 e1 e2 e3 e4 e5 R1 t1 => ⟨v2, [], rfl, B, c1, d2, w', rfl, rfl, R1, rep_tr t1 _ _ r2, by rw [w_eq e1 e2]; exact ha, fun c2 f1 f2 f3 f4 f5 R2 t2 => ⟨rfl, ?_⟩⟩⟩
      exact q c2 f1 f2 (f3.trans e3) (f4.trans e4) (fun j hj => by
        simp only [Tg.vars, List.mem_append, not_or] at hj
        rw [f5 j hj.2, e5 j hj.1]) R2 (t1.trans t2)
    · rename_i d1 d2
      obtain ⟨w1, a1, ha⟩ := Option.bind_eq_some_iff.mp ha
      obtain ⟨p, vs, rfl, s1, _, r⟩ := hv
      obtain ⟨v1, us, rfl, r1, r⟩ := rs_cons r
      obtain ⟨v2, us, rfl, r2, r⟩ := rs_cons r
      have := rs_nil r; subst this
      refine .inr ⟨p, [v1, v2], rfl, by rw [hK]; exact SqL.of s1, rfl, v1, [v2], rfl, B, c, d1, w1, rfl, rfl, hR, r1, a1, fun c1 e1 e2 e3 e4 e5 R1 t1 => ⟨v2, [], rfl, B, c1, d2, w', rfl, rfl, R1, rep_tr t1 _ _ r2, by rw [w_eq e1 e2]; exact ha, fun c2 f1 f2 f3 f4 f5 R2 t2 => ⟨rfl, ?_⟩⟩⟩
      exact q c2 f1 f2 (f3.trans e3) (f4.trans e4) (fun j hj => by
        simp only [Tg.vars, List.mem_append, not_or] at hj
        rw [f5 j hj.2, e5 j hj.1]) R2 (t1.trans t2)
  | .t3 a b cc, x, h => by
    obtain ⟨y, z, u, kk, p, rfl, h1, h2, h3⟩ := chkTg3 h
    refine pg_imp (pg_tup (n := 3) hc (pgs_cons (pg_rd hc hN hl hK hNN a h1) (pgs_cons (pg_rd hc hN hl hK hNN b h2) (pgs_cons (pg_rd hc hN hl hK hNN cc h3) pgs_nil (by rw [asg_cons h3]; rfl)) (by rw [asg_cons h2]; rfl)) (by rw [asg_cons h1]; rfl)) (by rw [asg_cons h1, asg_cons h2, asg_cons h3]; rfl) (by rw [asg_cons h1, asg_cons h2, asg_cons h3]; rfl)) fun v σ H Q q => ?_
    obtain ⟨B, c, d, w', rfl, rfl, hR, hv, ha, q⟩ := q
    unfold asgT at ha
    split at ha <;> try cases ha
    rename_i d1 d2 d3
    obtain ⟨w1, a1, ha⟩ := Option.bind_eq_some_iff.mp ha
    obtain ⟨w2, a2, ha⟩ := Option.bind_eq_some_iff.mp ha
    obtain ⟨p, vs, rfl, s1, r⟩ := hv
    obtain ⟨v1, us, rfl, r1, r⟩ := rs_cons r
    obtain ⟨v2, us, rfl, r2, r⟩ := rs_cons r
    obtain ⟨v3, us, rfl, r3, r⟩ := rs_cons r
    have := rs_nil r; subst this
    refine ⟨p, [v1, v2, v3], rfl, by rw [hK]; exact s1, rfl, v1, [v2, v3], rfl, B, c, d1, w1, rfl, rfl, hR, r1, a1, fun c1 e1 e2 e3 e4 e5 R1 t1 => ⟨v2, [v3], rfl, B, c1, d2, w2, rfl, rfl, R1, rep_tr t1 _ _ r2, by rw [w_eq e1 e2]; exact a2, fun c2 f1 f2 f3 f4 f5 R2 t2 =>
      ⟨v3, [], rfl, B, c2, d3, w', rfl, rfl, R2, rep_tr (t1.trans t2) _ _ r3, by rw [w_eq f1 f2]; exact ha, fun c3 g1 g2 g3 g4 g5 R3 t3 => ⟨rfl, ?_⟩⟩⟩⟩
    exact q c3 g1 g2 (g3.trans (f3.trans e3)) (g4.trans (f4.trans e4)) (fun j hj => by
      simp only [Tg.vars, List.mem_append, not_or] at hj
      rw [g5 j hj.2, f5 j hj.1.2, e5 j hj.1.1]) R3 ((t1.trans t2).trans t3)
  | .t4 a b cc e, x, h => by
    obtain ⟨y, z, u, w, kk, p, rfl, h1, h2, h3, h4⟩ := chkTg4 h
    refine pg_imp (pg_tup (n := 4) hc (pgs_cons (pg_rd hc hN hl hK hNN a h1) (pgs_cons (pg_rd hc hN hl hK hNN b h2) (pgs_cons (pg_rd hc hN hl hK hNN cc h3) (pgs_cons (pg_rd hc hN hl hK hNN e h4) pgs_nil (by rw [asg_cons h4]; rfl)) (by rw [asg_cons h3]; rfl)) (by rw [asg_cons h2]; rfl)) (by rw [asg_cons h1]; rfl)) (by rw [asg_cons h1, asg_cons h2, asg_cons h3, asg_cons h4]; rfl) (by rw [asg_cons h1, asg_cons h2, asg_cons h3, asg_cons h4]; rfl)) fun v σ H Q q => ?_
    obtain ⟨B, c, d, w', rfl, rfl, hR, hv, ha, q⟩ := q
    unfold asgT at ha
    split at ha <;> try cases ha
    rename_i d1 d2 d3 d4
    obtain ⟨w1, a1, ha⟩ := Option.bind_eq_some_iff.mp ha
    obtain ⟨w2, a2, ha⟩ := Option.bind_eq_some_iff.mp ha
    obtain ⟨w3, a3, ha⟩ := Option.bind_eq_some_iff.mp ha
    obtain ⟨p, vs, rfl, s1, r⟩ := hv
    obtain ⟨v1, us, rfl, r1, r⟩ := rs_cons r
    obtain ⟨v2, us, rfl, r2, r⟩ := rs_cons r
    obtain ⟨v3, us, rfl, r3, r⟩ := rs_cons r
    obtain ⟨v4, us, rfl, r4, r⟩ := rs_cons r
    have := rs_nil r; subst this
    refine ⟨p, [v1, v2, v3, v4], rfl, by rw [hK]; exact s1, rfl, v1, [v2, v3, v4], rfl, B, c, d1, w1, rfl, rfl, hR, r1, a1, fun c1 e1 e2 e3 e4 e5 R1 t1 => ⟨v2, [v3, v4], rfl, B, c1, d2, w2, rfl, rfl, R1, rep_tr t1 _ _ r2, by rw [w_eq e1 e2]; exact a2, fun c2 f1 f2 f3 f4 f5 R2 t2 =>
      ⟨v3, [v4], rfl, B, c2, d3, w3, rfl, rfl, R2, rep_tr (t1.trans t2) _ _ r3, by rw [w_eq f1 f2]; exact a3, fun c3 g1 g2 g3 g4 g5 R3 t3 =>
      ⟨v4, [], rfl, B, c3, d4, w', rfl, rfl, R3, rep_tr ((t1.trans t2).trans t3) _ _ r4, by rw [w_eq g1 g2]; exact ha, fun c4 k1 k2 k3 k4 k5 R4 t4 => ⟨rfl, ?_⟩⟩⟩⟩⟩
    exact q c4 k1 k2 (k3.trans (g3.trans (f3.trans e3))) (k4.trans (g4.trans (f4.trans e4))) (fun j hj => by
      simp only [Tg.vars, List.mem_append, not_or] at hj
      rw [k5 j hj.2, g5 j hj.1.2, f5 j hj.1.1.2, e5 j hj.1.1.1]) R4 (((t1.trans t2).trans t3).trans t4)
end
end IL

set_option Elab.async false
set_option linter.all false
set_option maxRecDepth 100000
set_option maxHeartbeats 2000000
/-! IL: comprehensions. -/
namespace IL
open PySem L2
section
variable {Γ : Gm} {g : Pg} {nm : Nm} {k : Nat} {cf : Nat → List D → List Ob → CR} {X : Cx} {W : WX} {B B' : Bs} {c : Cf} {σ : L2.St} {H : Hp} {Q : VK} {x : Expr} {d : D} {v : V}
/-- one object that no slot and no tree holds: made, changed, its base told anew -/
theorem Rel.re (hR : Rel Γ B c) {H' : Hp} (p : Addr) (hM : p ∉ c.M) (hC : ¬ c.isCell p) (hH : ∀ a, a ≠ p → H' a = c.H a) (bM : B'.Mb = B.Mb) (bH : ∀ a, a ≠ p → B'.Hb a = B.Hb a) (bN : ∀ a, a ≠ p → (B'.N a ↔ B.N a))
    (hnew : H' p = none → B'.N p) (hfr : ∀ o, B'.Hb p = some o → H' p = some o) (hk : ∀ o, c.H p = some o → B.N p ∨ fix o = true → H' p = some o) (hcl : ∀ o, c.H p = some o → B.N p → B'.N p) :
    Rel Γ B' { c with H := H' } ∧ TrC B c B' { c with H := H' } := by
  have t : TrC B c B' { c with H := H' } := by
    refine ⟨fun a o h n => ?_, fun a o h n => ?_, fun n a h => h⟩
    · by_cases e : a = p
      · subst e; exact hk o h (n.imp (fun z => z.1) id)
      · exact (hH a e).trans h
    · by_cases e : a = p
      · subst e; exact ⟨hcl o h n.1, n.2.1, n.2.2⟩
      · exact ⟨(bN a e).mpr n.1, n.2.1, n.2.2⟩
  have ne : ∀ a, a ∈ c.M → a ≠ p := fun a h e => hM (e ▸ h)
  have nc : ∀ a, c.isCell a → a ≠ p := fun a h e => hC (e ▸ h)
  refine ⟨⟨hR.len, fun a h => ?_, fun a o h hm => ?_, fun n a h => hR.mpre n a (by rw [← bM]; exact h), fun a h => ?_, hR.mnd, hR.mlen, fun i d h => ?_, fun i d h => ?_, hR.apart, fun n ob h => ?_⟩, t⟩
  · by_cases e : a = p
    · subst e; exact hnew h
    · exact (bN a e).mpr (hR.new a ((hH a e).symm.trans h))
  · by_cases e : a = p
    · subst e; exact hfr o h
    · rw [bH a e] at h
      exact (hH a e).trans (hR.frame a o h (by rw [← bM]; exact hm))
  · rw [bM, bH a (ne a h)]
    exact hR.mnew a h
  · obtain ⟨u, h1, h2⟩ := hR.val i d h
    exact ⟨u, h1, rep_tr t _ _ h2⟩
  · obtain ⟨q, h1, h2, h3, h4, h5⟩ := hR.cell i d h
    have e := nc q ⟨i, d, h, h1⟩
    exact ⟨q, h1, by rw [bH q e]; exact h2, (bN q e).mpr h3, h4, cell_tr t (hH q e) h5⟩
  · obtain ⟨a, h1, h2⟩ := hR.sto n ob h
    exact ⟨a, h1, ob_tr t (hH a (ne a (List.mem_of_getElem? h1))) h2⟩
def Bs.ownO (B : Bs) (p : Addr) (o : HO) : Bs := ⟨fun a => B.N a ∧ a ≠ p, upd B.Hb p o, B.Mb⟩
abbrev Bs.own (B : Bs) (p : Addr) (acc : List V) : Bs := B.ownO p (.lst acc)
theorem Rel.ownNewO (hR : Rel Γ B c) {p : Addr} (hp : c.H p = none) (o : HO) : Rel Γ (B.ownO p o) { c with H := upd c.H p o } ∧ TrC B c (B.ownO p o) { c with H := upd c.H p o } := by
  have f := hR.fresh hp
  refine hR.re p f.2.2.1 f.2.2.2 (fun a e => upd_ne e) rfl (fun a e => upd_ne e) (fun a e => ⟨fun z => z.1, fun z => ⟨z, e⟩⟩) (fun h => ?_) (fun o' h => ?_) (fun o' h => ?_) fun o' h => ?_
  · rw [upd_same] at h; cases h
  · have : (B.ownO p o).Hb p = some o := upd_same
    rw [this] at h; cases h; exact upd_same
  · rw [hp] at h; cases h
  · rw [hp] at h; cases h
theorem Rel.ownNew (hR : Rel Γ B c) {p : Addr} (hp : c.H p = none) : Rel Γ (B.own p []) { c with H := upd c.H p (.lst []) } ∧ TrC B c (B.own p []) { c with H := upd c.H p (.lst []) } := hR.ownNewO hp _
theorem own_here {p : Addr} {o : HO} (hR : Rel Γ (B.ownO p o) c) (hm : p ∉ B.Mb) : c.H p = some o ∧ p ∉ c.M ∧ ¬ c.isCell p := by
  have e : (B.ownO p o).Hb p = some o := upd_same
  refine ⟨hR.frame p _ e hm, fun h => ?_, fun h => ?_⟩
  · rcases hR.mnew p h with z | z
    · exact hm z
    · rw [e] at z; cases z
  · have := (hR.cellH h).2.2.2
    rw [e] at this; cases this
theorem Rel.ownSetO {p : Addr} {o : HO} (o' : HO) (hf : fix o = false) (hR : Rel Γ (B.ownO p o) c) (hm : p ∉ B.Mb) : Rel Γ (B.ownO p o') { c with H := upd c.H p o' } ∧ TrC (B.ownO p o) c (B.ownO p o') { c with H := upd c.H p o' } := by
  obtain ⟨h1, h2, h3⟩ := own_here hR hm
  refine hR.re p h2 h3 (fun a e => upd_ne e) rfl (fun a e => ?_) (fun a e => Iff.rfl) (fun h => ?_) (fun u h => ?_) (fun u h n => ?_) fun u h n => ?_
  · show upd B.Hb p _ a = upd B.Hb p _ a
    rw [upd_ne e, upd_ne e]
  · rw [upd_same] at h; cases h
  · have : (B.ownO p o').Hb p = some o' := upd_same
    rw [this] at h; cases h; exact upd_same
  · rw [h1] at h; cases h
    rcases n with n | n
    · exact absurd rfl n.2
    · rw [hf] at n; cases n
  · exact absurd rfl n.2
theorem Rel.ownSet {p : Addr} {acc : List V} (acc' : List V) (hR : Rel Γ (B.own p acc) c) (hm : p ∉ B.Mb) : Rel Γ (B.own p acc') { c with H := upd c.H p (.lst acc') } ∧ TrC (B.own p acc) c (B.own p acc') { c with H := upd c.H p (.lst acc') } := hR.ownSetO _ rfl hm
theorem Rel.ownEnd {p : Addr} {o : HO} (hR : Rel Γ (B.ownO p o) c) (hm : p ∉ B.Mb) (hb : B.Hb p = none) : Rel Γ (B.ne p) c ∧ TrC (B.ownO p o) c (B.ne p) c := by
  obtain ⟨h1, h2, h3⟩ := own_here hR hm
  have := hR.re (B' := B.ne p) (H' := c.H) p h2 h3 (fun a e => rfl) rfl (fun a e => (upd_ne e).symm) (fun a e => Iff.rfl) (fun h => ?_) (fun u h => ?_) (fun u h n => h) fun u h n => absurd rfl n.2
  · exact this
  · rw [h1] at h; cases h
  · rw [show (B.ne p).Hb p = B.Hb p from rfl, hb] at h; cases h
/-! ### the own slots -/
theorem frz_rel (hR : Rel Γ B c) : ∀ own : List Nat, Rel Γ B { c with e := freezeE own c.e } ∧ TrC B c B { c with e := freezeE own c.e } ∧ (freezeE own c.e).length = c.e.length ∧ (∀ i d, (freezeE own c.e)[i]? = some (.cell d) → i ∉ own)
  | [] => ⟨hR, .refl, rfl, fun _ _ _ => by simp⟩
  | i :: own => by
    obtain ⟨R1, t1, l1, n1⟩ := frz_rel hR own
    have e : freezeE (i :: own) c.e = frzAt (freezeE own c.e) i := rfl
    rw [e]
    unfold frzAt
    split
    · rename_i d hd
      obtain ⟨v, _, R2, t2, _⟩ := R1.freeze (i := i) (d := d) hd
      refine ⟨R2, t1.trans t2, by rw [List.length_set]; exact l1, fun j d' h => ?_⟩
      by_cases ej : i = j
      · subst ej
        rw [List.getElem?_set, if_pos rfl] at h
        split at h <;> cases h
      · rw [List.getElem?_set_ne ej] at h
        simp only [List.mem_cons, not_or]
        exact ⟨fun z => ej z.symm, n1 j d' h⟩
    · rename_i hd
      refine ⟨R1, t1, l1, fun j d' h => ?_⟩
      simp only [List.mem_cons, not_or]
      exact ⟨fun z => by subst z; exact hd d' h, n1 j d' h⟩
theorem hide_rel (hR : Rel Γ B c) : ∀ own : List Nat, Rel Γ B { c with e := hideE own c.e, σ := wipe c.σ own } ∧ TrC B c B { c with e := hideE own c.e, σ := wipe c.σ own }
  | [] => ⟨hR, .refl⟩
  | i :: own => by
    obtain ⟨R1, t1⟩ := hide_rel hR own
    have hs : ∀ d, Sl.no ≠ .cell d := fun _ z => nomatch z
    have R2 := R1.putVal (i := i) (s := .no) (v := none) hs fun d z => nomatch z
    exact ⟨R2, t1.trans (putVal_tr hs)⟩
theorem wipe_other {i : Nat} : ∀ {vs : List Nat}, i ∉ vs → (wipe σ vs)[i]? = σ[i]?
  | [], _ => rfl
  | v :: vs, h => by
    simp only [List.mem_cons, not_or] at h
    show ((wipe σ vs).set v none)[i]? = _
    rw [List.getElem?_set_ne (fun z => h.1 z.symm)]
    exact wipe_other h.2
theorem wipe_in {i : Nat} : ∀ {vs : List Nat}, i ∈ vs → i < σ.length → (wipe σ vs)[i]? = some none
  | [], h, _ => by simp at h
  | v :: vs, h, hl => by
    show ((wipe σ vs).set v none)[i]? = _
    by_cases e : v = i
    · subst e
      rw [List.getElem?_set_self (by rw [wipe_length]; exact hl)]
    · rw [List.getElem?_set_ne e]
      exact wipe_in (by simpa [Ne.symm e] using h) hl
theorem wipe_eq {σ' : L2.St} {vs : List Nat} (hl : σ'.length = σ.length) (h : ∀ j, j ∉ vs → σ'[j]? = σ[j]?) : wipe σ' vs = wipe σ vs := by
  apply List.ext_getElem?
  intro i
  by_cases e : i ∈ vs
  · by_cases hi : i < σ.length
    · rw [wipe_in e hi, wipe_in e (by rw [hl]; exact hi)]
    · rw [List.getElem?_eq_none (by rw [wipe_length]; omega), List.getElem?_eq_none (by rw [wipe_length]; omega)]
  · rw [wipe_other e, wipe_other e]; exact h i e
theorem wipe_wipe (vs : List Nat) : wipe (wipe σ vs) vs = wipe σ vs := wipe_eq (wipe_length _ _) fun j h => wipe_other h
theorem back_len (old : List Sl) : ∀ (vs : List Nat) (e : List Sl), (backE old vs e).length = e.length
  | [], _ => rfl
  | v :: vs, e => by show ((backE old vs e).set _ _).length = _; rw [List.length_set, back_len old vs e]
theorem back_other {old : List Sl} {i : Nat} : ∀ {vs : List Nat} {e : List Sl}, i ∉ vs → (backE old vs e)[i]? = e[i]?
  | [], _, _ => rfl
  | v :: vs, e, h => by
    simp only [List.mem_cons, not_or] at h
    show ((backE old vs e).set v _)[i]? = _
    rw [List.getElem?_set_ne (fun z => h.1 z.symm)]
    exact back_other h.2
theorem back_in {old : List Sl} {i : Nat} : ∀ {vs : List Nat} {e : List Sl}, i ∈ vs → i < e.length → (backE old vs e)[i]? = some (old.getD i .no)
  | [], _, h, _ => by simp at h
  | v :: vs, e, h, hl => by
    show ((backE old vs e).set v _)[i]? = _
    by_cases ev : v = i
    · subst ev
      rw [List.getElem?_set_self (by rw [back_len]; exact hl)]
    · rw [List.getElem?_set_ne ev]
      exact back_in (by simpa [Ne.symm ev] using h) hl
theorem back_rel {c1 c2 : Cf} {own : List Nat} (R1 : Rel Γ B c1) (n1 : ∀ i d, c1.e[i]? = some (.cell d) → i ∉ own) (R2 : Rel Γ B' c2) (t : TrC B c1 B' c2) (hσ : c2.σ = wipe c1.σ own) :
    Rel Γ B' { c2 with e := backE c1.e own c2.e, σ := c1.σ } ∧ TrC B' c2 B' { c2 with e := backE c1.e own c2.e, σ := c1.σ } := by
  have l2 : c2.e.length = c1.e.length := by rw [R2.len, hσ, wipe_length, R1.len]
  have get : ∀ i s, (backE c1.e own c2.e)[i]? = some s → (i ∈ own ∧ c1.e[i]? = some s) ∨ (i ∉ own ∧ c2.e[i]? = some s) := fun i s h => by
    by_cases e : i ∈ own
    · have hi : i < c2.e.length := by rw [← back_len c1.e own c2.e]; exact (List.getElem?_eq_some_iff.mp h).1
      rw [back_in e hi] at h
      refine .inl ⟨e, ?_⟩
      rw [← h]
      rw [List.getD_eq_getElem?_getD, List.getElem?_eq_getElem (by omega)]; rfl
    · rw [back_other e] at h
      exact .inr ⟨e, h⟩
  have cl : ∀ i d, (backE c1.e own c2.e)[i]? = some (.cell d) → i ∉ own ∧ c2.e[i]? = some (.cell d) ∧ c2.σ[i]? = c1.σ[i]? := fun i d h => by
    rcases get i _ h with ⟨e, h1⟩ | ⟨e, h1⟩
    · exact absurd e (n1 i d h1)
    · exact ⟨e, h1, by rw [hσ, wipe_other e]⟩
  have ic : ∀ a, Cf.isCell { c2 with e := backE c1.e own c2.e, σ := c1.σ } a → c2.isCell a := fun a ⟨i, d, h1, h2⟩ => by
    obtain ⟨k1, k2, k3⟩ := cl i d h1
    exact ⟨i, d, k2, by rw [k3]; exact h2⟩
  have t2 : TrC B' c2 B' { c2 with e := backE c1.e own c2.e, σ := c1.σ } := Tr.weaken fun a _ _ n => ⟨n.1, n.2.1, fun z => n.2.2 (ic a z)⟩
  refine ⟨⟨by show (backE _ _ _).length = _; rw [back_len, l2, R1.len], R2.new, R2.frame, R2.mpre, R2.mnew, R2.mnd, R2.mlen, fun i d h => ?_, fun i d h => ?_, fun i j d d' p h1 h2 h3 h4 => ?_, fun n ob h => ?_⟩, t2⟩
  · rcases get i _ h with ⟨e, h1⟩ | ⟨e, h1⟩
    · obtain ⟨v, g1, g2⟩ := R1.val i d h1
      exact ⟨v, g1, rep_tr (t.trans t2) _ _ g2⟩
    · obtain ⟨v, g1, g2⟩ := R2.val i d h1
      refine ⟨v, ?_, rep_tr t2 _ _ g2⟩
      rw [hσ, wipe_other e] at g1
      exact g1
  · obtain ⟨k1, k2, k3⟩ := cl i d h
    obtain ⟨p, g1, g2, g3, g4, g5⟩ := R2.cell i d k2
    exact ⟨p, by rw [← k3]; exact g1, g2, g3, g4, cell_tr t2 rfl g5⟩
  · obtain ⟨k1, k2, k3⟩ := cl i d h1
    obtain ⟨j1, j2, j3⟩ := cl j d' h2
    exact R2.apart i j d d' p k2 j2 (k3.trans h3) (j3.trans h4)
  · obtain ⟨a, g1, g2⟩ := R2.sto n ob h
    exact ⟨a, g1, ob_tr t2 rfl g2⟩
/-! ### results of the evaluator -/
theorem bind_ok {α β : Type} {r : R α} {k : α → Wd → R β} {b : β} {w : Wd} (h : r.bind k = .ok b w) : ∃ a w', r = .ok a w' ∧ k a w' = .ok b w := by
  cases r with
  | ok a w' => exact ⟨a, w', rfl, h⟩
  | exn _ _ _ => cases h
  | bad => cases h
theorem opt_ok {α β : Type} {o : Option α} {w0 w : Wd} {k : α → Wd → R β} {b : β} (h : (R.opt o w0).bind k = .ok b w) : ∃ a, o = some a ∧ k a w0 = .ok b w := by
  cases o with
  | none => cases h
  | some a => exact ⟨a, rfl, h⟩
theorem calm_ok {α : Type} {r : R α} {a : α} {w : Wd} (h : r.calm = .ok a w) : r = .ok a w := by
  cases r <;> simp [R.calm] at h
  rw [h.1, h.2]
theorem compL_calm {f : D → Wd → R (Option D)} : ∀ (ds : List D) (w : Wd) {c : Nat} {x : Option D} {w' : Wd}, compL (fun d w => (f d w).calm) ds w ≠ .exn c x w'
  | [], w, _, _, _ => fun h => by cases h
  | d :: ds, w, c, x, w' => fun h => by
    unfold compL at h
    cases e : (f d w).calm with
    | exn _ _ _ => cases hf : f d w <;> rw [hf] at e <;> cases e
    | bad => rw [e] at h; cases h
    | ok o w1 =>
      rw [e] at h
      have h' : (compL (fun d w => (f d w).calm) ds w1).bind (fun rs w => R.ok (match o with | some r => r :: rs | none => rs) w) = .exn c x w' := h
      cases e2 : compL (fun d w => (f d w).calm) ds w1 with
      | ok _ _ => rw [e2] at h'; cases h'
      | bad => rw [e2] at h'; cases h'
      | exn _ _ _ => exact compL_calm ds w1 e2
theorem compL_cons {f : D → Wd → R (Option D)} {d : D} {ds rs : List D} {w w2 : Wd} (h : compL f (d :: ds) w = .ok rs w2) : ∃ o w1 rs1, f d w = .ok o w1 ∧ compL f ds w1 = .ok rs1 w2 ∧ rs = (match o with | some r => r :: rs1 | none => rs1) := by
  unfold compL at h
  obtain ⟨o, w1, h1, h⟩ := bind_ok h
  obtain ⟨rs1, w3, h2, h⟩ := bind_ok h
  cases h
  exact ⟨o, w1, rs1, h1, h2, rfl⟩
/-- no exception is taken -/
abbrev Wf : WX := fun _ _ _ _ => False
theorem run_ok {α : Type} {r : R α} {a : α} {w : Wd} {K : α → Cf → Prop} (e : r = .ok a w) (h : ∀ c' : Cf, c'.e = w.e → c'.s = w.s → c'.σ = c.σ → Rel Γ B c' → TrC B c B c' → K a c') : Run Γ B c W r K := by
  subst e; exact h
theorem rs_snoc {c : Cf} {ds : List D} {vs : List V} (h : Γ.Rs B c ds vs) (h' : Γ.R B c d v) : Γ.Rs B c (ds ++ [d]) (vs ++ [v]) :=
  reps_append h (by unfold reps; exact ⟨v, [], rfl, h', by unfold reps; rfl⟩)
theorem comp_end {own : List Nat} {tg : Tg} {it : It} {oc : OT} {e : E} (hv : ∀ j, j ∈ tg.vars → j ∈ own) (q : tE Γ W (ev cf (.comp own tg it oc e)) σ H Q) :
    tLc (tI Γ W (evI cf it)) (gRd Γ tg) (tT Γ Wf (evC cf oc)) (tE Γ Wf (ev cf e)) own σ H Q := by
  obtain ⟨B, c0, rfl, rfl, R0, q⟩ := q
  refine ⟨B, c0, rfl, rfl, R0, (Run.bind q).imp fun xs c1 e1 R1 t1 h J S L hD => ?_⟩
  have hl : xs.length ≤ lim := by
    by_cases z : xs.length ≤ lim
    · exact z
    · rw [if_neg z] at h; exact h.elim
  rw [if_pos hl] at h
  obtain ⟨RF, tF, lF, nF⟩ := frz_rel R1 own
  obtain ⟨RH, tH⟩ := hide_rel RF own
  have fD := R1.fresh hD
  have hm : L ∉ B.Mb := fun z => by
    obtain ⟨n, hn⟩ := List.getElem?_of_mem z
    exact fD.2.2.1 (List.mem_of_getElem? (R1.mpre n L hn))
  generalize hf : (fun d w => R.calm ((R.opt (asgT tg d w) w).bind fun w' _ => (evC cf oc w').bind fun k w => if k then (ev cf e w).bind fun r w => R.ok (some r.1) { w with e := hideE own w.e } else R.ok none { w with e := hideE own w.e })) = f at h
  cases hcl : compL f xs { c1.w with e := hideE own (freezeE own c1.w.e) } with
  | bad => rw [hcl] at h; exact h.elim
  | exn _ _ _ => subst hf; exact absurd hcl (compL_calm _ _)
  | ok rs w2 =>
    rw [hcl] at h
    have h : Run Γ B c1 W (R.ok (D.lst rs, true) { w2 with e := backE (freezeE own c1.w.e) own w2.e }) (KE Γ B Q) := h
    obtain ⟨RO, tO⟩ := RH.ownNew hD
    refine ⟨fun i m H => m = xs.length - i ∧ i ≤ xs.length ∧ ∃ (c : Cf) (acc : List V) (rs0 rs1 : List D), c.σ = wipe c1.σ own ∧ c.H = H ∧ Rel Γ (B.own L acc) c ∧ TrC B c1 (B.own L acc) c ∧ TrC B { c1 with e := freezeE own c1.e } (B.own L acc) c ∧ Γ.Rs (B.own L acc) c rs0 acc ∧
      compL f (xs.drop i) c.w = .ok rs1 w2 ∧ rs = rs0 ++ rs1 ∧ rs0.length ≤ i, ⟨xs.length, by simp, Nat.zero_le _, { c1 with e := hideE own (freezeE own c1.e), σ := wipe c1.σ own, H := upd c1.H L (.lst []) }, [], [], rs, rfl, rfl, RO, (tF.trans tH).trans tO, tH.trans tO, by show reps _ _ _ _ _ [] []; unfold reps; rfl, hcl, rfl, Nat.le_refl _⟩, ?_⟩
    rintro i m H ⟨rfl, hi, c, acc, rs0, rs1, hσ, rfl, R, t, tf, hacc, hcomp, hrs, hlen⟩
    have S' := S (B.own L acc) c R t
    by_cases hlt : i < xs.length
    · have hdr : xs.drop i = xs[i] :: xs.drop (i + 1) := List.drop_eq_getElem_cons hlt
      rw [hdr] at hcomp
      obtain ⟨o, w1, rs2, k1, k2, k3⟩ := compL_cons hcomp
      rw [← hf] at k1
      have k1 := calm_ok k1
      obtain ⟨wA, a1, k1⟩ := opt_ok k1
      obtain ⟨b, wB, b1, k1⟩ := bind_ok k1
      refine .inr ⟨S'.go i hlt, fun H' => ∃ (c : Cf) (acc : List V) (rs0 rs1 : List D), c.σ = wipe c1.σ own ∧ c.H = H' ∧ Rel Γ (B.own L acc) c ∧ TrC B c1 (B.own L acc) c ∧ TrC B { c1 with e := freezeE own c1.e } (B.own L acc) c ∧ Γ.Rs (B.own L acc) c rs0 acc ∧
        compL f (xs.drop (i + 1)) c.w = .ok rs1 w2 ∧ rs = rs0 ++ rs1 ∧ rs0.length ≤ i + 1, fun H' hN => ⟨xs.length - (i + 1), by omega, rfl, hlt, hN⟩, fun x H' y => ?_⟩
      obtain ⟨c', y1, y2, y3, y4, R', t', hx⟩ := S'.yld i xs[i] (List.getElem?_eq_getElem hlt) x H' y
      subst y4
      refine ⟨B.own L acc, c', xs[i], wA, by rw [y3, hσ, e1], rfl, R', hx, by rw [show c'.w = c.w from w_eq y1 y2]; exact a1, fun c2 f1 f2 f3 f4 f5 R2 t2 => ⟨?_, B.own L acc, c2, rfl, rfl, R2, ?_⟩⟩
      · rw [e1.symm]
        refine (wipe_eq (σ := wipe c1.σ own) (f4.trans (by rw [y3, hσ])) fun j hj => ?_).trans (wipe_wipe _)
        rw [f5 j (fun z => hj (hv j z)), y3, hσ]
      have hw2 : wipe c2.σ own = wipe c1.σ own := by
        refine (wipe_eq (σ := wipe c1.σ own) (f4.trans (by rw [y3, hσ])) fun j hj => ?_).trans (wipe_wipe _)
        rw [f5 j (fun z => hj (hv j z)), y3, hσ]
      rw [w_eq f1 f2]
      refine run_ok b1 fun c3 g1 g2 g3 R3 t3 => ?_
      have tt3 := (t'.trans t2).trans t3
      cases b with
      | false =>
        simp only [Bool.false_eq_true, if_false] at k1 ⊢
        cases k1
        obtain ⟨R4, t4⟩ := hide_rel R3 own
        refine ⟨{ c3 with e := hideE own c3.e, σ := wipe c3.σ own }, acc, rs0, rs2, ?_, rfl, R4, (t.trans tt3).trans t4, (tf.trans tt3).trans t4, reps_tr (tt3.trans t4) _ _ hacc, ?_, by rw [hrs, k3], by omega⟩
        · show wipe c3.σ own = _
          rw [g3, hw2]
        · rw [← k2]
          congr 1
          show Wd.mk _ _ = Wd.mk _ _
          rw [g1, g2]
      | true =>
        simp only [if_true] at k1 ⊢
        obtain ⟨r, wC, r1, k1⟩ := bind_ok k1
        cases k1
        refine ⟨B.own L acc, c3, g3, rfl, R3, ?_⟩
        rw [w_eq g1 g2]
        refine run_ok r1 fun c4 m1 m2 m3 R4 t4 v P => ?_
        obtain ⟨h1, h2, h3⟩ := own_here R4 hm
        have la : acc.length = rs0.length := reps_len hacc
        refine ⟨acc, h1, ?_, ?_⟩
        · have := lim_le hl
          omega
        · have hacc' := rs_snoc (reps_tr (tt3.trans t4) _ _ hacc) P.1
          obtain ⟨R5, t5⟩ := R4.ownSet (acc ++ [v]) hm
          obtain ⟨R6, t6⟩ := hide_rel R5 own
          have tt := ((tt3.trans t4).trans t5).trans t6
          refine ⟨{ c4 with e := hideE own c4.e, σ := wipe c4.σ own, H := upd c4.H L (.lst (acc ++ [v])) }, acc ++ [v], rs0 ++ [r.1], rs2, ?_, rfl, R6, t.trans tt, tf.trans tt, reps_tr (t5.trans t6) _ _ hacc', ?_, by rw [hrs, k3]; simp, by simp; omega⟩
          · show wipe c4.σ own = _
            rw [m3, g3, hw2]
          · rw [← k2]
            congr 1
            show Wd.mk _ _ = Wd.mk _ _
            rw [m1, m2]
    · have ei : i = xs.length := by omega
      refine .inl ⟨S'.stop i (by omega), ?_⟩
      rw [List.drop_eq_nil_of_le (by omega)] at hcomp
      cases hcomp
      obtain ⟨h1, h2, h3⟩ := own_here R hm
      obtain ⟨Re, te⟩ := R.ownEnd hm fD.1
      obtain ⟨R7, t7⟩ := back_rel (own := own) RF (fun i d h => nF i d h) Re (tf.trans te) hσ
      have h3' : ¬ Cf.isCell { c with e := backE (freezeE own c1.e) own c.e, σ := c1.σ } L := fun z => by
        have := (R7.cellH z).2.1
        exact absurd rfl this.2
      have hr := reps_tr (te.trans t7) _ _ hacc
      have er : rs = rs0 := by rw [hrs]; simp
      refine h { c with e := backE (freezeE own c1.e) own c.e, σ := c1.σ } rfl rfl rfl R7.weaken (((t.trans te).trans t7).trans tr_weaken) (.ref L) ⟨⟨L, acc, rfl, h1, ⟨fD.2.1, h2, h3'⟩, ?_⟩, fun _ => ⟨L, rfl, fD.1, fD.2.1, h2, R7, acc, h1, ?_⟩⟩
      · rw [er]; exact reps_tr tr_weaken _ _ hr
      · rw [er]; exact hr
end
end IL

set_option Elab.async false
set_option linter.all false
set_option maxRecDepth 100000
set_option maxHeartbeats 4000000
namespace IL
open PySem L2
section
variable {Γ : Gm} {g : Pg} {nm : Nm} {k : Nat} {cf : Nat → List D → List Ob → CR} {X : Cx} {W : WX} {B : Bs} {c : Cf} {σ : L2.St} {H : Hp} {Q : VK} {x : Expr} {d d1 : D} {v v1 : V} {fr : Bool}
theorem cst {v : V} (h : tE Γ W (fun w => .ok (d, false) w) σ H Q) (hv : ∀ B c, Rel Γ B c → Γ.R B c d v) : Q v H := by
  obtain ⟨B, c, rfl, rfl, hR, h⟩ := h
  exact (Fin.of h).val hR (hv B c hR)
theorem run_if {α : Type} {b : Bool} {r s : R α} {K : α → Cf → Prop} (h : Run Γ B c W (if b = true then r else s) K) : (b = true → Run Γ B c W r K) ∧ (b = false → Run Γ B c W s K) := by
  cases b with
  | true => exact ⟨fun _ => h, fun z => (nomatch z)⟩
  | false => exact ⟨fun z => (nomatch z), fun _ => h⟩
theorem ite_of {b : Bool} {A C : Prop} (h1 : b = true → A) (h2 : b = false → C) : if b = true then A else C := by
  cases b with
  | true => exact h1 rfl
  | false => exact h2 rfl
theorem run_dec {α : Type} {p : Prop} [Decidable p] {r : R α} {K : α → Cf → Prop} (h : Run Γ B c W (if p then r else .bad) K) : p ∧ Run Γ B c W r K := by
  by_cases hp : p
  · rw [if_pos hp] at h; exact ⟨hp, h⟩
  · rw [if_neg hp] at h; exact h.elim
theorem postOf (h : Post Γ B c d fr v) : Post Γ B c d false v := ⟨h.1, fun e => nomatch e⟩
theorem bool_rep {b : Bool} (h : boolOf d = some b) (hv : Γ.R B c d v) : v = V.bl b := by
  cases d <;> simp [boolOf] at h
  subst h; exact hv
theorem int_rep {i : Int} (h : intOf d = some i) (hv : Γ.R B c d v) : v = V.int i := by
  cases d <;> simp [intOf] at h
  subst h; exact hv
theorem call_end {f : Nat} {ds : List D} {vs : List V} {np : Nat} (hR : Rel Γ B c) (hd : Γ.Rs B c ds vs) (hl : ds.length = np)
    (h : Run Γ B c W (match cf f ds c.s with | .ok d fr s => R.ok (d, fr) { c.w with s := s } | .exn x o s => R.exn x o { c.w with s := s } | .bad => R.bad) (KE Γ B Q)) : spF Γ cf np f vs c.H Q (WE W c.σ) := by
  refine ⟨fun a => B.N a ∧ ¬ c.isCell a, c.M, c.s, ds, hl, hR.callee, reps_tr tr_to _ _ hd, ?_⟩
  cases hc : cf f ds c.s with
  | bad => rw [hc] at h; exact h.elim
  | ok d fr s =>
    rw [hc] at h
    intro v c' e1 e2 e3 R1 t1 P1
    exact h (c.back c') rfl e3 rfl (hR.back e1 R1 t1) (tr_back hR e1 t1) v (post_back hR e1 t1 P1)
  | exn x o s =>
    rw [hc] at h
    intro cls dd c' e1 e2 e3 R1 t1 q
    exact h (c.back c') cls dd rfl e3 rfl (hR.back e1 R1 t1) (tr_back hR e1 t1) (xr_tr (Tr.weaken fun a _ _ h => cl_back e1 h) q)
theorem room_units (hX : Ct Γ g k X W) : X.A.units + 70 < cLine := by have := hX.room.un; omega
theorem chkEs_cons {N : List Str} {sc : Scope} {es : Es} {y : Expr} {ys : List Expr} (h : chkEs nm N sc es (y :: ys) = true) : (y :: ys).all noStar = true := chkEs_star h
/-- the first of the two texts -/
theorem plain_true {x : Expr} (h : noBool x = true) (h2 : ∀ a b c d, x ≠ .Compare a b c d) (env : Env) (whole : Sem Value) : isTrue x env whole = (do let v ← whole; standAt x.pos; holding [v] (truthy v)) := by
  cases x with
  | UnaryOp op a p => cases op <;> first | rfl | cases h
  | BoolOp op a p => cases h
  | IfExp a b c p => cases h
  | Compare a b c d => exact absurd rfl (h2 a b c d)
  | _ => rfl
theorem op_K (hX : Ct Γ g k X W) (o : BOp) : OpR X (binaryOp (pyBin o)) (rBin Γ.K o) := by
  have h := op_bin (X := X) o
  rw [hX.at_.k] at h; exact h
theorem sl_K (hX : Ct Γ g k X W) : SlR X (rSlAll Γ.K) := by
  have h := sl_all (X := X)
  rw [hX.at_.k] at h; exact h
theorem plainIx_of {y : Expr} (h : noSlice y = true) : PlainIx y := fun o i => by
  cases y <;> first | rfl | cases h
theorem rs_one (h : Γ.R B c d v) : Γ.Rs B c [d] [v] := by
  show reps _ _ _ _ _ [d] [v]
  unfold reps
  exact ⟨v, [], rfl, h, by unfold reps; rfl⟩
theorem and_end {a b : E} {W : WX} (q : tE Γ W (ev cf (.and a b)) σ H Q) : tAndV (tE Γ W (ev cf a)) (tE Γ W (ev cf b)) σ H Q := by
  obtain ⟨B, c, rfl, rfl, hR, q⟩ := q
  refine one (K := fun B => KE Γ B Q) hR q fun c1 x v e1 R1 t1 p1 h => ?_
  obtain ⟨i, hi, h⟩ := Run.opt h
  obtain ⟨f1, f2⟩ := run_if h
  refine ⟨i, bool_rep hi p1.1, ite_of (fun hk => ?_) fun hk => (Fin.of (f2 hk)).bl R1⟩
  exact sig (t := tE Γ W (ev cf b)) e1 (one (K := fun B => KE Γ B Q) R1 (f1 hk) fun c2 y u e2 R2 t2 p2 h => h.okI R2 u (postOf p2))
theorem or_end {a b : E} {W : WX} (q : tE Γ W (ev cf (.or a b)) σ H Q) : tOrV (tE Γ W (ev cf a)) (tE Γ W (ev cf b)) σ H Q := by
  obtain ⟨B, c, rfl, rfl, hR, q⟩ := q
  refine one (K := fun B => KE Γ B Q) hR q fun c1 x v e1 R1 t1 p1 h => ?_
  obtain ⟨i, hi, h⟩ := Run.opt h
  obtain ⟨f1, f2⟩ := run_if h
  refine ⟨i, bool_rep hi p1.1, ite_of (fun hk => (Fin.of (f1 hk)).bl R1) fun hk => ?_⟩
  exact sig (t := tE Γ W (ev cf b)) e1 (one (K := fun B => KE Γ B Q) R1 (f2 hk) fun c2 y u e2 R2 t2 p2 h => h.okI R2 u (postOf p2))
theorem tand_end {a b : T} {W : WX} {Q : Bool → Hp → Prop} (q : tT Γ W (evT cf (.and a b)) σ H Q) : tAnd (tT Γ W (evT cf a)) (tT Γ W (evT cf b)) σ H Q := by
  obtain ⟨B, c, rfl, rfl, hR, q⟩ := q
  refine oneT (K := fun B b c' => Q b c'.H) hR q fun c1 x e1 R1 t1 h => ?_
  obtain ⟨f1, f2⟩ := run_if h
  refine ite_of (fun hk => ?_) fun hk => ?_
  · exact sigT (t := tT Γ W (evT cf b)) e1 ⟨B, c1, rfl, rfl, R1, f1 hk⟩
  · subst hk; exact (f2 rfl).okI R1
theorem tor_end {a b : T} {W : WX} {Q : Bool → Hp → Prop} (q : tT Γ W (evT cf (.or a b)) σ H Q) : tOr (tT Γ W (evT cf a)) (tT Γ W (evT cf b)) σ H Q := by
  obtain ⟨B, c, rfl, rfl, hR, q⟩ := q
  refine oneT (K := fun B b c' => Q b c'.H) hR q fun c1 x e1 R1 t1 h => ?_
  obtain ⟨f1, f2⟩ := run_if h
  refine ite_of (fun hk => ?_) fun hk => ?_
  · subst hk; exact (f1 rfl).okI R1
  · exact sigT (t := tT Γ W (evT cf b)) e1 ⟨B, c1, rfl, rfl, R1, f2 hk⟩
theorem b1_end {f : B1} {a : E} {W : WX} (q : tE Γ W (ev cf (.b1 f a)) σ H Q) : tCB (rB1 Γ f) (tCons (tE Γ W (ev cf a)) tNil) σ H Q := by
  obtain ⟨B, c, rfl, rfl, hR, q⟩ := q
  refine one (K := fun B => KE Γ B Q) hR q fun c1 x v e1 R1 t1 p1 h => ?_
  obtain ⟨d, hd, h⟩ := Run.opt h
  exact fit_b1 R1 (T_of p1.1) hd (.inr p1.1) (Fin.of h)
theorem len_fr {d e : D} (h : b1D .len d = some e) : isFr e = false := by
  cases d <;> simp [b1D] at h <;> (subst h; rfl)
theorem deref_T {d : D} {v : V} (hR : Rel Γ B c) (h : Γ.T B c d v) : Γ.T B c (c.w.deref d) v := by
  cases d with
  | ref n =>
    obtain ⟨a, rfl, h1⟩ := h
    unfold Wd.deref
    cases hs : c.s[n]? with
    | none => simp only [Cf.w, hs]; exact ⟨a, rfl, h1⟩
    | some o =>
      cases o with
      | inst _ _ => simp only [Cf.w, hs]; exact ⟨a, rfl, h1⟩
      | box ds =>
        simp only [Cf.w, hs]
        obtain ⟨b, h2, vs, h3, h4⟩ := hR.sto n _ hs
        rw [h1] at h2; cases h2
        exact ⟨a, vs, rfl, h3, h4⟩
  | _ => exact h
/-- a boolean operator's test, whatever the whole is -/
theorem pw_of_bool {op : BoolOp} {xs : List Expr} {p : Pos} {t : TT} (h : PT X (.BoolOp op xs p) t) : PW X (.BoolOp op xs p) t := ⟨fun _ pins s σ H Q I q => h.run pins s σ H Q I q⟩
theorem plainT_true {x : Expr} (h : plainT x = true) (env : Env) (whole : Sem Value) : isTrue x env whole = (do let v ← whole; standAt x.pos; holding [v] (truthy v)) := by
  cases x with
  | UnaryOp op a p => cases op <;> first | rfl | cases h
  | BoolOp op a p => cases h
  | IfExp a b c p => cases h
  | Compare a b c d => cases h
  | _ => rfl
theorem ev_test {r : Wd → R (D × Bool)} {Q : Bool → Hp → Prop} (q : tT Γ W (fun w => (r w).bind fun x w => R.opt (boolOf x.1) w) σ H Q) : tE Γ W r σ H fun v H' => ∃ k, v = .bl k ∧ Q k H' := by
  obtain ⟨B, c, rfl, rfl, hR, q⟩ := q
  refine one (K := fun B b c' => Q b c'.H) hR q fun c1 x v e1 R1 t1 p1 h => ?_
  cases hb : boolOf x.1 with
  | none => rw [hb] at h; exact h.elim
  | some b =>
    rw [hb] at h
    exact ⟨b, bool_rep hb p1.1, h.okI R1⟩
theorem pt_of_pe {e : E} (h : PE X x (tE Γ W (ev cf e))) (hb : plainT x = true) : PT X x (tT Γ W (evT cf (.ev e))) :=
  pt_imp (pt_val h (plainT_true hb X.env)) fun σ H Q q => ev_test q
/-- a test's answer -/
theorem opt_fin {o : Option Bool} {Q : Bool → Hp → Prop} (hR : Rel Γ B c) (h : Run Γ B c W (R.opt o c.w) fun b c' => Q b c'.H) : ∃ b, o = some b ∧ FinB Γ B c b fun v H' => ∃ k, v = .bl k ∧ Q k H' := by
  cases o with
  | none => exact h.elim
  | some b => exact ⟨b, rfl, fun c' e1 e2 e3 R t => ⟨b, rfl, h c' e1 e2 e3 R t⟩⟩
/-- promises by another base -/
def Conv (Γ : Gm) (B' B : Bs) : Prop := (∀ c, Rel Γ B' c → Rel Γ B c) ∧ (∀ c c', Rel Γ B' c → Rel Γ B' c' → TrC B' c B' c' → TrC B c B c') ∧ ∀ a, B'.N a → B.N a
theorem Run.conv {α : Type} {B' : Bs} {r : R α} {K : α → Cf → Prop} (hv : Conv Γ B' B) (hR : Rel Γ B' c) (h : Run Γ B c W r K) : Run Γ B' c W r K := by
  cases r with
  | ok a w => exact fun c' e1 e2 e3 R t => h c' e1 e2 e3 (hv.1 c' R) (hv.2.1 c c' hR R t)
  | exn x o w => exact fun c' cls dd e1 e2 e3 R t q => h c' cls dd e1 e2 e3 (hv.1 c' R) (hv.2.1 c c' hR R t) (xr_tr (Tr.weaken fun a _ _ n => ⟨hv.2.2 a n.1, n.2⟩) q)
  | bad => exact h
theorem conv_own {p : Addr} {o : HO} (hm : p ∉ B.Mb) (hb : B.Hb p = none) (hn : B.N p) : Conv Γ (B.ownO p o) B := by
  refine ⟨fun c R => (R.ownEnd hm hb).1.weaken, fun c c' R R' t => ?_, fun a n => n.1⟩
  obtain ⟨a1, a2, a3⟩ := own_here R hm
  obtain ⟨b1, b2, b3⟩ := own_here R' hm
  refine ⟨fun a u h n => ?_, fun a u h n => ?_, t.pre⟩
  · by_cases e : a = p
    · subst e; rw [a1] at h; cases h; exact b1
    · exact t.keep a u h (n.imp (fun z => ⟨⟨z.1, e⟩, z.2⟩) id)
  · by_cases e : a = p
    · subst e; exact ⟨hn, b2, b3⟩
    · have z := t.cl a u h ⟨⟨n.1, e⟩, n.2⟩
      exact ⟨z.1.1, z.2⟩
theorem oneC {α : Type} {B' : Bs} {ra : Wd → R (D × Bool)} {K : α → Cf → Prop} {f : D × Bool → Wd → R α} (hv : Conv Γ B' B) (hR : Rel Γ B' c) (h : Run Γ B c W ((ra c.w).bind f) K) {P : V → Hp → Prop}
    (G : ∀ c' x v, c'.σ = c.σ → Rel Γ B' c' → TrC B' c B' c' → Post Γ B' c' x.1 x.2 v → Run Γ B c' W (f x c'.w) K → P v c'.H) : tE Γ W ra c.σ c.H P :=
  ⟨B', c, rfl, rfl, hR, (Run.conv hv hR (Run.bind h)).imp fun x c' e R t h1 v p => G c' x v e R t p h1⟩
theorem tE_exn {r : Wd → R (D × Bool)} {P : V → Hp → Prop} {α : Type} {K : α → Cf → Prop} {x : Nat} {o : Option D} {w : Wd} (hR : Rel Γ B c) (h : Run Γ B c W (.exn x o w) K) (he : r c.w = .exn x o w) : tE Γ W r c.σ c.H P :=
  ⟨B, c, rfl, rfl, hR, by rw [he]; exact h⟩
/-- a cell's list or dict is changed -/
theorem cell_set {i : Nat} {p : Addr} {d d' : D} {o : HO} (hR : Rel Γ B c) (h0 : c.e[i]? = some (.cell d)) (h1 : c.σ[i]? = some (some (.ref p))) (hn : ∀ c' : Cf, TrC B c B c' → c'.H = upd c.H p o → cellAt Γ (Cl B c') c'.M c'.H d' p) :
    Rel Γ B { c with e := c.e.set i (.cell d'), H := upd c.H p o } ∧ TrC B c B { c with e := c.e.set i (.cell d'), H := upd c.H p o } := by
  have hcl : ∀ a, ({ c with e := c.e.set i (.cell d'), H := upd c.H p o } : Cf).isCell a → c.isCell a := fun a ⟨j, x, e1, e2⟩ => by
    by_cases e : i = j
    · subst e; exact ⟨i, d, h0, e2⟩
    · rw [show ({ c with e := c.e.set i (.cell d'), H := upd c.H p o } : Cf).e = c.e.set i (.cell d') from rfl, List.getElem?_set_ne e] at e1
      exact ⟨j, x, e1, e2⟩
  have t : TrC B c B { c with e := c.e.set i (.cell d'), H := upd c.H p o } := dirty_tr hR (.inl ⟨i, d, h0, h1⟩) rfl hcl rfl
  exact ⟨hR.cellUpd h0 h1 (hn _ t rfl), t⟩
theorem rng_reps {K : PySem.W.Frag} {CB : Cb} {N : Addr → Prop} {M : List Addr} {H : Hp} (lo hi : Int) : reps K CB N M H (rng lo hi) (rgV lo hi) := by
  have e1 : rng lo hi = ((List.range (hi - lo).toNat).map fun (i : Nat) => lo + (i : Int)).map D.int := by unfold rng; rw [List.map_map]; rfl
  have e2 : rgV lo hi = ((List.range (hi - lo).toNat).map fun (i : Nat) => lo + (i : Int)).map V.int := by unfold rgV; rw [List.map_map]; rfl
  rw [e1, e2]
  exact reps_ints _
theorem rgOk_of {i : Int} (h : i ≤ 1000) (h0 : -1000000 ≤ i) : RgOk 0 i := ⟨by omega, by omega, by omega, by omega, by omega⟩
def tyV' : Ty → String
  | .int => "int" | .bool => "bool" | .list => "list" | .tuple => "tuple" | .book => "object"
theorem ty_boot (t : Ty) (h : t ≠ .book) : tyName t ∈ bnames ∧ bootBuiltins (Str.ofString (tyName t)) = some (.type (tyV' t)) ∧ Str.ofString (tyName t) ≠ "__name__" ∧ (Str.ofString (tyName t) == ("__debug__" : Str)) = false := by
  cases t <;> first | exact absurd rfl h | exact ⟨by decide, by decide +kernel, by decide +kernel, by decide +kernel⟩
theorem sqt_ty {K : PySem.W.Frag} {a : Addr} {vs : List V} (h : SqT K H a vs) : TyX K H (.ref a) (.type "tuple") := by
  rcases h with (h | ⟨o, h⟩) | ⟨o, its, n, hk, hc, _⟩
  · exact .base (.tup h)
  · exact .fTuple h
  · exact .kTuple hk hc
theorem isi_end {t : Ty} {b : Bool} (hT : BkTy Γ.K Γ.CB.C) (hv : Γ.R B c d v) (h : isiD t d = some b) (q : Q (.bl b) c.H) : rIsi Γ.K [v, .ty (tyV' t)] c.H Q := by
  have g : ∀ (ty : String), TyX Γ.K c.H v (.type ty) → kitB ty (tyV' t) = some b → rIsi Γ.K [v, .ty (tyV' t)] c.H Q := fun ty h1 h2 => ⟨v, .ty (tyV' t), .type ty, .type (tyV' t), b, rfl, .ty _, h1, kit_ty h2, q⟩
  cases d with
  | non => have e : v = V.non := hv; subst e; exact g "NoneType" (.base .non) (by cases t <;> first | (cases h; decide +kernel) | cases h)
  | bl x => have e : v = V.bl x := hv; subst e; exact g "bool" (.base (.bl x)) (by cases t <;> first | (cases h; decide +kernel) | cases h)
  | int x => have e : v = V.int x := hv; subst e; exact g "int" (.base (.int x)) (by cases t <;> first | (cases h; decide +kernel) | cases h)
  | str x => have e : v = V.str x := hv; subst e; exact g "str" (.base (.str x)) (by cases t <;> first | (cases h; decide +kernel) | cases h)
  | tup ds =>
    obtain ⟨a, vs, rfl, h1, _⟩ := id hv
    exact g "tuple" (sqt_ty h1) (by cases t <;> first | (cases h; decide +kernel) | cases h)
  | lst ds =>
    obtain ⟨a, vs, rfl, h1, _⟩ := id hv
    exact g "list" (.base (.lst h1)) (by cases t <;> first | (cases h; decide +kernel) | cases h)
  | dct ks ds =>
    obtain ⟨a, vs, rfl, h1, _⟩ := id hv
    exact g "dict" (.base (.dK h1)) (by cases t <;> first | (cases h; decide +kernel) | cases h)
  | book ds rs =>
    have h' : rep Γ.K Γ.CB (Cl B c) c.M c.H (.book ds rs) v := hv
    unfold rep at h'
    obtain ⟨a, dx, l1, l2, v1, v2, rfl, h1, _⟩ := h'
    have ty : TyX Γ.K c.H (.ref a) (.ref Γ.CB.C) := .base (.ins h1 hT.ins.cl hT.ins.ha hT.ins.hn hT.ins.htk hT.ins.hm)
    cases t <;> first | (cases h; first | exact ⟨_, .ty _, _, _, _, rfl, .ty _, ty, hT.no.1, q⟩ | exact ⟨_, .ty _, _, _, _, rfl, .ty _, ty, hT.no.2.1, q⟩ | exact ⟨_, .ty _, _, _, _, rfl, .ty _, ty, hT.no.2.2.1, q⟩ | exact ⟨_, .ty _, _, _, _, rfl, .ty _, ty, hT.no.2.2.2, q⟩) | cases h
  | _ => cases t <;> cases h
theorem few_one {y : Expr} {env : Env} {p : Pos} (h : noStar y = true) : ((backTo p (starEach [y] env)).all (fun x => !x.1) && (backToKw p (keywordEach [] env)).all (fun x => x.1.isSome) && decide (([y] : List Expr).length + ([] : List Keyword).length + (if ([] : List Keyword).isEmpty then 0 else 1) < 30)) = true := by
  rw [star_cons h]; rfl
theorem base_name {N : List Str} {sc : Scope} {i : Nat} {o : Expr} {m : Str} {env : Env} {whole : Sem Value} (h : isName N sc i o = true) : attributeBase o m env whole = whole := by
  cases o <;> simp only [isName, Bool.false_eq_true] at h
  rfl
theorem cl_get {i : Nat} {ds : List D} (hR : Rel Γ B c) (h : c.w.cl i = some ds) : c.e[i]? = some (.cell (.lst ds)) ∧ ∃ p vs, c.σ[i]? = some (some (.ref p)) ∧ c.H p = some (.lst vs) ∧ Γ.Rs B c ds vs := by
  unfold Wd.cl at h
  split at h
  · rename_i x hx
    cases h
    obtain ⟨p, h1, _, _, _, vs, h2, h3⟩ := hR.cell i _ hx
    exact ⟨hx, p, vs, h1, h2, h3⟩
  · cases h
/-- the next context: a comprehension's block -/
theorem ct_blk {s : Shared} {H : Hp} {scope : Scope} {cl : List (Str × Addr)} {C : Addr} {fp : List Addr} (hX : Ct Γ g k X W) : Ct Γ g k (X.blk s H scope (compEnvC scope cl C X.env) fp) Wf where
  at_ := ⟨hX.at_.p, hX.at_.w, hX.at_.k, hX.at_.m, hX.at_.b⟩
  calm := hX.calm
  tk := fun u s' ⟨a, B, sI, pins, σ, H, cls, d, e, I, nb, up, sky, na, os, ag, w⟩ => w
  gd := hX.gd
  room := hX.room
  nd := hX.nd
theorem lc_blk {s : Shared} {H : Hp} {scope : Scope} {cl : List (Str × Addr)} {C : Addr} {fp : List Addr} : Lc (X.blk s H scope (compEnvC scope cl C X.env) fp) scope := fun x h => by
  rcases h with h | h
  · have e : (relS scope X.env.scope).names.lookup x = some .local := lookup_relS_keep (fun z => nomatch z) h
    exact ⟨.inl e, .inr e⟩
  · have e : (relS scope X.env.scope).names.lookup x = some .cell := lookup_relS_keep (fun z => nomatch z) h
    refine ⟨.inr e, .inl ?_⟩
    show (scope.names.lookup x == some .cell) = true
    rw [h]; rfl
theorem noSet_folded {env : Env} {e : Expr} (h : noSet e = true) : ∀ x, foldedSetIterable e env x = pure x := fun x => by
  cases e <;> first | rfl | cases h
theorem b1_set {sc : Scope} {n : String} {x y : Expr} (h : asB1 sc n x = some y) : noSet x = true := by
  obtain ⟨f, p, rfl, _⟩ := asB1_eq h; rfl
theorem b2_set {sc : Scope} {n : String} {x y z : Expr} (h : asB2 sc n x = some (y, z)) : noSet x = true := by
  obtain ⟨f, p, rfl, _⟩ := asB2_eq h; rfl
theorem bi_name {sc : Scope} {y : String} {f : Expr} (h : isBi sc y f = true) : ∃ p, f = .Name (Str.ofString y) p ∧ isGl sc (Str.ofString y) = true := by
  cases f <;> simp only [isBi, Bool.false_eq_true] at h
  rw [Bool.and_eq_true] at h
  have e := of_decide_eq_true h.1
  subst e
  exact ⟨_, rfl, h.2⟩
theorem isTupE_eq {x : Expr} (h : isTupE x = true) : ∃ es kk p, x = .Tuple es kk p := by
  cases x <;> first | exact ⟨_, _, _, rfl⟩ | cases h
theorem seq_end {e : E} {R : L2.It → Hp → Prop} (q : tI Γ W (evI cf (.seq e)) σ H R) : iList Γ.K (tE Γ W (ev cf e)) σ H R ∨ iTup Γ.K (tE Γ W (ev cf e)) σ H R := by
  obtain ⟨B, c, rfl, rfl, hR, q⟩ := q
  cases he : ev cf e c.w with
  | bad =>
    have q : Run Γ B c W ((ev cf e c.w).bind fun x w => IL.R.opt (itemsOf x.1) w) _ := q
    rw [he] at q; exact q.elim
  | exn a b w =>
    refine .inl ⟨B, c, rfl, rfl, hR, ?_⟩
    have q : Run Γ B c W ((ev cf e c.w).bind fun x w => IL.R.opt (itemsOf x.1) w) _ := q
    rw [he] at q ⊢; exact q
  | ok x w =>
    have q : Run Γ B c W ((ev cf e c.w).bind fun x w => IL.R.opt (itemsOf x.1) w) _ := q
    rw [he] at q
    obtain ⟨d, fr⟩ := x
    cases d <;> try exact q.elim
    · refine .inr ⟨B, c, rfl, rfl, hR, run_ok he fun c1 e1 e2 e3 R1 t1 v p => ?_⟩
      obtain ⟨a, h1, h2, h3⟩ := src_tup p.1
      exact ⟨a, h1, h2, q c1 e1 e2 e3 R1 t1 _ h3⟩
    · refine .inl ⟨B, c, rfl, rfl, hR, run_ok he fun c1 e1 e2 e3 R1 t1 v p => ?_⟩
      obtain ⟨a, h1, h2, h3⟩ := src_list p.1
      exact ⟨a, h1, h2, q c1 e1 e2 e3 R1 t1 _ h3⟩
theorem zip_end {a b : E} {R : L2.It → Hp → Prop} (q : tI Γ W (evI cf (.zip a b)) σ H R) : RZ.iZipA Γ.K (tCons (tE Γ W (ev cf a)) (tCons (tE Γ W (ev cf b)) tNil)) σ H R := by
  obtain ⟨B, c, rfl, rfl, hR, q⟩ := q
  refine one (P := fun v1 H1 => tE Γ W (ev cf b) c.σ H1 fun v2 H2 => ∃ a b xs ys, [v1, v2] = [.ref a, .ref b] ∧ ((SqL Γ.K H2 a xs ∧ SqL Γ.K H2 b ys ∧ R (Itz Γ.K a b) H2) ∨ (SqT Γ.K H2 a xs ∧ SqT Γ.K H2 b ys ∧ R (RZ.ItzT Γ.K a b) H2))) (K := fun B ds c' => ∀ J, Srcs Γ J ds B c' → R J c'.H) hR q fun c1 x v e1 R1 t1 p1 h =>
    sig (t := tE Γ W (ev cf b)) e1 (one (K := fun B ds c' => ∀ J, Srcs Γ J ds B c' → R J c'.H) R1 h fun c2 y u e2 R2 t2 p2 h => ?_)
  have p1 := rep_tr t2 _ _ p1.1
  have p2 := p2.1
  obtain ⟨dx, fx⟩ := x
  obtain ⟨dy, fy⟩ := y
  cases dx <;> try exact h.elim
  · cases dy <;> try exact h.elim
    obtain ⟨a, b, xs, ys, e, h1, h2, h3⟩ := src_zipT p1 p2
    exact ⟨a, b, xs, ys, e, .inr ⟨h1, h2, h.okI R2 _ h3⟩⟩
  · cases dy <;> try exact h.elim
    obtain ⟨a, b, xs, ys, e, h1, h2, h3⟩ := src_zipL p1 p2
    exact ⟨a, b, xs, ys, e, .inl ⟨h1, h2, h.okI R2 _ h3⟩⟩
/-- two arguments by a rule on values -/
theorem twoA {W : WX} {ra rb : Wd → R (D × Bool)} {f : D × Bool → D × Bool → Wd → R (D × Bool)} {r : List V → Hp → VK → Prop} (h : tE Γ W (fun w => (ra w).bind fun x w => (rb w).bind fun y w => f x y w) σ H Q)
    (G : ∀ B c x y v1 v2, Rel Γ B c → Γ.R B c x.1 v1 → Γ.R B c y.1 v2 → Run Γ B c W (f x y c.w) (KE Γ B Q) → r [v1, v2] c.H Q) : tCB r (tCons (tE Γ W ra) (tCons (tE Γ W rb) tNil)) σ H Q := by
  obtain ⟨B, c, rfl, rfl, hR, h⟩ := h
  exact one (P := fun v1 H1 => tE Γ W rb c.σ H1 fun v2 H2 => r [v1, v2] H2 Q) (K := fun B => KE Γ B Q) hR h fun c1 x v1 e1 R1 t1 p1 h1 => sig (t := tE Γ W rb) e1 (one (K := fun B => KE Γ B Q) R1 h1 fun c2 y v2 e2 R2 t2 p2 h2 => G B c2 x y v1 v2 R2 (rep_tr t2 _ _ p1.1) p2.1 h2)
variable (hO : Own Γ g nm k) (hC : Calls Γ g nm k cf)
include hO hC
mutual
theorem snd_E : ∀ (e : E) {x : Expr} {X : Cx} {W : WX}, Ct Γ g k X W → chkE nm X.N X.env.scope e x = true → PE X x (tE Γ W (ev cf e))
  | .var i, x, X, W, hX, h => by
    unfold chkE at h
    exact pe_imp (pe_name h) fun σ H Q q => var_ok (Γ := Γ) (W := W) q
  | .int i, x, X, W, hX, h => by
    unfold chkE at h
    split at h
    · rename_i j hx
      obtain ⟨kk, p, rfl⟩ := asConst_eq hx
      have := of_decide_eq_true h
      subst this
      exact pe_imp pe_int fun σ H Q q => cst (d := .int i) q fun _ _ _ => rfl
    · cases h
  | .str i, x, X, W, hX, h => by
    unfold chkE at h
    split at h
    · rename_i j hx
      obtain ⟨kk, p, rfl⟩ := asConst_eq hx
      have := of_decide_eq_true h
      subst this
      exact pe_imp pe_str fun σ H Q q => cst (d := .str i) q fun _ _ _ => rfl
    · cases h
  | .bl i, x, X, W, hX, h => by
    unfold chkE at h
    split at h
    · rename_i j hx
      obtain ⟨kk, p, rfl⟩ := asConst_eq hx
      have := eq_of_beq h
      subst this
      exact pe_imp pe_bl fun σ H Q q => cst (d := .bl i) q fun _ _ _ => rfl
    · cases h
  | .non, x, X, W, hX, h => by
    unfold chkE at h
    split at h
    · rename_i hx
      obtain ⟨kk, p, rfl⟩ := asConst_eq hx
      exact pe_imp pe_non fun σ H Q q => cst (d := .non) q fun _ _ _ => rfl
    · cases h
  | .glob y i, x, X, W, hX, h => by
    unfold chkE at h
    split at h
    · rename_i z hx
      obtain ⟨p, rfl⟩ := asName_eq hx
      simp only [Bool.and_eq_true] at h
      obtain ⟨⟨⟨h1, h2⟩, h3⟩, h4⟩ := h
      have e := of_decide_eq_true h1
      subst e
      obtain ⟨t, ht⟩ := hO.cs _ i (of_decide_eq_true h3)
      unfold okName at h4
      rw [Bool.and_eq_true, Bool.not_eq_true'] at h4
      exact pe_imp (pe_glob (v := .int i) (gl_of h2) (by rw [hX.at_.m]; exact ht) ⟨t, rfl⟩ h4.1) fun σ H Q q => cst (d := .int i) q fun _ _ _ => rfl
    · cases h
  | .bin o a b, x, X, W, hX, h => by
    unfold chkE at h
    split at h
    · rename_i op y z hx
      obtain ⟨p, rfl⟩ := asBin_eq hx
      simp only [Bool.and_eq_true] at h
      obtain ⟨⟨h1, h2⟩, h3⟩ := h
      have e := of_decide_eq_true h1
      subst e
      exact pe_imp (pe_op (op_K hX o) (snd_E a hX h2) (snd_E b hX h3)) fun σ H Q q => two q fun B c x y v1 v2 hR g1 g2 h => by
        obtain ⟨d, hd, h⟩ := Run.opt h
        exact fit_bin hR g1 g2 hd (Fin.of h)
    · cases h
  | .neg a, x, X, W, hX, h => by
    unfold chkE at h
    split at h
    · rename_i op y hx
      obtain ⟨p, rfl⟩ := asUn_eq hx
      rw [Bool.and_eq_true] at h
      have e := of_decide_eq_true h.1
      subst e
      refine pe_imp (pe_un un_neg (snd_E a hX h.2)) fun σ H Q q => ?_
      obtain ⟨B, c, rfl, rfl, hR, q⟩ := q
      exact one (K := fun B => KE Γ B Q) hR q fun c1 x v e1 R1 t1 p1 h => by
        obtain ⟨i, hi, h⟩ := Run.opt h
        exact ⟨i, int_rep hi p1.1, (Fin.of h).int R1⟩
    · cases h
  | .not a, x, X, W, hX, h => by
    unfold chkE at h
    split at h
    · rename_i op y hx
      obtain ⟨p, rfl⟩ := asUn_eq hx
      rw [Bool.and_eq_true] at h
      have e := of_decide_eq_true h.1
      subst e
      refine pe_imp (pe_not (snd_E a hX h.2)) fun σ H Q q => ?_
      obtain ⟨B, c, rfl, rfl, hR, q⟩ := q
      exact one (K := fun B => KE Γ B Q) hR q fun c1 x v e1 R1 t1 p1 h => by
        obtain ⟨i, hi, h⟩ := Run.opt h
        exact ⟨i, bool_rep hi p1.1, (Fin.of h).bl R1⟩
    · cases h
  | .cmp o a b, x, X, W, hX, h => by
    unfold chkE at h
    split at h
    · rename_i op y z hx
      obtain ⟨p, rfl⟩ := asCmp1_eq hx
      simp only [Bool.and_eq_true] at h
      obtain ⟨⟨⟨h1, h2⟩, h3⟩, h4⟩ := h
      have e := of_decide_eq_true h1
      subst e
      rw [Bool.not_eq_true'] at h4
      exact pe_imp (pe_cmpR (op_cmp hO hX o) (snd_E a hX h2) (snd_E b hX h3) h4) fun σ H Q q => two q fun B c x y v1 v2 hR g1 g2 h => cmp_end hR (T_of g1) (T_of g2) h
    · cases h
  | .cmpv o i b, x, X, W, hX, h => by
    unfold chkE at h
    split at h
    · rename_i op y z hx
      obtain ⟨p, rfl⟩ := asCmp1_eq hx
      simp only [Bool.and_eq_true] at h
      obtain ⟨⟨⟨h1, h2⟩, h3⟩, h4⟩ := h
      have e := of_decide_eq_true h1
      subst e
      rw [Bool.not_eq_true'] at h4
      refine pe_imp (pe_cmpR (op_cmp hO hX o) (pe_name h2) (snd_E b hX h3) h4) fun σ H Q q => ?_
      obtain ⟨B, c, rfl, rfl, hR, q⟩ := q
      obtain ⟨d0, hd0, q⟩ := Run.opt q
      obtain ⟨v0, s0, _⟩ := hR.get hd0
      exact ⟨v0, s0, one (K := fun B => KE Γ B Q) hR q fun c1 x v e1 R1 t1 p1 h => by
        obtain ⟨d1, hd1, h⟩ := Run.opt h
        obtain ⟨v1, s1, g1⟩ := R1.get hd1
        rw [e1, s0] at s1
        cases s1
        exact cmp_end R1 g1 (T_of p1.1) h⟩
    · cases h
  | .inv o a i, x, X, W, hX, h => by
    unfold chkE at h
    split at h
    · rename_i op y z hx
      obtain ⟨p, rfl⟩ := asCmp1_eq hx
      simp only [Bool.and_eq_true] at h
      obtain ⟨⟨⟨h1, h2⟩, h3⟩, h4⟩ := h
      have e := of_decide_eq_true h1
      subst e
      rw [Bool.not_eq_true'] at h4
      refine pe_imp (pe_cmpR (op_cmp hO hX o) (snd_E a hX h2) (pe_name h3) h4) fun σ H Q q => ?_
      obtain ⟨B, c, rfl, rfl, hR, q⟩ := q
      exact one (K := fun B => KE Γ B Q) hR q fun c1 x v e1 R1 t1 p1 h => by
        obtain ⟨d1, hd1, h⟩ := Run.opt h
        obtain ⟨v1, s1, g1⟩ := R1.get hd1
        exact ⟨v1, e1 ▸ s1, cmp_end R1 (T_of p1.1) g1 h⟩
    · cases h
  | .chain o p a b c, x, X, W, hX, h => by
    unfold chkE at h
    split at h
    · rename_i op op' y z u hx
      obtain ⟨pp, rfl⟩ := asCmp2_eq hx
      simp only [Bool.and_eq_true] at h
      obtain ⟨⟨⟨⟨⟨h1, h1'⟩, h2⟩, h3⟩, h4⟩, h5⟩ := h
      have e := of_decide_eq_true h1
      have e' := of_decide_eq_true h1'
      subst e
      subst e'
      rw [Bool.not_eq_true'] at h5
      refine pe_imp (pe_chain (op_cmp hO hX o) (op_cmp hO hX p) (snd_E a hX h2) (snd_E b hX h3) (snd_E c hX h4) h5) fun σ H Q q => ?_
      obtain ⟨B, c0, rfl, rfl, hR, q⟩ := q
      refine one (K := fun B => KE Γ B Q) hR q fun c1 x v1 e1 R1 t1 p1 h => sig (t := tE Γ W (ev cf b)) e1 (one (K := fun B => KE Γ B Q) R1 h fun c2 y v2 e2 R2 t2 p2 h => ?_)
      obtain ⟨kk, hk, h⟩ := Run.opt h
      obtain ⟨f1, f2⟩ := run_if h
      refine fit_cmp (Q := fun z H3 => ∃ k, z = .bl k ∧ (if k = true then tE Γ W (ev cf c) c0.σ H3 fun w' H4 => rCmp Γ p v2 w' H4 Q else Q (.bl false) H3)) R2 (T_of (rep_tr t2 _ _ p1.1)) (T_of p2.1) hk fun c3 g1 g2 g3 R3 t3 => ⟨kk, rfl, ite_of (fun hk => ?_) fun hk => ?_⟩
      · have h' := Run.from (f1 hk) g3 t3
        have ew : c2.w = c3.w := by unfold Cf.w; rw [g1, g2]
        rw [ew] at h'
        exact sig (t := tE Γ W (ev cf c)) (g3.trans (e2.trans e1)) (one (K := fun B => KE Γ B Q) R3 h' fun c4 z v3 e4 R4 t4 p4 h => cmp_end R4 (T_of (rep_tr (t3.trans t4) _ _ p2.1)) (T_of p4.1) h)
      · have h' := Run.from (f2 hk) g3 t3
        have ew : c2.w = c3.w := by unfold Cf.w; rw [g1, g2]
        rw [ew] at h'
        exact (Fin.of h').bl R3
    · cases h
  | .and a b, x, X, W, hX, h => by
    unfold chkE at h
    split at h
    · rename_i y z hx
      rw [Bool.and_eq_true] at h
      rcases asAnd_eq hx with ⟨p, rfl⟩ | ⟨s, t, r, p, rfl, rfl⟩
      · exact pe_imp (pe_and (snd_E a hX h.1) (pe_one (snd_E b hX h.2))) fun σ H Q q => and_end q
      · exact pe_imp (pe_and (snd_E a hX h.1) (snd_E b hX h.2)) fun σ H Q q => and_end q
    · cases h
  | .or a b, x, X, W, hX, h => by
    unfold chkE at h
    split at h
    · rename_i y z hx
      rw [Bool.and_eq_true] at h
      rcases asOr_eq hx with ⟨p, rfl⟩ | ⟨s, t, r, p, rfl, rfl⟩
      · exact pe_imp (pe_or (snd_E a hX h.1) (pe_one (snd_E b hX h.2))) fun σ H Q q => or_end q
      · exact pe_imp (pe_or (snd_E a hX h.1) (snd_E b hX h.2)) fun σ H Q q => or_end q
    · cases h
  | .ite c a b, x, X, W, hX, h => by
    unfold chkE at h
    split at h
    · rename_i t y z hx
      obtain ⟨p, rfl⟩ := asIf_eq hx
      simp only [Bool.and_eq_true] at h
      refine pe_imp (pe_ifExp (snd_T c hX h.1.1) (snd_E a hX h.1.2) (snd_E b hX h.2)) fun σ H Q q => ?_
      obtain ⟨B, c0, rfl, rfl, hR, q⟩ := q
      refine oneT (K := fun B => KE Γ B Q) hR q fun c1 x e1 R1 t1 h => ?_
      obtain ⟨f1, f2⟩ := run_if h
      exact ite_of (fun hk => sig (t := tE Γ W (ev cf a)) e1 ⟨B, c1, rfl, rfl, R1, f1 hk⟩) fun hk => sig (t := tE Γ W (ev cf b)) e1 ⟨B, c1, rfl, rfl, R1, f2 hk⟩
    · cases h
  | .lst es, x, X, W, hX, h => by
    unfold chkE at h
    split at h
    · rename_i xs hx
      obtain ⟨p, rfl⟩ := asList_eq hx
      refine pe_imp (pe_lst (snd_Es es hX h)) fun σ H Q q => ?_
      obtain ⟨B, c, rfl, rfl, hR, q⟩ := q
      refine oneA (K := fun B => KE Γ B Q) hR q fun c1 ds vs e1 R1 t1 p1 h => ?_
      obtain ⟨hl, h⟩ := run_dec h
      exact ⟨lim_le (by rw [reps_len p1]; exact hl), fun p hp => (Fin.of h).lst R1 p1 hp⟩
    · cases h
  | .tup es, x, X, W, hX, h => by
    unfold chkE at h
    split at h
    · rename_i xs hx
      obtain ⟨kk, p, rfl⟩ := asTup_eq hx
      refine pe_imp (pe_tup (snd_Es es hX h)) fun σ H Q q => ?_
      obtain ⟨B, c, rfl, rfl, hR, q⟩ := q
      refine oneA (K := fun B => KE Γ B Q) hR q fun c1 ds vs e1 R1 t1 p1 h => ?_
      obtain ⟨hl, h⟩ := run_dec h
      exact ⟨lim_le (by rw [reps_len p1]; exact hl), fun p hp => (Fin.of h).tup R1 p1 hp⟩
    · cases h
  | .dct0, x, X, W, hX, h => by
    unfold chkE at h
    obtain ⟨p, rfl⟩ := asDict0_eq h
    refine pe_imp pe_dnewK fun σ H Q q => ?_
    obtain ⟨B, c, rfl, rfl, hR, q⟩ := q
    exact fun p hp => (Fin.of (d := .dct [] []) q).dct (vs := []) hR rfl (by show reps _ _ _ _ _ [] []; unfold reps; rfl) hp
  | .dct1 a b, x, X, W, hX, h => by
    unfold chkE at h
    split at h
    · rename_i y z hx
      obtain ⟨p, rfl⟩ := asDict1_eq hx
      rw [Bool.and_eq_true] at h
      refine pe_imp (pe_disp (pps_cons (snd_E a hX h.1) (snd_E b hX h.2) pps_nil) rfl rfl (by simp) (by simp)) fun σ H Q q => ?_
      obtain ⟨B, c, rfl, rfl, hR, q⟩ := q
      intro p hp
      have f := hR.fresh hp
      have hm : p ∉ B.Mb := fun z => by
        obtain ⟨n, hn⟩ := List.getElem?_of_mem z
        exact f.2.2.1 (List.mem_of_getElem? (hR.mpre n p hn))
      obtain ⟨R0, t0⟩ := hR.ownNewO hp (.dK [])
      have hv : Conv Γ (B.ownO p (.dK [])) B := conv_own hm f.1 f.2.1
      have t0' : TrC B c B { c with H := upd c.H p (.dK []) } := (t0.trans (R0.ownEnd hm f.1).2).trans tr_weaken
      have q : Run Γ B c W ((ev cf a c.w).bind fun x w => (ev cf b w).bind fun y w => (R.opt (keyOf x.1) w).bind fun k w => .ok (.dct [k] [y.1], true) w) (KE Γ B Q) := q
      cases ha : ev cf a c.w with
      | bad => rw [ha] at q; exact q.elim
      | exn u o w => rw [ha] at q; exact tE_exn R0 (Run.conv hv R0 (Run.from q rfl t0')) ha
      | ok x w1 =>
        rw [ha] at q
        refine ⟨_, { c with H := upd c.H p (.dK []) }, rfl, rfl, R0, run_ok ha fun c1 e1 e2 e3 R1 t1 v p1 => ?_⟩
        have q : Run Γ B c W ((ev cf b w1).bind fun y w => (R.opt (keyOf x.1) w).bind fun k w => .ok (.dct [k] [y.1], true) w) (KE Γ B Q) := q
        have ew : c1.w = w1 := w_eq e1 e2
        have tc1 : TrC B c B c1 := t0'.trans (hv.2.1 _ _ R0 R1 t1)
        cases hb : ev cf b w1 with
        | bad => rw [hb] at q; exact q.elim
        | exn u o w => rw [hb] at q; exact sig (t := tE Γ W (ev cf b)) e3 (tE_exn R1 (Run.conv hv R1 (Run.from q e3 tc1)) (by rw [ew]; exact hb))
        | ok y w2 =>
          rw [hb] at q
          refine sig (t := tE Γ W (ev cf b)) e3 ⟨_, c1, rfl, rfl, R1, run_ok (by rw [ew]; exact hb) fun c2 f1 f2 f3 R2 t2 u p2 => ?_⟩
          have q : Run Γ B c W ((R.opt (keyOf x.1) w2).bind fun k w => .ok (.dct [k] [y.1], true) w) (KE Γ B Q) := q
          cases hk : keyOf x.1 with
          | none => rw [hk] at q; exact q.elim
          | some kk =>
            rw [hk] at q
            have hu := key_rep (rep_tr t2 _ _ p1.1) hk
            obtain ⟨g1, g2, g3⟩ := own_here R2 hm
            refine ⟨g1, [(kk, u)], by rw [hu]; rfl, by simp, ?_⟩
            obtain ⟨R3, t3⟩ := R2.ownSetO (.dK [(kk, u)]) rfl hm
            obtain ⟨R4, t4⟩ := R3.ownEnd hm f.1
            obtain ⟨_, k2, k3⟩ := own_here R3 hm
            have hr := reps_tr (t3.trans t4) _ _ (rs_one p2.1)
            exact q { c2 with H := upd c2.H p (.dK [(kk, u)]) } f1 f2 (f3.trans e3) R4.weaken (((((t0.trans t1).trans t2).trans t3).trans t4).trans tr_weaken) (.ref p) ⟨⟨p, [u], rfl, upd_same, ⟨f.2.1, k2, k3⟩, rfl, reps_tr tr_weaken _ _ hr⟩, fun _ => ⟨p, rfl, f.1, f.2.1, k2, R4, [u], upd_same, rfl, hr⟩⟩
    · cases h
  | .ix a i, x, X, W, hX, h => by
    unfold chkE at h
    split at h
    · rename_i y z hx
      obtain ⟨p, rfl⟩ := asSub_eq hx
      simp only [Bool.and_eq_true] at h
      exact pe_imp (pe_ix (ix_all hX) (snd_E a hX h.1.1) (snd_E i hX h.1.2) (plainIx_of h.2)) fun σ H Q q => two q fun B c x y v1 v2 hR g1 g2 h => by
        obtain ⟨d, hd, h⟩ := Run.opt h
        exact fit_ix hR (T_of g1) g2 hd (Fin.of h)
    · cases h
  | .ixv j i, x, X, W, hX, h => by
    unfold chkE at h
    split at h
    · rename_i y z hx
      obtain ⟨p, rfl⟩ := asSub_eq hx
      simp only [Bool.and_eq_true] at h
      refine pe_imp (pe_ix (ix_all hX) (pe_name h.1.1) (snd_E i hX h.1.2) (plainIx_of h.2)) fun σ H Q q => ?_
      obtain ⟨B, c, rfl, rfl, hR, q⟩ := q
      obtain ⟨d0, hd0, q⟩ := Run.opt q
      obtain ⟨v0, s0, _⟩ := hR.get hd0
      exact ⟨v0, s0, one (K := fun B => KE Γ B Q) hR q fun c1 x v e1 R1 t1 p1 h => by
        obtain ⟨d1, hd1, h⟩ := Run.opt h
        obtain ⟨d2, hd2, h⟩ := Run.opt h
        obtain ⟨v1, s1, g1⟩ := R1.get hd1
        rw [e1, s0] at s1
        cases s1
        exact fit_ix R1 (deref_T R1 g1) p1.1 hd2 (Fin.of h)⟩
    · cases h
  | .sl a lo hi, x, X, W, hX, h => by
    unfold chkE at h
    split at h
    · rename_i y z hx
      split at h
      · rename_i l u hz
        obtain ⟨p, rfl⟩ := asSub_eq hx
        obtain ⟨p2, rfl⟩ := asSlice_eq hz
        simp only [Bool.and_eq_true] at h
        refine pe_imp (pe_slice (sl_K hX) (snd_E a hX h.1.1) (snd_O lo hX h.1.2) (snd_O hi hX h.2)) fun σ H Q q => ?_
        obtain ⟨B, c, rfl, rfl, hR, q⟩ := q
        refine one (K := fun B => KE Γ B Q) hR q fun c1 x v e1 R1 t1 p1 h => sigO (t := tO Γ W (evO cf lo)) e1 (oneO (K := fun B => KE Γ B Q) R1 h fun c2 l e2 R2 t2 h => sigO (t := tO Γ W (evO cf hi)) (e2.trans e1) (oneO (K := fun B => KE Γ B Q) R2 h fun c3 u e3 R3 t3 h => ?_))
        obtain ⟨d, hd, h⟩ := Run.opt h
        exact fit_sl R3 (rep_tr (t2.trans t3) _ _ p1.1) hd (Fin.of h)
      · cases h
    · cases h
  | .rev a, x, X, W, hX, h => by
    unfold chkE at h
    split at h
    · rename_i y z hx
      obtain ⟨p, rfl⟩ := asSub_eq hx
      rw [Bool.and_eq_true] at h
      obtain ⟨kk, p1, p2, p3, rfl⟩ := isRevS_eq h.2
      have hh := pe_revL (k := kk) (p1 := p1) (p2 := p2) (p3 := p3) (pos := p) (snd_E a hX h.1)
      rw [hX.at_.k] at hh
      refine pe_imp hh fun σ H Q q => ?_
      obtain ⟨B, c, rfl, rfl, hR, q⟩ := q
      refine one (P := fun x H1 => ∃ a xs, x = .ref a ∧ SqL Γ.K H1 a xs ∧ ∀ p, H1 p = none → Q (.ref p) (upd H1 p (.lst xs.reverse))) (K := fun B => KE Γ B Q) hR q fun c1 x v e1 R1 t1 p1 h => ?_
      obtain ⟨d, hd, h⟩ := Run.opt h
      obtain ⟨dx, fx⟩ := x
      cases dx <;> simp [revD] at hd
      subst hd
      obtain ⟨b, vs, rfl, h1, _, h3⟩ := p1.1
      exact ⟨b, vs, rfl, SqL.of h1, fun p hp => (Fin.of h).lst R1 (reps_reverse h3) hp⟩
    · cases h
  | .comp own g' it c e, x, X, W, hX, h => by
    unfold chkE at h
    split at h
    · rename_i elt tg iter ifs scope hx
      obtain ⟨p, rfl⟩ := asLC_eq hx
      simp only [Bool.and_eq_true] at h
      obtain ⟨⟨⟨⟨⟨⟨⟨h1, h2⟩, h3⟩, h4⟩, h5⟩, h6⟩, h7⟩, h8⟩ := h
      have ho := of_decide_eq_true h2
      refine pe_imp (pe_lc hX.calm hX.nd (snd_I it hX h5) (blkOk_by h1) (fun s H C cl fp => pg_rd (Γ := Γ) (X := X.blk s H scope (compEnvC scope cl C X.env) fp) hX.calm hX.nd lc_blk hX.at_.k rfl g' h4) (fun s H C cl fp => snd_C c (ct_blk hX) h6) (fun s H C cl fp => snd_E e (ct_blk hX) h7) (noSet_folded h8)) fun σ H Q q => ?_
      rw [ho]
      exact comp_end (fun j hj => by simpa using List.all_eq_true.mp h3 j hj) q
    · cases h
  | .call f es, x, X, W, hX, h => by
    unfold chkE at h
    split at h
    · rename_i y xs hx
      split at h
      · rename_i z hy
        obtain ⟨p, rfl⟩ := asCall_eq hx
        obtain ⟨p2, rfl⟩ := asName_eq hy
        simp only [Bool.and_eq_true] at h
        obtain ⟨⟨⟨⟨h1, h2⟩, h3⟩, h4⟩, h5⟩ := h
        obtain ⟨fa, fd, ps, g1, g2, g3, g4, g5⟩ := hC.call f z (of_decide_eq_true h1)
        cases xs with
        | nil => cases h4
        | cons y ys =>
          unfold okName at h3
          rw [Bool.and_eq_true, Bool.not_eq_true'] at h3
          have e := hX.at_
          refine pe_imp (pe_callG (by rw [e.p, e.w, e.k, e.m, e.b]; exact g4) hX.gd hX.room hX.tk (gl_of h2) (by rw [e.m]; exact g1) (by rw [e.k]; exact g2) (by rw [e.k]; exact g3) (snd_Es es hX h5) (chkEs_star h5) h3.1) fun σ H Q q => ?_
          obtain ⟨B, c, rfl, rfl, hR, q⟩ := q
          refine oneA (K := fun B => KE Γ B Q) hR q fun c1 ds vs e1 R1 t1 p1 h => ?_
          have hl : ds.length = ps.length := by
            by_cases z : ds.length = ps.length
            · exact z
            · rw [g5 ds _ z] at h; exact h.elim
          rw [← e1]
          exact call_end R1 p1 hl h
      · cases h
    · cases h
  | .b1 f a, x, X, W, hX, h => by
    unfold chkE at h
    split at h
    · rename_i y hx
      obtain ⟨ff, p, rfl, hb, hs⟩ := asB1_eq hx
      obtain ⟨b1, b2, b3, b4, b5⟩ := b1_boot f
      exact pe_imp (pe_bi hO hX hb b1 b2 b3 (cr_b1 hO hX f) b4 b5 (pa_cons (snd_E a hX h) pa_nil (star_cons hs)) (by simp [hs])) fun σ H Q q => b1_end q
    · cases h
  | .lenv i, x, X, W, hX, h => by
    unfold chkE at h
    split at h
    · rename_i y hx
      obtain ⟨ff, p, rfl, hb, hs⟩ := asB1_eq hx
      obtain ⟨b1, b2, b3, b4, b5⟩ := b1_boot .len
      refine pe_imp (pe_bi hO hX hb b1 b2 b3 (cr_b1 hO hX .len) b4 b5 (pa_cons (pe_name h) pa_nil (star_cons hs)) (by simp [hs])) fun σ H Q q => ?_
      obtain ⟨B, c, rfl, rfl, hR, q⟩ := q
      obtain ⟨d0, hd0, q⟩ := Run.opt q
      obtain ⟨d1, hd1, q⟩ := Run.opt q
      obtain ⟨v0, s0, g0⟩ := hR.get hd0
      exact ⟨v0, s0, fit_b1 hR g0 hd1 (.inl rfl) (by rw [len_fr hd1]; exact Fin.of q)⟩
    · cases h
  | .max2 a b, x, X, W, hX, h => by
    unfold chkE at h
    split at h
    · rename_i y z hx
      obtain ⟨ff, p, rfl, hb, hs1, hs2⟩ := asB2_eq hx
      rw [Bool.and_eq_true] at h
      refine pe_imp (pe_bi hO hX hb (by decide) (.inl ⟨_, rfl⟩) (by decide +kernel) (call_max2 hX.calm) (by decide +kernel) (by decide +kernel) (pa_cons (snd_E a hX h.1) (pa_cons (snd_E b hX h.2) pa_nil (star_cons hs2)) (star_cons hs1)) (by simp [hs1, hs2])) fun σ H Q q => twoA q fun B c x y v1 v2 hR g1 g2 h => ?_
      obtain ⟨i, hi, h⟩ := Run.opt h
      obtain ⟨j, hj, h⟩ := Run.opt h
      refine ⟨i, j, ?_, (Fin.of h).int hR⟩
      rw [int_rep hi g1, int_rep hj g2]
    · cases h
  | .min2 a b, x, X, W, hX, h => by
    unfold chkE at h
    split at h
    · rename_i y z hx
      obtain ⟨ff, p, rfl, hb, hs1, hs2⟩ := asB2_eq hx
      rw [Bool.and_eq_true] at h
      refine pe_imp (pe_bi hO hX hb (by decide) (.inl ⟨_, rfl⟩) (by decide +kernel) (call_min2 hX.calm) (by decide +kernel) (by decide +kernel) (pa_cons (snd_E a hX h.1) (pa_cons (snd_E b hX h.2) pa_nil (star_cons hs2)) (star_cons hs1)) (by simp [hs1, hs2])) fun σ H Q q => twoA q fun B c x y v1 v2 hR g1 g2 h => ?_
      obtain ⟨i, hi, h⟩ := Run.opt h
      obtain ⟨j, hj, h⟩ := Run.opt h
      refine ⟨i, j, ?_, (Fin.of h).int hR⟩
      rw [int_rep hi g1, int_rep hj g2]
    · cases h
  | .listR a, x, X, W, hX, h => by
    unfold chkE at h
    split at h
    · rename_i y hx
      split at h
      · rename_i z hy
        obtain ⟨ff, p, rfl, hb, hs⟩ := asB1_eq hx
        obtain ⟨ff2, p2, rfl, hb2, hs2⟩ := asB1_eq hy
        obtain ⟨q1, rfl, l1⟩ := bi_name hb
        obtain ⟨q2, rfl, l2⟩ := bi_name hb2
        have m1 : X.mg (Str.ofString "list") = none := by rw [hX.at_.m]; exact hO.bn "list" (by decide)
        have m2 : X.mg (Str.ofString "range") = none := by rw [hX.at_.m]; exact hO.bn "range" (by decide)
        refine pe_imp (pe_listRg hX.calm (gl_of l1) m1 (prg_1 (gl_of l2) m2 (snd_E a hX h) (star_cons hs2)) rfl) fun σ H Q q => ?_
        obtain ⟨B, c, rfl, rfl, hR, q⟩ := q
        refine one (P := fun x H1 => ∃ n, x = .int n ∧ RgOk 0 n ∧ ∀ q, H1 q = none → Q (.ref q) (upd H1 q (.lst (rgV 0 n)))) (K := fun B => KE Γ B Q) hR q fun c1 x v e1 R1 t1 p1 h => ?_
        obtain ⟨i, hi, h⟩ := Run.opt h
        obtain ⟨hk, h⟩ := run_dec h
        exact ⟨i, int_rep hi p1.1, rgOk_of hk.1 hk.2, fun q hq => (Fin.of h).lst R1 (rng_reps 0 i) hq⟩
      · cases h
    · cases h
  | .tupR a, x, X, W, hX, h => by
    unfold chkE at h
    split at h
    · rename_i y hx
      split at h
      · rename_i z hy
        obtain ⟨ff, p, rfl, hb, hs⟩ := asB1_eq hx
        obtain ⟨ff2, p2, rfl, hb2, hs2⟩ := asB1_eq hy
        obtain ⟨q1, rfl, l1⟩ := bi_name hb
        obtain ⟨q2, rfl, l2⟩ := bi_name hb2
        have m1 : X.mg (Str.ofString "tuple") = none := by rw [hX.at_.m]; exact hO.bn "tuple" (by decide)
        have m2 : X.mg (Str.ofString "range") = none := by rw [hX.at_.m]; exact hO.bn "range" (by decide)
        refine pe_imp (pe_tupRg hX.calm (gl_of l1) m1 (prg_1 (gl_of l2) m2 (snd_E a hX h) (star_cons hs2)) rfl) fun σ H Q q => ?_
        obtain ⟨B, c, rfl, rfl, hR, q⟩ := q
        refine one (P := fun x H1 => ∃ n, x = .int n ∧ RgOk 0 n ∧ ∀ q, H1 q = none → Q (.ref q) (upd H1 q (.tup (rgV 0 n)))) (K := fun B => KE Γ B Q) hR q fun c1 x v e1 R1 t1 p1 h => ?_
        obtain ⟨i, hi, h⟩ := Run.opt h
        obtain ⟨hk, h⟩ := run_dec h
        exact ⟨i, int_rep hi p1.1, rgOk_of hk.1 hk.2, fun q hq => (Fin.of h).tup R1 (rng_reps 0 i) hq⟩
      · cases h
    · cases h
  | .sset a, x, X, W, hX, h => by
    unfold chkE at h
    split at h
    · rename_i y hx
      split at h
      · rename_i z hy
        obtain ⟨ff, p, rfl, hb, hs⟩ := asB1_eq hx
        obtain ⟨ff2, p2, rfl, hb2, hs2⟩ := asB1_eq hy
        have hc := cr_setTup (X := X) hX.calm
        rw [hX.at_.k] at hc
        refine pe_imp (pe_bi hO hX hb (by decide) (.inl ⟨_, rfl⟩) (by decide +kernel) (cr_sortedSet hX.calm) (by decide +kernel) (by decide +kernel) (pa_cons (pe_bi hO hX hb2 (by decide) (.inr ⟨_, rfl⟩) (by decide +kernel) hc (by decide +kernel) (by decide +kernel) (pa_cons (snd_E a hX h) pa_nil (star_cons hs2)) (by simp [hs2])) pa_nil (star_cons hs)) (by simp [hs])) fun σ H Q q => ?_
        obtain ⟨B, c, rfl, rfl, hR, q⟩ := q
        refine one (P := fun v H1 => rSetTup Γ.K X.w [v] H1 fun v2 H2 => rSortedSet X.w [v2] H2 Q) (K := fun B => KE Γ B Q) hR q fun c1 x v e1 R1 t1 p1 h => ?_
        obtain ⟨xd, xf⟩ := x
        obtain ⟨ns, hi, h⟩ := Run.opt h
        obtain ⟨hk, h⟩ := run_dec h
        have F1 : Fin Γ B c1 (.lst ((sortI (dedup ns)).map .int)) true Q := Fin.of h
        cases xd <;> try (exact absurd hi (by intro z; cases z))
        rename_i ds
        obtain ⟨a0, vs, rfl, hsq, hr⟩ := p1.1
        have ev := ints_reps hi hr
        subst ev
        refine ⟨a0, ns, rfl, hsq, hk, fun p c hp hcn => ⟨p, _, c, rfl, upd_same, by omega, fun ns' p' hs' hm hl hp' => ?_⟩⟩
        obtain ⟨R2, t2⟩ := R1.alloc hp (SetO X.w p (fun j => decide (j ∈ ns)) c)
        have F : Fin Γ B { c1 with H := upd c1.H p (SetO X.w p (fun j => decide (j ∈ ns)) c) } (.lst ((sortI (dedup ns)).map .int)) true Q := fun v c' e1 e2 e3 R t P => F1 v c' e1 e2 e3 R ((t2.trans tr_weaken).trans t) P
        have en : ns' = sortI (dedup ns) := lt_uniq hs' (sset_lt ns) fun k => by rw [hm k, sset_mem, decide_eq_true_iff]
        rw [en]
        exact F.lst R2.weaken (reps_ints _) hp'
      · cases h
    · cases h
  | .isi t a, x, X, W, hX, h => by
    unfold chkE at h
    split at h
    · rename_i y z hx
      obtain ⟨ff, p, rfl, hb, hs1, hs2⟩ := asB2_eq hx
      simp only [Bool.and_eq_true] at h
      obtain ⟨⟨⟨h1, h2⟩, h3⟩, h4⟩ := h
      obtain ⟨b1, b2, b3, b4⟩ := ty_boot t (of_decide_eq_true h3)
      obtain ⟨q1, rfl, l1⟩ := bi_name h2
      have hc := call_isi (X := X)
      rw [hX.at_.k] at hc
      refine pe_imp (pe_bi hO hX hb (by decide) (.inl ⟨_, rfl⟩) (by decide +kernel) hc (by decide +kernel) (by decide +kernel) (pa_cons (snd_E a hX h1) (pa_cons (pe_bltn (v := .ty (tyV' t)) (gl_of l1) (by rw [hX.at_.m]; exact hO.bn _ b1) b2 rfl b3 b4) pa_nil (star_cons hs2)) (star_cons hs1)) (by simp [hs1, hs2])) fun σ H Q q => ?_
      obtain ⟨B, c, rfl, rfl, hR, q⟩ := q
      refine one (K := fun B => KE Γ B Q) hR q fun c1 x v e1 R1 t1 p1 h => ?_
      obtain ⟨b, hi, h⟩ := Run.opt h
      exact isi_end hO.ty p1.1 hi ((Fin.of h).bl R1)
    · cases h
  | .dem a, x, X, W, hX, h => by
    unfold chkE at h
    split at h
    · rename_i y hx
      obtain ⟨q, p, rfl⟩ := asM0_eq hx
      simp only [Bool.and_eq_true] at h
      refine pe_imp (hO.dem X hX.at_ hX.gd hX.room _ _ _ _ (snd_E a hX h.1.1) h.1.2 h.2) fun σ H Q q => ?_
      obtain ⟨B, c, rfl, rfl, hR, q⟩ := q
      refine one (K := fun B => KE Γ B Q) hR q fun c1 x v e1 R1 t1 p1 h => ?_
      obtain ⟨xd, xf⟩ := x
      cases xd <;> try exact h.elim
      exact ⟨B, c1, _, _, rfl, R1, p1.1, Fin.of h⟩
    · cases h
  | .rdr a, x, X, W, hX, h => by
    unfold chkE at h
    split at h
    · rename_i y hx
      obtain ⟨q, p, rfl⟩ := asM0_eq hx
      simp only [Bool.and_eq_true] at h
      refine pe_imp (hO.rdr X hX.at_ hX.gd hX.room _ _ _ _ (snd_E a hX h.1.1) h.1.2 h.2) fun σ H Q q => ?_
      obtain ⟨B, c, rfl, rfl, hR, q⟩ := q
      refine one (K := fun B => KE Γ B Q) hR q fun c1 x v e1 R1 t1 p1 h => ?_
      obtain ⟨xd, xf⟩ := x
      cases xd <;> try exact h.elim
      exact ⟨B, c1, _, _, rfl, R1, p1.1, Fin.of h⟩
    · cases h
  | .mk f a b, x, X, W, hX, h => by
    unfold chkE at h
    split at h
    · rename_i y z hx
      obtain ⟨ff, p, rfl, hb, hs1, hs2⟩ := asB2_eq hx
      simp only [Bool.and_eq_true] at h
      have e0 := of_decide_eq_true h.1.1
      subst e0
      obtain ⟨q1, rfl, l1⟩ := bi_name hb
      refine pe_imp (hC.make X hX.at_ hX.gd hX.room (gl_of l1) _ _ _ _ _ hs1 hs2 (pa_cons (snd_E a hX h.1.2) (pa_cons (snd_E b hX h.2) pa_nil (star_cons hs2)) (star_cons hs1))) fun σ H Q q => twoA (r := rMk Γ cf nm.ib) q fun B c x y v1 v2 hR g1 g2 h => ?_
      split at h
      · rename_i ds rs s' hcf
        obtain ⟨hk, h⟩ := run_dec h
        simp only [Bool.and_eq_true] at hk
        exact ⟨B, c, x.1, y.1, v1, v2, ds, rs, s', rfl, rfl, hR, g1, g2, hcf, hk.1.1.1.1.1, hk.1.1.1.1.2, ⟨hk.1.1.1.2, hk.1.1.2, hk.1.2, hk.2⟩, fun v c' e1 e2 e3 R t P => h c' e1 e2 e3 R t v P⟩
      · exact h.elim
    · cases h
  | .pop i a, x, X, W, hX, h => by
    unfold chkE at h
    split at h
    · rename_i y z hx
      obtain ⟨q, p, rfl, hs⟩ := asM1_eq hx
      simp only [Bool.and_eq_true] at h
      obtain ⟨⟨h1, h2⟩, h3⟩ := h
      refine pe_imp (pe_bm PySem.F.plainAttrs_list PySem.F.slot_list_pop PySem.F.type_list_pop mt_popAt (pe_name h1) (pa_cons (snd_E a hX h2) pa_nil (star_cons hs)) (base_name h1) (few_one hs) h3 (star_cons hs) rfl) fun σ H Q q => ?_
      obtain ⟨B, c, rfl, rfl, hR, q⟩ := q
      obtain ⟨ds0, hd0, q⟩ := Run.opt q
      obtain ⟨_, p0, vs0, s0, l0, _⟩ := cl_get hR hd0
      refine ⟨_, s0, .inl ⟨rfl, vs0, SqL.of l0⟩, one (P := fun x H2 => rPopAt (.ref p0) [x] H2 Q) (K := fun B => KE Γ B Q) hR q fun c1 x v e1 R1 t1 p1 h => ?_⟩
      obtain ⟨ds, hd, h⟩ := Run.opt h
      obtain ⟨kk, hk, h⟩ := Run.opt h
      obtain ⟨j, hj, h⟩ := Run.opt h
      obtain ⟨d, he, h⟩ := Run.opt h
      obtain ⟨hb, h⟩ := run_dec h
      obtain ⟨g1, p', vs, g2, g3, g4⟩ := cl_get R1 hd
      rw [e1, s0] at g2
      cases g2
      obtain ⟨u, f1, f2⟩ := reps_get g4 he
      have gl := reps_len g4
      refine ⟨p0, vs, kk, j, u, rfl, by rw [int_rep hk p1.1], g3, hb.1, hb.2, by rw [gl]; exact (ixN_seq hj).1, f1, ?_⟩
      obtain ⟨R2, t2⟩ := cell_set (d' := .lst (ds.eraseIdx j)) (o := .lst (vs.eraseIdx j)) R1 g1 (e1 ▸ s0) fun c' t e => ⟨_, by rw [e]; exact upd_same, reps_erase j (reps_tr t _ _ g4)⟩
      exact h { c1 with e := c1.e.set i (.cell (.lst (ds.eraseIdx j))), H := upd c1.H p0 (.lst (vs.eraseIdx j)) } rfl rfl rfl R2 t2 u ⟨rep_tr t2 _ _ f2, fun z => nomatch z⟩
    · cases h
  | .box es, x, X, W, hX, h => by
    unfold chkE at h
    split at h
    · rename_i xs hx
      obtain ⟨p, rfl⟩ := asList_eq hx
      refine pe_imp (pe_lst (snd_Es es hX h)) fun σ H Q q => ?_
      obtain ⟨B, c, rfl, rfl, hR, q⟩ := q
      refine oneA (K := fun B => KE Γ B Q) hR q fun c1 ds vs e1 R1 t1 p1 h => ?_
      obtain ⟨hl, h⟩ := run_dec h
      refine ⟨lim_le (by rw [reps_len p1]; exact hl), fun p hp => ?_⟩
      obtain ⟨R2, t2⟩ := R1.boxNew hp (R1.fresh hp).1 p1
      refine h { c1 with s := c1.s ++ [.box ds], M := c1.M ++ [p], H := upd c1.H p (.lst vs) } rfl rfl rfl R2 t2 (.ref p) ⟨⟨p, rfl, ?_⟩, fun z => nomatch z⟩
      show (c1.M ++ [p])[c1.s.length]? = some p
      rw [← R1.mlen, List.getElem?_append_right (Nat.le_refl _), Nat.sub_self]; rfl
    · cases h
theorem snd_Es : ∀ (es : Es) {xs : List Expr} {X : Cx} {W : WX}, Ct Γ g k X W → chkEs nm X.N X.env.scope es xs = true → PA X xs (tA Γ W (evs cf es))
  | .nil, xs, X, W, hX, h => by
    unfold chkEs at h
    rw [isNil_eq h]
    refine pa_imp pa_nil fun σ H Q q => ?_
    obtain ⟨B, c, rfl, rfl, hR, q⟩ := q
    exact q.okI hR [] (by show reps _ _ _ _ _ [] []; unfold reps; rfl)
  | .cons e es, xs, X, W, hX, h => by
    unfold chkEs at h
    split at h
    · rename_i x xs
      simp only [Bool.and_eq_true] at h
      refine pa_imp (pa_cons (snd_E e hX h.1.1) (snd_Es es hX h.2) (star_cons h.1.2)) fun σ H Q q => ?_
      obtain ⟨B, c, rfl, rfl, hR, q⟩ := q
      refine one (K := fun B ds c' => ∀ vs, Γ.Rs B c' ds vs → Q vs c'.H) hR q fun c1 x v e1 R1 t1 p1 h => sigA (t := tA Γ W (evs cf es)) e1 (oneA (K := fun B ds c' => ∀ vs, Γ.Rs B c' ds vs → Q vs c'.H) R1 h fun c2 ds vs e2 R2 t2 p2 h => h.okI R2 (v :: vs) ?_)
      show reps _ _ _ _ _ (x.1 :: ds) (v :: vs)
      unfold reps
      exact ⟨v, vs, rfl, rep_tr t2 _ _ p1.1, p2⟩
    · cases h
theorem snd_O : ∀ (o : O) {x : Option Expr} {X : Cx} {W : WX}, Ct Γ g k X W → chkO nm X.N X.env.scope o x = true → PO X x (tO Γ W (evO cf o))
  | .no, x, X, W, hX, h => by
    unfold chkO at h
    cases x with
    | some y => cases h
    | none =>
      refine ⟨fun pins s σ H Q I q => po_none.run pins s σ H Q I ?_⟩
      obtain ⟨B, c, rfl, rfl, hR, q⟩ := q
      exact q.okI hR
  | .yes e, x, X, W, hX, h => by
    unfold chkO at h
    cases x with
    | none => cases h
    | some y =>
      refine ⟨fun pins s σ H Q I q => (po_some (snd_E e hX h)).run pins s σ H Q I ?_⟩
      obtain ⟨B, c, rfl, rfl, hR, q⟩ := q
      refine one (K := fun B b c' => Q b c'.H) hR q fun c1 x v e1 R1 t1 p1 h => ?_
      obtain ⟨i, hi, h⟩ := Run.opt h
      exact ⟨i, int_rep hi p1.1, h.okI R1⟩
theorem snd_T : ∀ (t : T) {x : Expr} {X : Cx} {W : WX}, Ct Γ g k X W → chkT nm X.N X.env.scope t x = true → PT X x (tT Γ W (evT cf t))
  | .and a b, x, X, W, hX, h => by
    unfold chkT at h
    split at h
    · rename_i y z hx
      rw [Bool.and_eq_true] at h
      rcases asAnd_eq hx with ⟨p, rfl⟩ | ⟨s, t, r, p, rfl, rfl⟩
      · exact (pw_imp (pw_and (snd_T a hX h.1) (pw_and1 (snd_T b hX h.2))) fun σ H Q q => tand_end q).pt
      · refine (pw_imp (pw_and (snd_T a hX h.1) (pw_of_bool (snd_T b hX h.2))) fun σ H Q q => tand_end q).pt
    · cases h
  | .or a b, x, X, W, hX, h => by
    unfold chkT at h
    split at h
    · rename_i y z hx
      rw [Bool.and_eq_true] at h
      rcases asOr_eq hx with ⟨p, rfl⟩ | ⟨s, t, r, p, rfl, rfl⟩
      · exact (pw_imp (pw_or (snd_T a hX h.1) (pw_or1 (snd_T b hX h.2))) fun σ H Q q => tor_end q).pt
      · refine (pw_imp (pw_or (snd_T a hX h.1) (pw_of_bool (snd_T b hX h.2))) fun σ H Q q => tor_end q).pt
    · cases h
  | .not a, x, X, W, hX, h => by
    unfold chkT at h
    split at h
    · rename_i op y hx
      obtain ⟨p, rfl⟩ := asUn_eq hx
      rw [Bool.and_eq_true] at h
      have e := of_decide_eq_true h.1
      subst e
      refine pt_imp (pt_not (snd_T a hX h.2)) fun σ H Q q => ?_
      obtain ⟨B, c, rfl, rfl, hR, q⟩ := q
      exact oneT (K := fun B b c' => Q b c'.H) hR q fun c1 x e1 R1 t1 h => h.okI R1
    · cases h
  | .ev e, x, X, W, hX, h => by
    unfold chkT at h
    rw [Bool.and_eq_true] at h
    exact pt_of_pe (snd_E e hX h.1) h.2
  | .cmp o a b, x, X, W, hX, h => by
    unfold chkT at h
    split at h
    · rename_i op y z hx
      obtain ⟨p, rfl⟩ := asCmp1_eq hx
      simp only [Bool.and_eq_true] at h
      obtain ⟨⟨⟨h1, h2⟩, h3⟩, h4⟩ := h
      have e := of_decide_eq_true h1
      subst e
      rw [Bool.not_eq_true'] at h4
      refine pt_imp (pt_cmpR (op_cmp hO hX o) (snd_E a hX h2) (snd_E b hX h3) h4) fun σ H Q q => ?_
      obtain ⟨B, c, rfl, rfl, hR, q⟩ := q
      refine one (P := fun v1 H1 => tE Γ W (ev cf b) c.σ H1 fun v2 H2 => rCmp Γ o v1 v2 H2 fun v H' => ∃ k, v = .bl k ∧ Q k H') (K := fun B b c' => Q b c'.H) hR q fun c1 x v1 e1 R1 t1 p1 h => sig (t := tE Γ W (ev cf b)) e1 (one (K := fun B b c' => Q b c'.H) R1 h fun c2 y v2 e2 R2 t2 p2 h => ?_)
      obtain ⟨kk, hk, F⟩ := opt_fin R2 h
      exact fit_cmp R2 (T_of (rep_tr t2 _ _ p1.1)) (T_of p2.1) hk F
    · cases h
  | .cmpv o i b, x, X, W, hX, h => by
    unfold chkT at h
    split at h
    · rename_i op y z hx
      obtain ⟨p, rfl⟩ := asCmp1_eq hx
      simp only [Bool.and_eq_true] at h
      obtain ⟨⟨⟨h1, h2⟩, h3⟩, h4⟩ := h
      have e := of_decide_eq_true h1
      subst e
      rw [Bool.not_eq_true'] at h4
      refine pt_imp (pt_cmpR (op_cmp hO hX o) (pe_name h2) (snd_E b hX h3) h4) fun σ H Q q => ?_
      obtain ⟨B, c, rfl, rfl, hR, q⟩ := q
      obtain ⟨d0, hd0, q⟩ := Run.opt q
      obtain ⟨v0, s0, _⟩ := hR.get hd0
      refine ⟨v0, s0, one (K := fun B b c' => Q b c'.H) hR q fun c1 x v e1 R1 t1 p1 h => ?_⟩
      obtain ⟨d1, hd1, h⟩ := Run.opt h
      obtain ⟨v1, s1, g1⟩ := R1.get hd1
      rw [e1, s0] at s1
      cases s1
      obtain ⟨kk, hk, F⟩ := opt_fin R1 h
      exact fit_cmp R1 g1 (T_of p1.1) hk F
    · cases h
  | .inv o a i, x, X, W, hX, h => by
    unfold chkT at h
    split at h
    · rename_i op y z hx
      obtain ⟨p, rfl⟩ := asCmp1_eq hx
      simp only [Bool.and_eq_true] at h
      obtain ⟨⟨⟨h1, h2⟩, h3⟩, h4⟩ := h
      have e := of_decide_eq_true h1
      subst e
      rw [Bool.not_eq_true'] at h4
      refine pt_imp (pt_cmpR (op_cmp hO hX o) (snd_E a hX h2) (pe_name h3) h4) fun σ H Q q => ?_
      obtain ⟨B, c, rfl, rfl, hR, q⟩ := q
      refine one (P := fun v1 H1 => tVar i c.σ H1 fun v2 H2 => rCmp Γ o v1 v2 H2 fun v H' => ∃ k, v = .bl k ∧ Q k H') (K := fun B b c' => Q b c'.H) hR q fun c1 x v e1 R1 t1 p1 h => ?_
      obtain ⟨d1, hd1, h⟩ := Run.opt h
      obtain ⟨v1, s1, g1⟩ := R1.get hd1
      obtain ⟨kk, hk, F⟩ := opt_fin R1 h
      exact ⟨v1, e1 ▸ s1, fit_cmp R1 (T_of p1.1) g1 hk F⟩
    · cases h
  | .chain o p a b c, x, X, W, hX, h => by
    unfold chkT at h
    split at h
    · rename_i op op' y z u hx
      obtain ⟨pp, rfl⟩ := asCmp2_eq hx
      simp only [Bool.and_eq_true] at h
      obtain ⟨⟨⟨⟨⟨h1, h1'⟩, h2⟩, h3⟩, h4⟩, h5⟩ := h
      have e := of_decide_eq_true h1
      have e' := of_decide_eq_true h1'
      subst e
      subst e'
      rw [Bool.not_eq_true'] at h5
      refine pt_imp (pt_chain (op_cmp hO hX o) (op_cmp hO hX p) (snd_E a hX h2) (snd_E b hX h3) (snd_E c hX h4) h5) fun σ H Q q => ?_
      obtain ⟨B, c0, rfl, rfl, hR, q⟩ := q
      refine one (P := fun v1 H1 => tE Γ W (ev cf b) c0.σ H1 fun v2 H2 => rCmp Γ o v1 v2 H2 fun z H3 => ∃ k, z = .bl k ∧ (if k = true then tE Γ W (ev cf c) c0.σ H3 fun w' H4 => rCmp Γ p v2 w' H4 (fun v H' => ∃ k, v = .bl k ∧ Q k H') else ∃ k, V.bl false = .bl k ∧ Q k H3)) (K := fun B b c' => Q b c'.H) hR q fun c1 x v1 e1 R1 t1 p1 h => sig (t := tE Γ W (ev cf b)) e1 (one (K := fun B b c' => Q b c'.H) R1 h fun c2 y v2 e2 R2 t2 p2 h => ?_)
      obtain ⟨kk, hk, h⟩ := Run.opt h
      obtain ⟨f1, f2⟩ := run_if h
      refine fit_cmp (Q := fun z H3 => ∃ k, z = .bl k ∧ (if k = true then tE Γ W (ev cf c) c0.σ H3 fun w' H4 => rCmp Γ p v2 w' H4 (fun v H' => ∃ k, v = .bl k ∧ Q k H') else ∃ k, V.bl false = .bl k ∧ Q k H3)) R2 (T_of (rep_tr t2 _ _ p1.1)) (T_of p2.1) hk fun c3 g1 g2 g3 R3 t3 => ⟨kk, rfl, ite_of (fun hk => ?_) fun hk => ?_⟩
      · have h' := Run.from (f1 hk) g3 t3
        have ew : c2.w = c3.w := by unfold Cf.w; rw [g1, g2]
        rw [ew] at h'
        refine sig (t := tE Γ W (ev cf c)) (g3.trans (e2.trans e1)) (one (K := fun B b c' => Q b c'.H) R3 h' fun c4 z v3 e4 R4 t4 p4 h => ?_)
        obtain ⟨kk, hk, F⟩ := opt_fin R4 h
        exact fit_cmp R4 (T_of (rep_tr (t3.trans t4) _ _ p2.1)) (T_of p4.1) hk F
      · have h' := Run.from (f2 hk) g3 t3
        have ew : c2.w = c3.w := by unfold Cf.w; rw [g1, g2]
        rw [ew] at h'
        exact ⟨false, rfl, h'.okI R3⟩
    · cases h
theorem snd_C : ∀ (t : OT) {xs : List Expr} {X : Cx} {W : WX}, Ct Γ g k X W → chkC nm X.N X.env.scope t xs = true → PTs X xs (tT Γ W (evC cf t))
  | .no, xs, X, W, hX, h => by
    unfold chkC at h
    rw [isNil_eq h]
    refine ⟨fun pins s σ H Q I q => pts_nil.run pins s σ H Q I ?_⟩
    obtain ⟨B, c, rfl, rfl, hR, q⟩ := q
    exact q.okI hR
  | .yes t, xs, X, W, hX, h => by
    unfold chkC at h
    split at h
    · rename_i x hx
      rw [as1_eq hx]
      exact pts_one (snd_T t hX h)
    · cases h
theorem snd_I : ∀ (it : It) {tg x : Expr} {X : Cx} {W : WX}, Ct Γ g k X W → chkI nm X.N X.env.scope it tg x = true → PI X tg x (tI Γ W (evI cf it))
  | .seq e, tg, x, X, W, hX, h => by
    unfold chkI at h
    rw [Bool.and_eq_true] at h
    have e1 := pi_list (tg := tg) (snd_E e hX h.1)
    have e2 := pi_tup (tg := tg) (snd_E e hX h.1)
    rw [hX.at_.k] at e1 e2
    exact pi_imp (pi_or e1 e2) fun σ H R q => seq_end q
  | .r1 e, tg, x, X, W, hX, h => by
    unfold chkI at h
    split at h
    · rename_i y hx
      obtain ⟨ff, p, rfl, hb, hs⟩ := asB1_eq hx
      obtain ⟨q1, rfl, l1⟩ := bi_name hb
      have m1 : X.mg (Str.ofString "range") = none := by rw [hX.at_.m]; exact hO.bn "range" (by decide)
      refine pi_imp (pi_range1 (gl_of l1) m1 (pa_cons (snd_E e hX h) pa_nil (star_cons hs)) (by rw [star_cons hs]; rfl)) fun σ H R q => ?_
      obtain ⟨B, c, rfl, rfl, hR, q⟩ := q
      refine one (P := fun v H1 => ∃ j : Int, [v] = [.int j] ∧ -(2 ^ 62) ≤ j ∧ j < 2 ^ 62 ∧ R (Itr 0 j.toNat) H1) (K := fun B ds c' => ∀ J, Srcs Γ J ds B c' → R J c'.H) hR q fun c1 x v e1 R1 t1 p1 h => ?_
      obtain ⟨i, hi, h⟩ := Run.opt h
      obtain ⟨hk, h⟩ := run_dec h
      refine ⟨i, by rw [int_rep hi p1.1], by omega, by omega, h.okI R1 _ ?_⟩
      have := src_rng (Γ := Γ) (B := B) (c := c1) 0 i
      rw [Int.sub_zero] at this
      exact this
    · cases h
  | .r2 a b, tg, x, X, W, hX, h => by
    unfold chkI at h
    split at h
    · rename_i y z hx
      obtain ⟨ff, p, rfl, hb, hs1, hs2⟩ := asB2_eq hx
      obtain ⟨q1, rfl, l1⟩ := bi_name hb
      rw [Bool.and_eq_true] at h
      have m1 : X.mg (Str.ofString "range") = none := by rw [hX.at_.m]; exact hO.bn "range" (by decide)
      refine pi_imp (pi_range2 (gl_of l1) m1 (pa_cons (snd_E a hX h.1) (pa_cons (snd_E b hX h.2) pa_nil (star_cons hs2)) (star_cons hs1)) (by rw [star_cons hs1, star_cons hs2]; rfl) (by rw [star_cons hs2]; rfl)) fun σ H R q => ?_
      obtain ⟨B, c, rfl, rfl, hR, q⟩ := q
      refine one (P := fun v1 H1 => tE Γ W (ev cf b) c.σ H1 fun v2 H2 => ∃ i j : Int, [v1, v2] = [.int i, .int j] ∧ (-(2 ^ 62) ≤ i ∧ i < 2 ^ 62 ∧ -(2 ^ 62) ≤ j ∧ j < 2 ^ 62) ∧ R (Itr i (j - i).toNat) H2) (K := fun B ds c' => ∀ J, Srcs Γ J ds B c' → R J c'.H) hR q fun c1 x v e1 R1 t1 p1 h =>
        sig (t := tE Γ W (ev cf b)) e1 (one (K := fun B ds c' => ∀ J, Srcs Γ J ds B c' → R J c'.H) R1 h fun c2 y u e2 R2 t2 p2 h => ?_)
      obtain ⟨i, hi, h⟩ := Run.opt h
      obtain ⟨j, hj, h⟩ := Run.opt h
      obtain ⟨hk, h⟩ := run_dec h
      exact ⟨i, j, by rw [int_rep hi p1.1, int_rep hj p2.1], ⟨by omega, by omega, by omega, by omega⟩, h.okI R2 _ (src_rng i j)⟩
    · cases h
  | .enm e, tg, x, X, W, hX, h => by
    unfold chkI at h
    split at h
    · rename_i y hx
      obtain ⟨ff, p, rfl, hb, hs⟩ := asB1_eq hx
      obtain ⟨q1, rfl, l1⟩ := bi_name hb
      rw [Bool.and_eq_true] at h
      obtain ⟨es, kk, tp, rfl⟩ := isTupE_eq h.1
      have m1 : X.mg (Str.ofString "enumerate") = none := by rw [hX.at_.m]; exact hO.bn "enumerate" (by decide)
      have hh := pi_enum (tpos := tp) (elts := es) (kk := kk) (p := q1) (pos := p) (gl_of l1) m1 (pa_cons (snd_E e hX h.2) pa_nil (star_cons hs)) (by rw [star_cons hs]; rfl)
      rw [hX.at_.k] at hh
      refine pi_imp hh fun σ H R q => ?_
      obtain ⟨B, c, rfl, rfl, hR, q⟩ := q
      refine one (P := fun v H1 => ∃ a xs, [v] = [.ref a] ∧ SqL Γ.K H1 a xs ∧ R (Ite Γ.K a) H1) (K := fun B ds c' => ∀ J, Srcs Γ J ds B c' → R J c'.H) hR q fun c1 x v e1 R1 t1 p1 h => ?_
      obtain ⟨dx, fx⟩ := x
      cases dx <;> try exact h.elim
      obtain ⟨a, xs, rfl, h1, h2⟩ := src_enm p1.1
      exact ⟨a, xs, rfl, h1, h.okI R1 _ h2⟩
    · cases h
  | .zip a b, tg, x, X, W, hX, h => by
    unfold chkI at h
    split at h
    · rename_i y z hx
      obtain ⟨ff, p, rfl, hb, hs1, hs2⟩ := asB2_eq hx
      obtain ⟨q1, rfl, l1⟩ := bi_name hb
      simp only [Bool.and_eq_true] at h
      obtain ⟨es, kk, tp, rfl⟩ := isTupE_eq h.1.1
      have m1 : X.mg (Str.ofString "zip") = none := by rw [hX.at_.m]; exact hO.bn "zip" (by decide)
      have hh := RZ.pi_zipA (tpos := tp) (elts := es) (kk := kk) (p := q1) (pos := p) (gl_of l1) m1 (pa_cons (snd_E a hX h.1.2) (pa_cons (snd_E b hX h.2) pa_nil (star_cons hs2)) (star_cons hs1)) (star_cons hs1) (by rw [star_cons hs2]; rfl)
      rw [hX.at_.k] at hh
      exact pi_imp hh fun σ H R q => zip_end q
    · cases h
end
end
end IL

set_option Elab.async false
set_option linter.all false
set_option maxRecDepth 100000
set_option maxHeartbeats 4000000
/-! IL: statements. -/
namespace IL
open PySem L2
/-! ### the forms -/
def swC (sc : Scope) (x : Str) (p : Pos) : Expr → Bool
  | .ListComp _ _ s q => isPl sc x && (p.line == q.line) && !(s.names.any fun (n, k) => n == x && (k == .local || k == .cell))
  | _ => false
def noSD : Expr → Bool
  | .SetComp _ _ _ _ => false
  | .DictComp _ _ _ _ _ => false
  | _ => true
def asSet : Stmt → Option (Str × Pos × Expr × Pos)
  | .Assign [.Name x p] v q => some (x, p, v, q)
  | _ => none
def asAsg : Stmt → Option (Expr × Expr × Pos)
  | .Assign [t] v q => some (t, v, q)
  | _ => none
def isTup : Expr → Bool
  | .Tuple _ _ _ => true
  | _ => false
def asPar2 : Stmt → Option (Str × Pos × Str × Pos × Expr × Expr)
  | .Assign [.Tuple [.Name x px, .Name y py] _ _] (.Tuple [u, v] _ _) _ => some (x, px, y, py, u, v)
  | _ => none
def asPar3 : Stmt → Option (Str × Pos × Str × Pos × Str × Pos × Expr × Expr × Expr)
  | .Assign [.Tuple [.Name x px, .Name y py, .Name z pz] _ _] (.Tuple [u, v, w] _ _) _ => some (x, px, y, py, z, pz, u, v, w)
  | _ => none
def asExp : Stmt → Option Expr
  | .Expr v _ => some v
  | _ => none
def asSetI : Stmt → Option (Expr × Expr × Expr)
  | .Assign [.Subscript o z _] v _ => some (o, z, v)
  | _ => none
def asAug : Stmt → Option (Str × Expr)
  | .AugAssign (.Name x _) .Add v _ => some (x, v)
  | _ => none
def asRet : Stmt → Option (Option Expr)
  | .Return v _ => some v
  | _ => none
def asIfS : Stmt → Option (Expr × List Stmt × List Stmt)
  | .If t a b _ => some (t, a, b)
  | _ => none
def asFor : Stmt → Option (Expr × Expr × List Stmt)
  | .For t i b [] _ => some (t, i, b)
  | _ => none
def asWh : Stmt → Option (Expr × List Stmt)
  | .While t b [] _ => some (t, b)
  | _ => none
/-- raise X(e) -/
def asRaise : Stmt → Option (Str × Expr)
  | .Raise (some (.Call (.Name x _) [v] [] _)) none _ => some (x, v)
  | _ => none
def asTry : Stmt → Option (List Stmt × List ExceptHandler)
  | .Try b hs [] [] _ => some (b, hs)
  | _ => none
def asEh : ExceptHandler → Option (Str × Option Str × Stmt)
  | .ExceptHandler (some (.Name x _)) n [b] _ => some (x, n, b)
  | _ => none
/-- the one attribute of the clause's exception -/
def chkFld (N : List Str) (sc : Scope) (fld : Str) (at_ : Option Nat) (v : Expr) : Bool := match at_, asAttr v with
  | some i, some (o, f) => isName N sc i o && decide (f = fld)
  | _, _ => false
def conE : D → Option E
  | .non => some .non
  | .bl b => some (.bl b)
  | .int i => some (.int i)
  | .str s => some (.str s)
  | _ => none
def chkSE (nm : Nm) (N : List Str) (sc : Scope) (fld : Str) (at_ : Option Nat) : SE → Expr → Bool
  | .con d, v => match conE d with | some e => chkE nm N sc e v | none => false
  | .var i, v => isName N sc i v
  | .fld, v => chkFld N sc fld at_ v
  | .lstF s, v => match asList v with | some [a, b] => (match asConst a with | some (.str t) => decide (s = t) | _ => false) && chkFld N sc fld at_ b && noStar b | _ => false
  | .catF _, _ => false
def chkSu (nm : Nm) (N : List Str) (sc : Scope) (fld : Str) (at_ : Option Nat) : Su → Stmt → Bool
  | .ret e, st => match asRet st with | some (some v) => chkSE nm N sc fld at_ e v | _ => false
  | .app i e, st => match asExp st with | some v => (match asM1 "append" v with | some (o, y) => isName N sc i o && chkSE nm N sc fld at_ e y && oneLine v | none => false) | none => false
/-- the number of a class of exceptions, its attribute -/
def xsAt (nm : Nm) (c : Nat) : Option (Str × Str) := if 8 ≤ c then nm.xs[c - 8]? else none
def chkH (nm : Nm) (N : List Str) (sc : Scope) (h : Hd) (eh : ExceptHandler) : Bool := match asEh eh, h.cs with
  | some (x, n, b), [c] => (match xsAt nm c with | some (y, fld) => decide (x = y) && isGl sc x && okName x && chkSu nm N sc fld h.at_ h.su b | none => false) &&
      (match h.at_, n with | none, none => true | some i, some y => decide (N[i]? = some y) && isPl sc y | _, _ => false)
  | _, _ => false
def chkHs (nm : Nm) (N : List Str) (sc : Scope) : List Hd → List ExceptHandler → Bool
  | [], [] => true
  | h :: hs, e :: es => chkH nm N sc h e && chkHs nm N sc hs es
  | _, _ => false
def chkT1 : List Hd → Bool
  | [_] => true
  | [] => false
  | hs => hs.all fun h => h.at_.isNone
/-- how a, b = x, y is stored: some true: from the right, no tuple seen; some false: by the tuple -/
def parMode (ls : Bool) (vs : List Expr) : Option Bool := if ls then (if vs.all (foldedForSure 8) then some false else if vs.all (constantsAlone 8) then none else some true) else some false
def nmAt (N : List Str) (sc : Scope) (i : Nat) (x : Str) : Bool := decide (N[i]? = some x) && isLoc sc x
mutual
def chkS (nm : Nm) (N : List Str) (sc : Scope) : S → Stmt → Bool
  | .set i e, st => match asSet st with
    | some (x, p, v, _) => nmAt N sc i x && chkE nm N sc e v && noSD v && (if swC sc x p v then (match e with | .comp _ _ _ _ _ => true | _ => false) else true)
    | none => false
  | .setT g e, st => match asAsg st with | some (t, v, _) => isTup t && !isTup v && chkTg N sc g t && chkE nm N sc e v && noComp v | none => false
  | .par2 i j a b, st => match asPar2 st with
    | some (x, px, y, py, u, v) => nmAt N sc i x && nmAt N sc j y && decide (i ≠ j) && chkE nm N sc a u && chkE nm N sc b v && noStar u && noStar v && (parMode (isPl sc x && isPl sc y && (py.line == px.line)) [u, v]).isSome
    | none => false
  | .par3 i j k a b c, st => match asPar3 st with
    | some (x, px, y, py, z, pz, u, v, w) => nmAt N sc i x && nmAt N sc j y && nmAt N sc k z && decide (i ≠ j) && decide (i ≠ k) && decide (j ≠ k) && chkE nm N sc a u && chkE nm N sc b v && chkE nm N sc c w && noStar u && noStar v && noStar w &&
        (parMode (isPl sc x && isPl sc y && isPl sc z && (py.line == px.line) && (pz.line == px.line)) [u, v, w]).isSome
    | none => false
  | .exp e, st => match asExp st with | some v => chkE nm N sc e v && noComp v | none => false
  | .app i e, st => match asExp st with | some v => (match asM1 "append" v with | some (o, y) => isName N sc i o && chkE nm N sc e y && oneLine v | none => false) | none => false
  | .seti i ix e, st => match asSetI st with | some (o, z, v) => isName N sc i o && chkE nm N sc ix z && chkE nm N sc e v && noSlice z && noSD v | none => false
  | .aug i e, st => match asAug st with | some (x, v) => nmAt N sc i x && chkE nm N sc e v | none => false
  | .ret e, st => match asRet st with | some (some v) => chkE nm N sc e v | _ => false
  | .retN, st => match asRet st with | some none => true | _ => false
  | .ite c a b, st => match asIfS st with | some (t, x, y) => chkT nm N sc c t && chkSs nm N sc a x && chkSs nm N sc b y | none => false
  | .for_ g it b, st => match asFor st with | some (t, i, x) => chkTg N sc g t && chkI nm N sc it t i && chkSs nm N sc b x && noSet i | none => false
  | .wh c b, st => match asWh st with | some (t, x) => chkT nm N sc c t && chkSs nm N sc b x | none => false
  | .never, _ => true
  | .raise c e, st => match asRaise st with | some (x, v) => (match xsAt nm c with | some (y, _) => decide (x = y) | none => false) && chkE nm N sc e v && noStar v && isGl sc x && okName x | none => false
  | .raise0 _, _ => false
  | .try_ b hs, st => match asTry st with | some (x, es) => chkSs nm N sc b x && chkHs nm N sc hs es && chkT1 hs | none => false
  | .done _ _, _ => false
def chkSs (nm : Nm) (N : List Str) (sc : Scope) : Ss → List Stmt → Bool
  | .nil, xs => match xs with | [] => true | _ => false
  | .cons s ss, xs => match xs with | x :: xs => chkS nm N sc s x && chkSs nm N sc ss xs | [] => false
end
theorem asSet_eq {st : Stmt} {x : Str} {p q : Pos} {v : Expr} (h : asSet st = some (x, p, v, q)) : st = .Assign [.Name x p] v q := by
  unfold asSet at h; split at h <;> cases h; rfl
theorem asAsg_eq {st : Stmt} {t v : Expr} {q : Pos} (h : asAsg st = some (t, v, q)) : st = .Assign [t] v q := by
  unfold asAsg at h; split at h <;> cases h; rfl
theorem asPar2_eq {st : Stmt} {x y : Str} {px py : Pos} {u v : Expr} (h : asPar2 st = some (x, px, y, py, u, v)) : ∃ k1 p1 k2 p2 q, st = .Assign [.Tuple [.Name x px, .Name y py] k1 p1] (.Tuple [u, v] k2 p2) q := by
  unfold asPar2 at h; split at h <;> cases h; exact ⟨_, _, _, _, _, rfl⟩
theorem asPar3_eq {st : Stmt} {x y z : Str} {px py pz : Pos} {u v w : Expr} (h : asPar3 st = some (x, px, y, py, z, pz, u, v, w)) : ∃ k1 p1 k2 p2 q, st = .Assign [.Tuple [.Name x px, .Name y py, .Name z pz] k1 p1] (.Tuple [u, v, w] k2 p2) q := by
  unfold asPar3 at h; split at h <;> cases h; exact ⟨_, _, _, _, _, rfl⟩
theorem asExp_eq {st : Stmt} {v : Expr} (h : asExp st = some v) : ∃ q, st = .Expr v q := by
  unfold asExp at h; split at h <;> cases h; exact ⟨_, rfl⟩
theorem asSetI_eq {st : Stmt} {o z v : Expr} (h : asSetI st = some (o, z, v)) : ∃ p q, st = .Assign [.Subscript o z p] v q := by
  unfold asSetI at h; split at h <;> cases h; exact ⟨_, _, rfl⟩
theorem asAug_eq {st : Stmt} {x : Str} {v : Expr} (h : asAug st = some (x, v)) : ∃ p q, st = .AugAssign (.Name x p) .Add v q := by
  unfold asAug at h; split at h <;> cases h; exact ⟨_, _, rfl⟩
theorem asRet_eq {st : Stmt} {v : Option Expr} (h : asRet st = some v) : ∃ q, st = .Return v q := by
  unfold asRet at h; split at h <;> cases h; exact ⟨_, rfl⟩
theorem asIfS_eq {st : Stmt} {t : Expr} {a b : List Stmt} (h : asIfS st = some (t, a, b)) : ∃ q, st = .If t a b q := by
  unfold asIfS at h; split at h <;> cases h; exact ⟨_, rfl⟩
theorem asFor_eq {st : Stmt} {t i : Expr} {b : List Stmt} (h : asFor st = some (t, i, b)) : ∃ q, st = .For t i b [] q := by
  unfold asFor at h; split at h <;> cases h; exact ⟨_, rfl⟩
theorem asWh_eq {st : Stmt} {t : Expr} {b : List Stmt} (h : asWh st = some (t, b)) : ∃ q, st = .While t b [] q := by
  unfold asWh at h; split at h <;> cases h; exact ⟨_, rfl⟩
theorem asRaise_eq {st : Stmt} {x : Str} {v : Expr} (h : asRaise st = some (x, v)) : ∃ p q r, st = .Raise (some (.Call (.Name x p) [v] [] q)) none r := by
  unfold asRaise at h; split at h <;> cases h; exact ⟨_, _, _, rfl⟩
theorem asTry_eq {st : Stmt} {b : List Stmt} {hs : List ExceptHandler} (h : asTry st = some (b, hs)) : ∃ p, st = .Try b hs [] [] p := by
  unfold asTry at h; split at h <;> cases h; exact ⟨_, rfl⟩
theorem asEh_eq {e : ExceptHandler} {x : Str} {n : Option Str} {b : Stmt} (h : asEh e = some (x, n, b)) : ∃ p q, e = .ExceptHandler (some (.Name x p)) n [b] q := by
  unfold asEh at h; split at h <;> cases h; exact ⟨_, _, rfl⟩
/-! ### readings -/
section
variable {Γ : Gm} {g : Pg} {nm : Nm} {k : Nat} {cf : Nat → List D → List Ob → CR} {X : Cx} {W : WX} {B B' : Bs} {c c1 : Cf} {σ : L2.St} {H : Hp} {Q : VK} {x : Expr} {d : D} {v : V} {fr : Bool} {E : Ends}
def RunS (Γ : Gm) (B : Bs) (c : Cf) (W : WX) (r : R IL.Flow) (K : IL.Flow → Cf → Prop) : Prop := match r with
  | .ok a w => ∀ c' : Cf, c'.e = w.e → c'.s = w.s → Rel Γ B c' → TrC B c B c' → K a c'
  | .exn x o w => ∀ (c' : Cf) cls dd, c'.e = w.e → c'.s = w.s → Rel Γ B c' → TrC B c B c' → Γ.xr x o (Cl B c') c'.M c'.H cls dd → W cls dd c'.σ c'.H
  | .bad => False
def KS (Γ : Gm) (B : Bs) (E : Ends) : IL.Flow → Cf → Prop := fun fl c => match fl with
  | .nx => E.nx c.σ c.H
  | .rt d fr => ∀ v, Post Γ B c d fr v → E.rt v c.H
def tS (Γ : Gm) (W : WX) (r : Wd → R IL.Flow) : TS := fun E σ H => ∃ B c, c.σ = σ ∧ c.H = H ∧ Rel Γ B c ∧ RunS Γ B c W (r c.w) (KS Γ B E)
theorem RunS.from {r : R IL.Flow} {K : IL.Flow → Cf → Prop} (h : RunS Γ B c W r K) (t : TrC B c B c1) : RunS Γ B c1 W r K := by
  cases r with
  | ok a w => exact fun c' e1 e2 R t' => h c' e1 e2 R (t.trans t')
  | exn x o w => exact fun c' cls dd e1 e2 R t' q => h c' cls dd e1 e2 R (t.trans t') q
  | bad => exact h
theorem RunS.imp {r : R IL.Flow} {K K' : IL.Flow → Cf → Prop} (h : RunS Γ B c W r K) (hk : ∀ a c', Rel Γ B c' → TrC B c B c' → K a c' → K' a c') : RunS Γ B c W r K' := by
  cases r with
  | ok a w => exact fun c' e1 e2 R t => hk a c' R t (h c' e1 e2 R t)
  | exn x o w => exact h
  | bad => exact h
theorem RunS.bind {k : IL.Flow → Wd → R IL.Flow} {r : R IL.Flow} {K : IL.Flow → Cf → Prop} (h : RunS Γ B c W (r.bind k) K) : RunS Γ B c W r fun a c1 => RunS Γ B c1 W (k a c1.w) K := by
  cases r with
  | ok a w =>
    intro c1 e1 e2 R t
    rw [show c1.w = w from w_eq e1 e2]
    exact RunS.from h t
  | exn x o w => exact h
  | bad => exact h
theorem RunS.bindE {α : Type} {k : α → Wd → R IL.Flow} {r : R α} {K : IL.Flow → Cf → Prop} (h : RunS Γ B c W (r.bind k) K) : Run Γ B c W r fun a c1 => RunS Γ B c1 W (k a c1.w) K := by
  cases r with
  | ok a w =>
    intro c1 e1 e2 e3 R t
    rw [show c1.w = w from w_eq e1 e2]
    exact RunS.from h t
  | exn x o w => exact fun c' cls dd e1 e2 e3 R t q => h c' cls dd e1 e2 R t q
  | bad => exact h
theorem RunS.opt {α : Type} {o : Option α} {k : α → Wd → R IL.Flow} {K : IL.Flow → Cf → Prop} (h : RunS Γ B c W ((R.opt o c.w).bind k) K) : ∃ a, o = some a ∧ RunS Γ B c W (k a c.w) K := by
  cases o with
  | none => exact h.elim
  | some a => exact ⟨a, rfl, h⟩
theorem RunS.dec {p : Prop} [Decidable p] {r : R IL.Flow} {K : IL.Flow → Cf → Prop} (h : RunS Γ B c W (if p then r else .bad) K) : p ∧ RunS Γ B c W r K := by
  by_cases hp : p
  · rw [if_pos hp] at h; exact ⟨hp, h⟩
  · rw [if_neg hp] at h; exact h.elim
/-- one operand, then the rest of a statement -/
theorem oneS {ra : Wd → R (D × Bool)} {K : IL.Flow → Cf → Prop} {f : D × Bool → Wd → R IL.Flow} (hR : Rel Γ B c) (h : RunS Γ B c W ((ra c.w).bind f) K) {P : V → Hp → Prop}
    (G : ∀ c' x v, c'.σ = c.σ → Rel Γ B c' → TrC B c B c' → Post Γ B c' x.1 x.2 v → RunS Γ B c' W (f x c'.w) K → P v c'.H) : tE Γ W ra c.σ c.H P :=
  ⟨B, c, rfl, rfl, hR, (RunS.bindE h).imp fun x c' e R t h1 v p => G c' x v e R t p h1⟩
/-! ### all that stands, as the base -/
open Classical in
noncomputable def snapH (c : Cf) : Hp := fun a => if c.isCell a then none else c.H a
noncomputable def Bs.snap (B : Bs) (c : Cf) : Bs := ⟨B.N, snapH c, c.M⟩
theorem snapH_some {a : Addr} {o : HO} (h : snapH c a = some o) : c.H a = some o ∧ ¬ c.isCell a := by
  unfold snapH at h
  split at h
  · cases h
  · rename_i z; exact ⟨h, z⟩
theorem snapH_of {a : Addr} {o : HO} (h : c.H a = some o) (n : ¬ c.isCell a) : snapH c a = some o := by
  unfold snapH; rw [if_neg n]; exact h
theorem snapH_none {a : Addr} (h : snapH c a = none) : c.isCell a ∨ c.H a = none := by
  unfold snapH at h
  split at h
  · rename_i z; exact .inl z
  · exact .inr h
theorem Rel.snap (hR : Rel Γ B c) : Rel Γ (B.snap c) c where
  len := hR.len
  new := hR.new
  frame := fun a o h _ => (snapH_some h).1
  mpre := fun _ _ h => h
  mnew := fun _ h => .inl h
  mnd := hR.mnd
  mlen := hR.mlen
  val := hR.val
  cell := fun i d h => by
    obtain ⟨p, h1, h2, h3, h4, h5⟩ := hR.cell i d h
    refine ⟨p, h1, ?_, h3, h4, h5⟩
    show snapH c p = none
    unfold snapH
    rw [if_pos ⟨i, d, h, h1⟩]
  apart := hR.apart
  sto := hR.sto
/-- back to the base from before -/
theorem Rel.unsnap {N : Addr → Prop} (hR : Rel Γ B c) (h : Rel Γ ⟨N, snapH c, c.M⟩ c1) : Rel Γ ⟨N, B.Hb, B.Mb⟩ c1 := by
  have hb : ∀ a, snapH c a = none → B.Hb a = none := fun a z => (snapH_none z).elim (fun z => (hR.cellH z).2.2.2) fun z => (hR.fresh z).1
  refine ⟨h.len, h.new, fun a o z hm => ?_, fun n a z => ?_, fun a z => ?_, h.mnd, h.mlen, h.val, fun i d z => ?_, h.apart, h.sto⟩
  · have z' : B.Hb a = some o := z
    have h1 := hR.frame a o z' hm
    have nc : ¬ c.isCell a := fun y => by rw [(hR.cellH y).2.2.2] at z'; cases z'
    refine h.frame a o (snapH_of h1 nc) fun y => ?_
    rcases hR.mnew a y with y | y
    · exact hm y
    · rw [y] at z'; cases z'
  · exact h.mpre n a (hR.mpre n a z)
  · rcases h.mnew a z with y | y
    · exact hR.mnew a y
    · exact .inr (hb a y)
  · obtain ⟨p, h1, h2, h3, h4, h5⟩ := h.cell i d z
    exact ⟨p, h1, hb p h2, h3, h4, h5⟩
theorem conv_snap (hR : Rel Γ B c) : Conv Γ (B.snap c) B := ⟨fun _ h => hR.unsnap h, fun _ _ _ _ t => t, fun _ n => n⟩
def sl (d : D) (fr : Bool) : Sl := if fr && isFr d then .cell d else .val d
theorem putF_eq {w : Wd} {i : Nat} : (w.putF i d fr) = { w with e := w.e.set i (sl d fr) } := rfl
/-- a value is stored; p is where a new one stands -/
theorem set_post {i : Nat} (hR : Rel Γ B c) (R1 : Rel Γ (B.snap c) c1) (t1 : TrC (B.snap c) c (B.snap c) c1) (P : Post Γ (B.snap c) c1 d fr v) :
    Rel Γ B (c1.put i (sl d fr) (some v)) ∧ TrC B c B (c1.put i (sl d fr) (some v)) := by
  by_cases hf : (fr && isFr d) = true
  · have es : sl d fr = .cell d := by unfold sl; rw [if_pos hf]
    rw [es]
    rw [Bool.and_eq_true] at hf
    obtain ⟨p, rfl, h1, h2, h3, h4, h5⟩ := P.2 hf.1
    have h4' : Rel Γ (B.ne p) c1 := hR.unsnap h4
    have nc : ¬ c1.isCell p := fun z => (h4'.cellH z).2.1.2 rfl
    refine ⟨h4'.putCell nc (hb := ((snapH_none h1).elim (fun z => (hR.cellH z).2.2.2) fun z => (hR.fresh z).1)) h2 h3 h5, ⟨fun a o h n => ?_, fun a o h n => ?_, t1.pre⟩⟩
    · exact t1.keep a o h n
    · have ne : a ≠ p := fun e => by
        subst e
        have h1' : snapH c a = none := h1
        rw [snapH_of h n.2.2] at h1'; cases h1'
      obtain ⟨k1, k2, k3⟩ := t1.cl a o h n
      exact ⟨k1, k2, fun z => (put_cell z).elim (fun ⟨d, _, e⟩ => ne (by cases e; rfl)) k3⟩
  · have es : sl d fr = .val d := by unfold sl; rw [if_neg hf]
    rw [es]
    have hs : ∀ d', Sl.val d ≠ .cell d' := fun _ z => nomatch z
    have R1' : Rel Γ B c1 := hR.unsnap R1
    have t : TrC B c1 B (c1.put i (.val d) (some v)) := putVal_tr hs
    refine ⟨R1'.putVal hs fun d' z => ?_, Tr.trans (N' := Cl B c1) t1 t⟩
    cases z
    exact ⟨v, rfl, rep_tr t _ _ P.1⟩
end
end IL

set_option Elab.async false
set_option linter.all false
set_option maxRecDepth 100000
set_option maxHeartbeats 4000000
namespace IL
open PySem L2
section
variable {env : Env}
theorem bk_fun (h : env.scope.kind = .function) : env.blockKind = .function := by unfold Env.blockKind; rw [h]; rfl
theorem pl_kind {x : Str} (h : isPl env.scope x = true) : (env.kindOf x == some .local) = true := by
  unfold isPl at h
  split at h
  · rename_i e
    show (env.scope.names.lookup x == some .local) = true
    rw [e]; rfl
  · cases h
theorem pl_not {x : Str} (h : isPl env.scope x = false) : (env.kindOf x == some .local) = false := by
  unfold isPl at h
  split at h
  · cases h
  · rename_i e
    show (env.scope.names.lookup x == some .local) = false
    cases q : env.scope.names.lookup x with
    | none => rfl
    | some k => cases k <;> first | rfl | exact absurd q (by simpa using e)
theorem pl_look {x : Str} (h : isPl env.scope x = true) : env.scope.names.lookup x = some .local := by
  unfold isPl at h
  split at h
  · assumption
  · cases h
def starry : Expr → Bool := fun | .Starred .. => true | _ => false
theorem star_no {u : Expr} (h : noStar u = true) : starry u = false := by cases u <;> first | rfl | cases h
theorem bndi {α : Type} {b : Bool} {x y : Sem α} (h : b = false) : (if b = true then x else y) = y := by rw [h]; rfl
theorem kind_of {x : Str} (h : isPl env.scope x = true) : env.kindOf x = some .local := pl_look h
theorem kind_not {x : Str} (h : isPl env.scope x = false) : env.kindOf x ≠ some .local := fun e => by
  have e' : env.scope.names.lookup x = some .local := e
  unfold isPl at h
  rw [e'] at h; cases h
theorem sw2_some {x y : Str} {px py p1 p2 : Pos} {k1 k2 : Nat} {u v : Expr} (hk : env.scope.kind = .function) (hx : isPl env.scope x = true) (hy : isPl env.scope y = true) (hl : (py.line == px.line) = true) (hn : x ≠ y) (hu : noStar u = true) (hv : noStar v = true)
    (hf : [u, v].all (foldedForSure 8) = false) (hc : [u, v].all (constantsAlone 8) = false) : swappedStores [.Tuple [.Name x px, .Name y py] k1 p1] (.Tuple [u, v] k2 p2) env = pure (some [x, y]) := by
  have e1 := kind_of hx
  have e2 := kind_of hy
  have hl := eq_of_beq hl
  have bk := bk_fun hk
  unfold swappedStores
  simp [bk, hf, hc]
  rw [if_neg (by
    intro h
    rcases h with h | h
    · cases u <;> first | (simp [noStar] at hu; done) | cases h
    · cases v <;> first | (simp [noStar] at hv; done) | cases h)]
  simp [List.filterMap, e1, e2, hl, Expr.pos, List.eraseDups_cons, Ne.symm hn]
theorem sw2_none {x y : Str} {px py p1 p2 : Pos} {k1 k2 : Nat} {u v : Expr} (hk : env.scope.kind = .function) (h : (isPl env.scope x && isPl env.scope y && (py.line == px.line)) = true → [u, v].all (foldedForSure 8) = true) :
    swappedStores [.Tuple [.Name x px, .Name y py] k1 p1] (.Tuple [u, v] k2 p2) env = pure none := by
  have bk := bk_fun hk
  unfold swappedStores
  simp [bk]
  · by_cases hx : isPl env.scope x = true
    · by_cases hy : isPl env.scope y = true
      · by_cases hl : (py.line == px.line) = true
        · have hf := h (by rw [hx, hy, hl]; rfl)
          simp at hf
          simp [hf]
        · have hl' : ¬ py.line = px.line := fun e => hl (by rw [e]; exact beq_self_eq_true _)
          simp [List.filterMap, kind_of hx, hl', Expr.pos]
      · have := kind_not (by simpa using hy)
        by_cases e1 : env.kindOf x = some .local <;> simp [List.filterMap, this, e1, Expr.pos]
    · have := kind_not (by simpa using hx)
      by_cases e1 : env.kindOf y = some .local ∧ py.line = px.line <;> simp [List.filterMap, this, e1, Expr.pos]
theorem sw3_some {x y z : Str} {px py pz p1 p2 : Pos} {k1 k2 : Nat} {u v w : Expr} (hk : env.scope.kind = .function) (hx : isPl env.scope x = true) (hy : isPl env.scope y = true) (hz : isPl env.scope z = true) (hl : (py.line == px.line) = true) (hl2 : (pz.line == px.line) = true) (hn : x ≠ y) (hn2 : x ≠ z) (hn3 : y ≠ z)
    (hu : noStar u = true) (hv : noStar v = true) (hw : noStar w = true)
    (hf : [u, v, w].all (foldedForSure 8) = false) (hc : [u, v, w].all (constantsAlone 8) = false) : swappedStores [.Tuple [.Name x px, .Name y py, .Name z pz] k1 p1] (.Tuple [u, v, w] k2 p2) env = pure (some [x, y, z]) := by
  have e1 := kind_of hx
  have e2 := kind_of hy
  have e3 := kind_of hz
  have hl := eq_of_beq hl
  have hl2 := eq_of_beq hl2
  have bk := bk_fun hk
  unfold swappedStores
  simp [bk, hf, hc]
  rw [if_neg (by
    intro h
    rcases h with h | h | h
    · cases u <;> first | (simp [noStar] at hu; done) | cases h
    · cases v <;> first | (simp [noStar] at hv; done) | cases h
    · cases w <;> first | (simp [noStar] at hw; done) | cases h)]
  simp [List.filterMap, e1, e2, e3, hl, hl2, Expr.pos, List.eraseDups_cons, Ne.symm hn, Ne.symm hn2, Ne.symm hn3]
theorem sw3_none {x y z : Str} {px py pz p1 p2 : Pos} {k1 k2 : Nat} {u v w : Expr} (hk : env.scope.kind = .function) (h : (isPl env.scope x && isPl env.scope y && isPl env.scope z && (py.line == px.line) && (pz.line == px.line)) = true → [u, v, w].all (foldedForSure 8) = true) :
    swappedStores [.Tuple [.Name x px, .Name y py, .Name z pz] k1 p1] (.Tuple [u, v, w] k2 p2) env = pure none := by
  have bk := bk_fun hk
  unfold swappedStores
  simp [bk]
  · by_cases hx : isPl env.scope x = true
    · by_cases hy : isPl env.scope y = true
      · by_cases hz : isPl env.scope z = true
        · by_cases hl : (py.line == px.line) = true
          · by_cases hl2 : (pz.line == px.line) = true
            · have hf := h (by rw [hx, hy, hz, hl, hl2]; rfl)
              simp at hf
              simp [hf]
            · have hl' : ¬ pz.line = px.line := fun e => hl2 (by rw [e]; exact beq_self_eq_true _)
              by_cases e1 : env.kindOf y = some .local ∧ py.line = px.line <;> simp [List.filterMap, kind_of hx, hl', e1, Expr.pos]
          · have hl' : ¬ py.line = px.line := fun e => hl (by rw [e]; exact beq_self_eq_true _)
            by_cases e1 : env.kindOf z = some .local ∧ pz.line = px.line <;> simp [List.filterMap, kind_of hx, hl', e1, Expr.pos]
        · have := kind_not (by simpa using hz)
          by_cases e1 : env.kindOf x = some .local <;> by_cases e2 : env.kindOf y = some .local ∧ py.line = px.line <;> simp [List.filterMap, this, e1, e2, Expr.pos]
      · have := kind_not (by simpa using hy)
        by_cases e1 : env.kindOf x = some .local <;> by_cases e2 : env.kindOf z = some .local ∧ pz.line = px.line <;> simp [List.filterMap, this, e1, e2, Expr.pos]
    · have := kind_not (by simpa using hx)
      by_cases e1 : env.kindOf y = some .local ∧ py.line = px.line <;> by_cases e2 : env.kindOf z = some .local ∧ pz.line = px.line <;> simp [List.filterMap, this, e1, e2, Expr.pos]
end
end IL

set_option Elab.async false
set_option linter.all false
set_option maxRecDepth 100000
set_option maxHeartbeats 4000000
/-! IL: several values held before they are stored. -/
namespace IL
open PySem L2
section
variable {Γ : Gm} {g : Pg} {nm : Nm} {k : Nat} {cf : Nat → List D → List Ob → CR} {X : Cx} {W : WX} {B B' : Bs} {c c0 c1 c2 : Cf} {σ : L2.St} {H : Hp} {Q : VK} {x : Expr} {d : D} {v : V} {fr : Bool} {E : Ends} {L : List Addr}
def Bs.nes (B : Bs) (L : List Addr) : Bs := { B with N := fun a => B.N a ∧ ∀ p ∈ L, a ≠ p }
theorem nes_nil : B.nes [] = B := by
  unfold Bs.nes
  cases B
  congr 1
  funext a
  simp
theorem nes_ne (p : Addr) : (B.nes L).ne p = B.nes (L ++ [p]) := by
  unfold Bs.nes Bs.ne
  congr 1
  funext a
  simp only [List.mem_append, List.mem_singleton]
  apply propext
  constructor
  · intro ⟨⟨h1, h2⟩, h3⟩
    exact ⟨h1, fun q hq => hq.elim (h2 q) fun e => e ▸ h3⟩
  · intro ⟨h1, h2⟩
    exact ⟨⟨h1, fun q hq => h2 q (.inl hq)⟩, h2 p (.inr rfl)⟩
theorem nes_cons (p : Addr) : (B.nes L).ne p = B.nes (p :: L) := by
  unfold Bs.nes Bs.ne
  congr 1
  funext a
  simp only [List.mem_cons]
  apply propext
  constructor
  · intro ⟨⟨h1, h2⟩, h3⟩
    exact ⟨h1, fun q hq => hq.elim (fun e => e ▸ h3) (h2 q)⟩
  · intro ⟨h1, h2⟩
    exact ⟨⟨h1, fun q hq => h2 q (.inr hq)⟩, h2 p (.inl rfl)⟩
abbrev Itm := Nat × D × Bool × V
/-- the values held, the new ones at L in their order -/
def Held (Γ : Gm) (B : Bs) (N : Addr → Prop) (M : List Addr) (H : Hp) : List Addr → List Itm → Prop
  | L, [] => L = []
  | L, (_, d, fr, v) :: r => (sl d fr = .val d ∧ rep Γ.K Γ.CB N M H d v ∧ Held Γ B N M H L r) ∨
      (sl d fr = .cell d ∧ ∃ p L', L = p :: L' ∧ v = .ref p ∧ B.Hb p = none ∧ B.N p ∧ p ∉ M ∧ cellAt Γ N M H d p ∧ p ∉ L' ∧ Held Γ B N M H L' r)
theorem Held.tr {N N' : Addr → Prop} {M M' : List Addr} {H H' : Hp} (t : Tr N M H N' M' H') : ∀ {L : List Addr} {r : List Itm}, (∀ p ∈ L, H' p = H p) → (∀ p ∈ L, p ∉ M → p ∉ M') → Held Γ B N M H L r → Held Γ B N' M' H' L r
  | L, [], _, _, h => h
  | L, (_, d, fr, v) :: r, e, em, h => by
    unfold Held at h ⊢
    rcases h with ⟨h1, h2, h3⟩ | ⟨h1, p, L', rfl, h2, h3, h4, h5, h6, h7, h8⟩
    · exact .inl ⟨h1, rep_tr t _ _ h2, h3.tr t e em⟩
    · exact .inr ⟨h1, p, L', rfl, h2, h3, h4, em p (by simp) h5, cell_tr t (e p (by simp)) h6, h7, h8.tr t (fun q hq => e q (by simp [hq])) fun q hq => em q (by simp [hq])⟩
theorem Held.snoc {N : Addr → Prop} {M : List Addr} {H : Hp} {i : Nat} {p : Addr} (hs : sl d fr = .cell d) (hv : v = .ref p) (h1 : B.Hb p = none) (h2 : B.N p) (h3 : p ∉ M) (h4 : cellAt Γ N M H d p) : ∀ {L : List Addr} {r : List Itm}, p ∉ L → Held Γ B N M H L r → Held Γ B N M H (L ++ [p]) (r ++ [(i, d, fr, v)])
  | L, [], hn, h => by
    unfold Held at h
    subst h
    exact .inr ⟨hs, p, [], rfl, hv, h1, h2, h3, h4, by simp, rfl⟩
  | L, (_, d', fr', v') :: r, hn, h => by
    unfold Held at h
    rcases h with ⟨k1, k2, k3⟩ | ⟨k1, q, L', rfl, k2, k3, k4, k5, k6, k7, k8⟩
    · exact .inl ⟨k1, k2, k3.snoc hs hv h1 h2 h3 h4 hn⟩
    · simp only [List.mem_cons, not_or] at hn
      exact .inr ⟨k1, q, L' ++ [p], rfl, k2, k3, k4, k5, k6, by simp only [List.mem_append, List.mem_singleton, not_or]; exact ⟨k7, fun z => hn.1 z.symm⟩, k8.snoc hs hv h1 h2 h3 h4 hn.2⟩
theorem Held.snocV {N : Addr → Prop} {M : List Addr} {H : Hp} {i : Nat} (hs : sl d fr = .val d) (hv : rep Γ.K Γ.CB N M H d v) : ∀ {L : List Addr} {r : List Itm}, Held Γ B N M H L r → Held Γ B N M H L (r ++ [(i, d, fr, v)])
  | L, [], h => .inl ⟨hs, hv, h⟩
  | L, (_, d', fr', v') :: r, h => by
    unfold Held at h
    rcases h with ⟨k1, k2, k3⟩ | ⟨k1, q, L', rfl, k2, k3, k4, k5, k6, k7, k8⟩
    · exact .inl ⟨k1, k2, k3.snocV hs hv⟩
    · exact .inr ⟨k1, q, L', rfl, k2, k3, k4, k5, k6, k7, k8.snocV hs hv⟩
theorem Held.stands {N : Addr → Prop} {M : List Addr} {H : Hp} : ∀ {L : List Addr} {r : List Itm}, Held Γ B N M H L r → ∀ p ∈ L, p ∉ M ∧ ∃ o, H p = some o ∧ fix o = false
  | L, [], h, p, hp => by unfold Held at h; subst h; simp at hp
  | L, (_, d', fr', v') :: r, h, p, hp => by
    unfold Held at h
    rcases h with ⟨k1, k2, k3⟩ | ⟨k1, q, L', rfl, k2, k3, k4, k5, k6, k7, k8⟩
    · exact k3.stands p hp
    · rcases List.mem_cons.mp hp with e | e
      · subst e; exact ⟨k5, cell_some k6⟩
      · exact k8.stands p e
/-- as things stand, with the values held -/
structure Many (Γ : Gm) (B : Bs) (c0 : Cf) (L : List Addr) (r : List Itm) (c : Cf) : Prop where
  rel : Rel Γ (B.nes L) c
  tr : TrC B c0 (B.nes L) c
  held : Held Γ B (Cl (B.nes L) c) c.M c.H L r
  nc : ∀ p ∈ L, ¬ c.isCell p
theorem Many.nil (hR : Rel Γ B c) : Many Γ B c [] [] c := ⟨by rw [nes_nil]; exact hR, by rw [nes_nil]; exact .refl, rfl, fun _ h => by simp at h⟩
/-- the next value, evaluated with all that stands as the base -/
theorem Many.more {r : List Itm} (i : Nat) (m : Many Γ B c0 L r c1) (R2 : Rel Γ ((B.nes L).snap c1) c2) (t2 : TrC ((B.nes L).snap c1) c1 ((B.nes L).snap c1) c2) (P : Post Γ ((B.nes L).snap c1) c2 d fr v) : ∃ L', Many Γ B c0 L' (r ++ [(i, d, fr, v)]) c2 := by
  have hst := m.held.stands
  have keepL : ∀ p ∈ L, c2.H p = c1.H p ∧ p ∉ c2.M := fun p hp => by
    obtain ⟨n1, o, h1, _⟩ := hst p hp
    have hs : snapH c1 p = some o := snapH_of h1 (m.nc p hp)
    refine ⟨(R2.frame p o hs n1).trans h1.symm, fun z => ?_⟩
    rcases R2.mnew p z with z | z
    · exact n1 z
    · rw [show ((B.nes L).snap c1).Hb p = snapH c1 p from rfl, hs] at z; cases z
  by_cases hf : (fr && isFr d) = true
  · have es : sl d fr = .cell d := by unfold sl; rw [if_pos hf]
    rw [Bool.and_eq_true] at hf
    obtain ⟨p, rfl, h1, h2, h3, h4, h5⟩ := P.2 hf.1
    have h1' : snapH c1 p = none := h1
    have h4' : Rel Γ ((B.nes L).ne p) c2 := m.rel.unsnap h4
    have hpL : p ∉ L := fun z => h2.2 p z rfl
    have t : TrC (B.nes L) c1 (B.nes (L ++ [p])) c2 := by
      rw [← nes_ne]
      refine ⟨t2.keep, fun a o h n => ?_, t2.pre⟩
      have ne : a ≠ p := fun e => by subst e; rw [snapH_of h n.2.2] at h1'; cases h1'
      obtain ⟨k1, k2, k3⟩ := t2.cl a o h n
      exact ⟨⟨k1, ne⟩, k2, k3⟩
    have tH : Tr (Cl (B.nes L) c1) c1.M c1.H (Cl (B.nes (L ++ [p])) c2) c2.M c2.H := t
    have hb : B.Hb p = none := (snapH_none h1').elim (fun z => (m.rel.cellH z).2.2.2) fun z => (m.rel.fresh z).1
    refine ⟨L ++ [p], by rw [← nes_ne]; exact h4', m.tr.trans t, Held.snoc es rfl hb h2.1 h3 ?_ hpL (m.held.tr tH (fun q hq => (keepL q hq).1) fun q hq _ => (keepL q hq).2), fun q hq z => ?_⟩
    · have e : Cl (B.nes (L ++ [p])) c2 = Cl (((B.nes L).snap c1).ne p) c2 := by rw [← nes_ne]; rfl
      rw [e]; exact h5
    · have := (h4'.cellH z).2.1
      rcases List.mem_append.mp hq with hq | hq
      · exact this.1.2 q hq rfl
      · exact this.2 (by simpa using hq)
  · have es : sl d fr = .val d := by unfold sl; rw [if_neg hf]
    have R2' : Rel Γ (B.nes L) c2 := m.rel.unsnap R2
    have t : TrC (B.nes L) c1 (B.nes L) c2 := t2
    refine ⟨L, R2', m.tr.trans t, Held.snocV es P.1 (m.held.tr t (fun q hq => (keepL q hq).1) fun q hq _ => (keepL q hq).2), fun q hq z => ?_⟩
    exact (R2'.cellH z).2.1.2 q hq rfl
/-- something new besides -/
theorem Many.also {r : List Itm} (m : Many Γ B c0 L r c) {T : Addr} (hT : c.H T = none) (o : HO) : Many Γ B c0 L r { c with H := upd c.H T o } := by
  obtain ⟨R1, t1⟩ := m.rel.alloc hT o
  have t : TrC (B.nes L) c (B.nes L) { c with H := upd c.H T o } := t1.trans tr_weaken
  refine ⟨R1.weaken, m.tr.trans t, m.held.tr t (fun p hp => ?_) fun p _ h => h, fun p hp z => m.nc p hp z⟩
  obtain ⟨_, o', h, _⟩ := m.held.stands p hp
  exact upd_ne (ne_of_none h hT)
def Cf.puts : Cf → List Itm → Cf
  | c, [] => c
  | c, (i, d, fr, v) :: r => (c.put i (sl d fr) (some v)).puts r
theorem puts_ok : ∀ {r : List Itm} {L : List Addr} {c : Cf}, Rel Γ (B.nes L) c → Held Γ B (Cl (B.nes L) c) c.M c.H L r → (∀ p ∈ L, ¬ c.isCell p) → Rel Γ B (c.puts r) ∧ TrC (B.nes L) c B (c.puts r)
  | [], L, c, hR, h, _ => by
    unfold Held at h
    subst h
    rw [nes_nil] at hR ⊢
    exact ⟨hR, .refl⟩
  | (i, d, fr, v) :: r, L, c, hR, h, hn => by
    unfold Held at h
    rcases h with ⟨k1, k2, k3⟩ | ⟨k1, p, L', rfl, rfl, k3, k4, k5, k6, k7, k8⟩
    · have hs : ∀ d', Sl.val d ≠ .cell d' := fun _ z => nomatch z
      have t : TrC (B.nes L) c (B.nes L) (c.put i (.val d) (some v)) := putVal_tr hs
      have R1 := hR.putVal (i := i) (s := .val d) (v := some v) hs fun d' z => by cases z; exact ⟨v, rfl, rep_tr t _ _ k2⟩
      have := puts_ok R1 (k3.tr t (fun _ _ => rfl) fun _ _ z => z) fun p hp z => (put_cell z).elim (fun ⟨d', z, _⟩ => hs d' z) (hn p hp)
      show Rel Γ B ((c.put i (sl d fr) (some v)).puts r) ∧ TrC (B.nes L) c B ((c.put i (sl d fr) (some v)).puts r)
      rw [k1]
      exact ⟨this.1, t.trans this.2⟩
    · have hR' : Rel Γ ((B.nes L').ne p) c := by rw [nes_cons]; exact hR
      have t : TrC ((B.nes L').ne p) c (B.nes L') (c.put i (.cell d) (some (.ref p))) := putCell_tr
      have e : Cl (B.nes (p :: L')) c = Cl ((B.nes L').ne p) c := by rw [nes_cons]
      have R1 := hR'.putCell (i := i) (d := d) (hn p (by simp)) k3 ⟨k4, fun q hq e => k7 (e ▸ hq)⟩ k5 (by rw [← e]; exact k6)
      rw [e] at k8
      have := puts_ok R1 (k8.tr t (fun _ _ => rfl) fun _ _ z => z) fun q hq z => (put_cell z).elim (fun ⟨d', _, e⟩ => k7 (by cases e; exact hq)) (hn q (by simp [hq]))
      show Rel Γ B ((c.put i (sl d fr) (some (.ref p))).puts r) ∧ TrC (B.nes (p :: L')) c B ((c.put i (sl d fr) (some (.ref p))).puts r)
      rw [k1, ← nes_cons]
      exact ⟨this.1, t.trans this.2⟩
theorem Many.puts {r : List Itm} (m : Many Γ B c0 L r c) : Rel Γ B (c.puts r) ∧ TrC B c0 B (c.puts r) := by
  obtain ⟨h1, h2⟩ := puts_ok m.rel m.held m.nc
  exact ⟨h1, m.tr.trans h2⟩
theorem many_base (m : Many Γ B c0 L [] c) : True := trivial
theorem Many.relB {r : List Itm} (m : Many Γ B c0 L r c) : Rel Γ B c ∧ TrC B c0 B c := by
  refine ⟨?_, m.tr.trans (Tr.weaken fun a _ _ n => ⟨n.1.1, n.2⟩)⟩
  exact m.rel.same (Tr.weaken fun a _ _ n => ⟨n.1.1, n.2⟩) rfl rfl rfl rfl rfl rfl (fun a h => (m.rel.new a h).1) (fun q h => ⟨rfl, (m.rel.cellH h).2.1.1⟩) (fun _ _ => rfl) fun a o h hn => m.rel.frame a o h hn
/-- a next operand; what the whole comes to is known by the evaluator -/
theorem nextM {r : List Itm} {ra : Wd → R (D × Bool)} {f : D × Bool → Wd → R IL.Flow} {K : IL.Flow → Cf → Prop} {w : Wd} (i : Nat) (m : Many Γ B c0 L r c) (hw : c.w = w) (q : RunS Γ B c0 W ((ra w).bind f) K) {P : V → Hp → Prop}
    (G : ∀ L' c' x v w', c'.σ = c.σ → Many Γ B c0 L' (r ++ [(i, x.1, x.2, v)]) c' → c'.w = w' → RunS Γ B c0 W (f x w') K → P v c'.H) : tE Γ W ra c.σ c.H P := by
  subst hw
  cases ha : ra c.w with
  | bad => rw [ha] at q; exact q.elim
  | exn u o w =>
    rw [ha] at q
    obtain ⟨RB, tB⟩ := m.relB
    refine ⟨B, c, rfl, rfl, RB, ?_⟩
    rw [ha]
    exact fun c' cls dd e1 e2 e3 R t z => q c' cls dd e1 e2 R (tB.trans t) z
  | ok x w1 =>
    rw [ha] at q
    refine ⟨(B.nes L).snap c, c, rfl, rfl, m.rel.snap, run_ok ha fun c1 e1 e2 e3 R1 t1 v P => ?_⟩
    obtain ⟨L', m'⟩ := m.more i R1 t1 P
    exact G L' c1 x v w1 e3 m' (w_eq e1 e2) q
end
end IL

set_option Elab.async false
set_option linter.all false
set_option maxRecDepth 100000
set_option maxHeartbeats 4000000
/-! IL: raise and try. -/
namespace IL
open PySem L2
section
variable {Γ : Gm} {g : Pg} {nm : Nm} {k : Nat} {cf : Nat → List D → List Ob → CR} {X : Cx} {W : WX} {B B' : Bs} {c c0 c1 c2 : Cf} {σ : L2.St} {H : Hp} {Q : VK} {x : Expr} {d : D} {v : V} {fr : Bool} {E : Ends} {L : List Addr}
structure CtS (Γ : Gm) (g : Pg) (k : Nat) (X : Cx) (W : WX) : Prop extends Ct Γ g k X W where
  own : PassesOwn (model X.prog X.w) X.A X.env X.xe
  lc : Lc X X.env.scope
  kind : X.env.scope.kind = .function
  stk : X.stack = X.env :: X.outer
  frm : X.env.frame = some X.env.locals
theorem ps_imp {st : Stmt} {t t' : TS} (h : PS X st t) (hi : ∀ E σ H, t' E σ H → t E σ H) : PS X st t' := ⟨fun pins s σ H D I q => h.run pins s σ H D I (hi D σ H q)⟩
theorem pss_imp {st : List Stmt} {t t' : TS} (h : PSs X st t) (hi : ∀ E σ H, t' E σ H → t E σ H) : PSs X st t' := ⟨fun pins s σ H D I q => h.run pins s σ H D I (hi D σ H q)⟩
theorem nm_at {i : Nat} {x : Str} (hX : CtS Γ g k X W) (h : nmAt X.N X.env.scope i x = true) : X.N[i]? = some x ∧ L2.Loc X.env.scope x ∧ (X.fn x = true ∨ X.env.scope.names.lookup x = some .local) := by
  unfold nmAt at h
  rw [Bool.and_eq_true] at h
  obtain ⟨l1, l2⟩ := hX.lc x (loc_of h.2)
  exact ⟨of_decide_eq_true h.1, l1, l2⟩
theorem dec_of {p : Prop} [Decidable p] {r : R IL.Flow} {K : IL.Flow → Cf → Prop} (h : RunS Γ B c W (if p then r else .bad) K) : RunS Γ B c W r K := by
  by_cases hp : p
  · rw [if_pos hp] at h; exact h
  · rw [if_neg hp] at h; exact h.elim
/-- a slot that holds nothing may stand at anything -/
def Cf.sσ (c : Cf) (i : Nat) (v : Option V) : Cf := { c with σ := c.σ.set i v }
theorem ssel {i j : Nat} {v : Option V} (h : i ≠ j) : (c.sσ i v).σ[j]? = c.σ[j]? := List.getElem?_set_ne h
theorem ss_cell {i : Nat} {v : Option V} {a : Addr} (hn : c.e[i]? = some .no) : (c.sσ i v).isCell a ↔ c.isCell a := by
  constructor
  · rintro ⟨j, d, h1, h2⟩
    have hij : i ≠ j := fun e => by subst e; rw [show (c.sσ i v).e = c.e from rfl, hn] at h1; cases h1
    exact ⟨j, d, h1, by rw [ssel hij] at h2; exact h2⟩
  · rintro ⟨j, d, h1, h2⟩
    have hij : i ≠ j := fun e => by subst e; rw [hn] at h1; cases h1
    exact ⟨j, d, h1, by rw [ssel hij]; exact h2⟩
theorem ss_tr {i : Nat} {v : Option V} (hn : c.e[i]? = some .no) : TrC B c B (c.sσ i v) := Tr.weaken fun a _ _ n => ⟨n.1, n.2.1, fun z => n.2.2 ((ss_cell hn).mp z)⟩
theorem ss_tr' {i : Nat} {v : Option V} (hn : c.e[i]? = some .no) : TrC B (c.sσ i v) B c := Tr.weaken fun a _ _ n => ⟨n.1, n.2.1, fun z => n.2.2 ((ss_cell hn).mpr z)⟩
theorem Rel.sσ {i : Nat} {v : Option V} (hR : Rel Γ B c) (hn : c.e[i]? = some .no) : Rel Γ B (c.sσ i v) where
  len := by show c.e.length = (c.σ.set i v).length; rw [List.length_set]; exact hR.len
  new := hR.new
  frame := hR.frame
  mpre := hR.mpre
  mnew := hR.mnew
  mnd := hR.mnd
  mlen := hR.mlen
  val := fun j d h => by
    have hij : i ≠ j := fun e => by subst e; rw [show (c.sσ i v).e = c.e from rfl, hn] at h; cases h
    obtain ⟨u, h1, h2⟩ := hR.val j d h
    exact ⟨u, by rw [ssel hij]; exact h1, rep_tr (ss_tr hn) _ _ h2⟩
  cell := fun j d h => by
    have hij : i ≠ j := fun e => by subst e; rw [show (c.sσ i v).e = c.e from rfl, hn] at h; cases h
    obtain ⟨p, h1, h2, h3, h4, h5⟩ := hR.cell j d h
    exact ⟨p, by rw [ssel hij]; exact h1, h2, h3, h4, cell_tr (ss_tr hn) rfl h5⟩
  apart := fun j l d d' p h1 h2 h3 h4 => by
    have h5 : i ≠ j := fun e => by subst e; rw [show (c.sσ i v).e = c.e from rfl, hn] at h1; cases h1
    have h6 : i ≠ l := fun e => by subst e; rw [show (c.sσ i v).e = c.e from rfl, hn] at h2; cases h2
    rw [ssel h5] at h3
    rw [ssel h6] at h4
    exact hR.apart j l d d' p h1 h2 h3 h4
  sto := fun n ob h => by
    obtain ⟨a, h1, h2⟩ := hR.sto n ob h
    exact ⟨a, h1, ob_tr (ss_tr hn) rfl h2⟩
theorem Post.sσ {i : Nat} {w : Option V} (hn : c.e[i]? = some .no) (P : Post Γ B c d fr v) : Post Γ B (c.sσ i w) d fr v := by
  refine ⟨rep_tr (ss_tr hn) _ _ P.1, fun e => ?_⟩
  obtain ⟨p, h1, h2, h3, h4, h5, h6⟩ := P.2 e
  exact ⟨p, h1, h2, h3, h4, h5.sσ hn, cell_tr (ss_tr hn) rfl h6⟩
/-! ### suites -/
abbrev W0 : WX := fun _ _ _ _ => False
structure SuC (Γ : Gm) (C : Addr) (fld : Str) (a : Addr) (cls : Value) (dd : Option Addr) (at_ : Option Nat) (B : Bs) (c : Cf) (o : Option D) : Prop where
  rel : Rel Γ B c
  xr : ∃ n, Γ.xr n o (Cl B c) c.M c.H cls dd ∧ Γ.ex n = some (C, fld)
  at_ : ∀ i, at_ = some i → c.σ[i]? = some (some (.ref a))
def tSE (Γ : Gm) (C : Addr) (fld : Str) (a : Addr) (cls : Value) (dd : Option Addr) (at_ : Option Nat) (r : Option D → Wd → R (D × Bool)) : TE := fun σ H Q => ∃ B c o, c.σ = σ ∧ c.H = H ∧ SuC Γ C fld a cls dd at_ B c o ∧ Run Γ B c W0 (r o c.w) (KE Γ B Q)
def tSu (Γ : Gm) (C : Addr) (fld : Str) (a : Addr) (cls : Value) (dd : Option Addr) (at_ : Option Nat) (r : Option D → Wd → R IL.Flow) : TS := fun E σ H => ∃ B c o, c.σ = σ ∧ c.H = H ∧ SuC Γ C fld a cls dd at_ B c o ∧ RunS Γ B c W0 (r o c.w) (KS Γ B E)
/-- what the exception keeps -/
theorem SuC.fld {C : Addr} {fld : Str} {a : Addr} {cls : Value} {dd : Option Addr} {at_ : Option Nat} {o : Option D} (h : SuC Γ C fld a cls dd at_ B c o) (e : o = some d) : cls = .ref C ∧ ∃ dx v, dd = some dx ∧ c.H dx = some (.xd [(fld, v)]) ∧ Γ.R B c d v := by
  obtain ⟨n, ⟨C', f', h1, h2, h3⟩, h4⟩ := h.xr
  rw [h1] at h4
  cases h4
  subst e
  obtain ⟨dx, v, g1, g2, _, g3⟩ := h3
  exact ⟨h2, dx, v, g1, g2, g3⟩
theorem name_eq' {N : List Str} {sc : Scope} {i : Nat} {o : Expr} (h : isName N sc i o = true) : ∃ x p, o = .Name x p := by
  cases o <;> simp only [isName, Bool.false_eq_true] at h
  exact ⟨_, _, rfl⟩
section
variable {C a : Addr} {fld : Str} {cls : Value} {dd : Option Addr} {at_ : Option Nat} {oe : Obj} {pn : List (Addr × Obj)}
theorem fld_ok (hK : X.K = Γ.K) (T : XcR g Γ.K C fld) (hz : Zc cls dd oe) (hf : ∃ vs, oe.data = .fields vs) {v : Expr} (h : chkFld X.N X.env.scope fld at_ v = true) :
    PE (X.suite a ((a, oe) :: pn)) v fun σ H Q => ∃ B c o d, c.σ = σ ∧ c.H = H ∧ SuC Γ C fld a cls dd at_ B c o ∧ o = some d ∧ ∀ v, Γ.R B c d v → Q v c.H := by
  unfold chkFld at h
  split at h
  · rename_i i o f ha
    rw [Bool.and_eq_true, decide_eq_true_eq] at h
    obtain ⟨h1, rfl⟩ := h
    obtain ⟨p, rfl⟩ := asAttr_eq ha
    obtain ⟨x, q, rfl⟩ := name_eq' h1
    have := pe_xf (X := X) (a := a) (C := C) (oe := oe) (cls := cls) (d := dd) (pn := pn) (pos := p) (n := f) (by rw [hK]; exact T.xf) (by rw [hK]; exact T.fno) hz hf (pe_name (X := X.suite a ((a, oe) :: pn)) h1) rfl
    refine pe_imp this fun σ H Q q => ?_
    obtain ⟨B, c, o, d, rfl, rfl, S, eo, q⟩ := q
    obtain ⟨e1, dx, v, e2, e3, e4⟩ := S.fld eo
    refine ⟨.ref a, S.at_ i rfl, rfl, e1, dx, _, v, e2, e3, ?_, q v e4⟩
    rw [List.lookup_cons]; simp
  · cases h
theorem se_ok (hX : CtS Γ g k X W) (T : XcR g Γ.K C fld) (hz : Zc cls dd oe) (hf : ∃ vs, oe.data = .fields vs) : ∀ (e : SE) {v : Expr}, chkSE nm X.N X.env.scope fld at_ e v = true → PE (X.suite a ((a, oe) :: pn)) v (tSE Γ C fld a cls dd at_ fun o w => seV o e w)
  | .con d, v, h => by
    unfold chkSE at h
    have key : ∀ {w : V}, (∀ B c, Γ.R B c d w) → conD d = true → ∀ {σ H Q}, tSE Γ C fld a cls dd at_ (fun o w => seV o (.con d) w) σ H Q → tC w σ H Q := fun hr hd σ H Q q => by
      obtain ⟨B, c, o, rfl, rfl, S, q⟩ := q
      have q : Run Γ B c W0 (if conD d = true then .ok (d, false) c.w else .bad) _ := q
      rw [if_pos hd] at q
      exact q c rfl rfl rfl S.rel .refl _ ⟨hr B c, fun z => nomatch z⟩
    cases d <;> simp only [conE] at h <;> first | (cases h; done) | skip
    · unfold chkE at h
      split at h
      · rename_i hx
        obtain ⟨kk, p, rfl⟩ := asConst_eq hx
        exact pe_imp pe_non fun σ H Q q => key (fun _ _ => rfl) rfl q
      · cases h
    · unfold chkE at h
      split at h
      · rename_i hx
        obtain ⟨kk, p, rfl⟩ := asConst_eq hx
        have := eq_of_beq h
        subst this
        exact pe_imp pe_bl fun σ H Q q => key (fun _ _ => rfl) rfl q
      · cases h
    · unfold chkE at h
      split at h
      · rename_i hx
        obtain ⟨kk, p, rfl⟩ := asConst_eq hx
        have := of_decide_eq_true h
        subst this
        exact pe_imp pe_int fun σ H Q q => key (fun _ _ => rfl) rfl q
      · cases h
    · unfold chkE at h
      split at h
      · rename_i hx
        obtain ⟨kk, p, rfl⟩ := asConst_eq hx
        have := of_decide_eq_true h
        subst this
        exact pe_imp pe_str fun σ H Q q => key (fun _ _ => rfl) rfl q
      · cases h
  | .var i, v, h => by
    unfold chkSE at h
    refine pe_imp (pe_name (X := X.suite a ((a, oe) :: pn)) h) fun σ H Q q => ?_
    obtain ⟨B, c, o, rfl, rfl, S, q⟩ := q
    exact var_ok (Γ := Γ) (W := W0) ⟨B, c, rfl, rfl, S.rel, q⟩
  | .fld, v, h => by
    unfold chkSE at h
    refine pe_imp (fld_ok hX.at_.k T hz hf h) fun σ H Q q => ?_
    obtain ⟨B, c, o, rfl, rfl, S, q⟩ := q
    obtain ⟨d, e, q⟩ := Run.opt q
    exact ⟨B, c, o, d, rfl, rfl, S, e, fun v r => q c rfl rfl rfl S.rel .refl v ⟨r, fun z => nomatch z⟩⟩
  | .lstF s, v, h => by
    simp only [chkSE] at h
    split at h
    · rename_i x y hl
      obtain ⟨p, rfl⟩ := asList_eq hl
      rw [Bool.and_eq_true, Bool.and_eq_true] at h
      obtain ⟨⟨h1, h2⟩, h3⟩ := h
      split at h1
      · rename_i t hx
        obtain ⟨kk, q, rfl⟩ := asConst_eq hx
        have := of_decide_eq_true h1
        subst this
        refine pe_imp (pe_lst (pa_cons pe_str (pa_cons (fld_ok hX.at_.k T hz hf h2) pa_nil (star_cons h3)) (star_cons rfl))) fun σ H Q q => ?_
        obtain ⟨B, c, o, rfl, rfl, S, q⟩ := q
        obtain ⟨d, e, q⟩ := Run.opt q
        refine ⟨B, c, o, d, rfl, rfl, S, e, fun v r => ⟨lim_le (by show 2 ≤ lim; decide), fun p hp => (Fin.of (W := W0) q).lst S.rel (show Γ.Rs B c [.str s, d] [.str s, v] from ?_) hp⟩⟩
        exact ⟨_, _, rfl, rfl, _, _, rfl, r, rfl⟩
      · cases h1
    · cases h
  | .catF s, v, h => by
    unfold chkSE at h
    cases h
theorem su_ok (hX : CtS Γ g k X W) (T : XcR g Γ.K C fld) (hz : Zc cls dd oe) (hf : ∃ vs, oe.data = .fields vs) : ∀ (u : Su) {st : Stmt}, chkSu nm X.N X.env.scope fld at_ u st = true → PSs (X.suite a ((a, oe) :: pn)) [st] (tSu Γ C fld a cls dd at_ fun o w => runSu o u w)
  | .ret e, st, h => by
    simp only [chkSu] at h
    split at h
    · rename_i v hs
      obtain ⟨q, rfl⟩ := asRet_eq hs
      refine pss_imp (pss_one (ps_ret (se_ok hX T hz hf e h))) fun E σ H q => ?_
      obtain ⟨B, c, o, rfl, rfl, S, q⟩ := q
      exact ⟨B, c, o, rfl, rfl, S, (RunS.bindE q).imp fun x c1 e1 R1 t1 h v P => h c1 rfl rfl R1 .refl v P⟩
    · cases h
  | .app i e, st, h => by
    simp only [chkSu] at h
    split at h
    · rename_i v hs
      obtain ⟨q, rfl⟩ := asExp_eq hs
      split at h
      · rename_i o y hm
        obtain ⟨a', p, rfl, hns⟩ := asM1_eq hm
        simp only [Bool.and_eq_true] at h
        obtain ⟨⟨h1, h2⟩, h3⟩ := h
        have hh := pe_bm (X := X.suite a ((a, oe) :: pn)) PySem.F.plainAttrs_list PySem.F.slot_list_append PySem.F.type_list_append mt_append (pe_name (X := X.suite a ((a, oe) :: pn)) h1) (pa_cons (se_ok hX T hz hf e h2) pa_nil (star_cons hns)) (base_name h1) (few_one hns) h3 (star_cons hns) rfl
        rw [show (X.suite a ((a, oe) :: pn)).K = Γ.K from hX.at_.k] at hh
        refine pss_imp (pss_one (ps_expr hh rfl)) fun E σ H q => ?_
        obtain ⟨B, c, o', rfl, rfl, S, q⟩ := q
        obtain ⟨ds0, hd0, q⟩ := RunS.opt q
        obtain ⟨_, p0, vs0, s0, l0, _⟩ := cl_get S.rel hd0
        refine ⟨_, s0, .inl ⟨rfl, vs0, SqL.of l0⟩, ⟨B, c, o', rfl, rfl, S, (RunS.bindE q).imp fun x c1 e1 R1 t1 h v P => ?_⟩⟩
        obtain ⟨ds, hd, h⟩ := RunS.opt h
        obtain ⟨hb, h⟩ := RunS.dec h
        obtain ⟨g1, p', vs, g2, g3, g4⟩ := cl_get R1 hd
        rw [e1, s0] at g2
        cases g2
        have gl := reps_len g4
        refine ⟨p0, vs, v, rfl, rfl, g3, by have := lim_le (Nat.le_of_lt hb); have := @lim_le lim (Nat.le_refl _); omega, ?_⟩
        obtain ⟨R2, t2⟩ := cell_set (d' := .lst (ds ++ [x.1])) (o := .lst (vs ++ [v])) R1 g1 (e1 ▸ s0) fun c' t e => ⟨_, by rw [e]; exact upd_same, reps_append (reps_tr t _ _ g4) (rs_one (rep_tr t _ _ P.1))⟩
        have := h { c1 with e := c1.e.set i (.cell (.lst (ds ++ [x.1]))), H := upd c1.H p0 (.lst (vs ++ [v])) } rfl rfl R2 t2
        have z : E.nx c1.σ (upd c1.H p0 (.lst (vs ++ [v]))) := this
        rw [e1] at z; exact z
      · cases h
    · cases h
/-- a suite raises nothing; it leaves the slots that hold nothing -/
theorem se_state {o : Option D} {e : SE} {w w' : Wd} {y : D × Bool} {i : Nat} (h : seV o e w = .ok y w') (hn : w.e[i]? = some .no) : w'.e[i]? = some .no := by
  have rd : ∀ {j : Nat} {d : D} {u : Wd}, w.read j = .ok d u → u.e[i]? = some .no := fun {j d u} z => by
    unfold Wd.read at z
    split at z
    · cases z; exact hn
    · rename_i d' hj
      cases z
      have hij : j ≠ i := fun q => by subst q; rw [hn] at hj; cases hj
      show (w.e.set j _)[i]? = _
      rw [List.getElem?_set_ne hij]; exact hn
    · cases z
  cases e with
  | con d =>
    have h : (if conD d = true then R.ok (d, false) w else .bad) = .ok y w' := h
    split at h <;> cases h
    exact hn
  | var j =>
    have h : (w.read j).bind (fun d w => .ok (d, false) w) = .ok y w' := h
    cases z : w.read j with
    | ok d u => rw [z] at h; cases h; exact rd z
    | exn a b u => rw [z] at h; cases h
    | bad => rw [z] at h; cases h
  | fld =>
    have h : (R.opt o w).bind (fun d w => .ok (d, false) w) = .ok y w' := h
    cases o <;> cases h
    exact hn
  | lstF s =>
    have h : (R.opt o w).bind (fun d w => R.ok (D.lst [D.str s, d], true) w) = .ok y w' := h
    cases o <;> cases h
    exact hn
  | catF s =>
    have h : (R.opt o w).bind (fun d w => (R.opt (b1D .repr d) w).bind fun r w => (R.opt (binD .add (.str s) r) w).bind fun r w => .ok (r, false) w) = .ok y w' := h
    cases o with
    | none => cases h
    | some d =>
      have h : (R.opt (b1D .repr d) w).bind (fun r w => (R.opt (binD .add (.str s) r) w).bind fun r w => .ok (r, false) w) = .ok y w' := h
      cases z : b1D .repr d with
      | none => rw [z] at h; cases h
      | some r =>
        rw [z] at h
        have h : (R.opt (binD .add (.str s) r) w).bind (fun r w => .ok (r, false) w) = .ok y w' := h
        cases z2 : binD .add (.str s) r with
        | none => rw [z2] at h; cases h
        | some r2 => rw [z2] at h; cases h; exact hn
theorem se_exn {o : Option D} {e : SE} {w u : Wd} {n : Nat} {y : Option D} (h : seV o e w = .exn n y u) : False := by
  cases e with
  | con d =>
    have h : (if conD d = true then R.ok (d, false) w else .bad) = .exn n y u := h
    split at h <;> cases h
  | var j =>
    have h : (w.read j).bind (fun d w => .ok (d, false) w) = R.exn n y u := h
    unfold Wd.read at h
    split at h <;> cases h
  | fld => have h : (R.opt o w).bind (fun d w => .ok (d, false) w) = .exn n y u := h; cases o <;> cases h
  | lstF s => have h : (R.opt o w).bind (fun d w => R.ok (D.lst [D.str s, d], true) w) = .exn n y u := h; cases o <;> cases h
  | catF s =>
    have h : (R.opt o w).bind (fun d w => (R.opt (b1D .repr d) w).bind fun r w => (R.opt (binD .add (.str s) r) w).bind fun r w => .ok (r, false) w) = .exn n y u := h
    cases o with
    | none => cases h
    | some d =>
      have h : (R.opt (b1D .repr d) w).bind (fun r w => (R.opt (binD .add (.str s) r) w).bind fun r w => .ok (r, false) w) = .exn n y u := h
      cases z : b1D .repr d with
      | none => rw [z] at h; cases h
      | some r =>
        rw [z] at h
        have h : (R.opt (binD .add (.str s) r) w).bind (fun r w => .ok (r, false) w) = .exn n y u := h
        cases z2 : binD .add (.str s) r with
        | none => rw [z2] at h; cases h
        | some r2 => rw [z2] at h; cases h
theorem su_state {o : Option D} {u : Su} {w : Wd} : match runSu o u w with
    | .ok _ w' => ∀ i : Nat, w.e[i]? = some .no → w'.e[i]? = some .no
    | .exn _ _ _ => False
    | .bad => True := by
  cases u with
  | ret e =>
    show match (seV o e w).bind (fun y w => R.ok (IL.Flow.rt y.1 y.2) w) with | .ok _ w' => ∀ i : Nat, w.e[i]? = some .no → w'.e[i]? = some .no | .exn _ _ _ => False | .bad => True
    cases z : seV o e w with
    | ok y w' => exact fun i hn => se_state z hn
    | exn a b c => exact se_exn z
    | bad => trivial
  | app j e =>
    show match (R.opt (w.cl j) w).bind (fun _ w => (seV o e w).bind fun y w => (R.opt (w.cl j) w).bind fun ds w => if ds.length < lim then R.ok IL.Flow.nx { w with e := w.e.set j (.cell (.lst (ds ++ [y.1]))) } else .bad) with | .ok _ w' => ∀ i : Nat, w.e[i]? = some .no → w'.e[i]? = some .no | .exn _ _ _ => False | .bad => True
    cases z0 : w.cl j with
    | none => trivial
    | some ds0 =>
      show match (seV o e w).bind (fun y w => (R.opt (w.cl j) w).bind fun ds w => if ds.length < lim then R.ok IL.Flow.nx { w with e := w.e.set j (.cell (.lst (ds ++ [y.1]))) } else .bad) with | .ok _ w' => ∀ i : Nat, w.e[i]? = some .no → w'.e[i]? = some .no | .exn _ _ _ => False | .bad => True
      cases z : seV o e w with
      | exn a b c => exact se_exn z
      | bad => trivial
      | ok y w' =>
        show match (R.opt (w'.cl j) w').bind (fun ds w => if ds.length < lim then R.ok IL.Flow.nx { w with e := w.e.set j (.cell (.lst (ds ++ [y.1]))) } else .bad) with | .ok _ w' => ∀ i : Nat, w.e[i]? = some .no → w'.e[i]? = some .no | .exn _ _ _ => False | .bad => True
        cases z1 : w'.cl j with
        | none => trivial
        | some ds =>
          show match (if ds.length < lim then R.ok IL.Flow.nx { w' with e := w'.e.set j (.cell (.lst (ds ++ [y.1]))) } else .bad) with | .ok _ w' => ∀ i : Nat, w.e[i]? = some .no → w'.e[i]? = some .no | .exn _ _ _ => False | .bad => True
          by_cases hl : ds.length < lim
          · rw [if_pos hl]
            intro i hn
            have h1 := se_state z hn
            have hij : j ≠ i := fun q => by subst q; unfold Wd.cl at z1; rw [h1] at z1; cases z1
            show (w'.e.set j _)[i]? = _
            rw [List.getElem?_set_ne hij]; exact h1
          · rw [if_neg hl]; trivial
/-- the suite's run, wherever the slot of the clause's name stands at -/
theorem su_named {o : Option D} {u : Su} {i : Nat} {x : Option V} (hn : c.e[i]? = some .no) (h : RunS Γ B c W (runSu o u c.w) (KS Γ B E)) :
    RunS Γ B (c.sσ i x) W0 (runSu o u (c.sσ i x).w) (KS Γ B { nx := fun σ' H' => E.nx (σ'.set i none) H', rt := E.rt, bk := fun σ' H' => E.bk (σ'.set i none) H', ct := fun σ' H' => E.ct (σ'.set i none) H' }) := by
  have hs := su_state (o := o) (u := u) (w := c.w)
  show RunS Γ B (c.sσ i x) W0 (runSu o u c.w) _
  cases z : runSu o u c.w with
  | bad => rw [z] at h; exact h
  | exn a b e => rw [z] at hs; exact hs.elim
  | ok fl w' =>
    rw [z] at hs h
    intro c' e1 e2 R' t'
    have hn' : c'.e[i]? = some .no := by rw [e1]; exact hs i hn
    have h2 := h (c'.sσ i none) e1 e2 (R'.sσ hn') ((ss_tr hn).trans (t'.trans (ss_tr hn')))
    cases fl with
    | nx => exact h2
    | rt d fr => exact fun v P => h2 v (P.sσ hn')
theorem su_plain {o : Option D} {u : Su} (h : RunS Γ B c W (runSu o u c.w) (KS Γ B E)) : RunS Γ B c W0 (runSu o u c.w) (KS Γ B E) := by
  have hs := su_state (o := o) (u := u) (w := c.w)
  cases z : runSu o u c.w with
  | bad => rw [z] at h; exact h
  | exn a b e => rw [z] at hs; exact hs.elim
  | ok fl w' => rw [z] at h; exact h
end
/-! ### the statements -/
theorem ct_tr {pn : List (Addr × Obj)} {xe : Value → Shared → Prop} {W' : WX} (hX : CtS Γ g k X W) (tk : Takes (X.tr pn xe) W') (own : PassesOwn (model X.prog X.w) X.A X.env xe) : CtS Γ g k (X.tr pn xe) W' where
  at_ := ⟨hX.at_.p, hX.at_.w, hX.at_.k, hX.at_.m, hX.at_.b⟩
  calm := hX.calm
  tk := tk
  gd := hX.gd
  room := hX.room
  nd := hX.nd
  own := own
  lc := hX.lc
  kind := hX.kind
  stk := hX.stk
  frm := hX.frm
theorem xs_at {cn : Nat} {x fld : Str} (hO : Own Γ g nm k) (h : xsAt nm cn = some (x, fld)) : ∃ C, Γ.ex cn = some (C, fld) ∧ g.mg x = some (.ref C) ∧ XcR g Γ.K C fld := by
  unfold xsAt at h
  split at h
  · rename_i h8
    obtain ⟨C, h1, h2, h3⟩ := hO.exc _ _ _ h
    rw [show 8 + (cn - 8) = cn by omega] at h1
    exact ⟨C, h1, h2, h3⟩
  · cases h
theorem exn_run {n : Nat} {o : Option D} {w : Wd} {K : IL.Flow → Cf → Prop} {cls : Value} {dd : Option Addr} (h : RunS Γ B c W (.exn n o w) K) (e1 : c.e = w.e) (e2 : c.s = w.s) (hR : Rel Γ B c) (q : Γ.xr n o (Cl B c) c.M c.H cls dd) : W cls dd c.σ c.H := h c cls dd e1 e2 hR .refl q
theorem try_as {h : Hd} {eh : ExceptHandler} {b : Ss} {body : List Stmt} {pos : Pos} {i : Nat} (hO : Own Γ g nm k) (hX : CtS Γ g k X W) (hh : chkH nm X.N X.env.scope h eh = true) (hi : h.at_ = some i)
    (hb : ∀ (W' : WX) (pn : List (Addr × Obj)) (xe : Value → Shared → Prop), Takes (X.tr pn xe) W' → PassesOwn (model X.prog X.w) X.A X.env xe → PSs (X.tr pn xe) body (tS Γ W' (runs cf b))) :
    PS X (.Try body [eh] [] [] pos) (tS Γ W (runS cf (.try_ b [h]))) := by
  unfold chkH at hh
  split at hh
  · rename_i x n st cn he hc
    obtain ⟨p, q, rfl⟩ := asEh_eq he
    rw [Bool.and_eq_true] at hh
    obtain ⟨h1, h2⟩ := hh
    split at h1
    · rename_i y fld hxs
      simp only [Bool.and_eq_true, decide_eq_true_eq] at h1
      obtain ⟨⟨⟨rfl, g1⟩, g2⟩, g3⟩ := h1
      rw [hi] at h2
      cases n with
      | none => cases h2
      | some y =>
        have h2 : (decide (X.N[i]? = some y) && isPl X.env.scope y) = true := h2
        rw [Bool.and_eq_true, decide_eq_true_eq] at h2
        obtain ⟨C, x1, x2, x3⟩ := xs_at hO hxs
        have hdb : (x == ("__debug__" : Str)) = false := by unfold okName at g2; rw [Bool.and_eq_true, Bool.not_eq_true'] at g2; exact g2.1
        refine ps_imp (ps_try_as (X := X) (c := .ref C) (i := i) (Wout := W) (ts := fun a cls dd => tSu Γ C fld a cls dd h.at_ fun o w => runSu o h.su w) (tb := fun W' => tS Γ W' (runs cf b)) hX.stk hX.frm hX.nd h2.1 (pl_look h2.2) ⟨gl_of g1, hdb, .inl (by rw [hX.at_.m]; exact x2)⟩ hX.tk hb (fun a oe cls dd pn hz hf => su_ok hX x3 hz hf h.su g3)) fun E σ H q => ?_
        obtain ⟨B, c, rfl, rfl, hR, q⟩ := q
        refine ⟨B, c, rfl, rfl, hR, ?_⟩
        have q : RunS Γ B c W (tryR [h] (runs cf b c.w)) (KS Γ B E) := q
        cases z : runs cf b c.w with
        | bad => rw [z] at q; exact q
        | ok fl w => rw [z] at q; exact q
        | exn m o w =>
          rw [z] at q
          intro c' cls dd e1 e2 R' t' hx
          obtain ⟨C', f', y1, rfl, y2⟩ := id hx
          have hm := hO.exm m cn C' C f' fld y1 x1
          rw [← hX.at_.k] at hm
          refine ⟨decide (m = cn), hm, fun hb => ?_, fun hb => ?_⟩
          · have hmc := of_decide_eq_true hb
            subst hmc
            rw [x1] at y1
            cases y1
            have hfd : [h].find? (fun h => h.cs.contains m) = some h := by
              rw [List.find?_cons, hc]; simp
            have q : RunS Γ B c W (match [h].find? (fun h => h.cs.contains m) with | some h => if slotNo w h.at_ then runSu o h.su w else .bad | none => .exn m o w) (KS Γ B E) := q
            rw [hfd] at q
            obtain ⟨hs, q⟩ := RunS.dec (c := c) q
            rw [hi] at hs
            have hn : c'.e[i]? = some .no := by
              rw [e1]
              have hs : (match w.e[i]? with | some .no => true | _ => false) = true := hs
              split at hs
              · assumption
              · cases hs
            intro a ha
            have q' := RunS.from q t'
            rw [← show c'.w = w from w_eq e1 e2] at q'
            refine ⟨B, c'.sσ i (some (.ref a)), o, rfl, rfl, ⟨R'.sσ hn, ⟨m, xr_tr (ss_tr hn) hx, x1⟩, fun l hl => ?_⟩, su_named hn q'⟩
            rw [hi] at hl; cases hl
            show (c'.σ.set i _)[i]? = _
            rw [List.getElem?_set, if_pos rfl, if_pos]
            rw [← R'.len]; exact (List.getElem?_eq_some_iff.mp hn).1
          · have hmc := of_decide_eq_false hb
            have hfd : [h].find? (fun h => h.cs.contains m) = none := by
              rw [List.find?_eq_none]
              intro g hg
              rw [List.mem_singleton.mp hg, hc]
              simp [hmc]
            have q : RunS Γ B c W (match [h].find? (fun h => h.cs.contains m) with | some h => if slotNo w h.at_ then runSu o h.su w else .bad | none => .exn m o w) (KS Γ B E) := q
            rw [hfd] at q
            exact q c' (.ref C') dd e1 e2 R' t' hx
    · cases h1
  · cases hh
theorem many_ok (hO : Own Γ g nm k) (hX : CtS Γ g k X W) : ∀ (hs : List Hd) {es : List ExceptHandler}, chkHs nm X.N X.env.scope hs es = true → (hs.all fun h => h.at_.isNone) = true →
    ∃ l, HdsOk X es l ∧ ∀ {B : Bs} {c : Cf} {E : Ends} {m : Nat} {o : Option D} {w : Wd} {cls : Value} {dd : Option Addr}, RunS Γ B c W (tryR hs (.exn m o w)) (KS Γ B E) → ∀ c' : Cf, c'.e = w.e → c'.s = w.s → Rel Γ B c' → TrC B c B c' → Γ.xr m o (Cl B c') c'.M c'.H cls dd → wMany X.K W E l cls dd c'.σ c'.H
  | [], es, h, _ => by
    cases es with
    | nil => exact ⟨[], .nil, fun {B c E m o w cls dd} h c' e1 e2 R t q => h c' cls dd e1 e2 R t q⟩
    | cons e es => cases h
  | h :: hs, es, hc, ha => by
    cases es with
    | nil => cases hc
    | cons eh es =>
      have hc : (chkH nm X.N X.env.scope h eh && chkHs nm X.N X.env.scope hs es) = true := hc
      rw [Bool.and_eq_true] at hc
      rw [List.all_cons, Bool.and_eq_true] at ha
      obtain ⟨l, hl, hw⟩ := many_ok hO hX hs hc.2 ha.2
      have hh := hc.1
      unfold chkH at hh
      split at hh
      · rename_i x n st cn he hcs
        obtain ⟨p, q, rfl⟩ := asEh_eq he
        rw [Bool.and_eq_true] at hh
        obtain ⟨h1, h2⟩ := hh
        split at h1
        · rename_i y fld hxs
          simp only [Bool.and_eq_true, decide_eq_true_eq] at h1
          obtain ⟨⟨⟨rfl, g1⟩, g2⟩, g3⟩ := h1
          obtain ⟨C, x1, x2, x3⟩ := xs_at hO hxs
          have hat : h.at_ = none := by
            cases e : h.at_ with
            | none => rfl
            | some i => rw [e] at ha; cases ha.1
          have hn : n = none := by
            rw [hat] at h2
            cases n with
            | none => rfl
            | some y => cases h2
          subst hn
          have hdb : (x == ("__debug__" : Str)) = false := by unfold okName at g2; rw [Bool.and_eq_true, Bool.not_eq_true'] at g2; exact g2.1
          refine ⟨(.ref C, fun a cls dd => tSu Γ C fld a cls dd h.at_ fun o w => runSu o h.su w) :: l, .cons ⟨gl_of g1, hdb, .inl (by rw [hX.at_.m]; exact x2)⟩ (fun a oe cls dd pn hz hf => su_ok hX x3 hz hf h.su g3) hl, ?_⟩
          intro B c E m o w cls dd q c' e1 e2 R' t' hx
          obtain ⟨C', f', y1, rfl, y2⟩ := id hx
          have hm := hO.exm m cn C' C f' fld y1 x1
          rw [← hX.at_.k] at hm
          refine ⟨decide (m = cn), hm, fun hb => ?_, fun hb => ?_⟩
          · have hmc := of_decide_eq_true hb
            subst hmc
            rw [x1] at y1
            cases y1
            have hfd : (h :: hs).find? (fun h => h.cs.contains m) = some h := by
              rw [List.find?_cons, hcs]; simp
            have q : RunS Γ B c W (match (h :: hs).find? (fun h => h.cs.contains m) with | some h => if slotNo w h.at_ then runSu o h.su w else .bad | none => .exn m o w) (KS Γ B E) := q
            rw [hfd] at q
            obtain ⟨_, q⟩ := RunS.dec (c := c) q
            intro a hna
            have q' := RunS.from q t'
            rw [← show c'.w = w from w_eq e1 e2] at q'
            refine ⟨B, c', o, rfl, rfl, ⟨R', ⟨m, hx, x1⟩, fun l hl => ?_⟩, su_plain q'⟩
            rw [hat] at hl; cases hl
          · have hmc := of_decide_eq_false hb
            refine hw (c := c) ?_ c' e1 e2 R' t' hx
            have q : RunS Γ B c W (match (h :: hs).find? (fun h => h.cs.contains m) with | some h => if slotNo w h.at_ then runSu o h.su w else .bad | none => .exn m o w) (KS Γ B E) := q
            rw [List.find?_cons, hcs] at q
            rw [show ([cn].contains m) = false by simp [hmc]] at q
            exact q
        · cases h1
      · cases hh
theorem try_many {hs : List Hd} {es : List ExceptHandler} {b : Ss} {body : List Stmt} {pos : Pos} (hO : Own Γ g nm k) (hX : CtS Γ g k X W) (hh : chkHs nm X.N X.env.scope hs es = true) (ha : (hs.all fun h => h.at_.isNone) = true) (hne : hs ≠ [])
    (hb : ∀ (W' : WX) (pn : List (Addr × Obj)) (xe : Value → Shared → Prop), Takes (X.tr pn xe) W' → PassesOwn (model X.prog X.w) X.A X.env xe → PSs (X.tr pn xe) body (tS Γ W' (runs cf b))) :
    PS X (.Try body es [] [] pos) (tS Γ W (runS cf (.try_ b hs))) := by
  obtain ⟨l, hl, hw⟩ := many_ok hO hX hs hh ha
  cases es with
  | nil =>
    cases hs with
    | nil => exact absurd rfl hne
    | cons h hs => cases hh
  | cons e0 es =>
    refine ps_imp (ps_try_many (Wout := W) (tb := fun W' => tS Γ W' (runs cf b)) hX.stk hX.frm hX.tk hb hl) fun E σ H q => ?_
    obtain ⟨B, c, rfl, rfl, hR, q⟩ := q
    refine ⟨B, c, rfl, rfl, hR, ?_⟩
    have q : RunS Γ B c W (tryR hs (runs cf b c.w)) (KS Γ B E) := q
    cases z : runs cf b c.w with
    | bad => rw [z] at q; exact q
    | ok fl w => rw [z] at q; exact q
    | exn m o w =>
      rw [z] at q
      exact fun c' cls dd e1 e2 R' t' hx => hw q c' e1 e2 R' t' hx
/-- raise X(e) -/
theorem raise_ok {cn : Nat} {e : IL.E} {x fld : Str} {v : Expr} {p q r : Pos} (hO : Own Γ g nm k) (hX : CtS Γ g k X W) (hxs : xsAt nm cn = some (x, fld)) (hg : Gl X x) (hdb : (x == ("__debug__" : Str)) = false) (hv : noStar v = true) (he : PE X v (tE Γ W (ev cf e))) :
    PS X (.Raise (some (.Call (.Name x p) [v] [] q)) none r) (tS Γ W (runS cf (.raise cn e))) := by
  obtain ⟨C, x1, x2, T⟩ := xs_at hO hxs
  obtain ⟨fI, fd, arg, i1, i2, i3, i4⟩ := T.ini
  have hrm : Room (1 + 1) X.A := hX.room.mono hO.lv
  refine ps_imp (ps_raise (W := W) hX.calm hX.tk (pmk_oex (X := X) (C := C) (fI := fI) (k := 1) (fd := fd) (ps := ["self", arg]) (sp := spX C fld) (CX := L2.CX X.prog X.w) (by rw [hX.at_.k]; exact T.oex) (by rw [hX.at_.k]; exact i1) (by rw [hX.at_.k]; exact i2)
    (by rw [hX.at_.p, hX.at_.w, hX.at_.k, hX.at_.m, hX.at_.b]; exact i4) hrm (by rw [hX.at_.k]; exact i3) .nil (fun _ _ _ _ _ _ _ h => by obtain ⟨_, _, _, _, _, _, _, _, _, _, _, _, z⟩ := h; exact z.elim) hg (by rw [hX.at_.m]; exact x2) (pa_cons he pa_nil (star_cons hv)) hdb (star_cons hv) rfl)) fun E σ H q => ?_
  obtain ⟨B, c, rfl, rfl, hR, q⟩ := q
  unfold tMkO tCons tNil
  refine oneS hR q fun c1 y u e1 R1 t1 P h => ⟨by show 1 ≤ 1000; decide, fun a ha => ⟨a, u, rfl, upd_same, fun dx hdx hne => ⟨rfl, dx, [(fld, u)], upd_same, ?_, ?_, ?_⟩⟩⟩
  · rw [upd_ne hne, upd_same]
  · rw [upd_ne hne] at hdx; exact hdx
  · have hdx : c1.H dx = none := by rw [upd_ne hne] at hdx; exact hdx
    have hH : upd (del (upd (upd (upd c1.H a (exo a C none)) dx (exd dx [(fld, u)])) a (exo a C (some dx))) a) dx (.xd [(fld, u)]) = upd c1.H dx (.xd [(fld, u)]) := by
      funext b
      by_cases h1 : b = dx
      · subst h1; rw [upd_same, upd_same]
      · rw [upd_ne h1, upd_ne h1]
        by_cases h2 : b = a
        · subst h2; rw [del_same, ha]
        · rw [del_ne h2, upd_ne h2, upd_ne h1, upd_ne h2]
    rw [hH]
    obtain ⟨R2, t2⟩ := R1.alloc hdx (.xd [(fld, u)])
    have f := R1.fresh hdx
    have := exn_run (c := { c1 with H := upd c1.H dx (.xd [(fld, u)]) }) (cls := .ref C) (dd := some dx) (RunS.from h (t2.trans tr_weaken)) rfl rfl R2.weaken ⟨C, fld, x1, rfl, dx, u, rfl, upd_same, ⟨f.2.1, f.2.2.1, fun z => f.2.2.2 z⟩, rep_tr (t2.trans tr_weaken) _ _ P.1⟩
    rw [← e1]; exact this
end
end IL

set_option Elab.async false
set_option linter.all false
set_option maxRecDepth 100000
set_option maxHeartbeats 4000000
/-! IL: statements do as the evaluator says. -/
namespace IL
open PySem L2
section
variable {Γ : Gm} {g : Pg} {nm : Nm} {k : Nat} {cf : Nat → List D → List Ob → CR} {X : Cx} {W : WX} {B B' : Bs} {c c0 c1 c2 : Cf} {σ : L2.St} {H : Hp} {Q : VK} {x : Expr} {d : D} {v : V} {fr : Bool} {E : Ends} {L : List Addr}
theorem set_end {i : Nat} {e : IL.E} (q : tS Γ W (runS cf (.set i e)) E σ H) : tAsg (tE Γ W (ev cf e)) (gName i) E σ H := by
  obtain ⟨B, c, rfl, rfl, hR, q⟩ := q
  refine nextM i (Many.nil hR) rfl q fun L' c' x v w' e1 m hw q => ?_
  obtain ⟨R2, t2⟩ := m.puts
  have q := dec_of q
  have q := q (c'.puts [(i, x.1, x.2, v)]) (by subst hw; rfl) (by subst hw; rfl) R2 t2
  show E.nx (c.σ.set i (some v)) c'.H
  rw [← e1]; exact q
theorem setT_end {tg : Tg} {e : IL.E} (q : tS Γ W (runS cf (.setT tg e)) E σ H) : tAsg (tE Γ W (ev cf e)) (gRd Γ tg) E σ H := by
  obtain ⟨B, c, rfl, rfl, hR, q⟩ := q
  refine oneS hR q fun c1 x v e1 R1 t1 P h => ?_
  obtain ⟨w', ha, h⟩ := RunS.opt h
  exact ⟨B, c1, x.1, w', e1, rfl, R1, P.1, ha, fun c' f1 f2 f3 f4 f5 R t => h c' f1 f2 R t⟩
theorem par2_end {i j : Nat} {a b : IL.E} (q : tS Γ W (runS cf (.par2 i j a b)) E σ H) : tE Γ W (ev cf a) σ H fun v1 H1 => tE Γ W (ev cf b) σ H1 fun v2 H2 =>
    E.nx ((σ.set i (some v1)).set j (some v2)) H2 ∧ ∀ p, H2 p = none → E.nx ((σ.set i (some v1)).set j (some v2)) (upd H2 p (.tup [v1, v2])) := by
  obtain ⟨B, c, rfl, rfl, hR, q⟩ := q
  refine nextM i (Many.nil hR) rfl q fun L1 c1 x v1 w1 e1 m1 hw1 q => sig (t := tE Γ W (ev cf b)) e1 (nextM j m1 hw1 q fun L2 c2 y v2 w2 e2 m2 hw2 q => ?_)
  have q := dec_of q
  have fin : ∀ c3 : Cf, c3.e = c2.e → c3.s = c2.s → c3.σ = c2.σ → Many Γ B c L2 [(i, x.1, x.2, v1), (j, y.1, y.2, v2)] c3 → E.nx ((c.σ.set i (some v1)).set j (some v2)) c3.H := fun c3 f1 f2 f3 m3 => by
    obtain ⟨R4, t4⟩ := m3.puts
    have q := q (c3.puts [(i, x.1, x.2, v1), (j, y.1, y.2, v2)]) (by subst hw2; show (c3.e.set i _).set j _ = _; rw [f1]; rfl) (by subst hw2; exact f2) R4 t4
    have z : E.nx ((c3.σ.set i (some v1)).set j (some v2)) c3.H := q
    rw [f3, e2, e1] at z
    exact z
  exact ⟨fin c2 rfl rfl rfl m2, fun p hp => fin { c2 with H := upd c2.H p (.tup [v1, v2]) } rfl rfl rfl (m2.also hp _)⟩
theorem par3_end {i j l : Nat} {a b e : IL.E} (q : tS Γ W (runS cf (.par3 i j l a b e)) E σ H) : tE Γ W (ev cf a) σ H fun v1 H1 => tE Γ W (ev cf b) σ H1 fun v2 H2 => tE Γ W (ev cf e) σ H2 fun v3 H3 =>
    E.nx (((σ.set i (some v1)).set j (some v2)).set l (some v3)) H3 ∧ ∀ p, H3 p = none → E.nx (((σ.set i (some v1)).set j (some v2)).set l (some v3)) (upd H3 p (.tup [v1, v2, v3])) := by
  obtain ⟨B, c, rfl, rfl, hR, q⟩ := q
  refine nextM i (Many.nil hR) rfl q fun L1 c1 x v1 w1 e1 m1 hw1 q => sig (t := tE Γ W (ev cf b)) e1 (nextM j m1 hw1 q fun L2 c2 y v2 w2 e2 m2 hw2 q => sig (t := tE Γ W (ev cf e)) (e2.trans e1) (nextM l m2 hw2 q fun L3 c3 z v3 w3 e3 m3 hw3 q => ?_))
  have q := dec_of q
  have fin : ∀ c4 : Cf, c4.e = c3.e → c4.s = c3.s → c4.σ = c3.σ → Many Γ B c L3 [(i, x.1, x.2, v1), (j, y.1, y.2, v2), (l, z.1, z.2, v3)] c4 → E.nx (((c.σ.set i (some v1)).set j (some v2)).set l (some v3)) c4.H := fun c4 f1 f2 f3 m4 => by
    obtain ⟨R4, t4⟩ := m4.puts
    have q := q (c4.puts [(i, x.1, x.2, v1), (j, y.1, y.2, v2), (l, z.1, z.2, v3)]) (by subst hw3; show ((c4.e.set i _).set j _).set l _ = _; rw [f1]; rfl) (by subst hw3; exact f2) R4 t4
    have z : E.nx (((c4.σ.set i (some v1)).set j (some v2)).set l (some v3)) c4.H := q
    rw [f3, e3, e2, e1] at z
    exact z
  exact ⟨fin c3 rfl rfl rfl m3, fun p hp => fin { c3 with H := upd c3.H p (.tup [v1, v2, v3]) } rfl rfl rfl (m3.also hp _)⟩
theorem app_end {i : Nat} {e : IL.E} (q : tS Γ W (runS cf (.app i e)) E σ H) : tDrop (tBM Γ.K "list" rAppend (tVar i) (tCons (tE Γ W (ev cf e)) tNil)) E σ H := by
  obtain ⟨B, c, rfl, rfl, hR, q⟩ := q
  obtain ⟨ds0, hd0, q⟩ := RunS.opt q
  obtain ⟨_, p0, vs0, s0, l0, _⟩ := cl_get hR hd0
  refine ⟨_, s0, .inl ⟨rfl, vs0, SqL.of l0⟩, oneS (P := fun x H2 => rAppend (.ref p0) [x] H2 fun _ H3 => E.nx c.σ H3) hR q fun c1 x v e1 R1 t1 P h => ?_⟩
  obtain ⟨ds, hd, h⟩ := RunS.opt h
  obtain ⟨hb, h⟩ := RunS.dec h
  obtain ⟨g1, p', vs, g2, g3, g4⟩ := cl_get R1 hd
  rw [e1, s0] at g2
  cases g2
  have gl := reps_len g4
  refine ⟨p0, vs, v, rfl, rfl, g3, by have := lim_le (Nat.le_of_lt hb); have := @lim_le lim (Nat.le_refl _); omega, ?_⟩
  obtain ⟨R2, t2⟩ := cell_set (d' := .lst (ds ++ [x.1])) (o := .lst (vs ++ [v])) R1 g1 (e1 ▸ s0) fun c' t e => ⟨_, by rw [e]; exact upd_same, reps_append (reps_tr t _ _ g4) (rs_one (rep_tr t _ _ P.1))⟩
  have := h { c1 with e := c1.e.set i (.cell (.lst (ds ++ [x.1]))), H := upd c1.H p0 (.lst (vs ++ [v])) } rfl rfl R2 t2
  rw [← e1]; exact this
def rSetA : TSet := fun o i v H Q => rSetL o i v H Q ∨ rSetD o i v H Q
theorem set_any (hu : X.A.units + 1 < cLine) : PSet X rSetA := fun pins s σ H o i v ov iv u Q I r1 r2 r3 h => h.elim (set_list pins s σ H o i v ov iv u Q I r1 r2 r3) (set_dict hu pins s σ H o i v ov iv u Q I r1 r2 r3)
theorem zip_any {ks : List Key} : ∀ {vs : List V} {k : Key}, ks.length = vs.length → (((ks.zip vs).any fun kv => decide (kv.1 = k)) = ks.any fun x => decide (x = k)) := by
  induction ks with
  | nil => intro vs k h; rfl
  | cons y ks ih =>
    intro vs k h
    cases vs with
    | nil => cases h
    | cons v vs =>
      simp only [List.zip_cons_cons, List.any_cons]
      rw [ih (by simpa using h)]
theorem put_zip {K : PySem.W.Frag} {CB : Cb} {N : Addr → Prop} {M : List Addr} {H : Hp} {ks : List Key} {ds : List D} {vs : List V} {k : Key} {d : D} {v : V} (hl : ks.length = ds.length) (h : reps K CB N M H ds vs) (hv : rep K CB N M H d v) :
    ∃ vs', putK (ks.zip vs) k v = (dctPut ks ds k d).1.zip vs' ∧ reps K CB N M H (dctPut ks ds k d).2 vs' ∧ (dctPut ks ds k d).1.length = (dctPut ks ds k d).2.length := by
  have hl2 : ks.length = vs.length := hl.trans (reps_len h).symm
  unfold putK dctPut
  rw [zip_any hl2]
  by_cases e : (ks.any fun x => decide (x = k)) = true
  · rw [if_pos e, if_pos e]
    refine ⟨(ks.zip vs).map fun p => if p.1 = k then v else p.2, ?_, ?_, by simp [hl]⟩
    · clear e h
      induction ks generalizing vs ds with
      | nil => rfl
      | cons y ks ih =>
        cases vs with
        | nil => cases hl2
        | cons u vs =>
          cases ds with
          | nil => cases hl
          | cons d' ds =>
            simp only [List.zip_cons_cons, List.map_cons]
            rw [ih (by simpa using hl) (by simpa using hl2)]
            by_cases z : y = k
            · simp [z]
            · simp [z]
    · clear e
      induction ks generalizing vs ds with
      | nil => show reps K CB N M H [] []; unfold reps; rfl
      | cons y ks ih =>
        cases ds with
        | nil => cases hl
        | cons d' ds =>
          unfold reps at h
          obtain ⟨u, us, rfl, h1, h2⟩ := h
          simp only [List.zip_cons_cons, List.map_cons]
          unfold reps
          refine ⟨_, _, rfl, ?_, ih (by simpa using hl) h2 (by simpa using hl2)⟩
          by_cases z : y = k
          · rw [if_pos z, if_pos z]; exact hv
          · rw [if_neg z, if_neg z]; exact h1
  · rw [if_neg e, if_neg e]
    refine ⟨vs ++ [v], ?_, reps_append h (by unfold reps; exact ⟨v, [], rfl, hv, by unfold reps; rfl⟩), by simp [hl]⟩
    rw [List.zip_append hl2]; rfl
theorem seti_end {i : Nat} {ix e : IL.E} (q : tS Γ W (runS cf (.seti i ix e)) E σ H) : tAsg (tE Γ W (ev cf e)) (gSub (tVar i) (tE Γ W (ev cf ix)) rSetA) E σ H := by
  obtain ⟨B, c, rfl, rfl, hR, q⟩ := q
  refine oneS hR q fun c1 x v e1 R1 t1 p1 h => ?_
  obtain ⟨d0, hd0, h⟩ := RunS.opt h
  obtain ⟨v0, s0, _⟩ := R1.get hd0
  rw [e1] at s0
  refine ⟨v0, s0, sig (t := tE Γ W (ev cf ix)) e1 (oneS R1 h fun c2 y u e2 R2 t2 p2 h => ?_)⟩
  have pv := rep_tr t2 _ _ p1.1
  rw [show c.σ = c2.σ from (e2.trans e1).symm]
  rw [← e1, ← e2] at s0
  split at h
  · rename_i ds he
    obtain ⟨kk, hk, h⟩ := RunS.opt h
    obtain ⟨j, hj, h⟩ := RunS.opt h
    obtain ⟨p, g1, _, _, _, vs, g2, g3⟩ := R2.cell i _ he
    rw [s0] at g1
    cases g1
    obtain ⟨R3, t3⟩ := cell_set (d' := .lst (ds.set j x.1)) (o := .lst (vs.set j v)) R2 he s0 fun c' t e => ⟨_, by rw [e]; exact upd_same, reps_set (reps_tr t _ _ g3) (rep_tr t _ _ pv)⟩
    exact .inl ⟨p, vs, kk, j, rfl, int_rep hk p2.1, g2, by rw [reps_len g3]; exact hj, h { c2 with e := c2.e.set i (.cell (.lst (ds.set j x.1))), H := upd c2.H p (.lst (vs.set j v)) } rfl rfl R3 t3⟩
  · rename_i ks ds he
    obtain ⟨kk, hk, h⟩ := RunS.opt h
    obtain ⟨hb, h⟩ := RunS.dec h
    obtain ⟨p, g1, _, _, _, vs, g2, gl, g3⟩ := R2.cell i _ he
    rw [s0] at g1
    cases g1
    obtain ⟨vs', z1, z2, z3⟩ := put_zip (k := kk) gl g3 pv
    obtain ⟨R3, t3⟩ := cell_set (d' := .dct (dctPut ks ds kk x.1).1 (dctPut ks ds kk x.1).2) (o := .dK (putK (ks.zip vs) kk v)) R2 he s0 fun c' t e => ⟨vs', by rw [e, z1]; exact upd_same, z3, reps_tr t _ _ z2⟩
    refine .inr ⟨p, _, rfl, .inl ⟨ks.zip vs, kk, g2, key_rep p2.1 hk, ?_, rfl⟩, h { c2 with e := c2.e.set i (.cell (.dct (dctPut ks ds kk x.1).1 (dctPut ks ds kk x.1).2)), H := upd c2.H p (.dK (putK (ks.zip vs) kk v)) } rfl rfl R3 t3⟩
    have := @lim_le lim (Nat.le_refl _)
    rw [List.length_zip, gl, reps_len g3]
    omega
  · rename_i n he
    split at h
    · rename_i ds hs
      obtain ⟨kk, hk, h⟩ := RunS.opt h
      obtain ⟨j, hj, h⟩ := RunS.opt h
      obtain ⟨v1, g1, a, rfl, g2⟩ := R2.val i _ he
      rw [s0] at g1
      cases g1
      obtain ⟨a', g3, vs, g4, g5⟩ := R2.sto n _ hs
      rw [g2] at g3; cases g3
      have t3 : TrC B c2 B { c2 with s := c2.s.set n (.box (ds.set j x.1)), H := upd c2.H a (.lst (vs.set j v)) } := dirty_tr R2 (.inr (List.mem_of_getElem? g2)) rfl (fun _ h => h) rfl
      obtain ⟨R3, _⟩ := R2.boxUpd (ds := ds.set j x.1) (o := .lst (vs.set j v)) g2 hs ⟨_, upd_same, reps_set (reps_tr t3 _ _ g5) (rep_tr t3 _ _ pv)⟩
      exact .inl ⟨a, vs, kk, j, rfl, int_rep hk p2.1, g4, by rw [reps_len g5]; exact hj, h { c2 with s := c2.s.set n (.box (ds.set j x.1)), H := upd c2.H a (.lst (vs.set j v)) } rfl rfl R3 t3⟩
    · exact h.elim
  · exact h.elim
theorem aug_end {i : Nat} {e : IL.E} (q : tS Γ W (runS cf (.aug i e)) E σ H) : tAug i (tE Γ W (ev cf e)) (ipI fun i j => i + j) E σ H := by
  obtain ⟨B, c, rfl, rfl, hR, q⟩ := q
  obtain ⟨d0, hd0, q⟩ := RunS.opt q
  obtain ⟨v0, s0, _⟩ := hR.get hd0
  refine ⟨v0, s0, oneS hR q fun c1 x v e1 R1 t1 p1 h => ?_⟩
  obtain ⟨d1, hd1, h⟩ := RunS.opt h
  obtain ⟨v1, s1, g1⟩ := R1.get hd1
  rw [e1, s0] at s1
  cases s1
  obtain ⟨a, ha, h⟩ := RunS.opt h
  obtain ⟨b, hb, h⟩ := RunS.opt h
  have h := dec_of h
  have hv : v0 = V.int a := by
    cases d1 <;> simp [intOf] at ha
    subst ha; exact g1
  refine ⟨a, b, hv, int_rep hb p1.1, ?_⟩
  have hs : ∀ d', Sl.val (.int (a + b)) ≠ .cell d' := fun _ z => nomatch z
  have := h (c1.put i (.val (.int (a + b))) (some (.int (a + b)))) rfl rfl (R1.putVal hs fun d' z => by cases z; exact ⟨_, rfl, rfl⟩) (putVal_tr hs)
  rw [← e1]; exact this
theorem ret_end {e : IL.E} (q : tS Γ W (runS cf (.ret e)) E σ H) : tRet (tE Γ W (ev cf e)) E σ H := by
  obtain ⟨B, c, rfl, rfl, hR, q⟩ := q
  exact oneS hR q fun c1 x v e1 R1 t1 P h => h c1 rfl rfl R1 .refl v P
theorem seq_two {s : S} {ss : Ss} (q : tS Γ W (runs cf (.cons s ss)) E σ H) : tSeq (tS Γ W (runS cf s)) (tS Γ W (runs cf ss)) E σ H := by
  obtain ⟨B, c, rfl, rfl, hR, q⟩ := q
  refine ⟨B, c, rfl, rfl, hR, (RunS.bind q).imp fun fl c1 R1 t1 h => ?_⟩
  cases fl with
  | nx => exact ⟨B, c1, rfl, rfl, R1, h⟩
  | rt d fr => exact h c1 rfl rfl R1 .refl
theorem test_one {t : IL.T} {f : Bool → Wd → R IL.Flow} {K : IL.Flow → Cf → Prop} (hR : Rel Γ B c) (h : RunS Γ B c W ((evT cf t c.w).bind f) K) {P : Bool → Hp → Prop}
    (G : ∀ c' b, c'.σ = c.σ → Rel Γ B c' → TrC B c B c' → RunS Γ B c' W (f b c'.w) K → P b c'.H) : tT Γ W (evT cf t) c.σ c.H P :=
  ⟨B, c, rfl, rfl, hR, (RunS.bindE h).imp fun b c' e R t h1 => G c' b e R t h1⟩
theorem ite_end {t : IL.T} {a b : Ss} (q : tS Γ W (runS cf (.ite t a b)) E σ H) : tIfS (tT Γ W (evT cf t)) (tS Γ W (runs cf a)) (tS Γ W (runs cf b)) E σ H := by
  obtain ⟨B, c, rfl, rfl, hR, q⟩ := q
  refine test_one hR q fun c1 bb e1 R1 t1 h => ?_
  cases bb with
  | true => exact ⟨B, c1, e1, rfl, R1, h⟩
  | false => exact ⟨B, c1, e1, rfl, R1, h⟩
theorem wh_end {t : IL.T} {b : Ss} (q : tS Γ W (runS cf (.wh t b)) E σ H) : tWhile (tT Γ W (evT cf t)) (tS Γ W (runs cf b)) E σ H := by
  obtain ⟨B, c, rfl, rfl, hR, q⟩ := q
  refine ⟨fun m σ H => ∃ c', c'.σ = σ ∧ c'.H = H ∧ Rel Γ B c' ∧ RunS Γ B c' W (whL (fun w => evT cf t w) (fun w => runs cf b w) m c'.w) (KS Γ B E), ⟨100000, c, rfl, rfl, hR, q⟩, ?_⟩
  rintro m σ H ⟨c', rfl, rfl, R', q'⟩
  cases m with
  | zero => exact q'.elim
  | succ m =>
    refine test_one R' q' fun c1 bb e1 R1 t1 h => ?_
    cases bb with
    | false => rw [← e1]; exact h c1 rfl rfl R1 .refl
    | true =>
      refine ⟨fun σ H => ∃ c', c'.σ = σ ∧ c'.H = H ∧ Rel Γ B c' ∧ RunS Γ B c' W (whL (fun w => evT cf t w) (fun w => runs cf b w) m c'.w) (KS Γ B E), fun σ' H' n => ⟨m, Nat.lt_succ_self _, n⟩, B, c1, e1, rfl, R1, ?_⟩
      have h : RunS Γ B c1 W ((runs cf b c1.w).bind fun fl w => match fl with | .nx => whL (fun w => evT cf t w) (fun w => runs cf b w) m w | .rt d fr => .ok (.rt d fr) w) (KS Γ B E) := h
      refine (RunS.bind h).imp fun fl c2 R2 t2 h => ?_
      cases fl with
      | nx => exact ⟨c2, rfl, rfl, R2, h⟩
      | rt d fr => exact h c2 rfl rfl R2 .refl
theorem for_end {tg : Tg} {it : IL.It} {b : Ss} (q : tS Γ W (runS cf (.for_ tg it b)) E σ H) : tFor (tI Γ W (evI cf it)) (gRd Γ tg) (tS Γ W (runs cf b)) E σ H := by
  obtain ⟨B, c0, rfl, rfl, hR, q⟩ := q
  refine ⟨B, c0, rfl, rfl, hR, (RunS.bindE q).imp fun ds c e0 R0 t0 h J S => ?_⟩
  generalize hf : (fun d w => (R.opt (asgT tg d w) w).bind fun w' _ => runs cf b w') = f at h
  refine ⟨fun i m σ H => m = ds.length - i ∧ i ≤ ds.length ∧ ∃ c', c'.σ = σ ∧ c'.H = H ∧ Rel Γ B c' ∧ TrC B c B c' ∧ RunS Γ B c' W (forL f (ds.drop i) c'.w) (KS Γ B E), ⟨ds.length, by simp, Nat.zero_le _, c, e0, rfl, R0, .refl, h⟩, ?_⟩
  rintro i m σ H ⟨rfl, hi, c', rfl, rfl, R', t', h'⟩
  have S' := S B c' R' t'
  by_cases hlt : i < ds.length
  · have hdr : ds.drop i = ds[i] :: ds.drop (i + 1) := List.drop_eq_getElem_cons hlt
    rw [hdr] at h'
    refine .inr ⟨S'.go i hlt, fun σ H => ∃ c', c'.σ = σ ∧ c'.H = H ∧ Rel Γ B c' ∧ TrC B c B c' ∧ RunS Γ B c' W (forL f (ds.drop (i + 1)) c'.w) (KS Γ B E), fun σ' H' n => ⟨ds.length - (i + 1), by omega, rfl, hlt, n⟩, fun x H' y => ?_⟩
    obtain ⟨c1, y1, y2, y3, rfl, R1, t1, hx⟩ := S'.yld i ds[i] (List.getElem?_eq_getElem hlt) x H' y
    have h1 : RunS Γ B c1 W ((f ds[i] c1.w).bind fun fl w => match fl with | .nx => forL f (ds.drop (i + 1)) w | .rt d fr => .ok (.rt d fr) w) (KS Γ B E) := by
      rw [show c1.w = c'.w from w_eq y1 y2]
      exact RunS.from h' t1
    have h1 := RunS.bind h1
    rw [← hf] at h1
    obtain ⟨w', ha, h1⟩ := RunS.opt h1
    refine ⟨B, c1, ds[i], w', y3, rfl, R1, hx, ha, fun c2 f1 f2 f3 f4 f5 R2 t2 => ⟨B, c2, rfl, rfl, R2, ?_⟩⟩
    rw [show c2.w = w' from w_eq f1 f2]
    refine (RunS.from h1 t2).imp fun fl c3 R3 t3 h => ?_
    cases fl with
    | nx => exact ⟨c3, rfl, rfl, R3, ((t'.trans t1).trans t2).trans t3, by rw [hf] at h; exact h⟩
    | rt d fr => exact h c3 rfl rfl R3 .refl
  · have ei : i = ds.length := by omega
    refine .inl ⟨S'.stop i (by omega), ?_⟩
    rw [List.drop_eq_nil_of_le (by omega)] at h'
    exact h' c' rfl rfl R' .refl
theorem sw_no {x : Str} {p : Pos} {v : Expr} {l : Nat} {env : Env} (h : swC env.scope x p v = false) (h2 : noSD v = true) : swapsWith v (some (.Name x p)) l env = pure false := by
  cases v <;> first | rfl | (simp [noSD] at h2; done) | skip
  rename_i elt gs s q
  unfold swapsWith
  have h : (isPl env.scope x && (p.line == q.line) && !(s.names.any fun (n, k) => n == x && (k == .local || k == .cell))) = false := h
  have hk : (env.kindOf x == some .local) = isPl env.scope x := by
    cases e : isPl env.scope x with
    | true => exact pl_kind e
    | false => exact pl_not e
  show pure _ = pure _
  congr 1
  rw [hk, Bool.and_assoc, Bool.and_assoc]
  rw [Bool.and_assoc] at h
  show (_ && (isPl env.scope x && (p.line == (Expr.pos (.ListComp elt gs s q)).line && _))) = false
  rw [show (Expr.pos (.ListComp elt gs s q)).line = q.line from rfl, h, Bool.and_false]
theorem sw_nc {v : Expr} {t : Option Expr} {l : Nat} {env : Env} (h : noComp v = true) : swapsWith v t l env = pure false := by
  cases v <;> first | rfl | (simp [noComp] at h; done)
theorem sw_sub {v o z : Expr} {p : Pos} {l : Nat} {env : Env} : swapsWith v (some (.Subscript o z p)) l env = pure false := by
  cases v <;> rfl
theorem sw_subS {v o z : Expr} {p : Pos} {l : Nat} {env : Env} : swapsWithSole [.Subscript o z p] v l env = pure false := by cases v <;> rfl
theorem ss_tup {v t : Expr} {env : Env} (h : isTup v = false) : swappedStores [t] v env = pure none := by
  cases v <;> first | (simp [isTup] at h; done) | (cases t <;> rfl)
theorem ss_sub {v o z : Expr} {p : Pos} {env : Env} : swappedStores [.Subscript o z p] v env = pure none := by
  cases v <;> rfl
theorem asg_sub {o z : Expr} {p : Pos} {env : Env} (h : noSlice z = true) : ∀ v, assign (.Subscript o z p) env v = (do
      let ov ← holding [v] (eval o env)
      let iv ← holding [v, ov] (eval z env)
      standAt p
      holding [v, ov, iv] (setItem ov iv v)
      release [v, ov, iv] []) := fun v => by
  cases z <;> first | rfl | (simp [noSlice] at h; done)
theorem sw_t {t v : Expr} {l : Nat} {env : Env} (h : noComp v = true) : swapsWithSole [t] v l env = pure false := sw_nc h
variable (hO : Own Γ g nm k) (hC : Calls Γ g nm k cf)
include hO hC
mutual
theorem snd_S : ∀ (s : S) {st : Stmt} {X : Cx} {W : WX}, CtS Γ g k X W → chkS nm X.N X.env.scope s st = true → PS X st (tS Γ W (runS cf s))
  | .set i e, st, X, W, hX, h => by
    unfold chkS at h
    split at h
    · rename_i x p v q hs
      have := asSet_eq hs
      subst this
      simp only [Bool.and_eq_true] at h
      obtain ⟨⟨⟨h1, h2⟩, h3⟩, h4⟩ := h
      obtain ⟨n1, n2, n3⟩ := nm_at hX h1
      by_cases hsw : swC X.env.scope x p v = true
      · rw [if_pos hsw] at h4
        split at h4
        · rename_i own g' it c e'
          have hc := h2
          unfold chkE at hc
          split at hc
          · rename_i elt tg iter ifs scope hx
            obtain ⟨p', rfl⟩ := asLC_eq hx
            simp only [Bool.and_eq_true] at hc
            obtain ⟨⟨⟨⟨⟨⟨⟨h1, h2⟩, h3⟩, h4⟩, h5⟩, h6⟩, h7⟩, h8⟩ := hc
            have ho := of_decide_eq_true h2
            unfold swC at hsw
            simp only [Bool.and_eq_true, Bool.not_eq_true'] at hsw
            refine ps_imp (ps_setLc hX.calm hX.nd n1 (pl_look hsw.1.1) (sw_true hX.kind (pl_look hsw.1.1) hsw.1.2 hsw.2) (snd_I hO hC it hX.toCt h5) (blkOk_by h1) (fun s H C cl fp => pg_rd (Γ := Γ) (X := X.blk s H scope (compEnvC scope cl C X.env) fp) hX.calm hX.nd lc_blk hX.at_.k rfl g' h4)
              (fun s H C cl fp => snd_C hO hC c (ct_blk hX.toCt) h6) (fun s H C cl fp => snd_E hO hC e' (ct_blk hX.toCt) h7) (noSet_folded h8)) fun E σ H q => ?_
            rw [ho]
            exact comp_end (fun j hj => by simpa using List.all_eq_true.mp h3 j hj) (set_end q)
          · cases hc
        · cases h4
      · exact ps_imp (ps_set hX.nd n1 n2 (snd_E hO hC e hX.toCt h2) (sw_no (by simpa using hsw) h3) n3) fun E σ H q => set_end q
    · cases h
  | .setT tg e, st, X, W, hX, h => by
    unfold chkS at h
    split at h
    · rename_i t v q hs
      have := asAsg_eq hs
      subst this
      simp only [Bool.and_eq_true, Bool.not_eq_true'] at h
      obtain ⟨⟨⟨⟨h1, h2⟩, h3⟩, h4⟩, h5⟩ := h
      exact ps_imp (ps_asg (snd_E hO hC e hX.toCt h4) (pg_rd (Γ := Γ) hX.calm hX.nd hX.lc hX.at_.k rfl tg h3) (sw_t h5) (ss_tup h2) (by rw [asg_cons h3]; rfl)) fun E σ H q => setT_end q
    · cases h
  | .par2 i j a b, st, X, W, hX, h => by
    unfold chkS at h
    split at h
    · rename_i x px y py u v hs
      obtain ⟨k1, p1, k2, p2, q, rfl⟩ := asPar2_eq hs
      simp only [Bool.and_eq_true] at h
      obtain ⟨⟨⟨⟨⟨⟨⟨h1, h2⟩, h3⟩, h4⟩, h5⟩, h6⟩, h7⟩, h8⟩ := h
      obtain ⟨n1, n2, n3⟩ := nm_at hX h1
      obtain ⟨m1, m2, m3⟩ := nm_at hX h2
      have hij := of_decide_eq_true h3
      have hxy : x ≠ y := fun e => by
        subst e
        exact hij ((List.getElem?_inj (List.getElem?_eq_some_iff.mp n1).1 hX.nd).mp (n1.trans m1.symm))
      have pa := pa_cons (snd_E hO hC a hX.toCt h4) (pa_cons (snd_E hO hC b hX.toCt h5) pa_nil (star_cons h7)) (star_cons h6)
      have tupCase : ((isPl X.env.scope x && isPl X.env.scope y && (py.line == px.line)) = true → [u, v].all (foldedForSure 8) = true) → PS X (.Assign [.Tuple [.Name x px, .Name y py] k1 p1] (.Tuple [u, v] k2 p2) q) (tS Γ W (runS cf (.par2 i j a b))) := fun hm => by
        have hg := pg_tup (pos := p1) (k := k1) (n := 2) hX.calm (pgs_cons (pg_name (pos := px) hX.nd n1 n2 n3) (pgs_cons (pg_name (pos := py) hX.nd m1 m2 m3) pgs_nil)) rfl rfl
        rw [hX.at_.k] at hg
        refine ps_imp (ps_asg (pe_tup pa) hg rfl (sw2_none hX.kind hm) rfl) fun E σ H q => ?_
        obtain ⟨B, c, e1, e2, hR, hq⟩ := par2_end q
        refine ⟨B, c, e1, e2, hR, hq.imp fun x c1 f1 R1 t1 z v1 P1 => ?_⟩
        obtain ⟨B, c, e1, e2, hR, hq⟩ := z v1 P1
        refine ⟨B, c, e1, e2, hR, hq.imp fun y c2 f2 R2 t2 z v2 P2 => ⟨lim_le (by show 2 ≤ lim; decide), fun p hp => ⟨p, [v1, v2], rfl, SqT.of upd_same, rfl, v1, [v2], rfl, v2, [], rfl, rfl, (z v2 P2).2 p hp⟩⟩⟩
      unfold parMode at h8
      split at h8
      · rename_i hl
        split at h8
        · rename_i hf
          exact tupCase fun _ => hf
        · rename_i hf
          split at h8
          · cases h8
          · rename_i hcn
            simp only [Bool.and_eq_true] at hl
            refine ps_imp (ps_par hX.calm hX.nd n1 m1 hij (pl_look hl.1.1) (pl_look hl.1.2) pa (sw2_some hX.kind hl.1.1 hl.1.2 hl.2 hxy h6 h7 (by simpa using hf) (by simpa using hcn))) fun E σ H q => ?_
            obtain ⟨B, c, e1, e2, hR, hq⟩ := par2_end q
            refine ⟨B, c, e1, e2, hR, hq.imp fun x c1 f1 R1 t1 z v1 P1 => ?_⟩
            obtain ⟨B, c, e1, e2, hR, hq⟩ := z v1 P1
            exact ⟨B, c, e1, e2, hR, hq.imp fun y c2 f2 R2 t2 z v2 P2 => ⟨v1, v2, rfl, (z v2 P2).1⟩⟩
      · rename_i hl
        exact tupCase fun z => absurd z hl
    · cases h
  | .par3 i j l a b e, st, X, W, hX, h => by
    unfold chkS at h
    split at h
    · rename_i x px y py z pz u v w hs
      obtain ⟨k1, p1, k2, p2, q, rfl⟩ := asPar3_eq hs
      simp only [Bool.and_eq_true] at h
      obtain ⟨⟨⟨⟨⟨⟨⟨⟨⟨⟨⟨⟨h1, h2⟩, h2'⟩, h3⟩, h3'⟩, h3''⟩, h4⟩, h5⟩, h5'⟩, h6⟩, h7⟩, h7'⟩, h8⟩ := h
      obtain ⟨n1, n2, n3⟩ := nm_at hX h1
      obtain ⟨m1, m2, m3⟩ := nm_at hX h2
      obtain ⟨l1, l2, l3⟩ := nm_at hX h2'
      have hij := of_decide_eq_true h3
      have hil := of_decide_eq_true h3'
      have hjl := of_decide_eq_true h3''
      have ne : ∀ {i j : Nat} {x y : Str}, i ≠ j → X.N[i]? = some x → X.N[j]? = some y → x ≠ y := fun hij n1 m1 e => by
        subst e
        exact hij ((List.getElem?_inj (List.getElem?_eq_some_iff.mp n1).1 hX.nd).mp (n1.trans m1.symm))
      have pa := pa_cons (snd_E hO hC a hX.toCt h4) (pa_cons (snd_E hO hC b hX.toCt h5) (pa_cons (snd_E hO hC e hX.toCt h5') pa_nil (star_cons h7')) (star_cons h7)) (star_cons h6)
      have tupCase : ((isPl X.env.scope x && isPl X.env.scope y && isPl X.env.scope z && (py.line == px.line) && (pz.line == px.line)) = true → [u, v, w].all (foldedForSure 8) = true) → PS X (.Assign [.Tuple [.Name x px, .Name y py, .Name z pz] k1 p1] (.Tuple [u, v, w] k2 p2) q) (tS Γ W (runS cf (.par3 i j l a b e))) := fun hm => by
        have hg := pg_tup (pos := p1) (k := k1) (n := 3) hX.calm (pgs_cons (pg_name (pos := px) hX.nd n1 n2 n3) (pgs_cons (pg_name (pos := py) hX.nd m1 m2 m3) (pgs_cons (pg_name (pos := pz) hX.nd l1 l2 l3) pgs_nil))) rfl rfl
        rw [hX.at_.k] at hg
        refine ps_imp (ps_asg (pe_tup pa) hg rfl (sw3_none hX.kind hm) rfl) fun E σ H q => ?_
        obtain ⟨B, c, e1, e2, hR, hq⟩ := par3_end q
        refine ⟨B, c, e1, e2, hR, hq.imp fun x c1 f1 R1 t1 z v1 P1 => ?_⟩
        obtain ⟨B, c, e1, e2, hR, hq⟩ := z v1 P1
        refine ⟨B, c, e1, e2, hR, hq.imp fun y c2 f2 R2 t2 z v2 P2 => ?_⟩
        obtain ⟨B, c, e1, e2, hR, hq⟩ := z v2 P2
        refine ⟨B, c, e1, e2, hR, hq.imp fun y c2 f2 R2 t2 z v3 P3 => ⟨lim_le (by show 3 ≤ lim; decide), fun p hp => ⟨p, [v1, v2, v3], rfl, SqT.of upd_same, rfl, v1, [v2, v3], rfl, v2, [v3], rfl, v3, [], rfl, rfl, (z v3 P3).2 p hp⟩⟩⟩
      unfold parMode at h8
      split at h8
      · rename_i hl
        split at h8
        · rename_i hf
          exact tupCase fun _ => hf
        · rename_i hf
          split at h8
          · cases h8
          · rename_i hcn
            simp only [Bool.and_eq_true] at hl
            obtain ⟨⟨⟨⟨a1, a2⟩, a3⟩, a4⟩, a5⟩ := hl
            refine ps_imp (ps_par3 hX.calm hX.nd n1 m1 l1 hij hil hjl (pl_look a1) (pl_look a2) (pl_look a3) pa (sw3_some hX.kind a1 a2 a3 a4 a5 (ne hij n1 m1) (ne hil n1 l1) (ne hjl m1 l1) h6 h7 h7' (by simpa using hf) (by simpa using hcn))) fun E σ H q => ?_
            obtain ⟨B, c, e1, e2, hR, hq⟩ := par3_end q
            refine ⟨B, c, e1, e2, hR, hq.imp fun x c1 f1 R1 t1 z v1 P1 => ?_⟩
            obtain ⟨B, c, e1, e2, hR, hq⟩ := z v1 P1
            refine ⟨B, c, e1, e2, hR, hq.imp fun y c2 f2 R2 t2 z v2 P2 => ?_⟩
            obtain ⟨B, c, e1, e2, hR, hq⟩ := z v2 P2
            exact ⟨B, c, e1, e2, hR, hq.imp fun y c2 f2 R2 t2 z v3 P3 => ⟨v1, v2, v3, rfl, (z v3 P3).1⟩⟩
      · rename_i hl
        exact tupCase fun z => absurd z hl
    · cases h
  | .exp e, st, X, W, hX, h => by
    unfold chkS at h
    split at h
    · rename_i v hs
      obtain ⟨q, rfl⟩ := asExp_eq hs
      rw [Bool.and_eq_true] at h
      refine ps_imp (ps_expr (snd_E hO hC e hX.toCt h.1) (sw_nc h.2)) fun E σ H q => ?_
      obtain ⟨B, c, rfl, rfl, hR, q⟩ := q
      refine oneS (P := fun _ H1 => E.nx c.σ H1) hR q fun c1 x v e1 R1 t1 P h => ?_
      rw [← e1]; exact h c1 rfl rfl R1 .refl
    · cases h
  | .app i e, st, X, W, hX, h => by
    unfold chkS at h
    split at h
    · rename_i v hs
      obtain ⟨q, rfl⟩ := asExp_eq hs
      split at h
      · rename_i o y hm
        obtain ⟨a, p, rfl, hns⟩ := asM1_eq hm
        simp only [Bool.and_eq_true] at h
        obtain ⟨⟨h1, h2⟩, h3⟩ := h
        have hh := pe_bm PySem.F.plainAttrs_list PySem.F.slot_list_append PySem.F.type_list_append mt_append (pe_name h1) (pa_cons (snd_E hO hC e hX.toCt h2) pa_nil (star_cons hns)) (base_name h1) (few_one hns) h3 (star_cons hns) rfl
        rw [hX.at_.k] at hh
        exact ps_imp (ps_expr hh rfl) fun E σ H q => app_end q
      · cases h
    · cases h
  | .seti i ix e, st, X, W, hX, h => by
    unfold chkS at h
    split at h
    · rename_i o z v hs
      obtain ⟨p, q, rfl⟩ := asSetI_eq hs
      simp only [Bool.and_eq_true] at h
      obtain ⟨⟨⟨⟨h1, h2⟩, h3⟩, h4⟩, h5⟩ := h
      have hu : X.A.units + 1 < cLine := by have := hX.room.un; omega
      exact ps_imp (ps_asg (snd_E hO hC e hX.toCt h3) (pg_sub (pe_name h1) (snd_E hO hC ix hX.toCt h2) (set_any hu) (asg_sub h4)) sw_subS ss_sub rfl) fun E σ H q => seti_end q
    · cases h
  | .aug i e, st, X, W, hX, h => by
    unfold chkS at h
    split at h
    · rename_i x v hs
      obtain ⟨p, q, rfl⟩ := asAug_eq hs
      rw [Bool.and_eq_true] at h
      obtain ⟨n1, n2, n3⟩ := nm_at hX h.1
      exact ps_imp (ps_aug hX.nd n1 n2 (snd_E hO hC e hX.toCt h.2) ip_add n3) fun E σ H q => aug_end q
    · cases h
  | .ret e, st, X, W, hX, h => by
    unfold chkS at h
    split at h
    · rename_i v hs
      obtain ⟨q, rfl⟩ := asRet_eq hs
      exact ps_imp (ps_ret (snd_E hO hC e hX.toCt h)) fun E σ H q => ret_end q
    · cases h
  | .retN, st, X, W, hX, h => by
    unfold chkS at h
    split at h
    · rename_i hs
      obtain ⟨q, rfl⟩ := asRet_eq hs
      refine ps_imp ps_retN fun E σ H q => ?_
      obtain ⟨B, c, rfl, rfl, hR, q⟩ := q
      exact q c rfl rfl hR .refl .non ⟨rfl, fun z => nomatch z⟩
    · cases h
  | .ite c a b, st, X, W, hX, h => by
    unfold chkS at h
    split at h
    · rename_i t x y hs
      obtain ⟨q, rfl⟩ := asIfS_eq hs
      simp only [Bool.and_eq_true] at h
      exact ps_imp (ps_if (snd_T hO hC c hX.toCt h.1.1) (snd_Ss a hX h.1.2) (snd_Ss b hX h.2)) fun E σ H q => ite_end q
    · cases h
  | .for_ tg it b, st, X, W, hX, h => by
    unfold chkS at h
    split at h
    · rename_i t i x hs
      obtain ⟨q, rfl⟩ := asFor_eq hs
      simp only [Bool.and_eq_true] at h
      obtain ⟨⟨⟨h1, h2⟩, h3⟩, h4⟩ := h
      exact ps_imp (ps_for hX.own hX.calm (snd_I hO hC it hX.toCt h2) (pg_rd (Γ := Γ) hX.calm hX.nd hX.lc hX.at_.k rfl tg h1) (snd_Ss b hX h3) (noSet_folded h4)) fun E σ H q => for_end q
    · cases h
  | .wh c b, st, X, W, hX, h => by
    unfold chkS at h
    split at h
    · rename_i t x hs
      obtain ⟨q, rfl⟩ := asWh_eq hs
      rw [Bool.and_eq_true] at h
      exact ps_imp (ps_while hX.own (snd_T hO hC c hX.toCt h.1) (snd_Ss b hX h.2)) fun E σ H q => wh_end q
    · cases h
  | .never, st, X, W, hX, h => ⟨fun pins s σ H D I q => by
    obtain ⟨B, c, _, _, _, q⟩ := q
    exact q.elim⟩
  | .raise cn e, st, X, W, hX, h => by
    unfold chkS at h
    split at h
    · rename_i x v hs
      obtain ⟨p, q, r, rfl⟩ := asRaise_eq hs
      simp only [Bool.and_eq_true] at h
      obtain ⟨⟨⟨⟨h1, h2⟩, h3⟩, h4⟩, h5⟩ := h
      split at h1
      · rename_i y fld hxs
        have := of_decide_eq_true h1
        subst this
        exact raise_ok hO hX hxs (gl_of h4) (by unfold okName at h5; rw [Bool.and_eq_true, Bool.not_eq_true'] at h5; exact h5.1) h3 (snd_E hO hC e hX.toCt h2)
      · cases h1
    · cases h
  | .raise0 cn, st, X, W, hX, h => by
    unfold chkS at h
    cases h
  | .try_ b hs, st, X, W, hX, h => by
    unfold chkS at h
    split at h
    · rename_i x es hst
      obtain ⟨p, rfl⟩ := asTry_eq hst
      simp only [Bool.and_eq_true] at h
      obtain ⟨⟨h1, h2⟩, h3⟩ := h
      have hb : ∀ (W' : WX) (pn : List (Addr × Obj)) (xe : Value → Shared → Prop), Takes (X.tr pn xe) W' → PassesOwn (model X.prog X.w) X.A X.env xe → PSs (X.tr pn xe) x (tS Γ W' (runs cf b)) := fun W' pn xe tk own => snd_Ss b (ct_tr hX tk own) h1
      have many : (hs.all fun h => h.at_.isNone) = true → hs ≠ [] → PS X (.Try x es [] [] p) (tS Γ W (runS cf (.try_ b hs))) := fun ha hne => try_many hO hX h2 ha hne hb
      cases hs with
      | nil => cases h3
      | cons h0 r =>
        cases r with
        | cons h1' r' => exact many h3 (by simp)
        | nil =>
          cases e : h0.at_ with
          | none => exact many (by rw [List.all_cons, e]; rfl) (by simp)
          | some i =>
            cases es with
            | nil => cases h2
            | cons e0 er =>
              have h2 : (chkH nm X.N X.env.scope h0 e0 && chkHs nm X.N X.env.scope [] er) = true := h2
              rw [Bool.and_eq_true] at h2
              cases er with
              | nil => exact try_as hO hX h2.1 e hb
              | cons _ _ => cases h2.2
    · cases h
  | .done a b, st, X, W, hX, h => by
    unfold chkS at h
    cases h
theorem snd_Ss : ∀ (ss : Ss) {sts : List Stmt} {X : Cx} {W : WX}, CtS Γ g k X W → chkSs nm X.N X.env.scope ss sts = true → PSs X sts (tS Γ W (runs cf ss))
  | .nil, sts, X, W, hX, h => by
    unfold chkSs at h
    split at h
    · refine pss_imp pss_nil fun E σ H q => ?_
      obtain ⟨B, c, rfl, rfl, hR, q⟩ := q
      exact q c rfl rfl hR .refl
    · cases h
  | .cons s ss, sts, X, W, hX, h => by
    unfold chkSs at h
    split at h
    · rw [Bool.and_eq_true] at h
      exact pss_imp (pss_cons (snd_S s hX h.1) (snd_Ss ss hX h.2)) fun E σ H q => seq_two q
    · cases h
end
end
end IL

set_option Elab.async false
set_option linter.all false
set_option maxRecDepth 100000
set_option maxHeartbeats 4000000
/-! IL: defs. -/
namespace IL
open PySem L2
section
variable {Γ : Gm} {g : Pg} {nm : Nm} {k : Nat} {cf : Nat → List D → List Ob → CR} {X : Cx} {W : WX} {B B' : Bs} {c c0 c1 c2 : Cf} {σ : L2.St} {H : Hp} {Q : VK} {x : Expr} {d : D} {v : V} {fr : Bool} {E : Ends} {L : List Addr}
/-- a def's promise from its body, where no repr is under way -/
theorem fnG_of {CX : CXT} {P : Program} {w : World} {K : PySem.W.Frag} {mg : Str → Option Value} {base : Heap} {j : Nat} {x : Str} {st : Stmt} {f : Addr} {fd : FuncData} {N ps : List Str} {sp : Sp} (F : Fun K x x st f fd) (S : FnScope N ps (defScope st))
    (hlen : ∀ vs H Q E, sp vs H Q E → vs.length = ps.length)
    (body : ∀ (cdv : Value) (A : Around) (outer : List Env) (s : Shared) (H : Hp) (vs : List V) (Q : VK) (E : XK), A.guards = some [] → Room j (A.deeper (PyProof.Rows.envOfC x (defScope st) s.heap.objs.size f cdv)) → sp vs H Q E →
      ∃ t, PSs (cxOf CX P w K mg base N x (defScope st) f cdv A outer s H E) (defBody st) t ∧ t { nx := fun _ H' => Q .non H', rt := Q } (L2.start N vs) H) :
    FnG P w K mg base CX (j + 1) f fd ps sp := by
  obtain ⟨oc, od, kV, doc, pm, an, cdv, ct, osl, rfl, lk, hcd⟩ := F.ex
  refine ⟨hlen, fun A outer s H args us vs Q E hg hr e0 hb rv hsp => ?_⟩
  have inK : K.In s.heap := e0.mod.kin.keeps fun b o e => (e0.bs b o e).1
  have noLim : s.heap.NoLimit := e0.mod.nolimit.keeps fun b o e => (e0.bs b o e).1
  have hl := hlen _ _ _ _ hsp
  refine codeAny_call_function hr.depth (inK _ _ lk) rfl S.co S.gen rfl (PySem.W.codeRec_of inK hcd) (hb _ _ _ _ ?_)
  refine wpAny_newFunctionEnv_cells S.kind (fun y hy => ?_) fun env he s1 ic => ?_
  · obtain ⟨n, u⟩ := y
    exact (S.par n (List.of_mem_zip hy).1).imp id fun q => ⟨q, PySem.W.cellsFrom_some _ _ _ (.inl q)⟩
  · subst he
    refine ⟨noLim.keeps ic.toInCall.keep, codeAny_func ?_⟩
    obtain ⟨t, ht, hq⟩ := body cdv A outer s H vs Q E hg (hr.deeper _) hsp
    have I := inv_start (CX := CX) (E := E) S hr.hd e0 hl rv ic
    refine wpAny_mono (ht.run [] s1 (L2.start N vs) H _ I hq) (fun fl s' hs => ?_) fun e s' hs => hs
    cases fl with
    | ret u => exact let ⟨v, σ', H', J, r, q⟩ := hs; ⟨v, H', J.os, J.bare, J.base, J.hok, r, q⟩
    | next => exact let ⟨σ', H', J, q⟩ := hs; ⟨V.non, H', J.os, J.bare, J.base, J.hok, rfl, q⟩
    | brk => exact let ⟨_, _, _, q⟩ := hs; q.elim
    | cont => exact let ⟨_, _, _, q⟩ := hs; q.elim
/-- a def's scope, seen -/
def fsC (N ps : List Str) (sc : Scope) : Bool :=
  (match sc.kind with | .function => true | _ => false) && !sc.isCoroutine && !sc.isGenerator && decide N.Nodup && decide (N.take ps.length = ps) && (ps.all fun x => isLoc sc x) && (sc.names.all fun y => match y.2 with | .free => false | _ => true)
theorem fs_of {N ps : List Str} {sc : Scope} (h : fsC N ps sc = true) : FnScope N ps sc := by
  unfold fsC at h
  simp only [Bool.and_eq_true, Bool.not_eq_true', decide_eq_true_eq, List.all_eq_true] at h
  obtain ⟨⟨⟨⟨⟨⟨h1, h2⟩, h3⟩, h4⟩, h5⟩, h6⟩, h7⟩ := h
  refine ⟨?_, h2, h3, h4, h5, fun x hx => loc_of (h6 x hx), fun y hy e => ?_⟩
  · split at h1
    · assumption
    · cases h1
  · have := h7 y hy
    rw [e] at this; cases this
def strip : List Stmt → List Stmt
  | .Expr (.Constant (.str _) _ _) _ :: r => r
  | r => r
def defOk (nm : Nm) (d : Df) (st : Stmt) : Bool := fsC d.vars (d.vars.take d.np) (defScope st) && decide (d.np ≤ d.vars.length) && chkSs nm d.vars (defScope st) d.body (strip (defBody st))
theorem strip_ok {b : List Stmt} {t : TS} (h : PSs X (strip b) t) : ∃ t', PSs X b t' ∧ ∀ E σ H, t E σ H → t' E σ H := by
  unfold strip at h
  split at h
  · exact ⟨_, pss_cons ps_doc h, fun E σ H q => q⟩
  · exact ⟨_, h, fun _ _ _ q => q⟩
/-- no slots any more -/
def Cf.drop (c : Cf) : Cf := ⟨c.M, [], c.s, [], c.H⟩
theorem drop_tr : TrC B c B c.drop := Tr.weaken fun a _ _ n => ⟨n.1, n.2.1, noCell⟩
theorem Rel.drop (hR : Rel Γ B c) : Rel Γ B c.drop where
  len := rfl
  new := hR.new
  frame := hR.frame
  mpre := hR.mpre
  mnew := hR.mnew
  mnd := hR.mnd
  mlen := hR.mlen
  val := fun i d h => by simp [Cf.drop] at h
  cell := fun i d h => by simp [Cf.drop] at h
  apart := fun i j d d' p h => by simp [Cf.drop] at h
  sto := fun n ob h => by
    obtain ⟨a, h1, h2⟩ := hR.sto n ob h
    exact ⟨a, h1, ob_tr drop_tr rfl h2⟩
theorem Post.drop (P : Post Γ B c d fr v) : Post Γ B c.drop d fr v := by
  refine ⟨rep_tr drop_tr _ _ P.1, fun e => ?_⟩
  obtain ⟨p, h1, h2, h3, h4, h5, h6⟩ := P.2 e
  exact ⟨p, h1, h2, h3, h4, h5.drop, cell_tr drop_tr rfl h6⟩
/-- the parameters' slots -/
theorem start_rel {N : Addr → Prop} {M : List Addr} {s : List Ob} {ds : List D} {vs : List V} {n : Nat} {NN : List Str} (hR : Rel Γ ⟨N, H, M⟩ ⟨M, [], s, [], H⟩) (hd : Γ.Rs ⟨N, H, M⟩ ⟨M, [], s, [], H⟩ ds vs) (hn : NN.length - vs.length = n) :
    Rel Γ ⟨N, H, M⟩ ⟨M, ds.map Sl.val ++ List.replicate n .no, s, L2.start NN vs, H⟩ ∧ TrC ⟨N, H, M⟩ ⟨M, [], s, [], H⟩ ⟨N, H, M⟩ ⟨M, ds.map Sl.val ++ List.replicate n .no, s, L2.start NN vs, H⟩ := by
  have hl := reps_len hd
  have nc : ∀ (i : Nat) (d : D), (ds.map Sl.val ++ List.replicate n Sl.no)[i]? ≠ some (.cell d) := fun i d e => by
    by_cases hi : i < ds.length
    · rw [List.getElem?_append_left (by simpa using hi), List.getElem?_map, List.getElem?_eq_getElem hi] at e
      cases e
    · rw [List.getElem?_append_right (by simpa using hi), List.getElem?_replicate] at e
      split at e <;> cases e
  have t : TrC ⟨N, H, M⟩ ⟨M, [], s, [], H⟩ ⟨N, H, M⟩ ⟨M, ds.map Sl.val ++ List.replicate n .no, s, L2.start NN vs, H⟩ := Tr.weaken fun a _ _ m => ⟨m.1, m.2.1, fun ⟨i, d, e, _⟩ => nc i d e⟩
  refine ⟨⟨?_, hR.new, hR.frame, hR.mpre, hR.mnew, hR.mnd, hR.mlen, fun i d h => ?_, fun i d h => absurd h (nc i d), fun i j d d' p h => absurd h (nc i d), fun m ob h => ?_⟩, t⟩
  · show (ds.map Sl.val ++ _).length = (L2.start NN vs).length
    unfold L2.start
    simp [hl]
    omega
  · have h : (ds.map Sl.val ++ List.replicate n Sl.no)[i]? = some (.val d) := h
    by_cases hi : i < ds.length
    · rw [List.getElem?_append_left (by simpa using hi), List.getElem?_map, List.getElem?_eq_getElem hi] at h
      cases h
      obtain ⟨v, h1, h2⟩ := reps_get hd (List.getElem?_eq_getElem hi)
      refine ⟨v, ?_, rep_tr t _ _ h2⟩
      show (L2.start NN vs)[i]? = _
      unfold L2.start
      rw [List.getElem?_append_left (by simp; omega), List.getElem?_map, h1]; rfl
    · rw [List.getElem?_append_right (by simpa using hi), List.getElem?_replicate] at h
      split at h <;> cases h
  · obtain ⟨a, h1, h2⟩ := hR.sto m ob h
    exact ⟨a, h1, ob_tr t rfl h2⟩
/-- a def does as its text in the language says -/
theorem def_ok {tab : List Df} {n i : Nat} {df : Df} {st : Stmt} {fa : Addr} {fd : FuncData} (ht : tab[i]? = some df) (F : Fun Γ.K df.name df.name st fa fd) (hc : defOk nm df st = true) (hO : Own Γ g nm k) (hC : Calls Γ g nm k (callF tab n)) :
    FnG g.P g.w Γ.K g.mg g.base (L2.CX g.P g.w) (k + 1) fa fd (df.vars.take df.np) (spF Γ (callF tab (n + 1)) (df.vars.take df.np).length i) := by
  unfold defOk at hc
  simp only [Bool.and_eq_true, decide_eq_true_eq] at hc
  obtain ⟨⟨h1, h2⟩, h3⟩ := hc
  have S := fs_of h1
  have hnp : (df.vars.take df.np).length = df.np := by rw [List.length_take]; omega
  refine fnG_of F S (fun vs H Q E ⟨N, M, s, ds, hl, _, hd, _⟩ => by rw [← hl]; exact reps_len hd) fun cdv A outer s H vs Q E hg hr ⟨N, M, st0, ds, hl, hR, hd, q⟩ => ?_
  generalize hX : cxOf (L2.CX g.P g.w) g.P g.w Γ.K g.mg g.base df.vars df.name (defScope st) fa cdv A outer s H E = X
  have hXs : CtS Γ g k X fun cls d _ H => E cls d H := by
    subst hX
    refine ⟨⟨⟨rfl, rfl, rfl, rfl, rfl⟩, rfl, takes_of rfl rfl rfl rfl, hg, hr, S.nd⟩, passes_of rfl, fun x h => ⟨h, .inl rfl⟩, S.kind, rfl, rfl⟩
  have hN : X.N = df.vars := by subst hX; rfl
  have hS : X.env.scope = defScope st := by subst hX; rfl
  rw [← hN, ← hS] at h3
  obtain ⟨t', ht', hi⟩ := strip_ok (snd_Ss hO hC df.body hXs h3)
  refine ⟨t', ht', hi _ _ _ ?_⟩
  have hvl : vs.length = df.np := by rw [reps_len hd, hl, hnp]
  obtain ⟨R1, t1⟩ := start_rel (n := df.vars.length - df.np) (NN := df.vars) hR hd (by rw [hvl])
  refine ⟨⟨N, H, M⟩, ⟨M, ds.map Sl.val ++ List.replicate (df.vars.length - df.np) Sl.no, st0, L2.start df.vars vs, H⟩, rfl, rfl, R1, ?_⟩
  have hcf : callF tab (n + 1) i ds st0 = fin (runs (callF tab n) df.body ⟨ds.map Sl.val ++ List.replicate (df.vars.length - df.np) Sl.no, st0⟩) := by
    unfold callF
    rw [ht]
    show (if ds.length = df.np then _ else _) = _
    rw [if_pos (by rw [hl, hnp])]
  rw [hcf] at q
  show RunS Γ ⟨N, H, M⟩ ⟨M, ds.map Sl.val ++ List.replicate (df.vars.length - df.np) Sl.no, st0, L2.start df.vars vs, H⟩ (fun cls d _ H => E cls d H) (runs (callF tab n) df.body ⟨ds.map Sl.val ++ List.replicate (df.vars.length - df.np) Sl.no, st0⟩) _
  cases hr : runs (callF tab n) df.body ⟨ds.map Sl.val ++ List.replicate (df.vars.length - df.np) Sl.no, st0⟩ with
  | bad => rw [hr] at q; exact q.elim
  | exn x o w =>
    rw [hr] at q
    exact fun c' cls dd e1 e2 R t z => q cls dd c'.drop rfl rfl e2 R.drop ((t1.trans t).trans drop_tr) (xr_tr drop_tr z)
  | ok fl w =>
    rw [hr] at q
    intro c' e1 e2 R t
    cases fl with
    | nx => exact q .non c'.drop rfl rfl e2 R.drop ((t1.trans t).trans drop_tr) ⟨rfl, fun z => nomatch z⟩
    | rt d fr => exact fun v P => q v c'.drop rfl rfl e2 R.drop ((t1.trans t).trans drop_tr) P.drop
end
end IL

set_option Elab.async false
set_option linter.all false
set_option maxRecDepth 100000
set_option maxHeartbeats 4000000
/-! IL: the program's class Book. -/
namespace IL
open PySem L2
/-! ### the forms of its methods -/
/-- return list(self.a) -/
def asGet : List Stmt → Option (Expr × Expr × Str)
  | [.Return (some (.Call f [.Attribute o a _] [] _)) _] => some (f, o, a)
  | _ => none
theorem asGet_eq {b : List Stmt} {f o : Expr} {a : Str} (h : asGet b = some (f, o, a)) : ∃ p q r, b = [.Return (some (.Call f [.Attribute o a p] [] q)) r] := by
  unfold asGet at h; split at h <;> cases h; exact ⟨_, _, _, rfl⟩
def getOk (fn : String) (a : Str) (st : Stmt) : Bool := match asGet (strip (defBody st)) with
  | some (f, o, b) => isBi (defScope st) fn f && isName [Str.ofString "self"] (defScope st) 0 o && decide (b = a) && fsC [Str.ofString "self"] [Str.ofString "self"] (defScope st)
  | none => false
/-- self.a = value -/
def asFld : Stmt → Option (Expr × Str × Expr)
  | .Assign [.Attribute o a _] v _ => some (o, a, v)
  | _ => none
theorem asFld_eq {b : Stmt} {v o : Expr} {a : Str} (h : asFld b = some (o, a, v)) : ∃ p q, b = .Assign [.Attribute o a p] v q := by
  unfold asFld at h; split at h <;> cases h; exact ⟨_, _, rfl⟩
/-- the checks, then the two fields -/
def chkI2 (nm : Nm) (N : List Str) (sc : Scope) : Ss → List Stmt → Bool
  | .nil, _ => false
  | .cons s ss, xs => match s, ss, xs with
    | .done (.b1 .list (.var i)) (.b1 .list (.var j)), .nil, [x, y] => (match asFld x, asFld y with
      | some (o, f, v), some (o', f', v') => isName N sc 0 o && isName N sc 0 o' && decide (f = Str.ofString "wanted") && decide (f' = Str.ofString "hands") && chkE nm N sc (.b1 .list (.var i)) v && chkE nm N sc (.b1 .list (.var j)) v' && noComp v && noComp v'
      | _, _ => false)
    | s, ss, x :: xs => chkS nm N sc s x && chkI2 nm N sc ss xs
    | _, _, [] => false
def initOk (nm : Nm) (d : Df) (st : Stmt) : Bool := decide (d.np = 3) && decide (3 ≤ d.vars.length) && fsC d.vars (d.vars.take 3) (defScope st) && chkI2 nm d.vars (defScope st) d.body (strip (defBody st))
/-- return isinstance(other, Book) and self.wanted == other.wanted and self.hands == other.hands -/
structure EqText where
  (f o c s1 o1 s2 o2 : Expr)
  (a1 b1 a2 b2 : Str)
def asEq : List Stmt → Option EqText
  | [.Return (some (.BoolOp .And [.Call f [o, c] [] _, .Compare (.Attribute s1 a1 _) [.Eq] [.Attribute o1 b1 _] _, .Compare (.Attribute s2 a2 _) [.Eq] [.Attribute o2 b2 _] _] _)) _] => some ⟨f, o, c, s1, o1, s2, o2, a1, b1, a2, b2⟩
  | _ => none
theorem asEq_eq {b : List Stmt} {t : EqText} (h : asEq b = some t) : ∃ p1 p2 p3 p4 p5 p6 p7 p8 p9, b = [.Return (some (.BoolOp .And [.Call t.f [t.o, t.c] [] p1, .Compare (.Attribute t.s1 t.a1 p2) [.Eq] [.Attribute t.o1 t.b1 p3] p4, .Compare (.Attribute t.s2 t.a2 p5) [.Eq] [.Attribute t.o2 t.b2 p6] p7] p8)) p9] := by
  unfold asEq at h; split at h <;> cases h; exact ⟨_, _, _, _, _, _, _, _, _, rfl⟩
abbrev eqPs : List Str := [Str.ofString "self", Str.ofString "other"]
def eqOk (st : Stmt) : Bool := match asEq (strip (defBody st)) with
  | some t => isBi (defScope st) "isinstance" t.f && isName eqPs (defScope st) 1 t.o && isBi (defScope st) "Book" t.c && (isName eqPs (defScope st) 0 t.s1 && isName eqPs (defScope st) 1 t.o1 && (isName eqPs (defScope st) 0 t.s2 && isName eqPs (defScope st) 1 t.o2)) &&
      (decide (t.a1 = "wanted") && decide (t.b1 = "wanted") && (decide (t.a2 = "hands") && decide (t.b2 = "hands"))) && fsC eqPs eqPs (defScope st)
  | none => false
theorem name_eq {N : List Str} {sc : Scope} {i : Nat} {o : Expr} (h : isName N sc i o = true) : ∃ x p, o = .Name x p := by
  cases o <;> simp only [isName, Bool.false_eq_true] at h
  exact ⟨_, _, rfl⟩
section
variable {Γ : Gm} {g : Pg} {nm : Nm} {k : Nat} {cf : Nat → List D → List Ob → CR} {X : Cx} {W : WX} {B B' : Bs} {c c0 c1 c2 : Cf} {σ : L2.St} {H : Hp} {Q : VK} {x : Expr} {d : D} {v : V} {fr : Bool} {E : Ends} {L : List Addr}
abbrev bkF (l1 l2 : Addr) : List (Str × V) := [(("wanted" : Str), .ref l1), (("hands" : Str), .ref l2)]
/-- the class as the top has made it -/
structure BookAt (Γ : Gm) (g : Pg) (nm : Nm) (init : Df) : Prop where
  cl : Cls Γ.K Γ.CB.C
  nW : NoAttr Γ.K Γ.CB.C "wanted"
  nH : NoAttr Γ.K Γ.CB.C "hands"
  mg : g.mg (Str.ofString "Book") = some (.ref Γ.CB.C)
  blt : g.mg (Str.ofString "list") = none ∧ g.mg (Str.ofString "len") = none
  bis : g.mg (Str.ofString "isinstance") = none
  ty : BkTy Γ.K Γ.CB.C
  eqm : ∃ st f fd, PySem.W.findIn Γ.K (.ref Γ.CB.C) "__eq__" = some (some (.ref f)) ∧ PySem.W.isFn Γ.K (.ref f) = true ∧ Fun Γ.K "__eq__" "Book.__eq__" st f fd ∧ Binds Γ.K fd eqPs [] ∧ eqOk st = true
  init : ∃ st f fd, Mk Γ.K Γ.CB.C f ∧ Fun Γ.K "__init__" "Book.__init__" st f fd ∧ Binds Γ.K fd (init.vars.take 3) [] ∧ initOk nm init st = true
  len : ∃ st f fd, PySem.W.findIn Γ.K (.ref Γ.CB.C) "__len__" = some (some (.ref f)) ∧ PySem.W.isFn Γ.K (.ref f) = true ∧ Fun Γ.K "__len__" "Book.__len__" st f fd ∧ Binds Γ.K fd ["self"] [] ∧ getOk "len" "wanted" st = true
  dem : ∃ st f fd, Meth Γ.K Γ.CB.C "demands" f ∧ Fun Γ.K "demands" "Book.demands" st f fd ∧ Binds Γ.K fd ["self"] [] ∧ getOk "list" "wanted" st = true
  rdr : ∃ st f fd, Meth Γ.K Γ.CB.C "readers" f ∧ Fun Γ.K "readers" "Book.readers" st f fd ∧ Binds Γ.K fd ["self"] [] ∧ getOk "list" "hands" st = true
/-- a method that gives one of its lists -/
def spGet (Γ : Gm) (w : Bool) : Sp := fun vs H Q _ => ∃ a dx l1 l2 v1 v2, vs = [.ref a] ∧ H a = some (.ins Γ.CB.C dx (bkF l1 l2)) ∧ H l1 = some (.lst v1) ∧ H l2 = some (.lst v2) ∧ ∀ p, H p = none → Q (.ref p) (upd H p (.lst (if w then v1 else v2)))
def spLen (Γ : Gm) : Sp := fun vs H Q _ => ∃ a dx l1 l2 v1, vs = [.ref a] ∧ H a = some (.ins Γ.CB.C dx (bkF l1 l2)) ∧ H l1 = some (.lst v1) ∧ Q (.int v1.length) H
theorem bk_wanted {l1 l2 : Addr} : (bkF l1 l2).lookup ("wanted" : Str) = some (.ref l1) := by
  unfold bkF
  rw [List.lookup_cons, beq_self_eq_true]
theorem wh_ne : (("hands" : Str) == ("wanted" : Str)) = false := by decide +kernel
theorem bk_hands {l1 l2 : Addr} : (bkF l1 l2).lookup ("hands" : Str) = some (.ref l2) := by
  unfold bkF
  rw [List.lookup_cons, wh_ne, List.lookup_cons, beq_self_eq_true]
theorem bk_no {l1 l2 : Addr} {m : Str} (h1 : (m == ("wanted" : Str)) = false) (h2 : (m == ("hands" : Str)) = false) : (bkF l1 l2).lookup m = none := by
  unfold bkF
  rw [List.lookup_cons, h1, List.lookup_cons, h2]; rfl
theorem get_ok {st : Stmt} {f : Addr} {fd : FuncData} {nme q : Str} {P : Program} {w : World} {base : Heap} {mg : Str → Option Value} {wh : Bool} (F : Fun Γ.K nme q st f fd) (hg : getOk "list" (if wh then "wanted" else "hands") st = true) (cl : Cls Γ.K Γ.CB.C) (nW : NoAttr Γ.K Γ.CB.C "wanted") (nH : NoAttr Γ.K Γ.CB.C "hands") (hm : mg (Str.ofString "list") = none) :
    FnOk P w Γ.K mg base CX0 1 f fd ["self"] (spGet Γ wh) := by
  unfold getOk at hg
  split at hg
  · rename_i f' o a hb
    simp only [Bool.and_eq_true, decide_eq_true_eq] at hg
    obtain ⟨⟨⟨h1, h2⟩, h3⟩, h4⟩ := hg
    subst h3
    obtain ⟨p, r, s, hb⟩ := asGet_eq hb
    obtain ⟨q1, rfl, l1⟩ := bi_name h1
    have S := fs_of h4
    refine F.ok S (fun vs H Q E ⟨a, dx, l1, l2, v1, v2, e, _⟩ => by rw [e]; rfl) fun cdv A outer s' H vs Q E hr ⟨a, dx, l1', l2, v1, v2, e, h5, h6, h7, k⟩ => ?_
    subst e
    generalize hX : (cxOf CX0 P w Γ.K mg base [Str.ofString "self"] q (defScope st) f cdv A outer s' H E).nox = X
    have hN : X.N = [Str.ofString "self"] := by subst hX; rfl
    have hS : X.env.scope = defScope st := by subst hX; rfl
    have hK : X.K = Γ.K := by subst hX; rfl
    rw [← hN, ← hS] at h2
    rw [← hS] at l1
    have pf := pe_fld (f := if wh then "wanted" else "hands") (pos := p) (pe_name h2) (base_name h2)
    have hl := call_list_of (X := X)
    rw [hK] at pf hl
    have pr := pe_callTy (pos := r) (p := q1) hl (gl_of l1) (by subst hX; exact hm) (by decide +kernel) (pa_cons pf pa_nil rfl) (by decide +kernel) (by decide +kernel) rfl rfl
    obtain ⟨t', ht', hi⟩ := strip_ok (b := defBody st) (X := X) (by rw [hb]; exact pss_one (ps_ret (pos := s) pr))
    refine ⟨t', ht', hi _ _ _ ?_⟩
    cases wh
    · exact ⟨_, rfl, a, Γ.CB.C, dx, _, _, rfl, h5, cl, nH, bk_hands, l2, v2, rfl, .inl (SqL.of h7), k⟩
    · exact ⟨_, rfl, a, Γ.CB.C, dx, _, _, rfl, h5, cl, nW, bk_wanted, l1', v1, rfl, .inl (SqL.of h6), k⟩
  · cases hg
theorem len_ok {st : Stmt} {f : Addr} {fd : FuncData} {nme q : Str} {P : Program} {w : World} {base : Heap} {mg : Str → Option Value} (F : Fun Γ.K nme q st f fd) (hg : getOk "len" "wanted" st = true) (cl : Cls Γ.K Γ.CB.C) (nW : NoAttr Γ.K Γ.CB.C "wanted") (hm : mg (Str.ofString "len") = none) :
    FnOk P w Γ.K mg base CX0 1 f fd ["self"] (spLen Γ) := by
  unfold getOk at hg
  split at hg
  · rename_i f' o a hb
    simp only [Bool.and_eq_true, decide_eq_true_eq] at hg
    obtain ⟨⟨⟨h1, h2⟩, h3⟩, h4⟩ := hg
    subst h3
    obtain ⟨p, r, s, hb⟩ := asGet_eq hb
    obtain ⟨q1, rfl, l1⟩ := bi_name h1
    have S := fs_of h4
    refine F.ok S (fun vs H Q E ⟨a, dx, l1, l2, v1, e, _⟩ => by rw [e]; rfl) fun cdv A outer s' H vs Q E hr ⟨a, dx, l1', l2, v1, e, h5, h6, k⟩ => ?_
    subst e
    generalize hX : (cxOf CX0 P w Γ.K mg base [Str.ofString "self"] q (defScope st) f cdv A outer s' H E).nox = X
    have hN : X.N = [Str.ofString "self"] := by subst hX; rfl
    have hS : X.env.scope = defScope st := by subst hX; rfl
    have hK : X.K = Γ.K := by subst hX; rfl
    rw [← hN, ← hS] at h2
    rw [← hS] at l1
    have pf := pe_fld (f := "wanted") (pos := p) (pe_name h2) (base_name h2)
    have hl := call_len (X := X)
    rw [hK] at pf hl
    have pr := pe_callB (pos := r) (p := q1) hl (gl_of l1) (by subst hX; exact hm) (by decide +kernel) (pa_cons pf pa_nil rfl) (by decide +kernel) (by decide +kernel) rfl rfl
    obtain ⟨t', ht', hi⟩ := strip_ok (b := defBody st) (X := X) (by rw [hb]; exact pss_one (ps_ret (pos := s) pr))
    refine ⟨t', ht', hi _ _ _ ?_⟩
    exact ⟨_, rfl, a, Γ.CB.C, dx, _, _, rfl, h5, cl, nW, bk_wanted, .ref l1', v1.length, rfl, .inl ⟨v1, SqL.of h6, rfl⟩, k⟩
  · cases hg
/-- == of a book and another value -/
def spEqB (Γ : Gm) : Sp := fun vs H Q _ => ∃ a dx l1 l2 v1 v2 y, vs = [.ref a, y] ∧ H a = some (.ins Γ.CB.C dx (bkF l1 l2)) ∧ H l1 = some (.lst v1) ∧ H l2 = some (.lst v2) ∧
  ((∃ t, TyX Γ.K H y t ∧ PySem.W.kitOne Γ.K t (.ref Γ.CB.C) = some false ∧ Q (.bl false) H) ∨
   ∃ b dy m1 m2 w1 w2 x1 x2 y1 y2, y = .ref b ∧ H b = some (.ins Γ.CB.C dy (bkF m1 m2)) ∧ H m1 = some (.lst w1) ∧ H m2 = some (.lst w2) ∧ (DpAll Γ.K H v1 x1 ∧ DpAll Γ.K H v2 x2 ∧ DpAll Γ.K H w1 y1 ∧ DpAll Γ.K H w2 y2) ∧
     (SeqAt.shaped (.list x1) = true ∧ SeqAt.shaped (.list x2) = true ∧ SeqAt.shaped (.list y1) = true ∧ SeqAt.shaped (.list y2) = true) ∧ Q (.bl (PyData.eqv (.list x1) (.list y1) && PyData.eqv (.list x2) (.list y2))) H)
theorem eq_ok {st : Stmt} {f : Addr} {fd : FuncData} {nme q : Str} {P : Program} {w : World} {base : Heap} {mg : Str → Option Value} (F : Fun Γ.K nme q st f fd) (hg : eqOk st = true) (cl : Cls Γ.K Γ.CB.C) (nW : NoAttr Γ.K Γ.CB.C "wanted") (nH : NoAttr Γ.K Γ.CB.C "hands") (ty : BkTy Γ.K Γ.CB.C)
    (hm : mg (Str.ofString "isinstance") = none) (hb : mg (Str.ofString "Book") = some (.ref Γ.CB.C)) : FnOk P w Γ.K mg base CX0 1 f fd eqPs (spEqB Γ) := by
  unfold eqOk at hg
  split at hg
  · rename_i t hb'
    simp only [Bool.and_eq_true, decide_eq_true_eq] at hg
    obtain ⟨⟨⟨⟨⟨h1, h2⟩, h3⟩, ⟨h4, h5⟩, h6, h7⟩, ⟨h8, h9⟩, h10, h11⟩, h12⟩ := hg
    obtain ⟨p1, p2, p3, p4, p5, p6, p7, p8, p9, hb'⟩ := asEq_eq hb'
    obtain ⟨tf, to, tc, s1, o1, s2, o2, a1, b1, a2, b2⟩ := t
    simp only at h1 h2 h3 h4 h5 h6 h7 h8 h9 h10 h11 hb'
    subst h8 h9 h10 h11
    obtain ⟨q1, rfl, l1⟩ := bi_name h1
    obtain ⟨q3, rfl, l3⟩ := bi_name h3
    obtain ⟨x2, q2, rfl⟩ := name_eq h2
    have S := fs_of h12
    refine F.ok S (fun vs H Q E ⟨a, dx, l1, l2, v1, v2, y, e, _⟩ => by rw [e]; rfl) fun cdv A outer s' H vs Q E hr ⟨a, dx, n1, n2, v1, v2, y, e, g1, g2, g3, k⟩ => ?_
    subst e
    generalize hX : (cxOf CX0 P w Γ.K mg base eqPs q (defScope st) f cdv A outer s' H E).nox = X
    have hN : X.N = eqPs := by subst hX; rfl
    have hS : X.env.scope = defScope st := by subst hX; rfl
    have hK : X.K = Γ.K := by subst hX; rfl
    have hu : X.A.units + 64 < cLine := by
      have := hr.un
      subst hX
      show (A.deeper (PyProof.Rows.envOfC q (defScope st) s'.heap.objs.size f cdv)).units + 64 < cLine
      omega
    rw [← hN, ← hS] at h2 h4 h5 h6 h7
    rw [← hS] at l1 l3
    have hi := call_isi (X := X)
    have hq := op_eqD (X := X) hu
    have f1 := pe_fld (f := "wanted") (pos := p2) (pe_name h4) (base_name h4)
    have f2 := pe_fld (f := "wanted") (pos := p3) (pe_name h5) (base_name h5)
    have f3 := pe_fld (f := "hands") (pos := p5) (pe_name h6) (base_name h6)
    have f4 := pe_fld (f := "hands") (pos := p6) (pe_name h7) (base_name h7)
    rw [hK] at hi hq f1 f2 f3 f4
    have pc : PE X (.Name (Str.ofString "Book") q3) (tC (.ref Γ.CB.C)) := pe_glob (gl_of l3) (by subst hX; exact hb) rfl (by decide +kernel)
    have pi := pe_callB (pos := p1) (p := q1) hi (gl_of l1) (by subst hX; exact hm) (by decide +kernel) (pa_cons (pe_name h2) (pa_cons pc pa_nil rfl) rfl) (by decide +kernel) (by decide +kernel) rfl rfl
    have pr := pe_and (pos := p8) pi (pe_and (pe_cmpR (pos := p4) hq f1 f2 (by first | exact nobehind _ (by decide) (by decide) | rfl)) (pe_one (pe_cmpR (pos := p7) hq f3 f4 (by first | exact nobehind _ (by decide) (by decide) | rfl))))
    obtain ⟨t', ht', hi'⟩ := strip_ok (b := defBody st) (X := X) (by rw [hb']; exact pss_one (ps_ret (pos := p9) pr))
    refine ⟨t', ht', hi' _ _ _ ?_⟩
    rcases k with ⟨t, k1, k2, k3⟩ | ⟨b, dy, m1, m2, w1, w2, x1, x2, y1, y2, rfl, k1, k2, k3, ⟨k4, k5, k6, k7⟩, ⟨k8, k9, k10, k11⟩, k12⟩
    · exact ⟨y, rfl, y, .ref Γ.CB.C, t, .ref Γ.CB.C, false, rfl, .own _, k1, k2, false, rfl, k3⟩
    · refine ⟨.ref b, rfl, .ref b, .ref Γ.CB.C, .ref Γ.CB.C, .ref Γ.CB.C, true, rfl, .own _, .base (.ins k1 ty.ins.cl ty.ins.ha ty.ins.hn ty.ins.htk ty.ins.hm), ty.ins.me, true, rfl, ?_⟩
      refine ⟨_, rfl, a, Γ.CB.C, dx, _, _, rfl, g1, cl, nW, bk_wanted, _, rfl, b, Γ.CB.C, dy, _, _, rfl, k1, cl, nW, bk_wanted, .list x1, .list y1, .lst (SqL.of g2) k4, .lst (SqL.of k2) k6, k8, k10, _, rfl, ?_⟩
      cases e : PyData.eqv (.list x1) (.list y1) with
      | false =>
        rw [e] at k12
        exact k12
      | true =>
        rw [e] at k12
        exact ⟨_, rfl, a, Γ.CB.C, dx, _, _, rfl, g1, cl, nH, bk_hands, _, rfl, b, Γ.CB.C, dy, _, _, rfl, k1, cl, nH, bk_hands, .list x2, .list y2, .lst (SqL.of g3) k5, .lst (SqL.of k3) k7, k9, k11, k12⟩
  · cases hg
end
end IL

set_option Elab.async false
set_option linter.all false
set_option maxRecDepth 100000
set_option maxHeartbeats 4000000
/-! IL: what the program's own class asks and gives. -/
namespace IL
open PySem L2
section
variable {Γ : Gm} {g : Pg} {nm : Nm} {k : Nat} {cf : Nat → List D → List Ob → CR} {X : Cx} {W : WX} {B B' : Bs} {c c0 c1 c2 : Cf} {σ : L2.St} {H : Hp} {Q : VK} {x : Expr} {d : D} {v : V} {fr : Bool} {E : Ends} {L : List Addr} {init : Df}
theorem base_no {o : Expr} {m : Str} {env : Env} {whole : Sem Value} (h : noCall o = true) : attributeBase o m env whole = whole := by
  cases o <;> first | rfl | (simp [noCall] at h; done)
theorem meth_eq {o : Expr} {m : Str} {p q : Pos} {env : Env} (ho : noCall o = true) (hl : (p.endLine == q.line) = true) : eval (.Call (.Attribute o m p) [] [] q) env = (do
      let ov ← eval o env
      standAt p.atName
      let (f, first) ← holding [ov] (getMethod ov m (do return (← importBound o env).getD true))
      callWith q f first (backTo q (starEach [] env)) (backToKw q (keywordEach [] env))) := by
  have e1 : ∀ fw, methodCallPos fw o env p q = pure q := fun fw => by unfold methodCallPos; simp [hl]
  show (do
      let ov ← attributeBase o m env (eval o env)
      standAt p.atName
      methodCall o m p q env ov 0 (backTo q (starEach [] env)) (backToKw q (keywordEach [] env))) = _
  rw [base_no ho]
  unfold methodCall
  simp only [e1, pure_bind]
  rfl
theorem meth_rule {m : Str} {f : Addr} {fd : FuncData} {sp : Sp} {r : V → Hp → VK → Prop} {o : Expr} {t : TE} {p q : Pos} (he : PE X o t) (ho : noCall o = true) (hl : (p.endLine == q.line) = true) (cl : Cls X.K Γ.CB.C) (hm : Meth X.K Γ.CB.C m f) (F : FnOk X.prog X.w X.K X.mg X.base CX0 1 f fd ["self"] sp) (hb : Binds X.K fd ["self"] []) (hr : Room 1 X.A)
    (hs : ∀ v H Q, r v H Q → ∃ a dx fs, v = .ref a ∧ H a = some (.ins Γ.CB.C dx fs) ∧ fs.lookup m = none ∧ sp [v] H Q fun _ _ _ => False) : PE X (.Call (.Attribute o m p) [] [] q) fun σ H Q => t σ H fun v H1 => r v H1 Q := by
  refine ⟨fun pins s σ H Q I h => ?_⟩
  refine PySem.W.methodCall_KW (thn (he.run pins s σ H _ I h) fun u s1 ⟨y, H1, I1, ry, z⟩ => ?_) (meth_eq ho hl)
  obtain ⟨a, dx, fs, rfl, ha, hl, hsp⟩ := hs _ _ _ z
  obtain rfl : u = Value.ref a := ry
  refine getmeth_ok I1 ha cl hm hl ?_
  exact PySem.W.callWith_K0 (first := [.ref a]) I1.kIn hm.kp (run_fn (us := [.ref a]) (vs := [.ref a]) F hr hb .nil pass0 I1 (.cons rfl .nil) hsp)
theorem rep_bk {ds rs : List D} (h : Γ.R B c (.book ds rs) v) : ∃ a dx l1 l2 v1 v2, v = .ref a ∧ c.H a = some (.ins Γ.CB.C dx (bkF l1 l2)) ∧ c.H l1 = some (.lst v1) ∧ c.H l2 = some (.lst v2) ∧ reps Γ.K Γ.CB (fun _ => False) [] c.H ds v1 ∧ reps Γ.K Γ.CB (fun _ => False) [] c.H rs v2 := by
  have h' : rep Γ.K Γ.CB (Cl B c) c.M c.H (.book ds rs) v := h
  unfold rep at h'
  obtain ⟨a, dx, l1, l2, v1, v2, e, h1, _, ⟨h3, _, h5⟩, h6, _, h8⟩ := h'
  exact ⟨a, dx, l1, l2, v1, v2, e, h1, h3, h6, h5, h8⟩
theorem fix_tr {N : Addr → Prop} {M : List Addr} {H : Hp} : Tr (fun _ => False) [] H N M H := ⟨fun _ _ h _ => h, fun _ _ _ h => h.elim, fun n a h => by simp at h⟩
theorem dem_rule {P : Df} (hb : BookAt Γ g nm P) (X : Cx) (a : At Γ g X) (hr : Room 1 X.A) (o : Expr) (p q : Pos) (t : TE) (he : PE X o t) (ho : noCall o = true) (hl : (p.endLine == q.line) = true) :
    PE X (.Call (.Attribute o (Str.ofString "demands") p) [] [] q) fun σ H Q => t σ H fun v H1 => rDem Γ v H1 Q := by
  obtain ⟨st, f, fd, hm, hF, hB, hg⟩ := hb.dem
  have F : FnOk X.prog X.w X.K X.mg X.base CX0 1 f fd ["self"] (spGet Γ true) := by
    rw [a.k]; exact get_ok (wh := true) hF hg hb.cl hb.nW hb.nH (by rw [a.m]; exact hb.blt.1)
  refine meth_rule he ho hl (by rw [a.k]; exact hb.cl) (by rw [a.k]; exact hm) F (by rw [a.k]; exact hB) hr fun v H Q h => ?_
  obtain ⟨B, c, ds, rs, rfl, hR, hv, hF⟩ := h
  obtain ⟨x, dx, l1, l2, v1, v2, rfl, h1, h2, h3, h4, h5⟩ := rep_bk hv
  exact ⟨x, dx, _, rfl, h1, bk_no (by decide +kernel) (by decide +kernel), x, dx, l1, l2, v1, v2, rfl, h1, h2, h3, fun p hp => hF.lst hR (reps_tr fix_tr _ _ h4) hp⟩
theorem rdr_rule {P : Df} (hb : BookAt Γ g nm P) (X : Cx) (a : At Γ g X) (hr : Room 1 X.A) (o : Expr) (p q : Pos) (t : TE) (he : PE X o t) (ho : noCall o = true) (hl : (p.endLine == q.line) = true) :
    PE X (.Call (.Attribute o (Str.ofString "readers") p) [] [] q) fun σ H Q => t σ H fun v H1 => rRdr Γ v H1 Q := by
  obtain ⟨st, f, fd, hm, hF, hB, hg⟩ := hb.rdr
  have F : FnOk X.prog X.w X.K X.mg X.base CX0 1 f fd ["self"] (spGet Γ false) := by
    rw [a.k]; exact get_ok (wh := false) hF hg hb.cl hb.nW hb.nH (by rw [a.m]; exact hb.blt.1)
  refine meth_rule he ho hl (by rw [a.k]; exact hb.cl) (by rw [a.k]; exact hm) F (by rw [a.k]; exact hB) hr fun v H Q h => ?_
  obtain ⟨B, c, ds, rs, rfl, hR, hv, hF⟩ := h
  obtain ⟨x, dx, l1, l2, v1, v2, rfl, h1, h2, h3, h4, h5⟩ := rep_bk hv
  exact ⟨x, dx, _, rfl, h1, bk_no (by decide +kernel) (by decide +kernel), x, dx, l1, l2, v1, v2, rfl, h1, h2, h3, fun p hp => hF.lst hR (reps_tr fix_tr _ _ h5) hp⟩
theorem tb_bi {K : PySem.W.Frag} {C : Addr} (h : BkTy K C) {T : String} (hT : (PySem.fastBuiltinMro T).map (·.contains (Value.ref C)) = some false) : PySem.W.kitOne K (.type T) (.ref C) = some false ∧ PySem.W.notFirst K C (.type T) = true := by
  constructor
  · unfold PySem.W.kitOne PySem.W.kitCls
    rw [if_neg (by intro z; cases (beq_iff_eq.mp z))]
    dsimp only
    rw [if_pos (by rw [h.cls.1, h.cls.2]; rfl)]
    exact hT
  · unfold PySem.W.notFirst
    rw [show PySem.W.subIn K (.type T) (.ref C) = some false from hT]
    simp
/-- a value that is no book, by its type -/
theorem T_ty {e : D} {ds rs : List D} {kk : Bool} (hv : Γ.T B c e v) (h : eqB ds rs e = some kk) (hn : ∀ es ss, e ≠ .book es ss) : kk = false ∧ ∃ T, TyX Γ.K c.H v (.type T) ∧ ∀ C : Addr, (PySem.fastBuiltinMro T).map (·.contains (Value.ref C)) = some false := by
  cases e with
  | non => have e : v = V.non := hv; subst e; cases h; exact ⟨rfl, "NoneType", .base .non, fun C => by rfl⟩
  | bl x => have e : v = V.bl x := hv; subst e; cases h; exact ⟨rfl, "bool", .base (.bl x), fun C => by rfl⟩
  | int x => have e : v = V.int x := hv; subst e; cases h; exact ⟨rfl, "int", .base (.int x), fun C => by rfl⟩
  | str x => have e : v = V.str x := hv; subst e; cases h; exact ⟨rfl, "str", .base (.str x), fun C => by rfl⟩
  | tup ds =>
    obtain ⟨a, vs, rfl, h1, _⟩ := id hv
    cases h; exact ⟨rfl, "tuple", sqt_ty h1, fun C => by rfl⟩
  | lst ds =>
    obtain ⟨a, vs, rfl, h1, _⟩ := id hv
    cases h; exact ⟨rfl, "list", .base (.lst h1), fun C => by rfl⟩
  | dct ks ds =>
    obtain ⟨a, vs, rfl, h1, _⟩ := id hv
    cases h; exact ⟨rfl, "dict", .base (.dK h1), fun C => by rfl⟩
  | book es ss => exact absurd rfl (hn es ss)
  | _ => cases h
theorem shaped_list {ds : List D} (h : okDs ds = true) : ∃ xs, D.pys ds = some xs ∧ SeqAt.shaped (.list xs) = true := by
  obtain ⟨xs, h1, c1, c2⟩ := oks_py 60 ds h
  refine ⟨xs, h1, ?_⟩
  unfold SeqAt.shaped
  simp only [PyData.canLay0, c1, PyData.depth, Bool.true_and]
  exact decide_eq_true (by omega)
theorem eq_rule {P : Df} (hb : BookAt Γ g nm P) (X : Cx) (a : At Γ g X) (hr : Room 2 X.A) : OpR X (compareOp .Eq) (rBook Γ) := by
  obtain ⟨st, f, fd, hs, hf, hF, hB, hg⟩ := hb.eqm
  have F : FnOk X.prog X.w X.K X.mg X.base CX0 1 f fd eqPs (spEqB Γ) := by
    rw [a.k]; exact eq_ok hF hg hb.cl hb.nW hb.nH hb.ty (by rw [a.m]; exact hb.bis) (by rw [a.m]; exact hb.mg)
  intro pins s σ H x y u v Q I rx ry h
  obtain ⟨B, c, ds, rs, e, k, rfl, hR, hx, hy, he, hQ⟩ := h
  obtain ⟨p, dx, l1, l2, v1, v2, rfl, h1, h2, h3, h4, h5⟩ := rep_bk hx
  obtain rfl : u = Value.ref p := rx
  obtain ⟨mA, J, _⟩ := ins_get I.hok h1
  obtain ⟨od, J, _⟩ := J.look
  obtain ⟨m, hFr⟩ := I.fr
  have key : ∃ tb, PySem.W.Looks (model X.prog X.w) s.heap (typeOf v) tb ∧ PySem.W.notFirst Γ.K Γ.CB.C tb = true ∧ spEqB Γ [.ref p, y] c.H (fun v H' => v = .bl k ∧ H' = c.H) fun _ _ _ => False := by
    by_cases hbk : ∃ es ss, e = .book es ss
    · obtain ⟨es, ss, rfl⟩ := hbk
      obtain ⟨q, dy, m1, m2, w1, w2, rfl, g1, g2, g3, g4, g5⟩ := rep_bk hy
      obtain rfl : v = Value.ref q := ry
      obtain ⟨_, J2, _⟩ := ins_get I.hok g1
      obtain ⟨_, J2, _⟩ := J2.look
      have hc : (okDs ds && okDs rs && (okDs es && okDs ss)) = true := by
        cases hz : (okDs ds && okDs rs && (okDs es && okDs ss)) with
        | true => rfl
        | false => simp only [eqB, hz] at he; cases he
      have he : k = (eqDs ds es && eqDs rs ss) := by
        simp only [eqB, hc, if_true] at he
        exact (Option.some.inj he).symm
      subst he
      simp only [Bool.and_eq_true] at hc
      obtain ⟨⟨o1, o2⟩, o3, o4⟩ := hc
      obtain ⟨x1, k1, s1⟩ := shaped_list o1
      obtain ⟨x2, k2, s2⟩ := shaped_list o2
      obtain ⟨y1, k3, s3⟩ := shaped_list o3
      obtain ⟨y2, k4, s4⟩ := shaped_list o4
      refine ⟨_, J2.type, by simp [PySem.W.notFirst], p, dx, l1, l2, v1, v2, _, rfl, h1, h2, h3, .inr ⟨q, dy, m1, m2, w1, w2, x1, x2, y1, y2, rfl, g1, g2, g3, ⟨pys_dp k1 h4, pys_dp k2 h5, pys_dp k3 g4, pys_dp k4 g5⟩, ⟨s1, s2, s3, s4⟩, ?_, rfl⟩⟩
      rw [← eqvs_eq k1 k3, ← eqvs_eq k2 k4]
      simp [PyData.eqv]
    · obtain ⟨rfl, T, hT, hM⟩ := T_ty hy he fun es ss z => hbk ⟨es, ss, z⟩
      obtain ⟨t1, t2⟩ := tb_bi hb.ty (hM Γ.CB.C)
      obtain ⟨P', Z, pp, _⟩ := kit_of I ry (by rw [a.k]; exact hT)
      exact ⟨.type T, Z.ty _ _ I.kIn pp, t2, p, dx, l1, l2, v1, v2, y, rfl, h1, h2, h3, .inl ⟨_, hT, t1, rfl, rfl⟩⟩
  obtain ⟨tb, hlook, hnf, hsp⟩ := key
  show wpAny (model X.prog X.w) X.A (richCompare .Eq (.ref p) v) (EP X pins σ Q) X.xe s
  refine PySem.W.cmp_K (op := .Eq) (tb := tb) hr.units0 hFr I.ok.mod.kin J hlook (by rw [a.k]; exact hnf) (by rw [a.k]; exact hs) (by rw [a.k]; exact hf) ?_
  refine wpAny_mono (run_fn (us := [.ref p, v]) (vs := [.ref p, y]) F (hr.mono (by omega)) (by rw [a.k]; exact hB) .nil pass0 I (.cons rfl (.cons ry .nil)) hsp) (fun r s' hq => ?_) fun _ _ z => z
  obtain ⟨z, H', I', rz, ez, eH⟩ := hq
  subst ez
  subst eH
  obtain rfl : r = Value.bool k := rz
  exact ⟨.bl k, c.H, I', rfl, hQ⟩
theorem len_rule {P : Df} (hb : BookAt Γ g nm P) (X : Cx) (a : At Γ g X) (hr : Room 2 X.A) : CallR X (.builtin "len") (rLenB Γ) := by
  obtain ⟨st, f, fd, hs, hf, hF, hB, hg⟩ := hb.len
  have F : FnOk X.prog X.w X.K X.mg X.base CX0 1 f fd ["self"] (spLen Γ) := by
    rw [a.k]; exact len_ok hF hg hb.cl hb.nW (by rw [a.m]; exact hb.blt.2)
  intro pins s σ H xs us Q I r h
  obtain ⟨v, B, c, ds, rs, rfl, rfl, hR, hv, hQ⟩ := h
  obtain ⟨x, dx, l1, l2, v1, v2, rfl, h1, h2, h3, h4, h5⟩ := rep_bk hv
  obtain ⟨u, rfl, ru⟩ := vals1 r
  obtain rfl : u = Value.ref x := ru
  obtain ⟨mA, J, _⟩ := ins_get I.hok h1
  obtain ⟨od, J, _⟩ := J.look
  obtain ⟨m, hFr⟩ := I.fr
  have hl := reps_len h4
  have lz : v1.length ≤ sizeLine := by obtain ⟨_, _, _, z⟩ := I.list (SqL.of h2); exact z
  refine PySem.W.len_K hFr I.ok.mod.kin J (by rw [a.k]; exact hs) (by rw [a.k]; exact hf) ?_
  have e0 : Env0 X.prog X.w X.K X.mg X.base X.A.in1 X.stack s c.H := let e := I.env0; ⟨e.frames, e.mod, e.bs, e.bsz, e.funs, e.frf, e.hok, e.bare⟩
  have hbd := (by rw [a.k]; exact hB : Binds X.K fd ["self"] []) s [.ref x] I.kIn rfl
  refine wpAny_call (codeAny_mono (F.run X.A.in1 X.stack s c.H ⟨[.ref x], []⟩ [.ref x] [.ref x] (fun v H' => v = .int v1.length ∧ H' = c.H) (fun _ _ _ => False) hr.in1 e0 hbd (.cons rfl .nil) ⟨x, dx, l1, l2, v1, rfl, h1, h2, rfl, rfl⟩) fun r s' hq => ?_)
  cases r with
  | error e => exact hq.elim
  | ok fl =>
    cases fl with
    | next => exact False.elim hq
    | brk => exact False.elim hq
    | cont => exact False.elim hq
    | ret z =>
      obtain ⟨y, H', I', ry, ey, eH⟩ := I.after hq
      subst ey
      subst eH
      obtain ⟨t, rfl⟩ := ry
      have e63 := line63
      refine ⟨⟨by omega, by omega⟩, .int ds.length, c.H, I'.tok _, ⟨_, by rw [hl]⟩, hQ.int hR⟩
end
end IL

set_option Elab.async false
set_option linter.all false
set_option maxRecDepth 100000
set_option maxHeartbeats 4000000
/-! IL: a book is made. -/
namespace IL
open PySem L2
def Gm.at (Γ : Gm) (x : Addr) : Gm := { Γ with CB := { Γ.CB with me := x } }
def hid (x : Addr) (H : Hp) : Hp := fun a => if a = x then none else H a
section
variable {K : PySem.W.Frag} {CB : Cb} {N : Addr → Prop} {M : List Addr} {H : Hp}
mutual
theorem me_rep (x : Addr) : ∀ (d : D) (v : V), noMe d = true → rep K CB N M H d v → rep K { CB with me := x } N M H d v
  | .non, _, _, h => h
  | .bl _, _, _, h => h
  | .int _, _, _, h => h
  | .str _, _, _, h => h
  | .tup ds, v, n, h => by
    unfold rep at h ⊢
    obtain ⟨a, vs, e, h1, h2⟩ := h
    exact ⟨a, vs, e, h1, me_reps x ds vs (by simpa [noMe] using n) h2⟩
  | .lst ds, v, n, h => by
    unfold rep at h ⊢
    obtain ⟨a, vs, e, h1, h2, h3⟩ := h
    exact ⟨a, vs, e, h1, h2, me_reps x ds vs (by simpa [noMe] using n) h3⟩
  | .dct ks ds, v, n, h => by
    unfold rep at h ⊢
    obtain ⟨a, vs, e, h1, h2, h3, h4⟩ := h
    exact ⟨a, vs, e, h1, h2, h3, me_reps x ds vs (by simpa [noMe] using n) h4⟩
  | .book ds rs, v, n, h => by
    unfold rep at h ⊢
    simp only [noMe, Bool.and_eq_true] at n
    obtain ⟨a, dx, l1, l2, v1, v2, e, h1, h2, ⟨h3, h4, h5⟩, h6, h7, h8⟩ := h
    exact ⟨a, dx, l1, l2, v1, v2, e, h1, h2, ⟨h3, h4, me_repF x ds v1 n.1 h5⟩, h6, h7, me_repF x rs v2 n.2 h8⟩
  | .ref _, _, _, h => h
  | .scr _, _, _, h => h
  | .me, _, n, _ => by simp [noMe] at n
theorem me_reps (x : Addr) : ∀ (ds : List D) (vs : List V), noMes ds = true → reps K CB N M H ds vs → reps K { CB with me := x } N M H ds vs
  | [], _, _, h => h
  | d :: ds, vs, n, h => by
    unfold reps at h ⊢
    simp only [noMes, Bool.and_eq_true] at n
    obtain ⟨v, ws, e, h1, h2⟩ := h
    exact ⟨v, ws, e, me_rep x d v n.1 h1, me_reps x ds ws n.2 h2⟩
theorem me_repF (x : Addr) : ∀ (ds : List D) (vs : List V), noMes ds = true → reps K CB (fun _ => False) [] H ds vs → reps K { CB with me := x } (fun _ => False) [] H ds vs
  | [], _, _, h => h
  | d :: ds, vs, n, h => by
    unfold reps at h ⊢
    simp only [noMes, Bool.and_eq_true] at n
    obtain ⟨v, ws, e, h1, h2⟩ := h
    exact ⟨v, ws, e, me_repF1 x d v n.1 h1, me_repF x ds ws n.2 h2⟩
theorem me_repF1 (x : Addr) : ∀ (d : D) (v : V), noMe d = true → rep K CB (fun _ => False) [] H d v → rep K { CB with me := x } (fun _ => False) [] H d v
  | .non, _, _, h => h
  | .bl _, _, _, h => h
  | .int _, _, _, h => h
  | .str _, _, _, h => h
  | .tup ds, v, n, h => by
    unfold rep at h ⊢
    obtain ⟨a, vs, e, h1, h2⟩ := h
    exact ⟨a, vs, e, h1, me_repF x ds vs (by simpa [noMe] using n) h2⟩
  | .lst ds, v, n, h => by
    unfold rep at h ⊢
    obtain ⟨a, vs, e, h1, h2, h3⟩ := h
    exact h2.elim
  | .dct ks ds, v, n, h => by
    unfold rep at h ⊢
    obtain ⟨a, vs, e, h1, h2, h3, h4⟩ := h
    exact h2.elim
  | .book ds rs, v, n, h => by
    unfold rep at h ⊢
    obtain ⟨a, dx, l1, l2, v1, v2, e, h1, h2, _⟩ := h
    exact h2.elim
  | .ref _, _, _, h => h
  | .scr _, _, _, h => h
  | .me, _, n, _ => by simp [noMe] at n
end
mutual
theorem fix_rep : ∀ (d : D) (v : V), fixD d = true → rep K CB N M H d v → rep K CB (fun _ => False) [] H d v
  | .non, _, _, h => h
  | .bl _, _, _, h => h
  | .int _, _, _, h => h
  | .str _, _, _, h => h
  | .tup ds, v, n, h => by
    unfold rep at h ⊢
    obtain ⟨a, vs, e, h1, h2⟩ := h
    exact ⟨a, vs, e, h1, fix_reps ds vs (by simpa [fixD] using n) h2⟩
  | .lst _, _, n, _ => by simp [fixD] at n
  | .dct _ _, _, n, _ => by simp [fixD] at n
  | .book _ _, _, n, _ => by simp [fixD] at n
  | .ref _, _, n, _ => by simp [fixD] at n
  | .scr _, _, n, _ => by simp [fixD] at n
  | .me, _, n, _ => by simp [fixD] at n
theorem fix_reps : ∀ (ds : List D) (vs : List V), fixDs ds = true → reps K CB N M H ds vs → reps K CB (fun _ => False) [] H ds vs
  | [], _, _, h => h
  | d :: ds, vs, n, h => by
    unfold reps at h ⊢
    simp only [fixDs, Bool.and_eq_true] at n
    obtain ⟨v, ws, e, h1, h2⟩ := h
    exact ⟨v, ws, e, fix_rep d v n.1 h1, fix_reps ds ws n.2 h2⟩
end
mutual
theorem fix_noMe : ∀ d : D, fixD d = true → noMe d = true
  | .non, _ => rfl
  | .bl _, _ => rfl
  | .int _, _ => rfl
  | .str _, _ => rfl
  | .tup ds, n => by
    unfold noMe
    exact fix_noMes ds (by simpa [fixD] using n)
  | .lst _, n => by simp [fixD] at n
  | .dct _ _, n => by simp [fixD] at n
  | .book _ _, n => by simp [fixD] at n
  | .ref _, n => by simp [fixD] at n
  | .scr _, n => by simp [fixD] at n
  | .me, n => by simp [fixD] at n
theorem fix_noMes : ∀ ds : List D, fixDs ds = true → noMes ds = true
  | [], _ => rfl
  | d :: ds, n => by
    simp only [fixDs, Bool.and_eq_true] at n
    unfold noMes
    rw [fix_noMe d n.1, fix_noMes ds n.2]; rfl
end
end
section
variable {Γ : Gm} {g : Pg} {nm : Nm} {k : Nat} {cf : Nat → List D → List Ob → CR} {X : Cx} {W : WX} {B B' : Bs} {c c0 c1 c2 : Cf} {σ : L2.St} {H : Hp} {Q : VK} {x : Expr} {d : D} {v : V} {fr : Bool} {E : Ends} {L : List Addr} {init : Df}
theorem rel_me (y : Addr) (hR : Rel Γ B c) (he : c.e = []) (hs : c.s.all noMeO = true) : Rel (Γ.at y) B c where
  len := hR.len
  new := hR.new
  frame := hR.frame
  mpre := hR.mpre
  mnew := hR.mnew
  mnd := hR.mnd
  mlen := hR.mlen
  val := fun i d h => by rw [he] at h; simp at h
  cell := fun i d h => by rw [he] at h; simp at h
  apart := hR.apart
  sto := fun n ob h => by
    obtain ⟨a, h1, h2⟩ := hR.sto n ob h
    refine ⟨a, h1, ?_⟩
    have hm := List.all_eq_true.mp hs ob (List.mem_of_getElem? h)
    cases ob with
    | box ds =>
      obtain ⟨vs, h3, h4⟩ := h2
      exact ⟨vs, h3, me_reps y ds vs (by simpa [noMeO] using hm) h4⟩
    | inst _ _ => exact h2
theorem tr_fresh {p : Addr} (hb : snapH c p = none) (t : TrC B c B c1) : TrC B c (B.ne p) c1 := by
  refine ⟨t.keep, fun a o h n => ?_, t.pre⟩
  have ne : a ≠ p := fun e => by subst e; rw [snapH_of h n.2.2] at hb; cases hb
  obtain ⟨k1, k2, k3⟩ := t.cl a o h n
  exact ⟨⟨k1, ne⟩, k2, k3⟩
abbrev meOf (Γ : Gm) : Addr := Γ.CB.me
/-- what is left behind the checks: the two fields -/
def Left (Γ : Gm) (B : Bs) (c : Cf) (dx : Addr) (ds rs : List D) (s' : List Ob) (P : L2.St → Hp → Prop) : Prop :=
  ∀ (c' : Cf) (p1 p2 : Addr) (w1 w2 : List V), c'.s = s' → Rel Γ ⟨fun a => B.N a ∧ a ≠ p1 ∧ a ≠ p2, hid (meOf Γ) B.Hb, B.Mb⟩ c' → Tr (Cl B c) c.M c.H (Cl ⟨fun a => B.N a ∧ a ≠ p1 ∧ a ≠ p2, hid (meOf Γ) B.Hb, B.Mb⟩ c') c'.M c'.H →
    c'.H (meOf Γ) = some (.ins Γ.CB.C dx (bkF p1 p2)) → c'.H p1 = some (.lst w1) → c'.H p2 = some (.lst w2) → B.Hb p1 = none → B.Hb p2 = none → p1 ∉ c'.M → p2 ∉ c'.M → meOf Γ ∉ c'.M → B.N p1 → B.N p2 →
    reps Γ.K Γ.CB (fun _ => False) [] c'.H ds w1 → reps Γ.K Γ.CB (fun _ => False) [] c'.H rs w2 → P c'.σ c'.H
def tIn (Γ : Gm) (cf : Nat → List D → List Ob → CR) (ss : Ss) : TS := fun E σ H => ∃ B c dx ds rs w, c.σ = σ ∧ c.H = H ∧ Rel Γ B c ∧ B.Hb (meOf Γ) = some (.ins Γ.CB.C dx []) ∧ meOf Γ ∉ B.Mb ∧ ¬ B.N (meOf Γ) ∧
  runs cf ss c.w = .exn 7 (some (.tup [.lst ds, .lst rs])) w ∧ fixDs ds = true ∧ fixDs rs = true ∧ Left Γ B c dx ds rs w.s E.nx
theorem isMe_eq {o : Option D} {u : Unit} (h : isMe o = some u) : o = some .me := by
  unfold isMe at h
  split at h
  · rfl
  · cases h
theorem bind_exn {α β : Type} {r : R α} {k : α → Wd → R β} {n : Nat} {o : Option D} {w : Wd} (h : r.bind k = .exn n o w) : r = .exn n o w ∨ ∃ a w', r = .ok a w' ∧ k a w' = .exn n o w := by
  cases r with
  | ok a w' => exact .inr ⟨a, w', rfl, h⟩
  | exn c x w' => exact .inl (by have h : (R.exn c x w' : R β) = .exn n o w := h; cases h; rfl)
  | bad => cases h
theorem opt_exn {α β : Type} {o : Option α} {w0 w : Wd} {k : α → Wd → R β} {n : Nat} {y : Option D} (h : (R.opt o w0).bind k = .exn n y w) : ∃ a, o = some a ∧ k a w0 = .exn n y w := by
  cases o with
  | none => cases h
  | some a => exact ⟨a, rfl, h⟩
theorem put1 {p : Addr} : putF "wanted" (V.ref p) [] = [(("wanted" : Str), V.ref p)] := rfl
theorem put2 {p q : Addr} : putF "hands" (V.ref q) [(("wanted" : Str), V.ref p)] = bkF p q := by
  have h : ¬ (("wanted" : Str) = ("hands" : Str)) := by decide +kernel
  show (if ("wanted" : Str) = ("hands" : Str) then _ else (("wanted" : Str), V.ref p) :: putF "hands" (V.ref q) []) = _
  rw [if_neg h]; rfl
/-- the two fields are set -/
theorem done_end {a b : IL.E} (cl : Cls Γ.K Γ.CB.C) (nW : NoAttr Γ.K Γ.CB.C "wanted") (nH : NoAttr Γ.K Γ.CB.C "hands") (q : tIn Γ cf (.cons (.done a b) .nil) E σ H)
    (hx : ∀ w0 y w, ev cf a w0 ≠ .exn 7 y w) (hy : ∀ w0 y w, ev cf b w0 ≠ .exn 7 y w) :
    tSeq (sFld Γ.K (tVar 0) (tE Γ W (ev cf a)) "wanted") (sFld Γ.K (tVar 0) (tE Γ W (ev cf b)) "hands") E σ H := by
  obtain ⟨B, c, dx, ds, rs, w, rfl, rfl, hR, hb, hm, hn, q, fd, fr, K⟩ := q
  rcases bind_exn q with q | ⟨fl, w', q, q2⟩
  · rcases bind_exn q with q | ⟨x, w1, ha, q⟩
    · exact absurd q (hx _ _ _)
    obtain ⟨_, m1, q⟩ := opt_exn q
    rcases bind_exn q with q | ⟨y, w2, hb', q⟩
    · exact absurd q (hy _ _ _)
    obtain ⟨_, m2, q⟩ := opt_exn q
    have m1 := isMe_eq m1
    have m2 := isMe_eq m2
    by_cases hfr : (x.2 && y.2) = true
    · rw [if_pos hfr] at q
      rw [Bool.and_eq_true] at hfr
      obtain ⟨x1, x2⟩ := x
      obtain ⟨y1, y2⟩ := y
      obtain ⟨hf1, hf2⟩ := hfr
      have hf1 : x2 = true := hf1
      have hf2 : y2 = true := hf2
      subst hf1
      subst hf2
      injection q with _ q3 q4
      injection q3 with q3
      injection q3 with q3
      injection q3 with q5 q6
      injection q6 with q6 _
      have q5 : x1 = .lst ds := q5
      have q6 : y1 = .lst rs := q6
      subst q5
      subst q6
      subst q4
      have meM : ∀ {N : Addr → Prop} {c' : Cf}, Rel Γ ⟨N, B.Hb, B.Mb⟩ c' → meOf Γ ∉ c'.M := fun R z => (R.mnew _ z).elim hm fun z => by rw [show (⟨_, B.Hb, B.Mb⟩ : Bs).Hb = B.Hb from rfl, hb] at z; cases z
      have me0 : c.H (meOf Γ) = some (.ins Γ.CB.C dx []) := hR.frame _ _ hb hm
      have mec : ¬ c.isCell (meOf Γ) := fun z => hn (hR.cellH z).2.1
      refine ⟨B.snap c, c, rfl, rfl, hR.snap, run_ok ha fun c1 e1 e2 e3 R1 t1 v1 P1 => ?_⟩
      obtain ⟨p1, rfl, a1, a2, a3, a4, w1', a5, a6⟩ := P1.2 rfl
      have R1u : Rel Γ (B.ne p1) c1 := hR.unsnap a4
      have g1 := R1u.get (i := 0) (d := .me) (by rw [show c1.w = w1 from w_eq e1 e2]; exact m1)
      obtain ⟨u1, s1, hu1⟩ := g1
      have hu1 : u1 = .ref (meOf Γ) := hu1
      subst hu1
      have meS : snapH c (meOf Γ) = some (.ins Γ.CB.C dx []) := snapH_of me0 mec
      have me1 : c1.H (meOf Γ) = some (.ins Γ.CB.C dx []) := R1.frame _ _ meS (meM hR)
      have p1m : p1 ≠ meOf Γ := fun e => by rw [e] at a1; rw [show (B.snap c).Hb (meOf Γ) = snapH c (meOf Γ) from rfl, meS] at a1; cases a1
      have m1M := meM R1u
      have m1c : ¬ c1.isCell (meOf Γ) := fun z => hn (R1u.cellH z).2.1.1
      refine ⟨.ref (meOf Γ), by rw [← e3]; exact s1, meOf Γ, Γ.CB.C, dx, [], rfl, me1, cl, nW, by decide, ?_⟩
      rw [put1]
      generalize ho : HO.ins Γ.CB.C dx [(("wanted" : Str), V.ref p1)] = o1
      have fo1 : fix o1 = false := by subst ho; rfl
      obtain ⟨R2, t2⟩ := R1u.re (B' := (B.ne p1).ownO (meOf Γ) o1) (H' := upd c1.H (meOf Γ) o1) (meOf Γ) m1M m1c (fun a e => upd_ne e) rfl (fun a e => upd_ne e) (fun a e => ⟨fun z => z.1, fun z => ⟨z, e⟩⟩) (fun z => by rw [upd_same] at z; cases z)
        (fun o z => by
          have : ((B.ne p1).ownO (meOf Γ) o1).Hb (meOf Γ) = some o1 := upd_same
          rw [this] at z; cases z; exact upd_same) (fun o z nn => by
          rw [me1] at z; cases z
          rcases nn with nn | nn
          · exact absurd nn.1 hn
          · cases nn) fun o z nn => absurd nn.1 hn
      refine ⟨((B.ne p1).ownO (meOf Γ) o1).snap { c1 with H := upd c1.H (meOf Γ) o1 }, { c1 with H := upd c1.H (meOf Γ) o1 }, e3, rfl, R2.snap, run_ok (by rw [show Cf.w { c1 with H := upd c1.H (meOf Γ) o1 } = w1 from w_eq e1 e2]; exact hb') fun c3 f1 f2 f3 R3 t3 v2 P2 => ?_⟩
      obtain ⟨p2, rfl, b1, b2, b3, b4, w2', b5, b6⟩ := P2.2 rfl
      have R3u : Rel Γ (((B.ne p1).ownO (meOf Γ) o1).ne p2) c3 := R2.unsnap b4
      obtain ⟨u2, s2, hu2⟩ := R3u.get (i := 0) (d := .me) (by rw [show c3.w = w2 from w_eq f1 f2]; exact m2)
      have hu2 : u2 = .ref (meOf Γ) := hu2
      subst hu2
      have m2c : ¬ Cf.isCell { c1 with H := upd c1.H (meOf Γ) o1 } (meOf Γ) := m1c
      have meS2 : snapH { c1 with H := upd c1.H (meOf Γ) o1 } (meOf Γ) = some o1 := snapH_of upd_same m2c
      have me3 : c3.H (meOf Γ) = some o1 := R3.frame _ _ meS2 m1M
      have p1c : ¬ Cf.isCell { c1 with H := upd c1.H (meOf Γ) o1 } p1 := fun z => (R1u.cellH z).2.1.2 rfl
      have p1S : snapH { c1 with H := upd c1.H (meOf Γ) o1 } p1 = some (.lst w1') := snapH_of ((upd_ne p1m).trans a5) p1c
      have p13 : c3.H p1 = some (.lst w1') := R3.frame _ _ p1S a3
      have p2m : p2 ≠ meOf Γ := b2.2
      have p21 : p2 ≠ p1 := b2.1.2
      have hm3 : meOf Γ ∉ c3.M := fun z => (R3.mnew _ z).elim m1M fun z => by rw [show (Bs.snap _ { c1 with H := upd c1.H (meOf Γ) o1 }).Hb (meOf Γ) = snapH { c1 with H := upd c1.H (meOf Γ) o1 } (meOf Γ) from rfl, meS2] at z; cases z
      have p13M : p1 ∉ c3.M := fun z => (R3.mnew _ z).elim a3 fun z => by rw [show (Bs.snap _ { c1 with H := upd c1.H (meOf Γ) o1 }).Hb p1 = snapH { c1 with H := upd c1.H (meOf Γ) o1 } p1 from rfl, p1S] at z; cases z
      have m3c : ¬ c3.isCell (meOf Γ) := fun z => (R3u.cellH z).2.1.1.2 rfl
      subst ho
      refine ⟨.ref (meOf Γ), by
        have : c3.σ = c.σ := f3.trans e3
        rw [← this]; exact s2, meOf Γ, Γ.CB.C, dx, _, rfl, me3, cl, nH, (by show 1 < 1000; decide), ?_⟩
      rw [put2]
      obtain ⟨R4, t4⟩ := R3u.re (B' := ⟨fun a => B.N a ∧ a ≠ p1 ∧ a ≠ p2, hid (meOf Γ) B.Hb, B.Mb⟩) (H' := upd c3.H (meOf Γ) (.ins Γ.CB.C dx (bkF p1 p2))) (meOf Γ) hm3 m3c (fun a e => upd_ne e) rfl (fun a e => by
          show hid (meOf Γ) B.Hb a = upd B.Hb (meOf Γ) _ a
          rw [upd_ne e]; unfold hid; rw [if_neg e]) (fun a e => ⟨fun z => ⟨⟨⟨z.1, z.2.1⟩, e⟩, z.2.2⟩, fun z => ⟨z.1.1.1, z.1.1.2, z.2⟩⟩) (fun z => by rw [upd_same] at z; cases z)
        (fun o z => by
          have : hid (meOf Γ) B.Hb (meOf Γ) = some o := z
          unfold hid at this; rw [if_pos rfl] at this; cases this) (fun o z nn => by
          rw [me3] at z; cases z
          rcases nn with nn | nn
          · exact absurd rfl nn.1.2
          · cases nn) fun o z nn => absurd rfl nn.1.2
      have b1' : snapH { c1 with H := upd c1.H (meOf Γ) (.ins Γ.CB.C dx [(("wanted" : Str), V.ref p1)]) } p2 = none := b1
      have hB2 : B.Hb p2 = none := by
        have : ((B.ne p1).ownO (meOf Γ) (.ins Γ.CB.C dx [(("wanted" : Str), V.ref p1)])).Hb p2 = none := (snapH_none b1').elim (fun z => (R2.cellH z).2.2.2) fun z => (R2.fresh z).1
        rw [← this]; exact (upd_ne p2m).symm
      have hB1 : B.Hb p1 = none := (snapH_none a1).elim (fun z => (hR.cellH z).2.2.2) fun z => (hR.fresh z).1
      have ta := (((tr_fresh a1 t1).trans t2).trans (tr_fresh b1' t3)).trans t4
      have := K { c3 with H := upd c3.H (meOf Γ) (.ins Γ.CB.C dx (bkF p1 p2)) } p1 p2 w1' w2' f2 R4 ta upd_same ((upd_ne p1m).trans p13) ((upd_ne p2m).trans b5) hB1 hB2 p13M b3 hm3 a2 b2.1.1
        (reps_tr (Tr.fix ((t2.trans (tr_fresh b1' t3)).trans t4)) _ _ (fix_reps ds w1' fd a6)) (reps_tr (Tr.fix t4) _ _ (fix_reps rs w2' fr b6))
      have e4 : c3.σ = c.σ := f3.trans e3
      rw [← e4]; exact this
    · rw [if_neg hfr] at q; cases q
  · cases fl with
    | nx => cases q2
    | rt d fr => cases q2
theorem list_exn {i : Nat} : ∀ (w0 : Wd) (y : Option D) (w : Wd), ev cf (.b1 .list (.var i)) w0 ≠ .exn 7 y w := fun w0 y w h => by
  rcases bind_exn h with h | ⟨x, w1, _, h⟩
  · rcases bind_exn h with h | ⟨x, w1, _, h⟩
    · unfold Wd.read at h
      split at h <;> cases h
    · cases h
  · obtain ⟨_, _, h⟩ := opt_exn h
    cases h
variable (hO : Own Γ g nm k) (hC : Calls Γ g nm k cf)
include hO hC
theorem snd_init (cl : Cls Γ.K Γ.CB.C) (nW : NoAttr Γ.K Γ.CB.C "wanted") (nH : NoAttr Γ.K Γ.CB.C "hands") (hx : Γ.ex 7 = none) : ∀ (ss : Ss) {sts : List Stmt} {X : Cx} {W : WX}, CtS Γ g k X W → chkI2 nm X.N X.env.scope ss sts = true → PSs X sts (tIn Γ cf ss)
  | .nil, sts, X, W, hX, h => by
    unfold chkI2 at h
    cases h
  | .cons s ss, sts, X, W, hX, h => by
    unfold chkI2 at h
    split at h
    · rename_i i j x y
      split at h
      · rename_i o f v o' f' v' hx1 hx2
        obtain ⟨q1, r1, rfl⟩ := asFld_eq hx1
        obtain ⟨q2, r2, rfl⟩ := asFld_eq hx2
        simp only [Bool.and_eq_true, decide_eq_true_eq] at h
        obtain ⟨⟨⟨⟨⟨⟨⟨h1, h2⟩, h3⟩, h4⟩, h5⟩, h6⟩, h7⟩, h8⟩ := h
        subst h3
        subst h4
        have s1 := ps_fld (f := "wanted") (pos' := q1) (pos := r1) (pe_name h1) (snd_E hO hC (.b1 .list (.var i)) hX.toCt h5) (sw_nc h7)
        have s2 := ps_fld (f := "hands") (pos' := q2) (pos := r2) (pe_name h2) (snd_E hO hC (.b1 .list (.var j)) hX.toCt h6) (sw_nc h8)
        rw [hX.at_.k] at s1 s2
        exact pss_imp (pss_cons s1 (pss_one s2)) fun E σ H q => done_end cl nW nH q list_exn list_exn
      · cases h
    · rename_i x xs _
      rw [Bool.and_eq_true] at h
      refine pss_imp (pss_cons (snd_S hO hC s hX h.1) (snd_init cl nW nH hx ss hX h.2)) fun E σ H q => ?_
      obtain ⟨B, c, dx, ds, rs, w, rfl, rfl, hR, hb, hm, hn, q, fd, fr, K⟩ := q
      refine ⟨B, c, rfl, rfl, hR, ?_⟩
      have q : (runS cf s c.w).bind (fun fl w => match fl with | .nx => runs cf ss w | .rt d fr => .ok (.rt d fr) w) = .exn 7 (some (.tup [.lst ds, .lst rs])) w := q
      rcases bind_exn q with q | ⟨fl, w', q, q2⟩
      · rw [q]
        exact fun c' cls dd _ _ _ _ z => by obtain ⟨_, _, z, _⟩ := z; rw [hx] at z; cases z
      · rw [q]
        intro c' e1 e2 R t
        cases fl with
        | rt d fr => cases q2
        | nx => exact ⟨B, c', dx, ds, rs, w, rfl, rfl, R, hb, hm, hn, by rw [show c'.w = w' from w_eq e1 e2]; exact q2, fd, fr, fun c'' p1 p2 w1 w2 a b t' => K c'' p1 p2 w1 w2 a b (t.trans t')⟩
    · cases h
end
end IL

set_option Elab.async false
set_option linter.all false
set_option maxRecDepth 100000
set_option maxHeartbeats 4000000
/-! IL: the class made by its call; all calls. -/
namespace IL
open PySem L2
section
variable {Γ : Gm} {g : Pg} {nm : Nm} {k : Nat} {cf : Nat → List D → List Ob → CR} {X : Cx} {W : WX} {B B' : Bs} {c c0 c1 c2 : Cf} {σ : L2.St} {H : Hp} {Q : VK} {x : Expr} {d : D} {v : V} {fr : Bool} {E : Ends} {L : List Addr} {init : Df}
/-- what __init__ promises -/
def spI (Γ : Gm) (cf : Nat → List D → List Ob → CR) (ib : Nat) : Sp := fun vs H Q _ => ∃ (N : Addr → Prop) (M : List Addr) (s : List Ob) (x dx : Addr) (d1 d2 : D) (v1 v2 : V) (ds rs : List D) (s' : List Ob),
  vs = [.ref x, v1, v2] ∧ H x = some (.ins Γ.CB.C dx []) ∧ ¬ N x ∧ x ∉ M ∧ Rel (Γ.at x) ⟨N, H, M⟩ ⟨M, [], s, [], H⟩ ∧ (Γ.at x).R ⟨N, H, M⟩ ⟨M, [], s, [], H⟩ d1 v1 ∧ (Γ.at x).R ⟨N, H, M⟩ ⟨M, [], s, [], H⟩ d2 v2 ∧
  cf ib [.me, d1, d2] s = .exn 7 (some (.tup [.lst ds, .lst rs])) s' ∧ fixDs ds = true ∧ fixDs rs = true ∧ Left (Γ.at x) ⟨N, H, M⟩ ⟨M, [], s, [], H⟩ dx ds rs s' fun _ H' => Q .non H'
theorem fin_exn {r : R IL.Flow} {n : Nat} {o : Option D} {s : List Ob} (h : fin r = .exn n o s) : ∃ w, r = .exn n o w ∧ w.s = s := by
  cases r with
  | ok fl w => cases fl <;> cases h
  | exn a b w => cases h; exact ⟨w, rfl, rfl⟩
  | bad => cases h
theorem init_ok {tab : List Df} {n i : Nat} {st : Stmt} {fa : Addr} {fd : FuncData} (ht : tab[i]? = some init) (F : Fun Γ.K "__init__" "Book.__init__" st fa fd) (hc : initOk nm init st = true) (cl : Cls Γ.K Γ.CB.C) (nW : NoAttr Γ.K Γ.CB.C "wanted") (nH : NoAttr Γ.K Γ.CB.C "hands")
    (hx : Γ.ex 7 = none) (hO : ∀ y, Own (Γ.at y) g nm k) (hC : ∀ y, Calls (Γ.at y) g nm k (callF tab n)) :
    FnG g.P g.w Γ.K g.mg g.base (L2.CX g.P g.w) (k + 1) fa fd (init.vars.take 3) (spI Γ (callF tab (n + 1)) i) := by
  unfold initOk at hc
  simp only [Bool.and_eq_true, decide_eq_true_eq] at hc
  obtain ⟨⟨⟨h1, h2⟩, h3⟩, h4⟩ := hc
  have S := fs_of h3
  have hnp : (init.vars.take 3).length = 3 := by rw [List.length_take]; omega
  have F' : Fun Γ.K "__init__" "Book.__init__" st fa fd := F
  have body : ∀ (cdv : Value) (A : Around) (outer : List Env) (s : Shared) (H : Hp) (vs : List V) (Q : VK) (E : XK), A.guards = some [] → Room k (A.deeper (PyProof.Rows.envOfC "Book.__init__" (defScope st) s.heap.objs.size fa cdv)) → spI Γ (callF tab (n + 1)) i vs H Q E →
      ∃ t, PSs (cxOf (L2.CX g.P g.w) g.P g.w Γ.K g.mg g.base init.vars "Book.__init__" (defScope st) fa cdv A outer s H E) (defBody st) t ∧ t { nx := fun _ H' => Q .non H', rt := Q } (L2.start init.vars vs) H := by
    intro cdv A outer s H vs Q E hg hr ⟨N, M, s0, y, dx, d1, d2, v1, v2, ds, rs, s', hv, hi, hn, hm, hR, r1, r2, hcf, fd', fr', K⟩
    subst hv
    generalize hX : cxOf (L2.CX g.P g.w) g.P g.w Γ.K g.mg g.base init.vars "Book.__init__" (defScope st) fa cdv A outer s H E = X
    have hXs : CtS (Γ.at y) g k X fun cls d _ H => E cls d H := by
      subst hX
      refine ⟨⟨⟨rfl, rfl, rfl, rfl, rfl⟩, rfl, takes_of rfl rfl rfl rfl, hg, hr, S.nd⟩, passes_of rfl, fun x h => ⟨h, .inl rfl⟩, S.kind, rfl, rfl⟩
    have hN : X.N = init.vars := by subst hX; rfl
    have hS : X.env.scope = defScope st := by subst hX; rfl
    rw [← hN, ← hS] at h4
    obtain ⟨t', ht', hi'⟩ := strip_ok (snd_init (hO y) (hC y) cl nW nH hx init.body hXs h4)
    refine ⟨t', ht', hi' _ _ _ ?_⟩
    obtain ⟨R1, t1⟩ := start_rel (Γ := Γ.at y) (n := init.vars.length - 3) (NN := init.vars) (ds := [.me, d1, d2]) (vs := [.ref y, v1, v2]) hR (by
      show reps _ _ _ _ _ [.me, d1, d2] [.ref y, v1, v2]
      unfold reps
      exact ⟨_, _, rfl, rfl, two_rs r1 r2⟩) rfl
    have hcf' : fin (runs (callF tab n) init.body ⟨[D.me, d1, d2].map Sl.val ++ List.replicate (init.vars.length - 3) Sl.no, s0⟩) = .exn 7 (some (.tup [.lst ds, .lst rs])) s' := by
      rw [← hcf]
      conv => rhs; unfold callF
      rw [ht]
      show _ = (if [D.me, d1, d2].length = init.np then _ else _)
      rw [if_pos (by rw [h1]; rfl), h1]
    obtain ⟨w, hw, hs⟩ := fin_exn hcf'
    subst hs
    exact ⟨⟨N, H, M⟩, ⟨M, [D.me, d1, d2].map Sl.val ++ List.replicate (init.vars.length - 3) Sl.no, s0, L2.start init.vars [.ref y, v1, v2], H⟩, dx, ds, rs, w, rfl, rfl, R1, hi, hm, hn, hw, fd', fr', fun c' p1 p2 w1 w2 a b t => K c' p1 p2 w1 w2 a b (t1.trans t)⟩
  obtain ⟨oc, od, kV, doc, pm, an, cdv, ct, osl, rfl, lk, hcd⟩ := F.ex
  have len : ∀ vs H Q E, spI Γ (callF tab (n + 1)) i vs H Q E → vs.length = (init.vars.take 3).length := fun vs H Q E ⟨_, _, _, _, _, _, _, _, _, _, _, _, e, _⟩ => by rw [e, hnp]; rfl
  refine ⟨len, fun A outer s H args us vs Q E hg hr e0 hb rv hsp => ?_⟩
  have inK : Γ.K.In s.heap := e0.mod.kin.keeps fun b o e => (e0.bs b o e).1
  have noLim : s.heap.NoLimit := e0.mod.nolimit.keeps fun b o e => (e0.bs b o e).1
  have hl := len _ _ _ _ hsp
  refine codeAny_call_function hr.depth (inK _ _ lk) rfl S.co S.gen rfl (PySem.W.codeRec_of inK hcd) (hb _ _ _ _ ?_)
  refine wpAny_newFunctionEnv_cells S.kind (fun y hy => ?_) fun env he s1 ic => ?_
  · obtain ⟨n, u⟩ := y
    exact (S.par n (List.of_mem_zip hy).1).imp id fun q => ⟨q, PySem.W.cellsFrom_some _ _ _ (.inl q)⟩
  · subst he
    refine ⟨noLim.keeps ic.toInCall.keep, codeAny_func ?_⟩
    obtain ⟨t, ht, hq⟩ := body cdv A outer s H vs Q E hg (hr.deeper _) hsp
    have I := inv_start (CX := L2.CX g.P g.w) (E := E) S hr.hd e0 hl rv ic
    refine wpAny_mono (ht.run [] s1 (L2.start init.vars vs) H _ I hq) (fun fl s' hs => ?_) fun e s' hs => hs
    cases fl with
    | ret u => exact let ⟨v, σ', H', J, r, q⟩ := hs; ⟨v, H', J.os, J.bare, J.base, J.hok, r, q⟩
    | next => exact let ⟨σ', H', J, q⟩ := hs; ⟨V.non, H', J.os, J.bare, J.base, J.hok, rfl, q⟩
    | brk => exact let ⟨_, _, _, q⟩ := hs; q.elim
    | cont => exact let ⟨_, _, _, q⟩ := hs; q.elim
theorem make_guards {A : Around} {C : Addr} {us : List Value} {kw : List (Str × Value)} : (A.under (.builtin "type.__call__" ⟨.ref C :: us, kw⟩)).guards = A.guards := by
  first | rfl | simp [Around.under, Code.weight, Code.isCreation, Code.isGuard, Code.isCaller, Code.frames, Code.isFrame, guardIds]
end
end IL

set_option Elab.async false
set_option linter.all false
set_option maxRecDepth 100000
set_option maxHeartbeats 4000000
/-! IL: all calls, at any depth. -/
namespace IL
open PySem L2
section
variable {Γ : Gm} {g : Pg} {nm : Nm} {k : Nat} {cf : Nat → List D → List Ob → CR} {X : Cx} {W : WX} {B B' : Bs} {c c0 c1 c2 : Cf} {σ : L2.St} {H : Hp} {Q : VK} {x : Expr} {d : D} {v : V} {fr : Bool} {E : Ends} {L : List Addr} {init : Df}
theorem Rel.hb {N : Addr → Prop} {Hb Hb' : Hp} {M : List Addr} (hR : Rel Γ ⟨N, Hb, M⟩ c) (h : ∀ a o, Hb' a = some o → Hb a = some o) : Rel Γ ⟨N, Hb', M⟩ c := by
  have hn : ∀ a, Hb a = none → Hb' a = none := fun a z => by
    cases e : Hb' a with
    | none => rfl
    | some o => rw [h a o e] at z; cases z
  exact ⟨hR.len, hR.new, fun a o z => hR.frame a o (h a o z), hR.mpre, fun a z => (hR.mnew a z).imp id (hn a), hR.mnd, hR.mlen, hR.val, fun i d z => let ⟨p, h1, h2, h3, h4, h5⟩ := hR.cell i d z; ⟨p, h1, hn p h2, h3, h4, h5⟩, hR.apart, hR.sto⟩
/-- what __init__ is handed, and what its caller gets -/
theorem make_sp {ib : Nat} {vs : List V} {x dx : Addr} (X0 : XK) (h : rMk Γ cf ib vs H Q) (hx : H x = none) (hd : H dx = none) (hne : dx ≠ x) : spI Γ cf ib (.ref x :: vs) (upd (upd H dx (.own x)) x (.ins Γ.CB.C dx [])) (fun v H2 => v = .non ∧ Q (.ref x) H2) X0 := by
  obtain ⟨B, c, d1, d2, v1, v2, ds, rs, s', rfl, rfl, hR, g1, g2, hcf, fd, fr, ⟨m1, m2, m3, m4⟩, P⟩ := h
  obtain ⟨R1, t1⟩ := hR.alloc hd (.own x)
  have R1' : Rel Γ B { c with H := upd c.H dx (.own x) } := R1.weaken
  have t1' : TrC B c B { c with H := upd c.H dx (.own x) } := t1.trans tr_weaken
  have hx1 : upd c.H dx (.own x) x = none := (upd_ne (Ne.symm hne)).trans hx
  obtain ⟨R2, t2⟩ := R1'.alloc hx1 (.ins Γ.CB.C dx [])
  have f := hR.fresh hx
  generalize hH2 : upd (upd c.H dx (.own x)) x (.ins Γ.CB.C dx []) = H2
  have R2 : Rel Γ (B.ne x) { c with H := H2 } := by rw [← hH2]; exact R2
  have t2 : TrC B c (B.ne x) { c with H := H2 } := by rw [← hH2]; exact t1'.trans t2
  have sub : ∀ a o, c.H a = some o → hid x H2 a = some o := fun a o z => by
    have e1 : a ≠ x := ne_of_none z hx
    unfold hid
    rw [if_neg e1, ← hH2, upd_ne e1, upd_ne (ne_of_none z hd)]; exact z
  refine ⟨fun a => (B.ne x).N a ∧ ¬ Cf.isCell { c with H := H2 } a, c.M, c.s, x, dx, d1, d2, v1, v2, ds, rs, s', rfl, by rw [← hH2]; exact upd_same, fun z => z.1.2 rfl, f.2.2.1, rel_me x R2.callee rfl m3, me_rep x d1 v1 m1 (rep_tr (t2.trans tr_to) _ _ g1), me_rep x d2 v2 m2 (rep_tr (t2.trans tr_to) _ _ g2), hcf, fd, fr, ?_⟩
  intro c' p1 p2 w1 w2 hs R t hX hp1 hp2 b1 b2 n1 n2 nx k1 k2 rd rr
  refine ⟨rfl, ?_⟩
  have RD : Rel Γ ⟨fun a => ((B.ne x).N a ∧ ¬ Cf.isCell { c with H := H2 } a) ∧ a ≠ p1 ∧ a ≠ p2, hid x H2, c.M⟩ c'.drop := rel_me (Γ := Γ.at x) Γ.CB.me R.drop rfl (by show c'.s.all noMeO = true; rw [hs]; exact m4)
  have RC : Rel Γ ⟨fun a => ((B.ne x).N a ∧ ¬ Cf.isCell { c with H := H2 } a) ∧ a ≠ p1 ∧ a ≠ p2, c.H, c.M⟩ c'.drop := RD.hb sub
  have cw : ∀ a, Cl ⟨fun a => ((B.ne x).N a ∧ ¬ Cf.isCell { c with H := H2 } a) ∧ a ≠ p1 ∧ a ≠ p2, c.H, c.M⟩ c'.drop a → Cl B (c.back c'.drop) a := fun a n => ⟨n.1.1.1.1, n.2.1, n.1.1.2⟩
  have tw : TrC ⟨fun a => ((B.ne x).N a ∧ ¬ Cf.isCell { c with H := H2 } a) ∧ a ≠ p1 ∧ a ≠ p2, c.H, c.M⟩ c'.drop B (c.back c'.drop) := Tr.weaken fun a _ _ n => cw a n
  have tb : TrC B c B (c.back c'.drop) := ((t2.trans (tr_to (B := B.ne x) (c := { c with H := H2 }))).trans (Tr.trans t drop_tr)).trans tw
  have RF : Rel Γ B (c.back c'.drop) := hR.backG RC rfl rfl rfl rfl tb tw (fun a z => (RC.new a z).1.1.1) fun p z => (hR.cellH z).2.1
  refine P (.ref x) (c.back c'.drop) rfl hs rfl RF tb ⟨⟨x, dx, p1, p2, w1, w2, rfl, hX, ⟨f.2.1, nx, f.2.2.2⟩, ⟨hp1, ⟨k1.1.1, n1, k1.2⟩, ?_⟩, hp2, ⟨k2.1.1, n2, k2.2⟩, ?_⟩, fun z => nomatch z⟩
  · exact me_repF (CB := { Γ.CB with me := x }) (N := fun _ => False) (M := []) Γ.CB.me ds w1 (fix_noMes ds fd) rd
  · exact me_repF (CB := { Γ.CB with me := x }) (N := fun _ => False) (M := []) Γ.CB.me rs w2 (fix_noMes rs fr) rr
theorem make_rule {fI : Addr} {fd : FuncData} {ib : Nat} {ps : List Str} (hF : FnG g.P g.w Γ.K g.mg g.base (L2.CX g.P g.w) k fI fd ps (spI Γ cf ib)) (M : Mk Γ.K Γ.CB.C fI) (hmg : g.mg (Str.ofString "Book") = some (.ref Γ.CB.C)) (hb : Binds Γ.K fd ps [])
    (X : Cx) (ax : At Γ g X) (gd : X.A.guards = some []) (hr : Room (k + 1) X.A) (hg : Gl X (Str.ofString "Book")) (a b : Expr) (p q : Pos) (t : TA) (ha : noStar a = true) (hb' : noStar b = true) (pa : PA X [a, b] t) :
    PE X (.Call (.Name (Str.ofString "Book") p) [a, b] [] q) fun σ H Q => t σ H fun vs H1 => rMk Γ cf ib vs H1 Q := by
  refine ⟨fun pins s σ H Q I h => wpAny_Call_Name_kw (ld_glob I hg (by rw [ax.m]; exact hmg) ?_ (by decide +kernel))⟩
  refine PySem.W.callWith_K (h₀ := X.base) I.ok.mod.kin (by rw [ax.k]; exact M.kp) (thn (pa.run q pins s σ H _ I h) fun us s1 ⟨vs, H1, I1, r, z⟩ => ⟨I1.kIn, ?_⟩) (star_cons ha) (by rw [star_cons hb']; rfl)
  have hq := make_sp (x := s1.heap.objs.size + 1) (dx := s1.heap.objs.size) (fun _ _ _ => False) z (I1.hok.fresh (Nat.le_succ _)) (I1.hok.fresh (Nat.le_refl _)) (Nat.ne_of_lt (Nat.lt_succ_self _))
  have I2 := Inv.made (C := Γ.CB.C) I1
  have r2 : Vals (V.ref (s1.heap.objs.size + 1) :: vs) (Value.ref (s1.heap.objs.size + 1) :: us) := .cons rfl r
  have hF' : FnG X.prog X.w X.K X.mg X.base (L2.CX X.prog X.w) k fI fd ps (spI Γ cf ib) := by rw [ax.p, ax.w, ax.k, ax.m, ax.b]; exact hF
  have hl : (Value.ref (s1.heap.objs.size + 1) :: us).length = ps.length := by rw [← r2.length]; exact hF'.len _ _ _ (fun _ _ _ => False) hq
  have bd := (by rw [ax.k]; exact hb : Binds X.K fd ps []) { s1 with heap := (s1.heap.push PySem.W.emptyDict).push (PySem.W.instObj Γ.CB.C s1.heap.objs.size) } (.ref (s1.heap.objs.size + 1) :: us) I2.kIn (by rw [List.append_nil]; exact hl)
  rw [List.append_nil] at bd
  refine wpAny_call (make_map (f := fI) I1.kIn (by rw [ax.k]; exact M.makes) (by rw [ax.k]; exact M.init) (beq_iff_eq.mp (by rw [ax.k]; exact M.fn)) (codeAny_mono (hF'.run _ X.stack _ _ ⟨Value.ref (s1.heap.objs.size + 1) :: us, []⟩ (Value.ref (s1.heap.objs.size + 1) :: us) _ _ (fun _ _ _ => False)
    (make_guards.trans gd) (hr.make Γ.CB.C us []) (I2.env0.make Γ.CB.C us []) bd r2 hq) fun r' s' hq' => ?_))
  cases r' with
  | error e => obtain ⟨_, _, _, _, _, _, _, _, _, _, _, _, z⟩ := hq'; exact z.elim
  | ok fl =>
    cases fl with
    | next => exact False.elim hq'
    | brk => exact False.elim hq'
    | cont => exact False.elim hq'
    | ret u =>
      obtain ⟨v, H', I3, rv, ev, q3⟩ := I2.after hq'
      subst ev
      exact ⟨rv, ⟨V.ref (s1.heap.objs.size + 1), H', I3, rfl, q3⟩⟩
/-- where the defs stand: those that are called by name, and the class -/
structure Defs (Γ : Gm) (g : Pg) (nm : Nm) (tab : List Df) : Prop where
  at_ : ∀ (i : Nat) x, nm.fs[i]? = some x → ∃ df st fa fd, tab[i]? = some df ∧ g.mg x = some (.ref fa) ∧ Fun Γ.K df.name df.name st fa fd ∧ Binds Γ.K fd (df.vars.take df.np) [] ∧ defOk nm df st = true
  bn : ∀ x ∈ bnames, g.mg (Str.ofString x) = none
  cs : ∀ x i, nm.cs.lookup x = some i → ∃ t, g.mg x = some (.int i t)
  init : ∃ df, tab[nm.ib]? = some df ∧ BookAt Γ g nm df
  x7 : ∀ n, n < 8 → Γ.ex n = none
  exc : ∀ (j : Nat) x fld, nm.xs[j]? = some (x, fld) → ∃ C, Γ.ex (8 + j) = some (C, fld) ∧ g.mg x = some (.ref C) ∧ XcR g Γ.K C fld
  exm : ∀ (i j : Nat) C C' f f', Γ.ex i = some (C, f) → Γ.ex j = some (C', f') → PySem.W.exmOne Γ.K (.ref C) (.ref C') = some (decide (i = j))
theorem BookAt.at (h : BookAt Γ g nm init) (y : Addr) : BookAt (Γ.at y) g nm init := ⟨h.cl, h.nW, h.nH, h.mg, h.blt, h.bis, h.ty, h.eqm, h.init, h.len, h.dem, h.rdr⟩
theorem Defs.at {tab : List Df} (h : Defs Γ g nm tab) (y : Addr) : Defs (Γ.at y) g nm tab := ⟨h.at_, h.bn, h.cs, let ⟨df, h1, h2⟩ := h.init; ⟨df, h1, h2.at y⟩, h.x7, h.exc, h.exm⟩
theorem own_of {tab : List Df} (h : Defs Γ g nm tab) (hk : 2 ≤ k) : Own Γ g nm k := by
  obtain ⟨df, _, hb⟩ := h.init
  exact ⟨hb.ty, fun X a _ r => eq_rule hb X a (r.mono hk), h.bn, h.cs, fun X a _ r => len_rule hb X a (r.mono hk), fun X a _ r => dem_rule hb X a (r.mono (by omega)), h.x7, hk, h.exc, h.exm, fun X a _ r => rdr_rule hb X a (r.mono (by omega))⟩
theorem FnG.up {P : Program} {w : World} {K : PySem.W.Frag} {mg : Str → Option Value} {base : Heap} {CX : CXT} {j : Nat} {f : Addr} {fd : FuncData} {ps : List Str} {sp : Sp} (F : FnG P w K mg base CX j f fd ps sp) (h : j ≤ k) : FnG P w K mg base CX k f fd ps sp := F.mono h
theorem calls_all {tab : List Df} : ∀ (n : Nat) (Γ : Gm), Defs Γ g nm tab → Calls Γ g nm (2 + 2 * n) (callF tab n)
  | 0, Γ, hD => by
    refine ⟨fun i x h => ?_, ?_⟩
    · obtain ⟨df, st, fa, fd, h0, h1, h2, h3, h4⟩ := hD.at_ i x h
      exact ⟨fa, fd, _, h1, h2.kp, h3, ⟨fun vs H Q E ⟨N, M, s, ds, hl, _, hd, _⟩ => by rw [← hl]; exact reps_len hd, fun A outer s H args us vs Q E _ _ _ _ _ ⟨N, M, s, ds, hl, _, hd, q⟩ => q.elim⟩, fun _ _ _ => rfl⟩
    · obtain ⟨df, h0, hb⟩ := hD.init
      obtain ⟨st, f, fd, hM, hF, hB, hc⟩ := hb.init
      refine fun X a gd hr => make_rule (k := 1) ⟨fun vs H Q E ⟨_, _, _, _, _, _, _, _, _, _, _, _, _, _, _, _, _, _, _, q, _⟩ => (nomatch q), fun A outer s H args us vs Q E _ _ _ _ _ ⟨_, _, _, _, _, _, _, _, _, _, _, _, _, _, _, _, _, _, _, q, _⟩ => (nomatch q)⟩ hM hb.mg hB X a gd (hr.mono (by omega))
  | n + 1, Γ, hD => by
    have ih := fun y => calls_all n (Γ.at y) (hD.at y)
    have ih0 := calls_all n Γ hD
    refine ⟨fun i x h => ?_, ?_⟩
    · obtain ⟨df, st, fa, fd, h0, h1, h2, h3, h4⟩ := hD.at_ i x h
      refine ⟨fa, fd, _, h1, h2.kp, h3, (def_ok h0 h2 h4 (own_of hD (by omega)) ih0).mono (by omega), fun ds s hl => ?_⟩
      have hnp : (df.vars.take df.np).length = df.np := by
        unfold defOk at h4
        simp only [Bool.and_eq_true, decide_eq_true_eq] at h4
        rw [List.length_take]
        have := h4.1.2
        omega
      unfold callF
      rw [h0]
      show (if ds.length = df.np then _ else _) = _
      rw [if_neg (by rw [← hnp]; exact hl)]
    · obtain ⟨df, h0, hb⟩ := hD.init
      obtain ⟨st, f, fd, hM, hF, hB, hc⟩ := hb.init
      exact fun X a gd hr => make_rule (init_ok h0 hF hc hb.cl hb.nW hb.nH (hD.x7 7 (by decide)) (fun y => own_of (hD.at y) (by omega)) ih) hM hb.mg hB X a gd (hr.mono (by omega))
end
end IL

set_option Elab.async false
set_option linter.all false
set_option maxRecDepth 100000
set_option maxHeartbeats 4000000
/-! IL: a law's end. -/
namespace IL
open PySem L2 PySem.Spec PyProof.Rows
section
variable {Γ : Gm} {g : Pg} {nm : Nm} {k : Nat} {cf : Nat → List D → List Ob → CR}
/-- the law's def, called behind the top on the script -/
theorem law_go {P : Program} {w : World} {F : PySem.W.Frag} {mg mb : Str → Option Value} {j : Nat} {fa a : Addr} {fd : FuncData} {x : Str} {sp : Sp} {s₁ : Shared} {its : List Value} {ns : List Int}
    (inF : F.In s₁.heap) (nsG : s₁.heap.Ns mainGlobals mg) (nsB : s₁.heap.Ns builtinsNs mb) (boot : ∀ y : Str, y ≠ "__name__" → mb y = bootBuiltins y) (noL : s₁.heap.NoLimit) (noG : s₁.gens = #[])
    (obj : s₁.heap.get? a = some { cls := .type "list", data := .seq its.toArray }) (nums : IntsAre its ns) (size : ns.length ≤ sizeLine) (room : Room j callerA)
    (prom : ∀ b : Heap, F.In b → b.Ns mainGlobals mg → FnG P w F mg b (L2.CX P w) j fa fd [x] sp) (bnd : ∀ (s : Shared) (u : Value), BindsTo s fd ⟨[u], []⟩ [(x, u)])
    (spec : ∀ H : Hp, Only H → SqL F H a (ns.map V.int) → sp [.ref a] H (fun v _ => v = .bl true) fun _ _ _ => False) :
    codeAny (model P w) callerA (.call (.ref fa) ⟨[.ref a], []⟩) (fun r s' => r = .ok (.ret (.bool true)) ∧ OldK s₁.heap s'.heap ∧ s'.os = s₁.os ∧ AllBare s'.gens) s₁ := by
  have vi := vals_ints nums
  have il := nums.length
  have main : ∀ H : Hp, Only H → SqL F H a (ns.map V.int) → HOk P w H s₁.heap → (∀ b, H b ≠ none → b = a ∧ F.lookup a = none) →
      codeAny (model P w) callerA (.call (.ref fa) ⟨[.ref a], []⟩) (fun r s' => r = .ok (.ret (.bool true)) ∧ OldK s₁.heap s'.heap ∧ s'.os = s₁.os ∧ AllBare s'.gens) s₁ := by
    intro H only sq ok one
    have none_or : ∀ b, H b = none ∨ (b = a ∧ F.lookup a = none) := fun b => by
      by_cases z : H b = none
      · exact .inl z
      · exact .inr (one b z)
    have nsK : ∀ {b : Addr} {m : Str → Option Value}, s₁.heap.Ns b m → (hidT s₁.heap H).Ns b m := fun {b m} ⟨o, es, ep, e, d, r⟩ => by
      refine ⟨o, es, ep, hidT_get e ((none_or b).elim id fun ⟨z, _⟩ => ?_), d, r⟩
      subst z
      rw [obj] at e; cases e; cases d
    have inK : F.In (hidT s₁.heap H) := fun b o e => hidT_get (inF b o e) ((none_or b).elim id fun ⟨z, z'⟩ => by subst z; rw [z'] at e; cases e)
    have md : Mod F mg (hidT s₁.heap H) := ⟨inK, nsK nsG, ⟨mb, nsK nsB, boot⟩, let ⟨mc, l1, l2⟩ := noL; ⟨mc, nsK l1, l2⟩⟩
    have env : Env0 P w F mg (hidT s₁.heap H) callerA [] s₁ H := ⟨rfl, md, fun b o e => of_hidT e, Nat.le_of_eq (hidT_size _ _), trivial, fun b hb => by simp [frs] at hb, ok, .of_eq noG⟩
    refine codeAny_mono ((prom _ inK (nsK nsG)).run callerA [] s₁ H ⟨[.ref a], []⟩ [.ref a] [.ref a] _ _ rfl room env (bnd s₁ (.ref a)) (.cons rfl .nil) (spec H only sq)) fun r s' hr => ?_
    cases r with
    | error e => obtain ⟨_, _, _, _, _, _, _, _, _, _, _, _, z⟩ := hr; exact z.elim
    | ok fl =>
      cases fl with
      | next => exact hr.elim
      | brk => exact hr.elim
      | cont => exact hr.elim
      | ret u =>
        obtain ⟨v, H', os, bare, un, ok', rv, qv⟩ := hr
        have qv : v = .bl true := qv
        subst qv
        obtain rfl : u = Value.bool true := rv
        refine ⟨rfl, OldK.of_keep fun b o e => ?_, os, bare⟩
        rcases only b with z | ⟨ob, xs, z⟩
        · exact un.keep b o e z (by simp [frs]) (by simp)
        · obtain ⟨k1, _⟩ := ok b _ z
          obtain ⟨k2, _⟩ := ok' b _ (un.frzs b ob _ z)
          rw [e] at k1; cases k1
          exact k2
  cases lk : F.lookup a with
  | some o =>
    have e := inF a o lk
    rw [obj] at e
    cases e
    exact main (fun _ => none) (fun _ => .inl rfl) (.inr ⟨_, its.toArray, _, lk, rfl, rfl, rfl, by rw [List.size_toArray, il]; exact size, by simpa using vi⟩) (fun b u z => by cases z) fun b z => absurd rfl z
  | none =>
    refine main (fun b => if b = a then some (.frz { cls := .type "list", data := .seq its.toArray } (.lst (ns.map V.int))) else none) (fun b => ?_) (.inl (.inr ⟨{ cls := .type "list", data := .seq its.toArray }, if_pos rfl⟩)) (fun b u z => ?_) fun b z => ?_
    · by_cases e : b = a
      · exact .inr ⟨_, _, if_pos e⟩
      · exact .inl (if_neg e)
    · dsimp only at z
      by_cases e : b = a
      · subst e
        rw [if_pos rfl] at z
        cases z
        exact ⟨obj, by rw [List.length_map]; exact size, its, _, vi, obj⟩
      · rw [if_neg e] at z; cases z
    · by_cases e : b = a
      · exact ⟨e, lk⟩
      · exact absurd (if_neg e) z
/-- the script as the evaluator is handed it -/
theorem spec_go {tab : List Df} {n li : Nat} {H : Hp} {a : Addr} {ns : List Int} {fr : Bool} {s : List Ob} (only : Only H) (sq : SqL Γ.K H a (ns.map V.int)) (h : callF tab n li [.scr ns] [] = .ok (.bl true) fr s) :
    spF Γ (callF tab n) 1 li [.ref a] H (fun v _ => v = .bl true) fun _ _ _ => False := by
  refine ⟨fun a => H a = none, [], [], [.scr ns], rfl, { len := rfl, new := fun _ z => z, frame := fun _ _ z _ => z, mpre := fun _ _ z => z, mnew := fun _ z => (by cases z), mnd := List.nodup_nil, mlen := rfl, val := fun i d z => (by simp at z), cell := fun i d z => (by simp at z), apart := fun i j d d' p z => (by simp at z), sto := fun n ob z => (by simp at z) }, ?_, ?_⟩
  · show reps _ _ _ _ _ [.scr ns] [.ref a]
    unfold reps
    refine ⟨_, _, rfl, ⟨a, rfl, ?_⟩, by unfold reps; rfl⟩
    rcases sq with (z | ⟨o, z⟩) | z
    · rcases only a with y | ⟨ob, xs, y⟩
      · rw [y] at z; cases z
      · rw [y] at z; cases z
    · exact .inl ⟨o, z⟩
    · exact .inr fun H' => .inr z
  · rw [h]
    exact fun v c' _ _ _ _ _ p => p.1
theorem walk_go {l : PySem.W.OpenLaw} {n j : Nat} {q : Program} {loose : List Str} {XP : (Str → Option Value) → Heap → Prop} {YP : World → Heap → Prop} {d : DefRec} {F : Params → PySem.W.Frag} {x : Str} {tab : List Df} {m li : Nat}
    (hn : l.most = some n) (hn2 : n ≤ sizeLine) (hdf : d.params.defaults = []) (room : Room j callerA) (hY : ∀ (w : World) (h : Heap), YP w h → (F w.params).In h)
    (prom : ∀ (w : World) (mg : Str → Option Value) (fa : Addr) (h : Heap), (F w.params).In h → h.Ns mainGlobals mg → mg d.name = some (.ref fa) →
      ∃ fd : FuncData, (∀ (s : Shared) (u : Value), BindsTo s fd ⟨[u], []⟩ [(x, u)]) ∧ ∃ Γ : Gm, Γ.K = F w.params ∧ ∀ b : Heap, (F w.params).In b → b.Ns mainGlobals mg → FnG l.prog w (F w.params) mg b (L2.CX l.prog w) j fa fd [x] (spF Γ (callF tab m) 1 li))
    (law : ∀ ns : List Int, ns.length ≤ n → ∃ fr s, callF tab m li [.scr ns] [] = .ok (.bl true) fr s) :
    PySem.W.WalkO q loose XP YP l.row.toRowW d [] (fun f vs => PySem.call f vs) := by
  refine Att.attach_call hn hdf fun w s₀ s₁ mg mb fa o pm cd doc a vs ns G Y ho hd hcd hmg hobj hints hlen hg => ?_
  obtain ⟨fd, bnd, Γ, hK, hF⟩ := prom w mg fa _ (hY w _ Y) G.T.g hmg
  obtain ⟨fr, s, hl⟩ := law ns hlen
  exact law_go (hY w _ Y) G.T.g G.T.b G.T.builtins G.T.nolimit hg hobj hints (Nat.le_trans hlen hn2) room hF bnd fun H only sq => spec_go only (by rw [hK]; exact sq) hl
end
end IL

set_option Elab.async false
set_option linter.all false
set_option maxRecDepth 100000
set_option maxHeartbeats 4000000
/-! IL: from what the top has left to the law's promise. -/
namespace IL
open PySem L2
theorem len0 {us : List Value} (h : us.length = 0) : us = [] := List.length_eq_zero_iff.mp h
theorem len1 {us : List Value} (h : us.length = 1) : ∃ a0, us = [a0] := by
  cases us with
  | nil => cases h
  | cons a r =>
    have e := len0 (us := r) (by simpa using h)
    subst e
    exact ⟨a, rfl⟩
theorem len2 {us : List Value} (h : us.length = 2) : ∃ a0 a1, us = [a0, a1] := by
  cases us with
  | nil => cases h
  | cons a r =>
    obtain ⟨b0, e⟩ := len1 (us := r) (by simpa using h)
    subst e
    exact ⟨a, b0, rfl⟩
theorem len3 {us : List Value} (h : us.length = 3) : ∃ a0 a1 a2, us = [a0, a1, a2] := by
  cases us with
  | nil => cases h
  | cons a r =>
    obtain ⟨b0, b1, e⟩ := len2 (us := r) (by simpa using h)
    subst e
    exact ⟨a, b0, b1, rfl⟩
theorem len4 {us : List Value} (h : us.length = 4) : ∃ a0 a1 a2 a3, us = [a0, a1, a2, a3] := by
  cases us with
  | nil => cases h
  | cons a r =>
    obtain ⟨b0, b1, b2, e⟩ := len3 (us := r) (by simpa using h)
    subst e
    exact ⟨a, b0, b1, b2, rfl⟩
theorem len5 {us : List Value} (h : us.length = 5) : ∃ a0 a1 a2 a3 a4, us = [a0, a1, a2, a3, a4] := by
  cases us with
  | nil => cases h
  | cons a r =>
    obtain ⟨b0, b1, b2, b3, e⟩ := len4 (us := r) (by simpa using h)
    subst e
    exact ⟨a, b0, b1, b2, b3, rfl⟩
theorem len6 {us : List Value} (h : us.length = 6) : ∃ a0 a1 a2 a3 a4 a5, us = [a0, a1, a2, a3, a4, a5] := by
  cases us with
  | nil => cases h
  | cons a r =>
    obtain ⟨b0, b1, b2, b3, b4, e⟩ := len5 (us := r) (by simpa using h)
    subst e
    exact ⟨a, b0, b1, b2, b3, b4, rfl⟩
theorem len7 {us : List Value} (h : us.length = 7) : ∃ a0 a1 a2 a3 a4 a5 a6, us = [a0, a1, a2, a3, a4, a5, a6] := by
  cases us with
  | nil => cases h
  | cons a r =>
    obtain ⟨b0, b1, b2, b3, b4, b5, e⟩ := len6 (us := r) (by simpa using h)
    subst e
    exact ⟨a, b0, b1, b2, b3, b4, b5, rfl⟩
theorem len8 {us : List Value} (h : us.length = 8) : ∃ a0 a1 a2 a3 a4 a5 a6 a7, us = [a0, a1, a2, a3, a4, a5, a6, a7] := by
  cases us with
  | nil => cases h
  | cons a r =>
    obtain ⟨b0, b1, b2, b3, b4, b5, b6, e⟩ := len7 (us := r) (by simpa using h)
    subst e
    exact ⟨a, b0, b1, b2, b3, b4, b5, b6, rfl⟩
section
variable {K : PySem.W.Frag} {nm : Nm} {C : Addr}
def DefK (K : PySem.W.Frag) (df : Df) (st : Stmt) : Prop := ∃ (f : Addr) (fd : FuncData), PySem.W.nsIn K mainGlobals df.name = some (some (.ref f)) ∧ Fun K df.name df.name st f fd ∧ Binds K fd (df.vars.take df.np) []
theorem defK_mk {df : Df} {nme : Str} {st : Stmt} {f : Addr} {oc : Value} {od an : Option Addr} {osl : Array (Option Value)} {kV doc pm cdv ct : Value} (hn : df.name = nme) (a : PySem.W.nsIn K mainGlobals nme = some (some (.ref f)))
    (l : K.lookup f = some ⟨oc, od, .func (PySem.W.fnOf nme nme (defArgs st) (defBody st) (defScope st) .none kV doc pm an cdv ct), osl⟩) (c : PySem.W.codeIn K cdv nme = true) (k : PySem.W.keepIn K (.ref f) = true)
    (b : ∀ (kV doc pm : Value) (an : Option Addr) (cdv ct : Value) (us : List Value), us.length = (df.vars.take df.np).length → bindArgs (PySem.W.fnOf nme nme (defArgs st) (defBody st) (defScope st) .none kV doc pm an cdv ct) ⟨us, []⟩ = pure ((df.vars.take df.np).zip us)) : DefK K df st := by
  subst hn
  have F := fun_mk (st := st) l c k
  exact ⟨f, _, a, F, F.binds (ps := df.vars.take df.np) b⟩
def AllD (K : PySem.W.Frag) (nm : Nm) : List (Df × Stmt) → Prop
  | [] => True
  | (d, st) :: r => (DefK K d st ∧ defOk nm d st = true) ∧ AllD K nm r
theorem allD_get : ∀ {ds : List (Df × Stmt)} {i : Nat} {p : Df × Stmt}, AllD K nm ds → ds[i]? = some p → DefK K p.1 p.2 ∧ defOk nm p.1 p.2 = true
  | [], i, p, _, h => by simp at h
  | (d, st) :: r, 0, p, h, e => by
    simp at e
    subst e
    exact h.1
  | (d, st) :: r, i + 1, p, h, e => allD_get (i := i) h.2 (by simpa using e)
/-- a method -/
structure MethK (K : PySem.W.Frag) (C : Addr) (m q : Str) (st : Stmt) (ps : List Str) : Prop where
  ex : ∃ (f : Addr) (fd : FuncData), PySem.W.findIn K (.ref C) m = some (some (.ref f)) ∧ PySem.W.isFn K (.ref f) = true ∧ Fun K m q st f fd ∧ Binds K fd ps []
theorem methK_mk {m q : Str} {st : Stmt} {ps : List Str} {f : Addr} {oc : Value} {od an : Option Addr} {osl : Array (Option Value)} {kV doc pm cdv ct : Value} (a : PySem.W.findIn K (.ref C) m = some (some (.ref f))) (i : PySem.W.isFn K (.ref f) = true)
    (l : K.lookup f = some ⟨oc, od, .func (PySem.W.fnOf m q (defArgs st) (defBody st) (defScope st) .none kV doc pm an cdv ct), osl⟩) (c : PySem.W.codeIn K cdv q = true) (k : PySem.W.keepIn K (.ref f) = true)
    (b : ∀ (kV doc pm : Value) (an : Option Addr) (cdv ct : Value) (us : List Value), us.length = ps.length → bindArgs (PySem.W.fnOf m q (defArgs st) (defBody st) (defScope st) .none kV doc pm an cdv ct) ⟨us, []⟩ = pure (ps.zip us)) : MethK K C m q st ps := by
  have F := fun_mk (st := st) l c k
  exact ⟨f, _, a, i, F, F.binds (ps := ps) b⟩
/-- the class -/
structure BookK (K : PySem.W.Frag) (C : Addr) (nm : Nm) (init : Df) (sI sL sD sR sE : Stmt) : Prop where
  ns : PySem.W.nsIn K mainGlobals "Book" = some (some (.ref C))
  cl : Cls K C
  mks : PySem.W.makesIn K C = true
  kp : PySem.W.keepIn K (.ref C) = true
  nW : PySem.W.findIn K (.ref C) "wanted" = some none
  nH : PySem.W.findIn K (.ref C) "hands" = some none
  ini : MethK K C "__init__" "Book.__init__" sI (init.vars.take 3)
  iok : initOk nm init sI = true
  len : MethK K C "__len__" "Book.__len__" sL ["self"]
  lok : getOk "len" "wanted" sL = true
  dem : MethK K C "demands" "Book.demands" sD ["self"]
  dok : getOk "list" "wanted" sD = true
  rdr : MethK K C "readers" "Book.readers" sR ["self"]
  rok : getOk "list" "hands" sR = true
  eqm : MethK K C "__eq__" "Book.__eq__" sE eqPs
  eok : eqOk sE = true
  ty : BkTy K C
theorem tyK_mk (cl : Cls K C) (ha : PySem.W.findIn K (.ref C) "__class__" = some (some (.builtin "object.__class__"))) (hn : PySem.W.specialIn K (.builtin "object.__class__") "__get__" = some (some (.builtin "getset_descriptor.__get__"))) (htk : PySem.W.takesIn K (.builtin "object.__class__") = some true)
    (hm : PySem.W.mroIn K C (.type "object") = some true) (n1 : PySem.W.mroIn K C (.type "int") = some false) (n2 : PySem.W.mroIn K C (.type "bool") = some false) (n3 : PySem.W.mroIn K C (.type "list") = some false) (n4 : PySem.W.mroIn K C (.type "tuple") = some false)
    (c1 : PySem.W.isClsIn K C = true) (c2 : PySem.W.typeIn K (.ref C) = some (.type "type")) : BkTy K C := by
  have g : ∀ T, PySem.W.kitMeta T = true → PySem.W.mroIn K C (.type T) = some false → PySem.W.kitOne K (.ref C) (.type T) = some false := fun T h1 h2 => by
    unfold PySem.W.kitOne PySem.W.kitCls
    rw [if_neg (by intro z; cases (beq_iff_eq.mp z))]
    dsimp only
    rw [if_pos h1]
    exact h2
  refine ⟨⟨cl, ha, hn, htk, hm, ?_⟩, ⟨g _ (by decide +kernel) n1, g _ (by decide +kernel) n2, g _ (by decide +kernel) n3, g _ (by decide +kernel) n4⟩, c1, c2⟩
  unfold PySem.W.kitOne
  rw [if_pos (beq_self_eq_true _)]
theorem bookAt_of {Γ : Gm} {g : Pg} {init : Df} {sI sL sD sR sE : Stmt} {h : Heap} (X : Γ.K.In h) (G : h.Ns mainGlobals g.mg) (b : BookK Γ.K Γ.CB.C nm init sI sL sD sR sE) (hl : g.mg (Str.ofString "list") = none ∧ g.mg (Str.ofString "len") = none) (hi : g.mg (Str.ofString "isinstance") = none) : BookAt Γ g nm init := by
  obtain ⟨f1, d1, a1, i1, F1, b1⟩ := b.ini.ex
  obtain ⟨f2, d2, a2, i2, F2, b2⟩ := b.len.ex
  obtain ⟨f3, d3, a3, i3, F3, b3⟩ := b.dem.ex
  obtain ⟨f4, d4, a4, i4, F4, b4⟩ := b.rdr.ex
  obtain ⟨f5, d5, a5, i5, F5, b5⟩ := b.eqm.ex
  exact ⟨b.cl, b.nW, b.nH, PySem.W.mg_of X G b.ns, hl, hi, b.ty, ⟨sE, f5, d5, a5, i5, F5, b5, b.eok⟩, ⟨sI, f1, d1, ⟨b.mks, a1, i1, b.kp⟩, F1, b1, b.iok⟩, ⟨sL, f2, d2, a2, i2, F2, b2, b.lok⟩, ⟨sD, f3, d3, ⟨a3, i3, F3.kp⟩, F3, b3, b.dok⟩, ⟨sR, f4, d4, ⟨a4, i4, F4.kp⟩, F4, b4, b.rok⟩⟩
abbrev DefX {h : Heap} (_ : K.In h) (df : Df) (st : Stmt) : Prop := DefK K df st
abbrev BookX {h : Heap} (_ : K.In h) (C : Addr) (nm : Nm) (init : Df) (sI sL sD sR sE : Stmt) : Prop := BookK K C nm init sI sL sD sR sE
/-- an exception's class, as the top has made it -/
structure ExK (P : Program) (K : PySem.W.Frag) (x fld : Str) (C : Addr) : Prop where
  ns : PySem.W.nsIn K mainGlobals x = some (some (.ref C))
  xf : XfC K C
  at_ : ∃ f fd st arg, XcAt P K C f fd st fld arg ∧ PySem.W.findIn K (.ref C) "__init__" = some (some (.ref f)) ∧ PySem.W.typeIn K (.ref f) = some (.type "function") ∧ Binds K fd ["self", arg] [] ∧ xiOk fld arg st = true
theorem exK_mk {P : Program} {x fld arg q : Str} {st : Stmt} {nm' q' : Str} {N f cda cc : Addr} {bs bm : List Value} {sn : List Str} {sub : List Value} {ab : Bool} {col : Option Bool} {dd : Option Addr} {k0 k1 k2 k3 k5 : Option Value}
    {oc : Value} {od an : Option Addr} {osl : Array (Option Value)} {dV kV doc pm ct ccl cl : Value} {cdd cld : Option Addr} {vs : Array Value} {ccs csl : Array (Option Value)} {file : Str} {tf : Tok} {cd : ClassData}
    (ns : PySem.W.nsIn K mainGlobals x = some (some (.ref C)))
    (lc : K.lookup C = some (excClassObj nm' q' C N bs bm true sn sub ab col dd k0 k1 k2 k3 k5 "ValueError.__new__"))
    (sa : PySem.W.findIn K (.ref C) "__setattr__" = some (some (.builtin "object.__setattr__"))) (ex : PySem.W.subIn K (.ref C) (.type "BaseException") = some true) (ty : PySem.W.typeIn K (.ref C) = some (.type "type")) (kC : PySem.W.keepIn K (.ref C) = true)
    (ga : PySem.W.findIn K (.ref C) "__getattribute__" = some (some (.builtin "BaseException.__getattribute__"))) (gg : PySem.W.findIn K (.ref C) "__getattr__" = some none) (hd : PySem.W.hasDictIn K C = true)
    (fn : PySem.W.findIn K (.ref C) fld = some none) (ini : PySem.W.findIn K (.ref C) "__init__" = some (some (.ref f))) (tf' : PySem.W.typeIn K (.ref f) = some (.type "function"))
    (lf : K.lookup f = some ⟨oc, od, .func (PySem.W.fnX "__init__" q (defArgs st) (defBody st) (defScope st) [((Str.ofString "__class__"), cc)] dV kV doc pm an (.ref cda) ct), osl⟩) (co : PySem.W.codeIn K (.ref cda) q = true)
    (lo : K.lookup cda = some ⟨ccl, cdd, .fields vs, ccs⟩) (lcc : K.lookup cc = some ⟨cl, cld, .cell (some (.ref C)), csl⟩) (cls : PySem.W.clsIn K C = some cd) (mro : PySem.W.mroIn K C (.ref C) = some true)
    (sup : PySem.W.ks_superIn K C C "__init__" = some (some (.builtin "ValueError.__init__"))) (sv : PySem.W.subIn K (.ref C) (.type "ValueError") = some true) (an' : PySem.W.nsIn K cStatics "thirdparty.any" = some none)
    (bm' : PySem.HandSPX.refsVE bm = true) (vf : vs[2]? = some (.str file tf)) (ff : ((P.main.file : Str) == file) = true) (top : (P.main.scope.names.lookup ("super" : Str)).isSome = false) (xo : xiOk fld arg st = true)
    (b : ∀ us : List Value, us.length = 2 → bindArgs (PySem.W.fnX "__init__" q (defArgs st) (defBody st) (defScope st) [((Str.ofString "__class__"), cc)] dV kV doc pm an (.ref cda) ct) ⟨us, []⟩ = pure ((["self", arg] : List Str).zip us)) : ExK P K x fld C :=
  ⟨ns, ⟨ga, gg, ex, hd⟩, f, _, st, arg, ⟨⟨⟨nm', q', N, bs, bm, sn, sub, ab, col, dd, k0, k1, k2, k3, k5, lc, bm'⟩, sa, ex, ty, kC⟩, ⟨oc, od, an, osl, _, q, dV, kV, doc, pm, ct, cda, cc, rfl, lf, co, ⟨ccl, cdd, vs, ccs, file, tf, lo, vf, ff⟩, cl, cld, csl, lcc⟩, ⟨cd, cls⟩, mro, sup, sv, an', fn, top⟩, ini, tf', .all b, xo⟩
def AllE (P : Program) (K : PySem.W.Frag) : List (Str × Str) → List Addr → Prop
  | [], [] => True
  | (x, f) :: r, C :: s => ExK P K x f C ∧ AllE P K r s
  | _, _ => False
def RowM (K : PySem.W.Frag) (C : Addr) (i : Nat) : Nat → List Addr → Prop
  | _, [] => True
  | j, C' :: r => PySem.W.subIn K (.ref C) (.ref C') = some (decide (i = j)) ∧ RowM K C i (j + 1) r
def AllM (K : PySem.W.Frag) (Cs : List Addr) : Nat → List Addr → Prop
  | _, [] => True
  | i, C :: r => RowM K C i 0 Cs ∧ AllM K Cs (i + 1) r
abbrev ExX {h : Heap} (P : Program) (_ : K.In h) (x fld : Str) (C : Addr) : Prop := ExK P K x fld C
abbrev AllEX {h : Heap} (P : Program) (_ : K.In h) (xs : List (Str × Str)) (Cs : List Addr) : Prop := AllE P K xs Cs
abbrev Addr1 := Addr
abbrev SupX {h : Heap} (_ : K.In h) : Prop := PySem.W.nsIn K mainGlobals "super" = some none
abbrev AllMX {h : Heap} (_ : K.In h) (Cs : List Addr) : Prop := AllM K Cs 0 Cs
theorem allE_get {P : Program} : ∀ {xs : List (Str × Str)} {Cs : List Addr} {j : Nat} {x f : Str}, AllE P K xs Cs → xs[j]? = some (x, f) → ∃ C, Cs[j]? = some C ∧ ExK P K x f C
  | [], [], j, x, f, _, e => by simp at e
  | [], _ :: _, _, _, _, h, _ => h.elim
  | _ :: _, [], _, _, _, h, _ => h.elim
  | (y, g) :: r, C :: s, 0, x, f, h, e => by
    simp at e
    obtain ⟨rfl, rfl⟩ := e
    exact ⟨C, rfl, h.1⟩
  | (y, g) :: r, C :: s, j + 1, x, f, h, e => by
    obtain ⟨C', h1, h2⟩ := allE_get (j := j) h.2 (by simpa using e)
    exact ⟨C', by simpa using h1, h2⟩
theorem allE_len {P : Program} : ∀ {xs : List (Str × Str)} {Cs : List Addr}, AllE P K xs Cs → xs.length = Cs.length
  | [], [], _ => rfl
  | [], _ :: _, h => h.elim
  | _ :: _, [], h => h.elim
  | _ :: r, _ :: s, h => by rw [List.length_cons, List.length_cons, allE_len h.2]
theorem rowM_get {C : Addr} {i : Nat} : ∀ {Cs : List Addr} {j0 j : Nat} {C' : Addr}, RowM K C i j0 Cs → Cs[j]? = some C' → PySem.W.subIn K (.ref C) (.ref C') = some (decide (i = j0 + j))
  | [], _, _, _, _, e => by simp at e
  | D :: r, j0, 0, C', h, e => by
    simp at e; subst e
    exact h.1
  | D :: r, j0, j + 1, C', h, e => by
    have := rowM_get (j := j) h.2 (by simpa using e)
    rw [this]
    congr 1
    exact decide_eq_decide.mpr (by omega)
theorem allM_get {Cs : List Addr} : ∀ {L : List Addr} {i0 i : Nat} {C : Addr}, AllM K Cs i0 L → L[i]? = some C → RowM K C (i0 + i) 0 Cs
  | [], _, _, _, _, e => by simp at e
  | D :: r, i0, 0, C, h, e => by
    simp at e; subst e
    exact h.1
  | D :: r, i0, i + 1, C, h, e => by
    have := allM_get (i := i) h.2 (by simpa using e)
    rw [show i0 + (i + 1) = i0 + 1 + i by omega]; exact this
/-- the exceptions by number -/
def exOf (xs : List (Str × Str)) (Cs : List Addr) (n : Nat) : Option (Addr × Str) := if 8 ≤ n then (match xs[n - 8]?, Cs[n - 8]? with | some p, some C => some (C, p.2) | _, _ => none) else none
theorem exOf_some {xs : List (Str × Str)} {Cs : List Addr} {n : Nat} {C : Addr} {f : Str} (h : exOf xs Cs n = some (C, f)) : 8 ≤ n ∧ ∃ x, xs[n - 8]? = some (x, f) ∧ Cs[n - 8]? = some C := by
  unfold exOf at h
  split at h
  · rename_i h8
    split at h
    · rename_i p C' h1 h2
      cases h
      exact ⟨h8, p.1, h1, h2⟩
    · cases h
  · cases h
theorem exm_sub {P : Program} {x f : Str} {C C' : Addr} {b : Bool} (h : ExK P K x f C') (hs : PySem.W.subIn K (.ref C) (.ref C') = some b) : PySem.W.exmOne K (.ref C) (.ref C') = some b := by
  obtain ⟨_, _, _, _, T, _⟩ := h.at_
  obtain ⟨cd, hc⟩ := T.cls
  unfold PySem.W.exmOne PySem.W.kitCls
  rw [if_pos (by rw [T.oex.exC]; decide)]
  dsimp only
  rw [if_pos (by rw [hc, T.oex.tyC]; exact Bool.and_eq_true_iff.mpr ⟨rfl, beq_self_eq_true _⟩)]
  exact hs
theorem prom_go {l : PySem.W.OpenLaw} {w : World} {mg : Str → Option Value} {fa : Addr} {h : Heap} {tab : List Df} {ds : List (Df × Stmt)} {init : Df} {sI sL sD sR sE : Stmt} {li n : Nat} {dl : Df × Stmt} {x nme : Str} (KX : K.In h) (G : h.Ns mainGlobals mg) (hfa : mg nme = some (.ref fa))
    (hD : AllD K nm ds) (hB : BookK K C nm init sI sL sD sR sE) (hbn : ∀ y ∈ bnames, PySem.W.nsIn K mainGlobals (Str.ofString y) = some none) (hcs : ∀ y i, nm.cs.lookup y = some i → ∃ t, PySem.W.nsIn K mainGlobals y = some (some (.int i t)))
    {Cs : List Addr} (hE : AllE l.prog K nm.xs Cs) (hM : AllM K Cs 0 Cs) (hsup : nm.xs ≠ [] → PySem.W.nsIn K mainGlobals "super" = some none)
    (hf : nm.fs = ds.map (·.1.name)) (ht : tab = ds.map (·.1) ++ [init]) (hi : nm.ib = ds.length) (hl : ds[li]? = some dl) (hnm : dl.1.name = nme) (hx : dl.1.vars.take dl.1.np = [x]) (hbind : ∀ fd : FuncData, Fun K nme nme dl.2 fa fd → ∀ (s : Shared) (u : Value), BindsTo s fd ⟨[u], []⟩ [(x, u)]) :
    ∃ fd : FuncData, (∀ (s : Shared) (u : Value), BindsTo s fd ⟨[u], []⟩ [(x, u)]) ∧ ∃ Γ : Gm, Γ.K = K ∧ ∀ b : Heap, K.In b → b.Ns mainGlobals mg → FnG l.prog w K mg b (L2.CX l.prog w) (2 + 2 * n + 1) fa fd [x] (spF Γ (callF tab (n + 1)) 1 li) := by
  subst hnm
  obtain ⟨⟨f, fd, a1, F1, b1⟩, ok1⟩ := allD_get hD hl
  have e := hfa.symm.trans (PySem.W.mg_of KX G a1)
  cases e
  refine ⟨fd, hbind fd F1, ⟨K, ⟨C, 0⟩, exOf nm.xs Cs⟩, rfl, fun b _ _ => ?_⟩
  have hget : ∀ {i : Nat} {p : Df × Stmt}, ds[i]? = some p → tab[i]? = some p.1 := fun {i p} z => by
    rw [ht, List.getElem?_append_left (by rw [List.length_map]; exact (List.getElem?_eq_some_iff.mp z).1), List.getElem?_map, z]; rfl
  have hDefs : Defs ⟨K, ⟨C, 0⟩, exOf nm.xs Cs⟩ ⟨l.prog, w, mg, b⟩ nm tab := by
    refine ⟨fun i y z => ?_, fun y hy => PySem.W.mg_none_of KX G (hbn y hy), fun y i z => ?_, ⟨init, ?_, bookAt_of (Γ := ⟨K, ⟨C, 0⟩, exOf nm.xs Cs⟩) (g := ⟨l.prog, w, mg, b⟩) KX G hB ⟨PySem.W.mg_none_of KX G (hbn "list" (by decide)), PySem.W.mg_none_of KX G (hbn "len" (by decide))⟩ (PySem.W.mg_none_of KX G (hbn "isinstance" (by decide)))⟩, fun n hn => by show exOf nm.xs Cs n = none; unfold exOf; rw [if_neg (by omega)], fun j x f hj => ?_, fun i j C1 C2 f1 f2 e1 e2 => ?_⟩
    · rw [hf, List.getElem?_map] at z
      cases q : ds[i]? with
      | none => rw [q] at z; cases z
      | some p =>
        rw [q] at z
        cases z
        obtain ⟨⟨f2, fd2, a2, F2, b2⟩, ok2⟩ := allD_get hD q
        exact ⟨p.1, p.2, f2, fd2, hget q, PySem.W.mg_of KX G a2, F2, b2, ok2⟩
    · obtain ⟨t, q⟩ := hcs y i z
      exact ⟨t, PySem.W.mg_of KX G q⟩
    · rw [ht, hi, List.getElem?_append_right (by simp)]; simp
    · obtain ⟨C', hC, hx⟩ := allE_get hE hj
      obtain ⟨f', fd', st', arg', T, i1, i2, i3, i4⟩ := hx.at_
      refine ⟨C', ?_, PySem.W.mg_of KX G hx.ns, ⟨T.oex, hx.xf, T.fno, f', fd', arg', i1, i2, i3, xinit_ok T (PySem.W.mg_none_of KX G (hsup fun z => by rw [z] at hj; simp at hj)) i4 0⟩⟩
      show exOf nm.xs Cs (8 + j) = _
      unfold exOf
      rw [if_pos (by omega), show 8 + j - 8 = j by omega, hj, hC]
    · obtain ⟨h1, x1, a1, b1⟩ := exOf_some e1
      obtain ⟨h2, x2, a2, b2⟩ := exOf_some e2
      obtain ⟨C', hC, hx⟩ := allE_get hE a2
      rw [b2] at hC
      cases hC
      have := rowM_get (allM_get hM b1) b2
      refine exm_sub hx (this.trans ?_)
      congr 1
      exact decide_eq_decide.mpr (by omega)
  have := def_ok (tab := tab) (n := n) (hget hl) F1 ok1 (own_of hDefs (by omega)) (calls_all n _ hDefs)
  rw [hx] at this
  exact this
theorem bookK_mk {init : Df} {sI sL sD sR sE : Stmt} {f1 f2 f3 f4 : Addr} {oc1 oc2 oc3 oc4 : Value} {od1 an1 od2 an2 od3 an3 od4 an4 : Option Addr} {sl1 sl2 sl3 sl4 : Array (Option Value)} {kV1 dc1 pm1 cd1 ct1 kV2 dc2 pm2 cd2 ct2 kV3 dc3 pm3 cd3 ct3 kV4 dc4 pm4 cd4 ct4 : Value}
    (ns : PySem.W.nsIn K mainGlobals "Book" = some (some (.ref C))) (pg : PySem.W.plainGet K C Str.empty = true) (hd : PySem.W.hasDictIn K C = true) (po : PySem.W.plainOver K C = true) (sa : PySem.W.findIn K (.ref C) "__setattr__" = some (some (.builtin "object.__setattr__")))
    (mk : PySem.W.makesIn K C = true) (kp : PySem.W.keepIn K (.ref C) = true) (nW : PySem.W.findIn K (.ref C) "wanted" = some none) (nH : PySem.W.findIn K (.ref C) "hands" = some none)
    (a1 : PySem.W.findIn K (.ref C) "__init__" = some (some (.ref f1))) (i1 : PySem.W.isFn K (.ref f1) = true) (l1 : K.lookup f1 = some ⟨oc1, od1, .func (PySem.W.fnOf "__init__" "Book.__init__" (defArgs sI) (defBody sI) (defScope sI) .none kV1 dc1 pm1 an1 cd1 ct1), sl1⟩) (c1 : PySem.W.codeIn K cd1 "Book.__init__" = true) (k1 : PySem.W.keepIn K (.ref f1) = true)
    (a2 : PySem.W.findIn K (.ref C) "__len__" = some (some (.ref f2))) (i2 : PySem.W.isFn K (.ref f2) = true) (l2 : K.lookup f2 = some ⟨oc2, od2, .func (PySem.W.fnOf "__len__" "Book.__len__" (defArgs sL) (defBody sL) (defScope sL) .none kV2 dc2 pm2 an2 cd2 ct2), sl2⟩) (c2 : PySem.W.codeIn K cd2 "Book.__len__" = true) (k2 : PySem.W.keepIn K (.ref f2) = true)
    (a3 : PySem.W.findIn K (.ref C) "demands" = some (some (.ref f3))) (i3 : PySem.W.isFn K (.ref f3) = true) (l3 : K.lookup f3 = some ⟨oc3, od3, .func (PySem.W.fnOf "demands" "Book.demands" (defArgs sD) (defBody sD) (defScope sD) .none kV3 dc3 pm3 an3 cd3 ct3), sl3⟩) (c3 : PySem.W.codeIn K cd3 "Book.demands" = true) (k3 : PySem.W.keepIn K (.ref f3) = true)
    (a4 : PySem.W.findIn K (.ref C) "readers" = some (some (.ref f4))) (i4 : PySem.W.isFn K (.ref f4) = true) (l4 : K.lookup f4 = some ⟨oc4, od4, .func (PySem.W.fnOf "readers" "Book.readers" (defArgs sR) (defBody sR) (defScope sR) .none kV4 dc4 pm4 an4 cd4 ct4), sl4⟩) (c4 : PySem.W.codeIn K cd4 "Book.readers" = true) (k4 : PySem.W.keepIn K (.ref f4) = true)
    (b1 : ∀ (kV doc pm : Value) (an : Option Addr) (cdv ct : Value) (us : List Value), us.length = (init.vars.take 3).length → bindArgs (PySem.W.fnOf "__init__" "Book.__init__" (defArgs sI) (defBody sI) (defScope sI) .none kV doc pm an cdv ct) ⟨us, []⟩ = pure ((init.vars.take 3).zip us))
    (b2 : ∀ (kV doc pm : Value) (an : Option Addr) (cdv ct : Value) (us : List Value), us.length = (["self"] : List Str).length → bindArgs (PySem.W.fnOf "__len__" "Book.__len__" (defArgs sL) (defBody sL) (defScope sL) .none kV doc pm an cdv ct) ⟨us, []⟩ = pure ((["self"] : List Str).zip us))
    (b3 : ∀ (kV doc pm : Value) (an : Option Addr) (cdv ct : Value) (us : List Value), us.length = (["self"] : List Str).length → bindArgs (PySem.W.fnOf "demands" "Book.demands" (defArgs sD) (defBody sD) (defScope sD) .none kV doc pm an cdv ct) ⟨us, []⟩ = pure ((["self"] : List Str).zip us))
    (b4 : ∀ (kV doc pm : Value) (an : Option Addr) (cdv ct : Value) (us : List Value), us.length = (["self"] : List Str).length → bindArgs (PySem.W.fnOf "readers" "Book.readers" (defArgs sR) (defBody sR) (defScope sR) .none kV doc pm an cdv ct) ⟨us, []⟩ = pure ((["self"] : List Str).zip us))
    (iok : initOk nm init sI = true) (lok : getOk "len" "wanted" sL = true) (dok : getOk "list" "wanted" sD = true) (rok : getOk "list" "hands" sR = true) (eqm : MethK K C "__eq__" "Book.__eq__" sE eqPs) (eok : eqOk sE = true) (ty : Cls K C → BkTy K C) : BookK K C nm init sI sL sD sR sE :=
  ⟨ns, ⟨pg, hd, po, sa⟩, mk, kp, nW, nH, methK_mk a1 i1 l1 c1 k1 b1, iok, methK_mk a2 i2 l2 c2 k2 b2, lok, methK_mk a3 i3 l3 c3 k3 b3, dok, methK_mk a4 i4 l4 c4 k4 b4, rok, eqm, eok, ty ⟨pg, hd, po, sa⟩⟩
def AllN (K : PySem.W.Frag) : List String → Prop
  | [] => True
  | y :: r => PySem.W.nsIn K mainGlobals (Str.ofString y) = some none ∧ AllN K r
theorem allN_get : ∀ {ys : List String}, AllN K ys → ∀ y ∈ ys, PySem.W.nsIn K mainGlobals (Str.ofString y) = some none
  | [], _, y, h => by simp at h
  | z :: r, h, y, e => by
    rcases List.mem_cons.mp e with e | e
    · subst e; exact h.1
    · exact allN_get h.2 y e
abbrev AllNX {h : Heap} (_ : K.In h) (ys : List String) : Prop := AllN K ys
def AllC (K : PySem.W.Frag) : List (Str × Int) → Prop
  | [] => True
  | (y, i) :: r => (∃ t, PySem.W.nsIn K mainGlobals y = some (some (.int i t))) ∧ AllC K r
theorem cs_int {y : Str} {i : Int} {t : Tok} (h : PySem.W.nsIn K mainGlobals y = some (some (.int i t))) : ∃ t, PySem.W.nsIn K mainGlobals y = some (some (.int i t)) := ⟨t, h⟩
abbrev AllCX {h : Heap} (_ : K.In h) (ys : List (Str × Int)) : Prop := AllC K ys
theorem allC_get : ∀ {ys : List (Str × Int)}, AllC K ys → ∀ y i, ys.lookup y = some i → ∃ t, PySem.W.nsIn K mainGlobals y = some (some (.int i t))
  | [], _, y, i, h => by simp at h
  | (z, j) :: r, h, y, i, e => by
    rw [List.lookup_cons] at e
    cases q : y == z with
    | true =>
      rw [q] at e
      cases e
      rw [eq_of_beq q]; exact h.1
    | false =>
      rw [q] at e
      exact allC_get h.2 y i e
theorem bind_law {st : Stmt} {fa : Addr} {x nme : Str} (h : ∀ (kV doc pm : Value) (an : Option Addr) (cdv ct : Value) (u : Value), bindArgs (PySem.W.fnOf nme nme (defArgs st) (defBody st) (defScope st) .none kV doc pm an cdv ct) ⟨[u], []⟩ = pure [(x, u)]) : ∀ fd : FuncData, Fun K nme nme st fa fd → ∀ (s : Shared) (u : Value), BindsTo s fd ⟨[u], []⟩ [(x, u)] := fun fd F s u => by
  obtain ⟨oc, od, kV, doc, pm, an, cdv, ct, osl, rfl, _⟩ := F.ex
  exact .of_eq (h kV doc pm an cdv ct u)
end
end IL

set_option Elab.async false
set_option linter.all false
set_option maxRecDepth 100000
set_option maxHeartbeats 4000000
/-! IL: what the laws draw from the script. -/
namespace IL
open PySem L2
def feedS : Ss := (.cons (.set 2 (.ix (.bin .add (.b1 .list (.sl (.var 0) (.yes (.var 1)) (.yes (.bin .add (.var 1) (.int 1))))) (.lst (.cons (.bin .add (.bin .mul (.int 71) (.var 1)) (.int 23)) .nil))) (.int 0))) (.cons (.set 3 (.max2 (.int 0) (.bin .sub (.b1 .abs (.var 2)) (.bin .pow (.int 10) (.int 18))))) (.cons (.ret (.box (.cons (.var 3) (.cons (.bin .mod (.b1 .int (.bin .add (.bin .add (.bin .mul (.bin .mod (.b1 .int (.b1 .abs (.var 2))) (.int 1000003)) (.int 7919)) (.bin .mul (.int 31) (.var 1))) (.int 17))) (.int 1000033)) .nil)))) .nil)))
def takeS : Ss := (.cons (.ite (.cmp .gt (.ixv 0 (.int 0)) (.int 0)) (.cons (.set 2 (.bin .mod (.b1 .int (.ixv 0 (.int 0))) (.var 1))) (.cons (.seti 0 (.int 0) (.bin .fdiv (.ixv 0 (.int 0)) (.var 1))) (.cons (.ret (.var 2)) .nil))) .nil) (.cons (.seti 0 (.int 1) (.bin .mod (.b1 .int (.bin .add (.bin .mul (.ixv 0 (.int 1)) (.int 69069)) (.int 12345))) (.int 4294967311))) (.cons (.ret (.bin .mod (.b1 .int (.bin .fdiv (.ixv 0 (.int 1)) (.int 65536))) (.var 1))) .nil)))

section
variable {cf : Nat → List D → List Ob → CR}
def absI (x : Int) : Int := if x < 0 then -x else x
def feedA (x : Int) : Int := if absI x - 10 ^ 18 > 0 then absI x - 10 ^ 18 else 0
def feedB (x k : Int) : Int := (absI x % 1000003 * 7919 + 31 * k + 17) % 1000033
theorem feed_nil : fin (runs cf feedS ⟨[.val (.scr []), .val (.int 0), .no, .no], []⟩) = .ok (.ref 0) false [.box [.int (feedA 23), .int (feedB 23 0)]] := by kernel_rfl
theorem feed_cons (a : Int) (r : List Int) : fin (runs cf feedS ⟨[.val (.scr (a :: r)), .val (.int 0), .no, .no], []⟩) = .ok (.ref 0) false [.box [.int (feedA a), .int (feedB a 0)]] := by kernel_rfl
theorem feed_run0 (ns : List Int) : ∃ a b : Int, fin (runs cf feedS ⟨[.val (.scr ns), .val (.int 0), .no, .no], []⟩) = .ok (.ref 0) false [.box [.int a, .int b]] := by
  cases ns with
  | nil => exact ⟨_, _, feed_nil⟩
  | cons a r => exact ⟨_, _, feed_cons a r⟩
def takeP : Ss := match takeS with | .cons (.ite _ a _) _ => a | _ => .nil
def takeN : Ss := match takeS with | .cons _ r => r | _ => .nil
def tk (cf : Nat → List D → List Ob → CR) (w : Wd) (b : Bool) : R IL.Flow := (if b then runs cf takeP w else runs cf .nil w).bind fun fl w => match fl with
  | .nx => runs cf takeN w
  | .rt d fr => .ok (.rt d fr) w
theorem take_if (a b : Int) : runs cf takeS ⟨[.val (.ref 0), .val (.int 6), .no], [.box [.int a, .int b]]⟩ = tk cf ⟨[.val (.ref 0), .val (.int 6), .no], [.box [.int a, .int b]]⟩ (decide (0 < a)) := by kernel_rfl
theorem take_run (a b : Int) : ∃ d a' b' : Int, 0 ≤ d ∧ d < 6 ∧ fin (runs cf takeS ⟨[.val (.ref 0), .val (.int 6), .no], [.box [.int a, .int b]]⟩) = .ok (.int d) false [.box [.int a', .int b']] := by
  rw [take_if]
  cases decide (0 < a) with
  | true =>
    refine ⟨a % 6, a / 6, b, Int.emod_nonneg _ (by omega), Int.emod_lt_of_pos _ (by omega), ?_⟩
    kernel_rfl
  | false =>
    refine ⟨(((b * 69069 + 12345) % 4294967311) / 65536) % 6, a, (b * 69069 + 12345) % 4294967311, Int.emod_nonneg _ (by omega), Int.emod_lt_of_pos _ (by omega), ?_⟩
    kernel_rfl
def isT : CR → Bool
  | .ok (.bl true) _ _ => true
  | _ => false
theorem isT_ok {r : CR} (h : isT r = true) : ∃ fr s, r = .ok (.bl true) fr s := by
  unfold isT at h
  split at h
  · exact ⟨_, _, rfl⟩
  · cases h
theorem run_set_call {i f : Nat} {es : Es} {tl : Ss} {w w1 : Wd} {ds : List D} {d : D} {fr : Bool} {s : List Ob} (h1 : evs cf es w = .ok ds w1) (h2 : cf f ds w1.s = .ok d fr s) (hi : i < w1.e.length) :
    runs cf (.cons (.set i (.call f es)) tl) w = runs cf tl (Wd.putF { w1 with s := s } i d fr) := by
  show (((evs cf es w).bind fun ds w => match cf f ds w.s with
    | .ok d fr s => .ok (d, fr) { w with s := s }
    | .exn c x s => .exn c x { w with s := s }
    | .bad => .bad).bind fun (x : D × Bool) w => if i < w.e.length then R.ok IL.Flow.nx (w.putF i x.1 x.2) else .bad).bind (fun fl w => match fl with | .nx => runs cf tl w | .rt d fr => .ok (.rt d fr) w) = _
  rw [h1]
  show ((match cf f ds w1.s with
    | .ok d fr s => R.ok (d, fr) { w1 with s := s }
    | .exn c x s => .exn c x { w1 with s := s }
    | .bad => .bad).bind fun (x : D × Bool) w => if i < w.e.length then R.ok IL.Flow.nx (w.putF i x.1 x.2) else .bad).bind (fun fl w => match fl with | .nx => runs cf tl w | .rt d fr => .ok (.rt d fr) w) = _
  rw [h2]
  show (if i < w1.e.length then R.ok IL.Flow.nx (Wd.putF { w1 with s := s } i d fr) else .bad).bind (fun fl w => match fl with | .nx => runs cf tl w | .rt d fr => .ok (.rt d fr) w) = _
  rw [if_pos hi]
theorem run_set_add {i f : Nat} {es : Es} {tl : Ss} {w w1 : Wd} {ds : List D} {j k : Int} {fr : Bool} {s : List Ob} (h1 : evs cf es w = .ok ds w1) (h2 : cf f ds w1.s = .ok (.int k) fr s) (hi : i < w1.e.length) :
    runs cf (.cons (.set i (.bin .add (.int j) (.call f es))) tl) w = runs cf tl (Wd.putF { w1 with s := s } i (.int (j + k)) false) := by
  show ((((evs cf es w).bind fun ds w => match cf f ds w.s with
    | .ok d fr s => .ok (d, fr) { w with s := s }
    | .exn c x s => .exn c x { w with s := s }
    | .bad => .bad).bind fun (y : D × Bool) w => (R.opt (binD .add (.int j) y.1) w).bind fun d w => R.ok (d, isFr d) w).bind fun (x : D × Bool) w => if i < w.e.length then R.ok IL.Flow.nx (w.putF i x.1 x.2) else .bad).bind (fun fl w => match fl with | .nx => runs cf tl w | .rt d fr => .ok (.rt d fr) w) = _
  rw [h1]
  show (((match cf f ds w1.s with
    | .ok d fr s => R.ok (d, fr) { w1 with s := s }
    | .exn c x s => .exn c x { w1 with s := s }
    | .bad => .bad).bind fun (y : D × Bool) w => (R.opt (binD .add (.int j) y.1) w).bind fun d w => R.ok (d, isFr d) w).bind fun (x : D × Bool) w => if i < w.e.length then R.ok IL.Flow.nx (w.putF i x.1 x.2) else .bad).bind (fun fl w => match fl with | .nx => runs cf tl w | .rt d fr => .ok (.rt d fr) w) = _
  rw [h2]
  show (if i < w1.e.length then R.ok IL.Flow.nx (Wd.putF { w1 with s := s } i (.int (j + k)) false) else .bad).bind (fun fl w => match fl with | .nx => runs cf tl w | .rt d fr => .ok (.rt d fr) w) = _
  rw [if_pos hi]
end
end IL

set_option Elab.async false
/-! What the program computes, in plain Lean. -/
namespace IL
structure Bk where
  dem : List Nat
  rd : List (Nat × List Nat)
def present (b : Bk) (ab : List Nat) : List Nat := (List.range b.rd.length).filter fun r => !decide (r ∈ ab)
/-- the count of a reader for a set -/
def count (b : Bk) (rows : List (List Nat)) (r : Nat) (W : List Nat) : Int := min (((b.rd.getD r default).1 : Int) - ((rows.getD r []).filter fun x => !decide (x ∈ W)).length) (W.filter fun x => decide (x ∈ (b.rd.getD r default).2)).length
def countsOf (b : Bk) (rows : List (List Nat)) (ab W : List Nat) : List Int := (present b ab).map fun r => count b rows r W
def demOf (b : Bk) (W : List Nat) : Int := (W.map fun x => ((b.dem.getD x 0 : Nat) : Int)).sum
def isShort (b : Bk) (rows : List (List Nat)) (ab W : List Nat) : Bool := decide ((countsOf b rows ab W).sum < demOf b W)
/-- ascending -/
def Asc (l : List Nat) : Prop := l.Pairwise (· < ·)
theorem asc_nodup {l : List Nat} (h : Asc l) : l.Nodup := h.imp fun h => by omega
/-- sorted -/
def insN (x : Nat) : List Nat → List Nat
  | [] => [x]
  | y :: l => if x ≤ y then x :: y :: l else y :: insN x l
def srt : List Nat → List Nat
  | [] => []
  | x :: l => insN x (srt l)
theorem insN_perm (x : Nat) : ∀ l : List Nat, (insN x l).Perm (x :: l)
  | [] => .refl _
  | y :: l => by
    unfold insN
    split
    · exact .refl _
    · exact ((insN_perm x l).cons y).trans (.swap x y l)
theorem srt_perm : ∀ l : List Nat, (srt l).Perm l
  | [] => .refl _
  | x :: l => (insN_perm x _).trans ((srt_perm l).cons x)
theorem insN_le (x : Nat) : ∀ {l : List Nat}, l.Pairwise (· ≤ ·) → (insN x l).Pairwise (· ≤ ·)
  | [], _ => List.pairwise_singleton _ _
  | y :: l, h => by
    unfold insN
    have h' := List.pairwise_cons.mp h
    split
    · refine List.pairwise_cons.mpr ⟨fun z hz => ?_, h⟩
      rcases List.mem_cons.mp hz with e | hz
      · omega
      · have := h'.1 z hz; omega
    · refine List.pairwise_cons.mpr ⟨fun z hz => ?_, insN_le x h'.2⟩
      rcases List.mem_cons.mp ((insN_perm x l).mem_iff.mp hz) with e | hz
      · omega
      · exact h'.1 z hz
theorem srt_le : ∀ l : List Nat, (srt l).Pairwise (· ≤ ·)
  | [] => .nil
  | x :: l => insN_le x (srt_le l)
theorem asc_srt {l : List Nat} (n : l.Nodup) : Asc (srt l) := ((srt_le l).and ((srt_perm l).nodup_iff.mpr n)).imp fun h => by have := h.2; omega
theorem le_uniq : ∀ {l m : List Nat}, l.Perm m → l.Pairwise (· ≤ ·) → m.Pairwise (· ≤ ·) → l = m
  | [], m, p, _, _ => (List.Perm.eq_nil p.symm).symm
  | x :: l, [], p, _, _ => absurd p.length_eq (by simp)
  | x :: l, y :: m, p, h1, h2 => by
    have h1' := List.pairwise_cons.mp h1
    have h2' := List.pairwise_cons.mp h2
    have a : y ≤ x := by
      rcases List.mem_cons.mp (p.mem_iff.mp (List.mem_cons_self (a := x) (l := l))) with e | hx
      · omega
      · exact h2'.1 x hx
    have b : x ≤ y := by
      rcases List.mem_cons.mp (p.mem_iff.mpr (List.mem_cons_self (a := y) (l := m))) with e | hy
      · omega
      · exact h1'.1 y hy
    have e : x = y := by omega
    subst e
    rw [le_uniq ((List.perm_cons x).mp p) h1'.2 h2'.2]
end IL

set_option Elab.async false
set_option linter.all false
/-! Counts, in plain Lean. -/
namespace IL
theorem filter_split {α : Type} (p : α → Bool) : ∀ l : List α, (l.filter p).length + (l.filter fun x => !p x).length = l.length
  | [] => rfl
  | x :: l => by
    have ih := filter_split p l
    cases h : p x <;> simp [List.filter_cons, h] <;> omega
theorem nodup_sub_len : ∀ {a b : List Nat}, a.Nodup → (∀ x ∈ a, x ∈ b) → a.length ≤ b.length
  | [], b, _, _ => by simp
  | x :: a, b, n, h => by
    have n' := List.nodup_cons.mp n
    have hx := h x List.mem_cons_self
    have ih := nodup_sub_len (a := a) (b := b.erase x) n'.2 fun y hy => by
      have : y ≠ x := fun e => by subst e; exact n'.1 hy
      exact (List.mem_erase_of_ne this).mpr (h y (List.mem_cons_of_mem _ hy))
    rw [List.length_erase_of_mem hx] at ih
    have : 0 < b.length := List.length_pos_of_mem hx
    rw [List.length_cons]; omega
theorem nodup_eq_len {a b : List Nat} (ha : a.Nodup) (hb : b.Nodup) (h : ∀ x, x ∈ a ↔ x ∈ b) : a.length = b.length :=
  Nat.le_antisymm (nodup_sub_len ha fun x => (h x).mp) (nodup_sub_len hb fun x => (h x).mpr)
theorem nodup_filter {p : Nat → Bool} {l : List Nat} (h : l.Nodup) : (l.filter p).Nodup := h.sublist List.filter_sublist
theorem inter_comm {a b : List Nat} (ha : a.Nodup) (hb : b.Nodup) : (a.filter fun x => decide (x ∈ b)).length = (b.filter fun x => decide (x ∈ a)).length :=
  nodup_eq_len (nodup_filter ha) (nodup_filter hb) fun x => by simp [List.mem_filter, and_comm]
/-- what the laws count -/
def cntL (rd : List (Nat × List Nat)) (rows : List (List Nat)) (r : Nat) (W : List Nat) : Int :=
  (((rows.getD r []).filter fun x => decide (x ∈ W)).length : Int) + min (((rd.getD r default).1 : Int) - (rows.getD r []).length) (((rd.getD r default).2.filter fun x => decide (x ∈ W) && !decide (x ∈ (rows.getD r []).filter fun x => decide (x ∈ W))).length : Nat)
theorem count_law {b : Bk} {rows : List (List Nat)} {r : Nat} {W : List Nat} (h1 : (rows.getD r []).Nodup) (h2 : ∀ x ∈ rows.getD r [], x ∈ (b.rd.getD r default).2) (h3 : (b.rd.getD r default).2.Nodup) (hW : W.Nodup) : count b rows r W = cntL b.rd rows r W := by
  unfold count cntL
  generalize rows.getD r [] = row at h1 h2 ⊢
  generalize (b.rd.getD r default).2 = may at h2 h3 ⊢
  generalize (b.rd.getD r default).1 = lm
  have e1 := filter_split (fun x => decide (x ∈ W)) row
  have e2 : (W.filter fun x => decide (x ∈ may)).length = (row.filter fun x => decide (x ∈ W)).length + (may.filter fun x => decide (x ∈ W) && !decide (x ∈ row.filter fun x => decide (x ∈ W))).length := by
    rw [inter_comm hW h3]
    have e3 := filter_split (fun x => decide (x ∈ row)) (may.filter fun x => decide (x ∈ W))
    rw [List.filter_filter, List.filter_filter] at e3
    have e4 : (may.filter fun x => decide (x ∈ row) && decide (x ∈ W)).length = (row.filter fun x => decide (x ∈ W)).length :=
      nodup_eq_len (nodup_filter h3) (nodup_filter h1) fun x => by
        simp only [List.mem_filter, Bool.and_eq_true, decide_eq_true_eq]
        exact ⟨fun h => ⟨h.2.1, h.2.2⟩, fun h => ⟨h2 x h.1, h.1, h.2⟩⟩
    have e5 : (may.filter fun x => !decide (x ∈ row) && decide (x ∈ W)) = (may.filter fun x => decide (x ∈ W) && !decide (x ∈ row.filter fun x => decide (x ∈ W))) := by
      refine List.filter_congr fun x _ => ?_
      by_cases hw : x ∈ W <;> by_cases hr : x ∈ row <;> simp [List.mem_filter, hw, hr]
    rw [e4, e5] at e3
    omega
  rw [e2]
  omega
/-- one work less in the set -/
theorem count_fewer {b : Bk} {rows : List (List Nat)} {r w : Nat} {W : List Nat} (h1 : (rows.getD r []).Nodup) (h2 : ∀ x ∈ rows.getD r [], x ∈ (b.rd.getD r default).2) (hw : w ∉ W) : count b rows r (w :: W) - count b rows r W = 0 ∨ count b rows r (w :: W) - count b rows r W = 1 := by
  unfold count
  generalize rows.getD r [] = row at h1 h2 ⊢
  generalize (b.rd.getD r default).2 = may at h2 ⊢
  generalize (b.rd.getD r default).1 = lm
  have e1 := filter_split (fun x => decide (x ∈ w :: W)) row
  have e2 := filter_split (fun x => decide (x ∈ W)) row
  have e3 : (row.filter fun x => decide (x ∈ w :: W)).length = (row.filter fun x => decide (x ∈ W)).length + (if w ∈ row then 1 else 0) := by
    have key : ∀ l : List Nat, l.Nodup → (l.filter fun x => decide (x ∈ w :: W)).length = (l.filter fun x => decide (x ∈ W)).length + (if w ∈ l then 1 else 0) := by
      intro l
      induction l with
      | nil => intro _; rfl
      | cons y l ih =>
        intro n
        have n' := List.nodup_cons.mp n
        have ih := ih n'.2
        by_cases hy : y = w
        · subst hy
          have : ¬ y ∈ l := n'.1
          simp [List.filter_cons, hw, this] at ih ⊢
          omega
        · by_cases hyW : y ∈ W
          · have : (w = y ∨ w ∈ l) ↔ w ∈ l := ⟨fun h => h.elim (fun e => absurd e.symm hy) id, .inr⟩
            simp [List.filter_cons, hy, hyW, this, Ne.symm hy] at ih ⊢
            omega
          · have : (w = y ∨ w ∈ l) ↔ w ∈ l := ⟨fun h => h.elim (fun e => absurd e.symm hy) id, .inr⟩
            simp [List.filter_cons, hy, hyW, this, Ne.symm hy] at ih ⊢
            omega
    exact key row h1
  rw [List.filter_cons]
  by_cases hm : w ∈ may
  · simp only [hm, decide_true, if_true, List.length_cons]
    by_cases hr : w ∈ row
    · rw [if_pos hr] at e3; omega
    · rw [if_neg hr] at e3; omega
  · have hr : w ∉ row := fun z => hm (h2 w z)
    rw [if_neg hr] at e3
    simp only [hm, decide_false, Bool.false_eq_true, if_false]
    omega
/-- one reading more outside -/
theorem count_longer {b : Bk} {rows rows' : List (List Nat)} {r x : Nat} {W : List Nat} (hp : (rows'.getD r []).Perm (rows.getD r [] ++ [x])) (hx : x ∉ W) : count b rows r W - count b rows' r W = 0 ∨ count b rows r W - count b rows' r W = 1 := by
  unfold count
  have e : ((rows'.getD r []).filter fun x => !decide (x ∈ W)).length = ((rows.getD r []).filter fun x => !decide (x ∈ W)).length + 1 := by
    rw [(hp.filter _).length_eq, List.filter_append, List.length_append]
    simp [hx]
  rw [e]; omega
end IL

set_option Elab.async false
set_option linter.all false
/-! The sets that the laws draw. -/
namespace IL
def nextL (L : List Nat) (last : List (List Nat)) : List (List Nat) := last.flatMap fun one => (L.filter fun t => decide (one = []) || decide ((one.getLast?.getD 0) < t)).map fun t => one ++ [t]
def lvlL (L : List Nat) : Nat → List (List Nat)
  | 0 => [[]]
  | k + 1 => nextL L (lvlL L k)
def upL (L : List Nat) : Nat → List (List Nat)
  | 0 => [[]]
  | k + 1 => upL L k ++ lvlL L (k + 1)
/-- all ascending lots of some things, shorter ones first -/
def setsL (L : List Nat) : List (List Nat) := upL L L.length
theorem nextL_len (L : List Nat) (last : List (List Nat)) : (nextL L last).length ≤ L.length * last.length := by
  unfold nextL
  induction last with
  | nil => simp
  | cons x last ih =>
    rw [List.flatMap_cons, List.length_append, List.length_map, List.length_cons, Nat.mul_succ]
    have := List.length_filter_le (fun t => decide (x = []) || decide ((x.getLast?.getD 0) < t)) L
    omega
theorem lvlL_len {L : List Nat} (h : L.length ≤ 6) : ∀ k, (lvlL L k).length ≤ 6 ^ k
  | 0 => by simp [lvlL]
  | k + 1 => by
    have h1 := nextL_len L (lvlL L k)
    have h2 := lvlL_len h k
    have : L.length * (lvlL L k).length ≤ 6 * 6 ^ k := Nat.mul_le_mul h h2
    show (nextL L (lvlL L k)).length ≤ _
    rw [Nat.pow_succ]; omega
theorem upL_len {L : List Nat} (h : L.length ≤ 6) : ∀ k, (upL L k).length ≤ 2 * 6 ^ k
  | 0 => by simp [upL]
  | k + 1 => by
    have h1 := upL_len h k
    have h2 := lvlL_len h (k + 1)
    show (upL L k ++ lvlL L (k + 1)).length ≤ _
    rw [List.length_append]
    have : 6 ^ (k + 1) = 6 * 6 ^ k := by rw [Nat.pow_succ, Nat.mul_comm]
    omega
/-- a member: ascending, of these things, so many of them -/
theorem lvlL_mem {L : List Nat} : ∀ {k : Nat} {W : List Nat}, W ∈ lvlL L k → W.Pairwise (· < ·) ∧ (∀ x ∈ W, x ∈ L) ∧ W.length = k
  | 0, W, h => by
    simp [lvlL] at h; subst h
    exact ⟨.nil, fun _ z => (nomatch z), rfl⟩
  | k + 1, W, h => by
    have h : W ∈ nextL L (lvlL L k) := h
    unfold nextL at h
    obtain ⟨one, h1, h2⟩ := List.mem_flatMap.mp h
    obtain ⟨t, h3, rfl⟩ := List.mem_map.mp h2
    obtain ⟨a1, a2, a3⟩ := lvlL_mem h1
    obtain ⟨b1, b2⟩ := List.mem_filter.mp h3
    refine ⟨?_, fun x hx => ?_, by rw [List.length_append, a3]; rfl⟩
    · refine List.pairwise_append.mpr ⟨a1, List.pairwise_singleton _ _, fun x hx y hy => ?_⟩
      rw [List.mem_singleton.mp hy]
      rw [Bool.or_eq_true, decide_eq_true_eq, decide_eq_true_eq] at b2
      rcases b2 with e | e
      · subst e; cases hx
      · have hne : one ≠ [] := fun z => by subst z; cases hx
        rw [List.getLast?_eq_some_getLast hne] at e
        have e : one.getLast hne < t := e
        by_cases hl : x = one.getLast hne
        · omega
        · have : x < one.getLast hne := by
            have hd : one = one.dropLast ++ [one.getLast hne] := (List.dropLast_concat_getLast hne).symm
            have ha := a1
            rw [hd] at ha
            have hx' := hx
            rw [hd] at hx'
            rcases List.mem_append.mp hx' with z | z
            · exact (List.pairwise_append.mp ha).2.2 x z _ (List.mem_singleton.mpr rfl)
            · exact absurd (List.mem_singleton.mp z) hl
          omega
    · rcases List.mem_append.mp hx with z | z
      · exact a2 x z
      · rw [List.mem_singleton.mp z]; exact b1
theorem upL_mem {L : List Nat} : ∀ {k : Nat} {W : List Nat}, W ∈ upL L k → W.Pairwise (· < ·) ∧ (∀ x ∈ W, x ∈ L) ∧ W.length ≤ k
  | 0, W, h => by
    simp [upL] at h; subst h
    exact ⟨.nil, fun _ z => (nomatch z), Nat.le_refl _⟩
  | k + 1, W, h => by
    rcases List.mem_append.mp (show W ∈ upL L k ++ lvlL L (k + 1) from h) with h | h
    · obtain ⟨a, b, c⟩ := upL_mem h; exact ⟨a, b, by omega⟩
    · obtain ⟨a, b, c⟩ := lvlL_mem h; exact ⟨a, b, by omega⟩
/-- the first one is the empty one, and no other -/
theorem upL_head {L : List Nat} : ∀ k, ∃ r, upL L k = [] :: r ∧ ∀ W ∈ r, W ≠ []
  | 0 => ⟨[], rfl, fun _ z => (nomatch z)⟩
  | k + 1 => by
    obtain ⟨r, h1, h2⟩ := upL_head k
    refine ⟨r ++ lvlL L (k + 1), by show upL L k ++ _ = _; rw [h1]; rfl, fun W hW => ?_⟩
    rcases List.mem_append.mp hW with z | z
    · exact h2 W z
    · intro e; subst e
      have := (lvlL_mem z).2.2
      simp at this
/-- every ascending lot of an ascending list is told -/
theorem lvlL_all {L : List Nat} : ∀ {k : Nat} {W : List Nat}, W.Pairwise (· < ·) → (∀ x ∈ W, x ∈ L) → W.length = k → W ∈ lvlL L k
  | 0, W, _, _, h => by
    have := List.length_eq_zero_iff.mp h
    subst this; simp [lvlL]
  | k + 1, W, ha, hs, h => by
    have hne : W ≠ [] := fun z => by subst z; simp at h
    have hd : W = W.dropLast ++ [W.getLast hne] := (List.dropLast_concat_getLast hne).symm
    have ha' := ha
    rw [hd] at ha'
    obtain ⟨p1, _, p3⟩ := List.pairwise_append.mp ha'
    have ih := lvlL_all (L := L) (k := k) p1 (fun x hx => hs x (by rw [hd]; exact List.mem_append_left _ hx)) (by rw [List.length_dropLast]; omega)
    show W ∈ nextL L (lvlL L k)
    unfold nextL
    refine List.mem_flatMap.mpr ⟨W.dropLast, ih, List.mem_map.mpr ⟨W.getLast hne, List.mem_filter.mpr ⟨hs _ (List.getLast_mem hne), ?_⟩, hd.symm⟩⟩
    rw [Bool.or_eq_true, decide_eq_true_eq, decide_eq_true_eq]
    by_cases e : W.dropLast = []
    · exact .inl e
    · right
      rw [List.getLast?_eq_some_getLast e]
      exact p3 _ (List.getLast_mem e) _ (List.mem_singleton.mpr rfl)
theorem upL_all {L : List Nat} {W : List Nat} (ha : W.Pairwise (· < ·)) (hs : ∀ x ∈ W, x ∈ L) : ∀ k, W.length ≤ k → W ∈ upL L k
  | 0, h => by
    have := List.length_eq_zero_iff.mp (Nat.le_zero.mp h)
    subst this; simp [upL]
  | k + 1, h => by
    show W ∈ upL L k ++ lvlL L (k + 1)
    rcases Nat.lt_or_ge k W.length with e | e
    · exact List.mem_append_right _ (lvlL_all ha hs (by omega))
    · exact List.mem_append_left _ (upL_all ha hs k e)
theorem setsL_mem {L W : List Nat} (hL : L.Nodup) : W ∈ setsL L ↔ W.Pairwise (· < ·) ∧ ∀ x ∈ W, x ∈ L :=
  ⟨fun h => ⟨(upL_mem h).1, (upL_mem h).2.1⟩, fun h => upL_all h.1 h.2 _ (nodup_sub_len (h.1.imp fun h => by omega) h.2)⟩
end IL

set_option Elab.async false
set_option linter.all false
/-! One step: chains and closed sets. -/
namespace IL
abbrev rowAt (rows : List (List Nat)) (r : Nat) : List Nat := rows.getD r []
abbrev limAt (b : Bk) (r : Nat) : Nat := (b.rd.getD r default).1
abbrev mayAt (b : Bk) (r : Nat) : List Nat := (b.rd.getD r default).2
/-- rows of a book -/
structure RowsV (b : Bk) (rows : List (List Nat)) : Prop where
  len : rows.length = b.rd.length
  asc : ∀ r, Asc (rowAt rows r)
  sub : ∀ r x, x ∈ rowAt rows r → x ∈ mayAt b r
  lim : ∀ r, (rowAt rows r).length ≤ limAt b r
structure BkV (b : Bk) : Prop where
  asc : ∀ r, Asc (mayAt b r)
  lt : ∀ r x, x ∈ mayAt b r → x < b.dem.length
def takers (b : Bk) (rows : List (List Nat)) (ab : List Nat) (x : Nat) : List Nat := (present b ab).filter fun r => decide (x ∈ mayAt b r) && !decide (x ∈ rowAt rows r)
def roomB (b : Bk) (rows : List (List Nat)) (r : Nat) : Bool := decide ((rowAt rows r).length < limAt b r)
theorem mem_takers {b : Bk} {rows : List (List Nat)} {ab : List Nat} {x r : Nat} : r ∈ takers b rows ab x ↔ r ∈ present b ab ∧ x ∈ mayAt b r ∧ x ∉ rowAt rows r := by
  unfold takers
  simp only [List.mem_filter, Bool.and_eq_true, decide_eq_true_eq, Bool.not_eq_true', decide_eq_false_iff_not]
abbrev Ways := List (Nat × Option (Nat × Nat))
abbrev Link := Nat × Nat × Option Nat
def keysW (w : Ways) : List Nat := w.map (·.1)
def addOne (kept : List (List Nat)) (here r : Nat) (st : Ways × List Nat) (o : Nat) : Ways × List Nat := if !decide (o ∈ rowAt kept r) && !decide (o ∈ keysW st.1) then (st.1 ++ [(o, some (here, r))], st.2 ++ [o]) else st
def addReader (kept rows : List (List Nat)) (here : Nat) (st : Ways × List Nat) (r : Nat) : Ways × List Nat := (rowAt rows r).foldl (addOne kept here r) st
def expand (kept rows : List (List Nat)) (here : Nat) (ts : List Nat) (st : Ways × List Nat) : Ways × List Nat := ts.foldl (addReader kept rows here) st
def wayAt (w : Ways) (x : Nat) : Option (Nat × Nat) := ((w.find? fun p => p.1 == x).map (·.2)).getD none
def chainBack (w : Ways) : Nat → Nat → List Link → List Link
  | 0, _, found => found
  | n + 1, x, found => match wayAt w x with
    | some (p, r) => chainBack w n p ((r, p, some x) :: found)
    | none => found
inductive StepR where
  | chain (l : List Link) | closed (S : List Nat)
def bfs (b : Bk) (kept rows : List (List Nat)) (ab : List Nat) : Nat → Ways → List Nat → StepR
  | 0, w, _ => .closed (keysW w)
  | _ + 1, w, [] => .closed (keysW w)
  | n + 1, w, here :: q => match (takers b rows ab here).find? (roomB b rows) with
    | some r => .chain (chainBack w w.length here [(r, here, none)])
    | none => bfs b kept rows ab n (expand kept rows here (takers b rows ab here) (w, q)).1 (expand kept rows here (takers b rows ab here) (w, q)).2
def stepF (b : Bk) (kept rows : List (List Nat)) (ab : List Nat) (work : Nat) : StepR := bfs b kept rows ab (b.dem.length + 1) [(work, none)] [work]
/-! ### what is found -/
def Linked (b : Bk) (kept rows : List (List Nat)) (ab : List Nat) : Nat → List Link → Prop
  | _, [] => False
  | x, (r, t, g) :: rest => (r ∈ present b ab ∧ t = x ∧ x ∈ mayAt b r ∧ x ∉ rowAt rows r) ∧ match g with
    | none => rest = [] ∧ roomB b rows r = true
    | some y => y ∈ rowAt rows r ∧ y ∉ rowAt kept r ∧ Linked b kept rows ab y rest
def rdrs (l : List Link) : List Nat := l.map (·.1)
def ChainOk (b : Bk) (kept rows : List (List Nat)) (ab : List Nat) (x : Nat) (l : List Link) : Prop := Linked b kept rows ab x l ∧ (rdrs l).Nodup
def ClosedS (b : Bk) (kept rows : List (List Nat)) (ab S : List Nat) : Prop := ∀ r ∈ present b ab, (∀ x ∈ mayAt b r, x ∈ S → x ∈ rowAt rows r) ∨ (roomB b rows r = false ∧ ∀ x ∈ rowAt rows r, x ∉ S → x ∈ rowAt kept r)
/-! ### the ways so far: i works are done -/
structure WInv (b : Bk) (kept rows : List (List Nat)) (ab : List Nat) (work : Nat) (w : Ways) (i : Nat) : Prop where
  nd : (keysW w).Nodup
  hd : w[0]? = some (work, none)
  le : i ≤ w.length
  lt : ∀ x ∈ keysW w, x < b.dem.length
  way : ∀ (k : Nat) x o, w[k]? = some (x, o) → 0 < k → ∃ p r j, o = some (p, r) ∧ j < i ∧ j < k ∧ (keysW w)[j]? = some p ∧ r ∈ takers b rows ab p ∧ x ∈ rowAt rows r ∧ x ∉ rowAt kept r ∧
    ∀ (j' : Nat) y r', j' < j → (keysW w)[j']? = some y → r' ∈ takers b rows ab y → x ∈ rowAt rows r' → x ∈ rowAt kept r'
  done : ∀ (j : Nat) y r, j < i → (keysW w)[j]? = some y → r ∈ takers b rows ab y → roomB b rows r = false ∧ ∀ x ∈ rowAt rows r, x ∉ rowAt kept r → x ∈ keysW w
section
variable {b : Bk} {kept rows : List (List Nat)} {ab : List Nat} {work : Nat}
theorem wayAt_of {w : Ways} (nd : (keysW w).Nodup) {k x : Nat} {o : Option (Nat × Nat)} (h : w[k]? = some (x, o)) : wayAt w x = o := by
  unfold wayAt
  have : w.find? (fun p => p.1 == x) = some (x, o) := by
    induction w generalizing k with
    | nil => simp at h
    | cons p w ih =>
      have nd' := List.nodup_cons.mp nd
      cases k with
      | zero => simp at h; subst h; simp
      | succ k =>
        have h' : w[k]? = some (x, o) := by simpa using h
        have hm : x ∈ keysW w := List.mem_map.mpr ⟨(x, o), List.mem_of_getElem? h', rfl⟩
        have hne : ¬ p.1 = x := fun e => nd'.1 (by subst e; exact hm)
        rw [List.find?_cons_of_neg (by simpa using hne)]
        exact ih nd'.2 h'
  rw [this]; rfl
theorem keys_get {w : Ways} {k : Nat} {x : Nat} : (keysW w)[k]? = some x ↔ ∃ o, w[k]? = some (x, o) := by
  unfold keysW
  rw [List.getElem?_map]
  cases h : w[k]? with
  | none => simp
  | some p => obtain ⟨a, o⟩ := p; simp
/-- the way back is a chain -/
theorem back_ok {w : Ways} {i : Nat} (I : WInv b kept rows ab work w i) : ∀ (k n x : Nat) (found : List Link), (keysW w)[k]? = some x → k < n → Linked b kept rows ab x found → (rdrs found).Nodup →
    (∀ r ∈ rdrs found, ∀ (j : Nat) y, j < k → (keysW w)[j]? = some y → r ∉ takers b rows ab y) → ChainOk b kept rows ab work (chainBack w n x found) := by
  intro k
  induction k using Nat.strongRecOn with
  | ind k ih =>
    intro n x found hk hn hl hnd hr
    obtain ⟨o, ho⟩ := keys_get.mp hk
    have hw := wayAt_of I.nd ho
    cases n with
    | zero => omega
    | succ n =>
      unfold chainBack
      rw [hw]
      rcases Nat.eq_zero_or_pos k with e | hp
      · subst e
        rw [I.hd] at ho
        cases ho
        exact ⟨hl, hnd⟩
      · obtain ⟨p, r, j, rfl, h1, h2, h3, h4, h5, h6, h7⟩ := I.way k x o ho hp
        have ht := mem_takers.mp h4
        show ChainOk b kept rows ab work (chainBack w n p ((r, p, some x) :: found))
        refine ih j h2 n p _ h3 (by omega) ⟨⟨ht.1, rfl, ht.2.1, ht.2.2⟩, h5, h6, hl⟩ ?_ ?_
        · show (r :: rdrs found).Nodup
          exact List.nodup_cons.mpr ⟨fun z => hr r z j p h2 h3 h4, hnd⟩
        · intro r' hr' j' y hj' hy ht'
          rcases List.mem_cons.mp (show r' ∈ r :: rdrs found from hr') with e | hm
          · subst e
            exact h6 (h7 j' y r' hj' hy ht' h5)
          · exact hr r' hm j' y (by omega) hy ht'
theorem nodup_one (x : Nat) : [x].Nodup := List.nodup_cons.mpr ⟨by simp, .nil⟩
/-! ### one work is done -/
def XInv (kept rows : List (List Nat)) (here : Nat) (ts : List Nat) (w : Ways) (q : List Nat) (st : Ways × List Nat) : Prop := ∃ new : Ways, st = (w ++ new, q ++ keysW new) ∧ (keysW (w ++ new)).Nodup ∧ ∀ p ∈ new, ∃ o r, p = (o, some (here, r)) ∧ r ∈ ts ∧ o ∈ rowAt rows r ∧ o ∉ rowAt kept r ∧ o ∉ keysW w
theorem keys_app (w v : Ways) : keysW (w ++ v) = keysW w ++ keysW v := List.map_append
theorem addOne_ok {here r o : Nat} {ts : List Nat} {w : Ways} {q : List Nat} {st : Ways × List Nat} (h : XInv kept rows here ts w q st) (hr : r ∈ ts) (ho : o ∈ rowAt rows r) :
    XInv kept rows here ts w q (addOne kept here r st o) ∧ (∀ x ∈ keysW st.1, x ∈ keysW (addOne kept here r st o).1) ∧ (o ∉ rowAt kept r → o ∈ keysW (addOne kept here r st o).1) := by
  have g0 : o ∈ rowAt kept r ∨ o ∈ keysW st.1 → addOne kept here r st o = st := fun z => by
    unfold addOne
    rw [if_neg]
    rcases z with z | z
    · rw [decide_eq_true z]; intro y; cases y
    · rw [decide_eq_true z, Bool.not_true, Bool.and_false]; intro y; cases y
  have g1 : o ∉ rowAt kept r → o ∉ keysW st.1 → addOne kept here r st o = (st.1 ++ [(o, some (here, r))], st.2 ++ [o]) := fun z y => by
    unfold addOne
    rw [if_pos]
    rw [decide_eq_false z, decide_eq_false y]; rfl
  by_cases h1 : o ∈ rowAt kept r
  · rw [g0 (.inl h1)]
    exact ⟨h, fun x hx => hx, fun z => absurd h1 z⟩
  · by_cases h2 : o ∈ keysW st.1
    · rw [g0 (.inr h2)]
      exact ⟨h, fun x hx => hx, fun _ => h2⟩
    · rw [g1 h1 h2]
      obtain ⟨new, rfl, nd, hn⟩ := h
      have h2 : o ∉ keysW (w ++ new) := h2
      have e : keysW (w ++ (new ++ [(o, some (here, r))])) = keysW (w ++ new) ++ [o] := by rw [← List.append_assoc, keys_app]; rfl
      refine ⟨⟨new ++ [(o, some (here, r))], ?_, ?_, fun p hp => ?_⟩, fun x hx => ?_, fun _ => ?_⟩
      · rw [keys_app, List.append_assoc, List.append_assoc]; rfl
      · rw [e]
        exact List.nodup_append.mpr ⟨nd, nodup_one _, fun a ha c hc => by
          rw [List.mem_singleton.mp hc]; intro z; subst z; exact h2 ha⟩
      · rcases List.mem_append.mp hp with hp | hp
        · exact hn p hp
        · rw [List.mem_singleton.mp hp]
          exact ⟨o, r, rfl, hr, ho, h1, fun z => h2 (by rw [keys_app]; exact List.mem_append_left _ z)⟩
      · show x ∈ keysW ((w ++ new) ++ [_])
        rw [keys_app]; exact List.mem_append_left _ hx
      · show o ∈ keysW ((w ++ new) ++ [_])
        rw [keys_app]; exact List.mem_append_right _ (List.mem_singleton.mpr rfl)
theorem addReader_ok {here r : Nat} {ts : List Nat} {w : Ways} {q : List Nat} (hr : r ∈ ts) : ∀ (os : List Nat) (st : Ways × List Nat), XInv kept rows here ts w q st → (∀ o ∈ os, o ∈ rowAt rows r) →
    XInv kept rows here ts w q (os.foldl (addOne kept here r) st) ∧ (∀ x ∈ keysW st.1, x ∈ keysW (os.foldl (addOne kept here r) st).1) ∧ ∀ o ∈ os, o ∉ rowAt kept r → o ∈ keysW (os.foldl (addOne kept here r) st).1
  | [], st, h, _ => ⟨h, fun x hx => hx, fun _ z => (nomatch z)⟩
  | o :: os, st, h, ho => by
    obtain ⟨a1, a2, a3⟩ := addOne_ok h hr (ho o List.mem_cons_self)
    obtain ⟨b1, b2, b3⟩ := addReader_ok hr os _ a1 fun x hx => ho x (List.mem_cons_of_mem _ hx)
    refine ⟨b1, fun x hx => b2 x (a2 x hx), fun x hx hk => ?_⟩
    rcases List.mem_cons.mp hx with e | hx
    · subst e; exact b2 _ (a3 hk)
    · exact b3 x hx hk
theorem expand_ok {here : Nat} {ts : List Nat} {w : Ways} {q : List Nat} : ∀ (rs : List Nat) (st : Ways × List Nat), XInv kept rows here ts w q st → (∀ r ∈ rs, r ∈ ts) →
    XInv kept rows here ts w q (expand kept rows here rs st) ∧ (∀ x ∈ keysW st.1, x ∈ keysW (expand kept rows here rs st).1) ∧ ∀ r ∈ rs, ∀ o ∈ rowAt rows r, o ∉ rowAt kept r → o ∈ keysW (expand kept rows here rs st).1
  | [], st, h, _ => ⟨h, fun x hx => hx, fun _ z => (nomatch z)⟩
  | r :: rs, st, h, hr => by
    obtain ⟨a1, a2, a3⟩ := addReader_ok (hr r List.mem_cons_self) (rowAt rows r) st h fun o ho => ho
    obtain ⟨b1, b2, b3⟩ := expand_ok rs _ a1 fun x hx => hr x (List.mem_cons_of_mem _ hx)
    refine ⟨b1, fun x hx => b2 x (a2 x hx), fun x hx o ho hk => ?_⟩
    rcases List.mem_cons.mp hx with e | hx
    · subst e; exact b2 _ (a3 o ho hk)
    · exact b3 x hx o ho hk
theorem wkeys_len {w : Ways} {i : Nat} (I : WInv b kept rows ab work w i) : w.length ≤ b.dem.length := by
  have := nodup_sub_len (b := List.range b.dem.length) I.nd fun x hx => List.mem_range.mpr (I.lt x hx)
  rw [List.length_range] at this
  unfold keysW at this
  rw [List.length_map] at this
  exact this
theorem winv_next (V : BkV b) (R : RowsV b rows) {w : Ways} {i here : Nat} {q : List Nat} (I : WInv b kept rows ab work w i) (hh : (keysW w)[i]? = some here) (hi : i < w.length) (hq' : q = (keysW w).drop (i + 1)) (hno : ∀ r ∈ takers b rows ab here, roomB b rows r = false) :
    WInv b kept rows ab work (expand kept rows here (takers b rows ab here) (w, q)).1 (i + 1) ∧ (expand kept rows here (takers b rows ab here) (w, q)).2 = (keysW (expand kept rows here (takers b rows ab here) (w, q)).1).drop (i + 1) := by
  obtain ⟨⟨new, e, nd, hnew⟩, h2, h3⟩ := expand_ok (kept := kept) (rows := rows) (here := here) (ts := takers b rows ab here) (w := w) (q := q) (takers b rows ab here) (w, q) ⟨[], by simp [keysW], by rw [List.append_nil]; exact I.nd, fun _ z => (nomatch z)⟩ fun r hr => hr
  rw [e] at h3 ⊢
  have hkl : (keysW w).length = w.length := by unfold keysW; rw [List.length_map]
  have hget : ∀ j, j < w.length → (keysW (w ++ new))[j]? = (keysW w)[j]? := fun j hj => by
    rw [keys_app, List.getElem?_append_left (by omega)]
  refine ⟨⟨nd, ?_, ?_, ?_, ?_, ?_⟩, ?_⟩
  · rw [List.getElem?_append_left (by omega)]; exact I.hd
  · rw [List.length_append]; omega
  · intro x hx
    rw [keys_app] at hx
    rcases List.mem_append.mp hx with hx | hx
    · exact I.lt x hx
    · obtain ⟨p, hp, rfl⟩ := List.mem_map.mp hx
      obtain ⟨o, r, rfl, hr, ho, _, _⟩ := hnew p hp
      exact V.lt r o (R.sub r o ho)
  · intro k x o hk hpos
    rcases Nat.lt_or_ge k w.length with hkw | hkw
    · rw [List.getElem?_append_left hkw] at hk
      obtain ⟨p, r, j, g1, g2, g3, g4, g5, g6, g7, g8⟩ := I.way k x o hk hpos
      exact ⟨p, r, j, g1, by omega, g3, by rw [hget j (by omega)]; exact g4, g5, g6, g7, fun j' y r' hj' hy => g8 j' y r' hj' (by rw [← hget j' (by omega)]; exact hy)⟩
    · have hm : (x, o) ∈ new := by
        rw [List.getElem?_append_right hkw] at hk
        exact List.mem_of_getElem? hk
      obtain ⟨o', r, e', hr, ho, hok, how⟩ := hnew _ hm
      cases e'
      refine ⟨here, r, i, rfl, by omega, by omega, by rw [hget i hi]; exact hh, hr, ho, hok, fun j' y r' hj' hy hr' hx => ?_⟩
      rw [hget j' (by omega)] at hy
      exact Classical.byContradiction fun z => how ((I.done j' y r' hj' hy hr').2 x hx z)
  · intro j y r hj hy hr
    rcases Nat.lt_or_ge j i with hji | hji
    · rw [hget j (by omega)] at hy
      obtain ⟨g1, g2⟩ := I.done j y r hji hy hr
      exact ⟨g1, fun x hx hk => by rw [keys_app]; exact List.mem_append_left _ (g2 x hx hk)⟩
    · have : j = i := by omega
      subst this
      rw [hget j hi, hh] at hy
      cases hy
      exact ⟨hno r hr, fun x hx hk => h3 r hr x hx hk⟩
  · rw [hq', keys_app, List.drop_append_of_le_length (by omega)]
theorem bfs_ok (V : BkV b) (R : RowsV b rows) : ∀ (n : Nat) (w : Ways) (i : Nat) (q : List Nat), WInv b kept rows ab work w i → q = (keysW w).drop i → b.dem.length < n + i →
    match bfs b kept rows ab n w q with
    | .chain l => ChainOk b kept rows ab work l
    | .closed S => work ∈ S ∧ ClosedS b kept rows ab S ∧ S.Nodup ∧ ∀ x ∈ S, x < b.dem.length
  | 0, w, i, q, I, _, hn => by have := wkeys_len I; have := I.le; omega
  | n + 1, w, i, [], I, hq, hn => by
    show work ∈ keysW w ∧ _
    have hi : w.length ≤ i := by
      have := congrArg List.length hq
      rw [List.length_drop, List.length_nil] at this
      unfold keysW at this
      rw [List.length_map] at this
      omega
    refine ⟨List.mem_of_getElem? (keys_get.mpr ⟨_, I.hd⟩), fun r hr => ?_, I.nd, I.lt⟩
    by_cases h : ∀ x ∈ mayAt b r, x ∈ keysW w → x ∈ rowAt rows r
    · exact .inl h
    · right
      have ⟨x, hx⟩ : ∃ x, ¬ (x ∈ mayAt b r → x ∈ keysW w → x ∈ rowAt rows r) := Classical.byContradiction fun z => h fun x => Classical.byContradiction fun y => z ⟨x, y⟩
      have h1 : x ∈ mayAt b r := Classical.byContradiction fun z => hx fun y => absurd y z
      have h2 : x ∈ keysW w := Classical.byContradiction fun z => hx fun _ y => absurd y z
      have h3 : x ∉ rowAt rows r := fun z => hx fun _ _ => z
      obtain ⟨j, hj⟩ := List.getElem?_of_mem h2
      have hlt : j < w.length := by
        have := (List.getElem?_eq_some_iff.mp hj).1
        unfold keysW at this
        rw [List.length_map] at this
        exact this
      obtain ⟨d1, d2⟩ := I.done j x r (by omega) hj (mem_takers.mpr ⟨hr, h1, h3⟩)
      exact ⟨d1, fun y hy hyS => Classical.byContradiction fun z => hyS (d2 y hy z)⟩
  | n + 1, w, i, here :: q, I, hq, hn => by
    have hh : (keysW w)[i]? = some here := by
      have : ((keysW w).drop i)[0]? = some here := by rw [← hq]; rfl
      rw [List.getElem?_drop] at this
      simpa using this
    have hi : i < w.length := by
      have := (List.getElem?_eq_some_iff.mp hh).1
      unfold keysW at this
      rw [List.length_map] at this
      exact this
    have hq' : q = (keysW w).drop (i + 1) := by
      rw [← List.tail_drop, ← hq]; rfl
    unfold bfs
    cases hf : (takers b rows ab here).find? (roomB b rows) with
    | some r =>
      show ChainOk b kept rows ab work (chainBack w w.length here [(r, here, none)])
      have hr := List.mem_of_find?_eq_some hf
      have hroom : roomB b rows r = true := List.find?_some hf
      have ht := mem_takers.mp hr
      refine back_ok I i w.length here _ hh hi ⟨⟨ht.1, rfl, ht.2.1, ht.2.2⟩, rfl, hroom⟩ (nodup_one _) fun r' hr' j y hj hy hty => ?_
      rw [List.mem_singleton.mp (show r' ∈ [r] from hr')] at hty
      have := (I.done j y r hj hy hty).1
      rw [hroom] at this; cases this
    | none =>
      have hno : ∀ r ∈ takers b rows ab here, roomB b rows r = false := fun r hr => by
        have := List.find?_eq_none.mp hf r hr
        simpa using this
      obtain ⟨⟨new, e, nd, hnew⟩, h2, h3⟩ := expand_ok (kept := kept) (rows := rows) (here := here) (ts := takers b rows ab here) (w := w) (q := q) (takers b rows ab here) (w, q) ⟨[], by simp [keysW], by rw [List.append_nil]; exact I.nd, fun _ z => (nomatch z)⟩ fun r hr => hr
      show match bfs b kept rows ab n (expand kept rows here (takers b rows ab here) (w, q)).1 (expand kept rows here (takers b rows ab here) (w, q)).2 with
        | .chain l => ChainOk b kept rows ab work l
        | .closed S => work ∈ S ∧ ClosedS b kept rows ab S ∧ S.Nodup ∧ ∀ x ∈ S, x < b.dem.length
      rw [e] at h3 ⊢
      have hkl : (keysW w).length = w.length := by unfold keysW; rw [List.length_map]
      have hget : ∀ j, j < w.length → (keysW (w ++ new))[j]? = (keysW w)[j]? := fun j hj => by
        rw [keys_app, List.getElem?_append_left (by omega)]
      refine bfs_ok V R n (w ++ new) (i + 1) _ ⟨nd, ?_, ?_, ?_, ?_, ?_⟩ ?_ (by omega)
      · rw [List.getElem?_append_left (by omega)]; exact I.hd
      · rw [List.length_append]; omega
      · intro x hx
        rw [keys_app] at hx
        rcases List.mem_append.mp hx with hx | hx
        · exact I.lt x hx
        · obtain ⟨p, hp, rfl⟩ := List.mem_map.mp hx
          obtain ⟨o, r, rfl, hr, ho, _, _⟩ := hnew p hp
          exact V.lt r o (R.sub r o ho)
      · intro k x o hk hpos
        rcases Nat.lt_or_ge k w.length with hkw | hkw
        · rw [List.getElem?_append_left hkw] at hk
          obtain ⟨p, r, j, g1, g2, g3, g4, g5, g6, g7, g8⟩ := I.way k x o hk hpos
          exact ⟨p, r, j, g1, by omega, g3, by rw [hget j (by omega)]; exact g4, g5, g6, g7, fun j' y r' hj' hy => g8 j' y r' hj' (by rw [← hget j' (by omega)]; exact hy)⟩
        · have hm : (x, o) ∈ new := by
            rw [List.getElem?_append_right hkw] at hk
            exact List.mem_of_getElem? hk
          obtain ⟨o', r, e', hr, ho, hok, how⟩ := hnew _ hm
          cases e'
          refine ⟨here, r, i, rfl, by omega, by omega, by rw [hget i hi]; exact hh, hr, ho, hok, fun j' y r' hj' hy hr' hx => ?_⟩
          rw [hget j' (by omega)] at hy
          exact Classical.byContradiction fun z => how ((I.done j' y r' hj' hy hr').2 x hx z)
      · intro j y r hj hy hr
        rcases Nat.lt_or_ge j i with hji | hji
        · rw [hget j (by omega)] at hy
          obtain ⟨g1, g2⟩ := I.done j y r hji hy hr
          exact ⟨g1, fun x hx hk => by rw [keys_app]; exact List.mem_append_left _ (g2 x hx hk)⟩
        · have : j = i := by omega
          subst this
          rw [hget j hi, hh] at hy
          cases hy
          exact ⟨hno r hr, fun x hx hk => h3 r hr x hx hk⟩
      · rw [hq', keys_app, List.drop_append_of_le_length (by omega)]
theorem step_ok (V : BkV b) (R : RowsV b rows) (hw : work < b.dem.length) : match stepF b kept rows ab work with
    | .chain l => ChainOk b kept rows ab work l
    | .closed S => work ∈ S ∧ ClosedS b kept rows ab S ∧ S.Nodup ∧ ∀ x ∈ S, x < b.dem.length := by
  refine bfs_ok V R _ _ 0 _ ⟨nodup_one _, rfl, Nat.zero_le _, fun x hx => ?_, fun k x o hk hp => ?_, fun j y r hj => absurd hj (Nat.not_lt_zero _)⟩ rfl (by omega)
  · rw [List.mem_singleton.mp (show x ∈ [work] from hx)]; exact hw
  · cases k with
    | zero => omega
    | succ k => simp at hk
end
end IL

set_option Elab.async false
set_option linter.all false
/-! Rows behind chains; rows that extend others, or a short set. -/
namespace IL
def cntR (b : Bk) (rows : List (List Nat)) (ab : List Nat) (x : Nat) : Nat := ((present b ab).filter fun r => decide (x ∈ rowAt rows r)).length
def demAt (b : Bk) (x : Nat) : Nat := b.dem.getD x 0
def dueAt (b : Bk) (rows : List (List Nat)) (ab : List Nat) (x : Nat) : Nat := max (cntR b rows ab x) (demAt b x)
def newRow (row : List Nat) (t : Nat) (g : Option Nat) : List Nat := srt (row.filter (fun o => !decide (some o = g)) ++ [t])
def afterL (rows : List (List Nat)) (l : List Link) : List (List Nat) := l.foldl (fun f k => f.set k.1 (newRow (rowAt f k.1) k.2.1 k.2.2)) rows
theorem mem_newRow {row : List Nat} {t z : Nat} {g : Option Nat} : z ∈ newRow row t g ↔ (z ∈ row ∧ some z ≠ g) ∨ z = t := by
  unfold newRow
  rw [(srt_perm _).mem_iff, List.mem_append, List.mem_filter, List.mem_singleton]
  simp
theorem newRow_nd {row : List Nat} {t : Nat} {g : Option Nat} (h : row.Nodup) (ht : t ∉ row) : Asc (newRow row t g) := by
  refine asc_srt (List.nodup_append.mpr ⟨nodup_filter' h, nodup_one t, fun a ha c hc => ?_⟩)
  rw [List.mem_singleton.mp hc]
  intro z; subst z
  exact ht (List.mem_filter.mp ha).1
where nodup_filter' {p : Nat → Bool} {l : List Nat} (h : l.Nodup) : (l.filter p).Nodup := h.sublist List.filter_sublist
def gLen (row : List Nat) : Option Nat → Nat
  | some y => if y ∈ row then 1 else 0
  | none => 0
def GOk (b : Bk) (rows : List (List Nat)) (r : Nat) : Option Nat → Prop
  | none => roomB b rows r = true
  | some y => y ∈ rowAt rows r
theorem newRow_len {row : List Nat} {t : Nat} {g : Option Nat} (h : row.Nodup) : (newRow row t g).length = row.length + 1 - gLen row g := by
  unfold newRow
  rw [(srt_perm _).length_eq, List.length_append]
  show _ + 1 = _
  cases g with
  | none =>
    have : row.filter (fun o => !decide (some o = (none : Option Nat))) = row := List.filter_eq_self.mpr fun x _ => by simp
    rw [this]; rfl
  | some y =>
    have e := filter_split (fun o => !decide (some o = some y)) row
    have e2 : (row.filter fun o => !!decide (some o = some y)).length = if y ∈ row then 1 else 0 := by
      clear e
      induction row with
      | nil => rfl
      | cons z row ih =>
        have n' := List.nodup_cons.mp h
        have ih := ih n'.2
        by_cases hz : z = y
        · subst hz
          have hn : z ∉ row := n'.1
          rw [if_neg hn] at ih
          simp [List.filter_cons] at ih ⊢
          exact ih
        · have : (y ∈ z :: row) ↔ y ∈ row := by simp [Ne.symm hz, eq_comm, hz]
          simp only [this]
          rw [← ih]
          simp [List.filter_cons, hz]
    show (row.filter fun o => !decide (some o = some y)).length + 1 = row.length + 1 - (if y ∈ row then 1 else 0)
    omega
theorem rowAt_set {rows : List (List Nat)} {r r' : Nat} {row : List Nat} (h : r < rows.length) : rowAt (rows.set r row) r' = if r' = r then row else rowAt rows r' := by
  unfold rowAt
  rw [List.getD_eq_getElem?_getD, List.getD_eq_getElem?_getD, List.getElem?_set]
  by_cases e : r = r'
  · subst e; rw [if_pos rfl, if_pos h, if_pos rfl]; rfl
  · rw [if_neg e, if_neg (fun z => e z.symm)]
theorem present_nd (b : Bk) (ab : List Nat) : (present b ab).Nodup := (List.nodup_range).sublist List.filter_sublist
theorem mem_present {b : Bk} {ab : List Nat} {r : Nat} : r ∈ present b ab ↔ r < b.rd.length ∧ r ∉ ab := by
  unfold present; rw [List.mem_filter, List.mem_range]; simp
/-- one row is changed -/
theorem cnt_set {b : Bk} {rows : List (List Nat)} {ab : List Nat} {r x : Nat} {row : List Nat} (h : r < rows.length) (hr : r ∈ present b ab) : cntR b (rows.set r row) ab x + (if x ∈ rowAt rows r then 1 else 0) = cntR b rows ab x + (if x ∈ row then 1 else 0) := by
  unfold cntR
  have key : ∀ l : List Nat, l.Nodup → (l.filter fun r' => decide (x ∈ rowAt (rows.set r row) r')).length + (if r ∈ l then (if x ∈ rowAt rows r then 1 else 0) else 0) = (l.filter fun r' => decide (x ∈ rowAt rows r')).length + (if r ∈ l then (if x ∈ row then 1 else 0) else 0) := by
    intro l
    induction l with
    | nil => intro _; rfl
    | cons y l ih =>
      intro n
      have n' := List.nodup_cons.mp n
      have ih := ih n'.2
      rw [List.filter_cons, List.filter_cons]
      by_cases e : y = r
      · subst e
        have hn : y ∉ l := n'.1
        rw [if_neg hn, if_neg hn] at ih
        have hm : y ∈ y :: l := List.mem_cons_self
        rw [if_pos hm, if_pos hm, rowAt_set h, if_pos rfl]
        by_cases a1 : x ∈ rowAt rows y <;> by_cases a2 : x ∈ row <;> simp only [a1, a2, decide_true, decide_false, if_true, if_false, List.length_cons, Bool.false_eq_true] <;> omega
      · have : (r ∈ y :: l) ↔ r ∈ l := by simp [Ne.symm e]
        simp only [this]
        rw [rowAt_set h, if_neg e]
        by_cases a1 : x ∈ rowAt rows y
        · simp only [a1, decide_true, if_true, List.length_cons]; omega
        · simp only [a1, decide_false, if_false, Bool.false_eq_true]; omega
  have := key (present b ab) (present_nd b ab)
  rw [if_pos hr, if_pos hr] at this
  exact this
section
variable {b : Bk} {kept rows : List (List Nat)} {ab : List Nat}
theorem linked_congr {rows' : List (List Nat)} : ∀ {l : List Link} {x : Nat}, (∀ r ∈ rdrs l, rowAt rows' r = rowAt rows r) → Linked b kept rows ab x l → Linked b kept rows' ab x l
  | [], _, _, h => h
  | (r, t, g) :: rest, x, hr, h => by
    have e := hr r List.mem_cons_self
    obtain ⟨h1, h2⟩ := h
    refine ⟨by rw [e]; exact h1, ?_⟩
    cases g with
    | none => exact ⟨h2.1, by unfold roomB; rw [e]; exact h2.2⟩
    | some y => exact ⟨by rw [e]; exact h2.1, h2.2.1, linked_congr (fun r' hr' => hr r' (List.mem_cons_of_mem _ hr')) h2.2.2⟩
/-- kept within, absent ones read nothing new -/
def KeptIn (b : Bk) (kept rows : List (List Nat)) (ab : List Nat) : Prop := ∀ r ∈ present b ab, ∀ x ∈ rowAt kept r, x ∈ rowAt rows r
theorem link_row (R : RowsV b rows) {r x : Nat} {g : Option Nat} (hr : r ∈ present b ab) (hx : x ∈ mayAt b r) (hn : x ∉ rowAt rows r) (hg : GOk b rows r g) : RowsV b (rows.set r (newRow (rowAt rows r) x g)) := by
  have hl : r < rows.length := by rw [R.len]; exact (mem_present.mp hr).1
  refine ⟨by rw [List.length_set]; exact R.len, fun r' => ?_, fun r' z hz => ?_, fun r' => ?_⟩
  · rw [rowAt_set hl]
    split
    · exact newRow_nd (asc_nodup (R.asc r)) hn
    · exact R.asc r'
  · rw [rowAt_set hl] at hz
    split at hz
    · rename_i e; subst e
      rcases mem_newRow.mp hz with h | h
      · exact R.sub _ z h.1
      · subst h; exact hx
    · exact R.sub r' z hz
  · rw [rowAt_set hl]
    split
    · rename_i e; subst e
      rw [newRow_len (asc_nodup (R.asc _))]
      have := R.lim r'
      cases g with
      | none =>
        have hg : roomB b rows r' = true := hg
        have := of_decide_eq_true hg
        show _ + 1 - 0 ≤ _; omega
      | some y =>
        have hg : y ∈ rowAt rows r' := hg
        show _ + 1 - (if y ∈ rowAt rows r' then 1 else 0) ≤ _
        rw [if_pos hg]; omega
    · exact R.lim r'
theorem after_ok : ∀ {l : List Link} {rows : List (List Nat)} {x : Nat}, RowsV b rows → KeptIn b kept rows ab → ChainOk b kept rows ab x l →
    RowsV b (afterL rows l) ∧ KeptIn b kept (afterL rows l) ab ∧ (∀ r, r ∉ present b ab → rowAt (afterL rows l) r = rowAt rows r) ∧ ∀ y, cntR b (afterL rows l) ab y = cntR b rows ab y + (if y = x then 1 else 0)
  | [], _, _, _, _, h => h.1.elim
  | (r, t, g) :: rest, rows, x, R, hK, ⟨⟨⟨h1, h2, h3, h4⟩, h5⟩, hnd⟩ => by
    subst h2
    have hl : r < rows.length := by rw [R.len]; exact (mem_present.mp h1).1
    have hg : GOk b rows r g := by
      cases g with
      | none => exact h5.2
      | some y => exact h5.1
    have R1 := link_row R h1 h3 h4 hg
    have hnd' := List.nodup_cons.mp hnd
    have hK1 : KeptIn b kept (rows.set r (newRow (rowAt rows r) t g)) ab := fun r' hr' z hz => by
      rw [rowAt_set hl]
      split
      · rename_i e; subst e
        refine mem_newRow.mpr (.inl ⟨hK _ hr' z hz, fun e => ?_⟩)
        cases g with
        | none => cases e
        | some y => cases e; exact h5.2.1 hz
      · exact hK r' hr' z hz
    have hp1 : ∀ r', r' ∉ present b ab → rowAt (rows.set r (newRow (rowAt rows r) t g)) r' = rowAt rows r' := fun r' hr' => by
      rw [rowAt_set hl, if_neg (fun e => by subst e; exact hr' h1)]
    have hc : ∀ y, cntR b (rows.set r (newRow (rowAt rows r) t g)) ab y + (if some y = g then 1 else 0) = cntR b rows ab y + (if y = t then 1 else 0) := fun y => by
      have c := cnt_set (b := b) (rows := rows) (ab := ab) (r := r) (x := y) (row := newRow (rowAt rows r) t g) hl h1
      have hm := mem_newRow (row := rowAt rows r) (t := t) (z := y) (g := g)
      by_cases e1 : y = t
      · subst e1
        have e2 : some y ≠ g := fun e => by
          cases g with
          | none => cases e
          | some z => cases e; exact h4 h5.1
        rw [if_neg h4, if_pos (hm.mpr (.inr rfl))] at c
        rw [if_neg e2, if_pos rfl]; exact c
      · by_cases e2 : some y = g
        · have hy : y ∈ rowAt rows r := by subst e2; exact h5.1
          have : y ∉ newRow (rowAt rows r) t g := fun z => (hm.mp z).elim (fun z => z.2 e2) e1
          rw [if_pos hy, if_neg this] at c
          rw [if_pos e2, if_neg e1]; omega
        · rw [if_neg e2, if_neg e1]
          by_cases hy : y ∈ rowAt rows r
          · rw [if_pos hy, if_pos (hm.mpr (.inl ⟨hy, e2⟩))] at c; omega
          · have : y ∉ newRow (rowAt rows r) t g := fun z => (hm.mp z).elim (fun z => hy z.1) e1
            rw [if_neg hy, if_neg this] at c; omega
    show RowsV b (afterL (rows.set r (newRow (rowAt rows r) t g)) rest) ∧ _
    cases g with
    | none =>
      obtain ⟨e, _⟩ := h5
      subst e
      refine ⟨R1, hK1, hp1, fun y => ?_⟩
      have := hc y
      rw [if_neg (fun z => nomatch z)] at this
      exact this
    | some y =>
      have hL : Linked b kept (rows.set r (newRow (rowAt rows r) t (some y))) ab y rest := linked_congr (fun r' hr' => by rw [rowAt_set hl, if_neg (fun e => hnd'.1 (by subst e; exact hr'))]) h5.2.2
      obtain ⟨a1, a2, a3, a4⟩ := after_ok R1 hK1 ⟨hL, hnd'.2⟩
      refine ⟨a1, a2, fun r' hr' => (a3 r' hr').trans (hp1 r' hr'), fun z => ?_⟩
      have c1 := a4 z
      have c2 := hc z
      have : (some z = some y) ↔ z = y := ⟨fun e => Option.some.inj e, fun e => by rw [e]⟩
      simp only [this] at c2
      show cntR b (afterL (rows.set r (newRow (rowAt rows r) t (some y))) rest) ab z = _
      rw [c1]; exact c2
/-! ### closed sets stay closed -/
theorem closed_none {S : List Nat} (hS : ClosedS b kept rows ab S) : ∀ {l : List Link} {x : Nat}, x ∈ S → Linked b kept rows ab x l → False
  | [], _, _, h => h
  | (r, t, g) :: rest, x, hx, ⟨⟨h1, h2, h3, h4⟩, h5⟩ => by
    rcases hS r h1 with h | ⟨h6, h7⟩
    · exact h4 (h x h3 hx)
    · cases g with
      | none => rw [h5.2] at h6; cases h6
      | some y =>
        have hy : y ∈ S := Classical.byContradiction fun z => h5.2.1 (h7 y h5.1 z)
        exact closed_none hS hy h5.2.2
theorem closed_after {S : List Nat} : ∀ {l : List Link} {rows : List (List Nat)} {x : Nat}, RowsV b rows → ClosedS b kept rows ab S → x ∉ S → ChainOk b kept rows ab x l → ClosedS b kept (afterL rows l) ab S
  | [], _, _, _, _, _, h => h.1.elim
  | (r, t, g) :: rest, rows, x, R, hS, hx, ⟨⟨⟨h1, h2, h3, h4⟩, h5⟩, hnd⟩ => by
    subst h2
    have hl : r < rows.length := by rw [R.len]; exact (mem_present.mp h1).1
    have hnd' := List.nodup_cons.mp hnd
    have hy : ∀ y, g = some y → y ∉ S := fun y e hy => by subst e; exact closed_none hS hy h5.2.2
    have hA : ∀ z ∈ mayAt b r, z ∈ S → z ∈ rowAt rows r := by
      rcases hS r h1 with h | ⟨h6, h7⟩
      · exact h
      · cases g with
        | none => rw [h5.2] at h6; cases h6
        | some y => exact absurd (h7 y h5.1 (hy y rfl)) h5.2.1
    have hg : GOk b rows r g := by
      cases g with
      | none => exact h5.2
      | some y => exact h5.1
    have R1 := link_row R h1 h3 h4 hg
    have hS1 : ClosedS b kept (rows.set r (newRow (rowAt rows r) t g)) ab S := fun r' hr' => by
      by_cases e : r' = r
      · subst e
        left
        intro z hz hzS
        rw [rowAt_set hl, if_pos rfl]
        exact mem_newRow.mpr (.inl ⟨hA z hz hzS, fun e => hy z e.symm hzS⟩)
      · have er : rowAt (rows.set r (newRow (rowAt rows r) t g)) r' = rowAt rows r' := by rw [rowAt_set hl, if_neg e]
        unfold roomB
        rw [er]
        exact hS r' hr'
    show ClosedS b kept (afterL (rows.set r (newRow (rowAt rows r) t g)) rest) ab S
    cases g with
    | none => rw [h5.1]; exact hS1
    | some y =>
      have hL : Linked b kept (rows.set r (newRow (rowAt rows r) t (some y))) ab y rest := linked_congr (fun r' hr' => by rw [rowAt_set hl, if_neg (fun e => hnd'.1 (by subst e; exact hr'))]) h5.2.2
      exact closed_after R1 hS1 (hy y rfl) ⟨hL, hnd'.2⟩
theorem closed_union {S T U : List Nat} (hS : ClosedS b kept rows ab S) (hT : ClosedS b kept rows ab T) (h : ∀ x, x ∈ U ↔ x ∈ S ∨ x ∈ T) : ClosedS b kept rows ab U := fun r hr => by
  rcases hS r hr with a | ⟨a1, a2⟩
  · rcases hT r hr with c | ⟨c1, c2⟩
    · exact .inl fun x hx hU => ((h x).mp hU).elim (a x hx) (c x hx)
    · exact .inr ⟨c1, fun x hx hU => c2 x hx fun z => hU ((h x).mpr (.inr z))⟩
  · exact .inr ⟨a1, fun x hx hU => a2 x hx fun z => hU ((h x).mpr (.inl z))⟩
/-! ### sums of counts -/
theorem sum_add {α : Type} (f g : α → Nat) : ∀ l : List α, (l.map fun x => f x + g x).sum = (l.map f).sum + (l.map g).sum
  | [] => rfl
  | x :: l => by simp only [List.map_cons, List.sum_cons, sum_add f g l]; omega
theorem sum_ind {α : Type} (p : α → Bool) : ∀ l : List α, (l.map fun x => if p x = true then 1 else 0).sum = (l.filter p).length
  | [] => rfl
  | x :: l => by
    rw [List.map_cons, List.sum_cons, sum_ind p l, List.filter_cons]
    cases p x <;> simp; omega
/-- counted by works and by readers -/
theorem double {rows : List (List Nat)} : ∀ W : List Nat, (W.map (cntR b rows ab)).sum = ((present b ab).map fun r => (W.filter fun x => decide (x ∈ rowAt rows r)).length).sum
  | [] => by
    have : ∀ l : List Nat, (l.map fun _ => 0).sum = 0 := by intro l; induction l with | nil => rfl | cons x l ih => simp [ih]
    simp only [List.filter_nil, List.length_nil]
    rw [this]; rfl
  | x :: W => by
    rw [List.map_cons, List.sum_cons, double W]
    have e : ∀ r, ((x :: W).filter fun x => decide (x ∈ rowAt rows r)).length = (if decide (x ∈ rowAt rows r) = true then 1 else 0) + (W.filter fun x => decide (x ∈ rowAt rows r)).length := fun r => by
      rw [List.filter_cons]
      cases decide (x ∈ rowAt rows r) <;> simp; omega
    have e2 : ((present b ab).map fun r => ((x :: W).filter fun x => decide (x ∈ rowAt rows r)).length) = (present b ab).map fun r => (if decide (x ∈ rowAt rows r) = true then 1 else 0) + (W.filter fun x => decide (x ∈ rowAt rows r)).length := List.map_congr_left fun r _ => e r
    rw [e2, sum_add, sum_ind]; rfl
theorem sumI_le {f g : Nat → Int} : ∀ {l : List Nat}, (∀ x ∈ l, f x ≤ g x) → (l.map f).sum ≤ (l.map g).sum
  | [], _ => Int.le_refl _
  | x :: l, h => by
    have := h x List.mem_cons_self
    have := sumI_le (l := l) fun y m => h y (List.mem_cons_of_mem _ m)
    simp only [List.map_cons, List.sum_cons]; omega
theorem sumI_eq {f g : Nat → Int} {l : List Nat} (h : ∀ x ∈ l, f x = g x) : (l.map f).sum = (l.map g).sum := by rw [List.map_congr_left h]
theorem sumI_add (f g : Nat → Int) : ∀ l : List Nat, (l.map fun x => f x + g x).sum = (l.map f).sum + (l.map g).sum
  | [] => rfl
  | x :: l => by simp only [List.map_cons, List.sum_cons, sumI_add f g l]; omega
theorem sum_cast (f : Nat → Nat) : ∀ l : List Nat, (((l.map f).sum : Nat) : Int) = (l.map fun x => (f x : Int)).sum
  | [] => rfl
  | x :: l => by simp only [List.map_cons, List.sum_cons, ← sum_cast f l]; omega
theorem sumI_lt {f g : Nat → Int} : ∀ {l : List Nat} {y : Nat}, (∀ x ∈ l, f x ≤ g x) → y ∈ l → f y < g y → (l.map f).sum < (l.map g).sum
  | x :: l, y, h, hy, hl => by
    have h1 := h x List.mem_cons_self
    have h2 := sumI_le (l := l) fun y m => h y (List.mem_cons_of_mem _ m)
    simp only [List.map_cons, List.sum_cons]
    rcases List.mem_cons.mp hy with e | hy
    · subst e; omega
    · have := sumI_lt (l := l) (fun y m => h y (List.mem_cons_of_mem _ m)) hy hl
      omega
theorem sumI_split (f : Nat → Int) (p : Nat → Bool) : ∀ l : List Nat, (l.map f).sum = ((l.filter p).map f).sum + ((l.filter fun x => !p x).map f).sum
  | [] => rfl
  | x :: l => by
    have ih := sumI_split f p l
    cases h : p x <;> simp [List.filter_cons, h] at ih ⊢ <;> omega
/-- behind the last step: each reader reads as much of a closed set as its count -/
theorem closed_count {R0 found : List (List Nat)} {C : List Nat} (V : BkV b) (R : RowsV b found) (R0v : RowsV b R0) (hC : C.Nodup) {r : Nat} (hr : r ∈ present b ab) (hk : ∀ x ∈ rowAt R0 r, x ∈ rowAt found r) (hS : ClosedS b R0 found ab C) :
    ((C.filter fun x => decide (x ∈ rowAt found r)).length : Int) = count b R0 r C := by
  have n1 := asc_nodup (R.asc r)
  have n0 := asc_nodup (R0v.asc r)
  have nm := asc_nodup (V.asc r)
  have e1 := inter_comm hC n1
  have e2 := filter_split (fun x => decide (x ∈ C)) (rowAt found r)
  have e3 : ((rowAt R0 r).filter fun x => !decide (x ∈ C)).length ≤ ((rowAt found r).filter fun x => !decide (x ∈ C)).length :=
    nodup_sub_len (n0.sublist List.filter_sublist) fun x hx => by
      obtain ⟨h1, h2⟩ := List.mem_filter.mp hx
      exact List.mem_filter.mpr ⟨hk x h1, h2⟩
  have e4 : (C.filter fun x => decide (x ∈ rowAt found r)).length ≤ (C.filter fun x => decide (x ∈ mayAt b r)).length :=
    nodup_sub_len (hC.sublist List.filter_sublist) fun x hx => by
      obtain ⟨h1, h2⟩ := List.mem_filter.mp hx
      exact List.mem_filter.mpr ⟨h1, decide_eq_true (R.sub r x (of_decide_eq_true h2))⟩
  have hl := R.lim r
  unfold count
  show _ = min ((limAt b r : Int) - ((rowAt R0 r).filter fun x => !decide (x ∈ C)).length) ((C.filter fun x => decide (x ∈ mayAt b r)).length : Nat)
  rcases hS r hr with hA | ⟨hB, hB2⟩
  · have e5 : (C.filter fun x => decide (x ∈ mayAt b r)).length ≤ (C.filter fun x => decide (x ∈ rowAt found r)).length :=
      nodup_sub_len (hC.sublist List.filter_sublist) fun x hx => by
        obtain ⟨h1, h2⟩ := List.mem_filter.mp hx
        exact List.mem_filter.mpr ⟨h1, decide_eq_true (hA x (of_decide_eq_true h2) h1)⟩
    omega
  · have e6 : ((rowAt found r).filter fun x => !decide (x ∈ C)).length ≤ ((rowAt R0 r).filter fun x => !decide (x ∈ C)).length :=
      nodup_sub_len (n1.sublist List.filter_sublist) fun x hx => by
        obtain ⟨h1, h2⟩ := List.mem_filter.mp hx
        have h3 : x ∉ C := by simpa using h2
        exact List.mem_filter.mpr ⟨hB2 x h1 h3, h2⟩
    have : ¬ (rowAt found r).length < limAt b r := of_decide_eq_false hB
    omega
/-- a part of a set counts less, by at least what is read of the rest -/
theorem count_part {R0 : List (List Nat)} {C : List Nat} {r : Nat} (p : Nat → Bool) (hC : C.Nodup) (n0 : (rowAt R0 r).Nodup) (hs : ∀ x ∈ rowAt R0 r, x ∈ mayAt b r) :
    count b R0 r (C.filter p) + (((C.filter fun x => !p x).filter fun x => decide (x ∈ rowAt R0 r)).length : Nat) ≤ count b R0 r C := by
  unfold count
  show min ((limAt b r : Int) - ((rowAt R0 r).filter fun x => !decide (x ∈ C.filter p)).length) (((C.filter p).filter fun x => decide (x ∈ mayAt b r)).length : Nat) + _ ≤ min ((limAt b r : Int) - ((rowAt R0 r).filter fun x => !decide (x ∈ C)).length) ((C.filter fun x => decide (x ∈ mayAt b r)).length : Nat)
  have nT : (C.filter p).Nodup := hC.sublist List.filter_sublist
  have nU : (C.filter fun x => !p x).Nodup := hC.sublist List.filter_sublist
  have e1 := filter_split (fun x => decide (x ∈ C)) (rowAt R0 r)
  have e2 := filter_split (fun x => decide (x ∈ C.filter p)) (rowAt R0 r)
  have e3 : ((rowAt R0 r).filter fun x => decide (x ∈ C)).length = ((rowAt R0 r).filter fun x => decide (x ∈ C.filter p)).length + ((C.filter fun x => !p x).filter fun x => decide (x ∈ rowAt R0 r)).length := by
    rw [inter_comm nU n0]
    have e := filter_split p ((rowAt R0 r).filter fun x => decide (x ∈ C))
    rw [List.filter_filter, List.filter_filter] at e
    have f1 : ((rowAt R0 r).filter fun x => p x && decide (x ∈ C)) = (rowAt R0 r).filter fun x => decide (x ∈ C.filter p) := List.filter_congr fun x _ => by
      rw [Bool.eq_iff_iff]; simp [List.mem_filter, and_comm]
    have f2 : ((rowAt R0 r).filter fun x => !p x && decide (x ∈ C)) = (rowAt R0 r).filter fun x => decide (x ∈ C.filter fun x => !p x) := List.filter_congr fun x _ => by
      rw [Bool.eq_iff_iff]; simp [List.mem_filter, and_comm]
    rw [f1, f2] at e
    omega
  have e4 : (C.filter fun x => decide (x ∈ mayAt b r)).length = ((C.filter p).filter fun x => decide (x ∈ mayAt b r)).length + ((C.filter fun x => !p x).filter fun x => decide (x ∈ mayAt b r)).length := by
    have e := filter_split p (C.filter fun x => decide (x ∈ mayAt b r))
    rw [List.filter_filter, List.filter_filter] at e
    rw [List.filter_filter, List.filter_filter, ← e]
    congr 2
    · exact List.filter_congr fun x _ => Bool.and_comm _ _
    · exact List.filter_congr fun x _ => Bool.and_comm _ _
  have e5 : ((C.filter fun x => !p x).filter fun x => decide (x ∈ rowAt R0 r)).length ≤ ((C.filter fun x => !p x).filter fun x => decide (x ∈ mayAt b r)).length :=
    nodup_sub_len (nU.sublist List.filter_sublist) fun x hx => by
      obtain ⟨h1, h2⟩ := List.mem_filter.mp hx
      exact List.mem_filter.mpr ⟨h1, decide_eq_true (hs x (of_decide_eq_true h2))⟩
  omega
end
end IL

set_option Elab.async false
set_option linter.all false
/-! Rows that extend others, or a short set. -/
namespace IL
def keptRows (rows : List (List Nat)) (ab : List Nat) : List (List Nat) := rows.zipIdx.map fun p => if p.2 ∈ ab then [] else p.1
theorem kept_at {rows : List (List Nat)} {ab : List Nat} (r : Nat) : rowAt (keptRows rows ab) r = if r ∈ ab then [] else rowAt rows r := by
  unfold rowAt keptRows
  rw [List.getD_eq_getElem?_getD, List.getD_eq_getElem?_getD, List.getElem?_map, List.getElem?_zipIdx]
  cases h : rows[r]? with
  | none => simp
  | some x => simp
abbrev FSt := List (List Nat) × List Nat
def fillW (b : Bk) (kept : List (List Nat)) (due : Nat → Nat) (ab : List Nat) (x : Nat) : Nat → FSt → FSt
  | 0, st => st
  | n + 1, st => if decide (cntR b st.1 ab x < due x) && !decide (x ∈ st.2) then match stepF b kept st.1 ab x with
    | .chain l => fillW b kept due ab x n (afterL st.1 l, st.2)
    | .closed S => fillW b kept due ab x n (st.1, srt (st.2 ++ (srt S).filter fun y => !decide (y ∈ st.2)))
    else st
def fillAll (b : Bk) (rows : List (List Nat)) (ab : List Nat) : FSt := (List.range b.dem.length).foldl (fun st x => fillW b (keptRows rows ab) (dueAt b rows ab) ab x 8 st) (keptRows rows ab, [])
inductive ExtR where
  | yes (X : List (List Nat)) | no (T : List Nat)
def extF (b : Bk) (rows : List (List Nat)) (ab : List Nat) : ExtR := if (fillAll b rows ab).2 = [] then .yes (fillAll b rows ab).1 else .no ((fillAll b rows ab).2.filter fun y => decide (cntR b rows ab y ≤ demAt b y))
structure FInv (b : Bk) (kept : List (List Nat)) (due : Nat → Nat) (ab : List Nat) (st : FSt) : Prop where
  rv : RowsV b st.1
  ki : KeptIn b kept st.1 ab
  out : ∀ r, r ∉ present b ab → rowAt st.1 r = []
  le : ∀ y, cntR b st.1 ab y ≤ due y
  cl : ClosedS b kept st.1 ab st.2
  asc : Asc st.2
  lt : ∀ x ∈ st.2, x < b.dem.length
  sh : st.2 = [] ∨ ∃ y ∈ st.2, cntR b st.1 ab y < due y
section
variable {b : Bk} {kept rows : List (List Nat)} {ab : List Nat} {due : Nat → Nat}
theorem mem_join {C S : List Nat} {x : Nat} : x ∈ srt (C ++ (srt S).filter fun y => !decide (y ∈ C)) ↔ x ∈ C ∨ x ∈ S := by
  rw [(srt_perm _).mem_iff, List.mem_append, List.mem_filter, (srt_perm _).mem_iff]
  constructor
  · rintro (h | h)
    · exact .inl h
    · exact .inr h.1
  · rintro (h | h)
    · exact .inl h
    · by_cases e : x ∈ C
      · exact .inl e
      · exact .inr ⟨h, by simp [e]⟩
theorem fillW_ok (V : BkV b) {x : Nat} (hx : x < b.dem.length) : ∀ (n : Nat) (st : FSt), FInv b kept due ab st → (due x - cntR b st.1 ab x) < n →
    FInv b kept due ab (fillW b kept due ab x n st) ∧ (cntR b (fillW b kept due ab x n st).1 ab x = due x ∨ x ∈ (fillW b kept due ab x n st).2) ∧ (∀ y, y ≠ x → cntR b (fillW b kept due ab x n st).1 ab y = cntR b st.1 ab y) ∧ ∀ y ∈ st.2, y ∈ (fillW b kept due ab x n st).2
  | 0, st, I, h => absurd h (Nat.not_lt_zero _)
  | n + 1, st, I, h => by
    unfold fillW
    by_cases hc : cntR b st.1 ab x < due x
    · by_cases hm : x ∈ st.2
      · rw [if_neg (by simp [hm])]
        exact ⟨I, .inr hm, fun _ _ => rfl, fun _ h => h⟩
      · rw [if_pos (by simp [hc, hm])]
        have hs := step_ok (kept := kept) (ab := ab) V I.rv hx
        cases e : stepF b kept st.1 ab x with
        | chain l =>
          rw [e] at hs
          have hs : ChainOk b kept st.1 ab x l := hs
          obtain ⟨a1, a2, a3, a4⟩ := after_ok I.rv I.ki hs
          have I' : FInv b kept due ab (afterL st.1 l, st.2) := by
            refine ⟨a1, a2, fun r hr => (a3 r hr).trans (I.out r hr), fun y => ?_, closed_after I.rv I.cl hm hs, I.asc, I.lt, I.sh.imp id fun ⟨y, hy, hy2⟩ => ⟨y, hy, ?_⟩⟩
            · show cntR b (afterL st.1 l) ab y ≤ due y
              rw [a4 y]
              have := I.le y
              split
              · rename_i z; subst z; omega
              · omega
            · show cntR b (afterL st.1 l) ab y < due y
              rw [a4 y, if_neg (fun z => hm (by rw [← z]; exact hy))]; exact hy2
          have c := a4 x
          rw [if_pos rfl] at c
          obtain ⟨g1, g2, g3, g4⟩ := fillW_ok V hx n (afterL st.1 l, st.2) I' (by show due x - cntR b (afterL st.1 l) ab x < n; omega)
          exact ⟨g1, g2, fun y hy => (g3 y hy).trans ((a4 y).trans (by rw [if_neg hy]; omega)), g4⟩
        | closed S =>
          rw [e] at hs
          obtain ⟨s1, s2, s3, s4⟩ : x ∈ S ∧ ClosedS b kept st.1 ab S ∧ S.Nodup ∧ ∀ x ∈ S, x < b.dem.length := hs
          have nj : (srt (st.2 ++ (srt S).filter fun y => !decide (y ∈ st.2))).Nodup := by
            rw [(srt_perm _).nodup_iff]
            refine List.nodup_append.mpr ⟨asc_nodup I.asc, ((srt_perm S).nodup_iff.mpr s3).sublist List.filter_sublist, fun a ha c hc z => ?_⟩
            subst z
            have := (List.mem_filter.mp hc).2
            simp [ha] at this
          have nj' : (st.2 ++ (srt S).filter fun y => !decide (y ∈ st.2)).Nodup := (srt_perm _).nodup_iff.mp nj
          have hxj : x ∈ srt (st.2 ++ (srt S).filter fun y => !decide (y ∈ st.2)) := mem_join.mpr (.inr s1)
          have I' : FInv b kept due ab (st.1, srt (st.2 ++ (srt S).filter fun y => !decide (y ∈ st.2))) :=
            ⟨I.rv, I.ki, I.out, I.le, closed_union I.cl s2 fun y => mem_join, asc_srt nj', fun y hy => (mem_join.mp hy).elim (I.lt y) (s4 y), .inr ⟨x, hxj, hc⟩⟩
          have stop : fillW b kept due ab x n (st.1, srt (st.2 ++ (srt S).filter fun y => !decide (y ∈ st.2))) = (st.1, srt (st.2 ++ (srt S).filter fun y => !decide (y ∈ st.2))) := by
            cases n with
            | zero => rfl
            | succ n => unfold fillW; rw [if_neg (by rw [decide_eq_true hxj]; simp)]
          show FInv b kept due ab (fillW b kept due ab x n _) ∧ (cntR b (fillW b kept due ab x n _).1 ab x = due x ∨ x ∈ (fillW b kept due ab x n _).2) ∧ (∀ y, y ≠ x → cntR b (fillW b kept due ab x n _).1 ab y = cntR b st.1 ab y) ∧ ∀ y ∈ st.2, y ∈ (fillW b kept due ab x n _).2
          rw [stop]
          exact ⟨I', .inr hxj, fun _ _ => rfl, fun y hy => mem_join.mpr (.inl hy)⟩
    · rw [if_neg (by simp [hc])]
      have := I.le x
      exact ⟨I, .inl (by omega), fun _ _ => rfl, fun _ h => h⟩
theorem fill_list (V : BkV b) (hd : ∀ x, due x < 8) : ∀ (xs : List Nat) (st : FSt), FInv b kept due ab st → (∀ x ∈ xs, x < b.dem.length) → xs.Nodup →
    FInv b kept due ab (xs.foldl (fun st x => fillW b kept due ab x 8 st) st) ∧ (∀ x ∈ xs, cntR b (xs.foldl (fun st x => fillW b kept due ab x 8 st) st).1 ab x = due x ∨ x ∈ (xs.foldl (fun st x => fillW b kept due ab x 8 st) st).2) ∧ (∀ y, y ∉ xs → cntR b (xs.foldl (fun st x => fillW b kept due ab x 8 st) st).1 ab y = cntR b st.1 ab y) ∧ ∀ y ∈ st.2, y ∈ (xs.foldl (fun st x => fillW b kept due ab x 8 st) st).2
  | [], st, I, _, _ => ⟨I, fun _ z => (nomatch z), fun _ _ => rfl, fun _ h => h⟩
  | x :: xs, st, I, h, nd => by
    have nd' := List.nodup_cons.mp nd
    obtain ⟨a1, a2, a3, a4⟩ := fillW_ok V (h x List.mem_cons_self) 8 st I (by have := hd x; omega)
    obtain ⟨b1, b2, b3, b4⟩ := fill_list V hd xs _ a1 (fun y hy => h y (List.mem_cons_of_mem _ hy)) nd'.2
    refine ⟨b1, fun y hy => ?_, fun y hy => ?_, fun y hy => b4 y (a4 y hy)⟩
    · rcases List.mem_cons.mp hy with e | hy
      · subst e
        rcases a2 with z | z
        · left; rw [List.foldl_cons, b3 y nd'.1]; exact z
        · right; exact b4 y z
      · exact b2 y hy
    · rw [List.foldl_cons, b3 y fun z => hy (List.mem_cons_of_mem _ z)]
      exact a3 y fun e => hy (by rw [e]; exact List.mem_cons_self)
/-- rows that extend others -/
structure ExtOk (b : Bk) (rows : List (List Nat)) (ab : List Nat) (X : List (List Nat)) : Prop where
  rv : RowsV b X
  out : ∀ r, r ∉ present b ab → rowAt X r = []
  ki : KeptIn b rows X ab
  due : ∀ x, x < b.dem.length → cntR b X ab x = dueAt b rows ab x
theorem kept_cnt (x : Nat) : cntR b (keptRows rows ab) ab x = cntR b rows ab x := by
  unfold cntR
  congr 1
  refine List.filter_congr fun r hr => ?_
  rw [kept_at, if_neg (mem_present.mp hr).2]
theorem kept_rv (R : RowsV b rows) : RowsV b (keptRows rows ab) := by
  refine ⟨by unfold keptRows; rw [List.length_map, List.length_zipIdx]; exact R.len, fun r => ?_, fun r x hx => ?_, fun r => ?_⟩
  · rw [kept_at]; split
    · exact List.Pairwise.nil
    · exact R.asc r
  · rw [kept_at] at hx; split at hx
    · cases hx
    · exact R.sub r x hx
  · rw [kept_at]; split
    · exact Nat.zero_le _
    · exact R.lim r
theorem kept_out (R : RowsV b rows) : ∀ r, r ∉ present b ab → rowAt (keptRows rows ab) r = [] := fun r hr => by
  rw [kept_at]
  split
  · rfl
  · rename_i h
    have : ¬ r < b.rd.length := fun z => hr (mem_present.mpr ⟨z, h⟩)
    unfold rowAt
    rw [List.getD_eq_getElem?_getD, List.getElem?_eq_none (by rw [R.len]; omega)]; rfl
theorem cnt_le (x : Nat) : cntR b rows ab x ≤ b.rd.length := by
  unfold cntR present
  refine Nat.le_trans (List.length_filter_le _ _) (Nat.le_trans (List.length_filter_le _ _) ?_)
  rw [List.length_range]; exact Nat.le_refl _
theorem fillAll_ok (V : BkV b) (R : RowsV b rows) (h6 : b.rd.length ≤ 6) (hd : ∀ x, demAt b x ≤ 6) : FInv b (keptRows rows ab) (dueAt b rows ab) ab (fillAll b rows ab) ∧ ∀ x, x < b.dem.length → cntR b (fillAll b rows ab).1 ab x = dueAt b rows ab x ∨ x ∈ (fillAll b rows ab).2 := by
  have I : FInv b (keptRows rows ab) (dueAt b rows ab) ab (keptRows rows ab, []) :=
    ⟨kept_rv R, fun r _ x hx => hx, kept_out R, fun y => by show cntR b (keptRows rows ab) ab y ≤ _; rw [kept_cnt]; exact Nat.le_max_left _ _, fun r _ => .inl fun x _ z => (nomatch z), List.Pairwise.nil, fun _ z => (nomatch z), .inl rfl⟩
  obtain ⟨a, c, _, _⟩ := fill_list V (fun x => by have := hd x; have := cnt_le (b := b) (rows := rows) (ab := ab) x; unfold dueAt; omega) (List.range b.dem.length) _ I (fun x hx => List.mem_range.mp hx) List.nodup_range
  exact ⟨a, fun x hx => c x (List.mem_range.mpr hx)⟩
theorem count_kept {r : Nat} {W : List Nat} (hr : r ∈ present b ab) : count b (keptRows rows ab) r W = count b rows r W := by
  unfold count
  have : (keptRows rows ab).getD r [] = rows.getD r [] := by
    have := kept_at (rows := rows) (ab := ab) r
    rw [if_neg (mem_present.mp hr).2] at this
    exact this
  rw [this]
theorem ext_ok (V : BkV b) (R : RowsV b rows) (h6 : b.rd.length ≤ 6) (hd : ∀ x, demAt b x ≤ 6) : match extF b rows ab with
    | .yes X => ExtOk b rows ab X
    | .no T => Asc T ∧ (∀ x ∈ T, x < b.dem.length) ∧ T ≠ [] ∧ isShort b rows ab T = true := by
  obtain ⟨I, hx⟩ := fillAll_ok (ab := ab) V R h6 hd
  unfold extF
  generalize hst : fillAll b rows ab = st at I hx ⊢
  obtain ⟨found, C⟩ := st
  have hK : KeptIn b rows found ab := fun r hr x hx => I.ki r hr x (by rw [kept_at, if_neg (mem_present.mp hr).2]; exact hx)
  by_cases hC : C = []
  · rw [if_pos hC]
    exact ⟨I.rv, I.out, hK, fun x h => (hx x h).elim id fun z => by have : x ∈ C := z; rw [hC] at this; cases this⟩
  · rw [if_neg hC]
    have nC := asc_nodup I.asc
    obtain ⟨y0, hy0, hlt0⟩ := I.sh.resolve_left hC
    -- counts of all of it
    have e1 : ((present b ab).map fun r => count b rows r C).sum = (C.map fun x => ((cntR b found ab x : Nat) : Int)).sum := by
      rw [← sum_cast, double, sum_cast]
      refine (sumI_eq fun r hr => ?_).symm
      rw [closed_count V I.rv (kept_rv R) nC hr (fun x hx => I.ki r hr x hx) I.cl, count_kept hr]
    have e2 : (C.map fun x => ((cntR b found ab x : Nat) : Int)).sum < (C.map fun x => ((dueAt b rows ab x : Nat) : Int)).sum :=
      sumI_lt (fun x _ => by have := I.le x; show ((cntR b found ab x : Nat) : Int) ≤ _; exact Int.ofNat_le.mpr this) hy0 (Int.ofNat_lt.mpr hlt0)
    let p : Nat → Bool := fun y => decide (cntR b rows ab y ≤ demAt b y)
    have e3 : ((present b ab).map fun r => count b rows r (C.filter p)).sum + ((C.filter fun x => !p x).map fun x => ((cntR b rows ab x : Nat) : Int)).sum ≤ ((present b ab).map fun r => count b rows r C).sum := by
      rw [← sum_cast, double, sum_cast, ← sumI_add]
      exact sumI_le fun r hr => count_part p nC (asc_nodup (R.asc r)) (R.sub r)
    have e4 : (C.map fun x => ((dueAt b rows ab x : Nat) : Int)).sum = ((C.filter p).map fun x => ((demAt b x : Nat) : Int)).sum + ((C.filter fun x => !p x).map fun x => ((cntR b rows ab x : Nat) : Int)).sum := by
      rw [sumI_split (fun x => ((dueAt b rows ab x : Nat) : Int)) p C]
      congr 1
      · refine sumI_eq fun x hx => ?_
        have : cntR b rows ab x ≤ demAt b x := of_decide_eq_true (List.mem_filter.mp hx).2
        show ((max (cntR b rows ab x) (demAt b x) : Nat) : Int) = _
        rw [Nat.max_eq_right this]
      · refine sumI_eq fun x hx => ?_
        have h2 := (List.mem_filter.mp hx).2
        have : ¬ cntR b rows ab x ≤ demAt b x := fun z => by simp [p, z] at h2
        show ((max (cntR b rows ab x) (demAt b x) : Nat) : Int) = _
        rw [Nat.max_eq_left (by omega)]
    have e5 : ((present b ab).map fun r => count b rows r (C.filter p)).sum < ((C.filter p).map fun x => ((demAt b x : Nat) : Int)).sum := by omega
    refine ⟨I.asc.sublist List.filter_sublist, fun x hx => I.lt x (List.mem_filter.mp hx).1, fun hT => ?_, decide_eq_true e5⟩
    have hT : C.filter p = [] := hT
    rw [hT] at e5
    have z : ∀ r ∈ present b ab, (0 : Int) ≤ count b rows r [] := fun r hr => by
      unfold count
      have := R.lim r
      have h2 := List.length_filter_le (fun x => !decide (x ∈ ([] : List Nat))) (rowAt rows r)
      show 0 ≤ min ((limAt b r : Int) - ((rowAt rows r).filter fun x => !decide (x ∈ ([] : List Nat))).length) _
      rw [List.filter_nil]; simp only [List.length_nil]; omega
    have := sumI_le (f := fun _ => (0 : Int)) (g := fun r => count b rows r []) z
    have z0 : ∀ l : List Nat, (l.map fun _ => (0 : Int)).sum = 0 := by intro l; induction l with | nil => rfl | cons x l ih => simp [ih]
    rw [z0] at this
    simp only [List.map_nil, List.sum_nil] at e5
    omega
/-- where there are such rows, no set is short -/
theorem ext_no_short {X : List (List Nat)} {W : List Nat} (V : BkV b) (R : RowsV b rows) (h : ExtOk b rows ab X) (hW : W.Nodup) (hlt : ∀ x ∈ W, x < b.dem.length) : isShort b rows ab W = false := by
  have e1 : ((W.map fun x => ((dueAt b rows ab x : Nat) : Int))).sum = (W.map fun x => ((cntR b X ab x : Nat) : Int)).sum := sumI_eq fun x hx => by rw [h.due x (hlt x hx)]
  have e2 : (W.map fun x => ((cntR b X ab x : Nat) : Int)).sum ≤ ((present b ab).map fun r => count b rows r W).sum := by
    rw [← sum_cast, double, sum_cast]
    refine sumI_le fun r hr => ?_
    have nX := asc_nodup (h.rv.asc r)
    have f1 := inter_comm hW nX
    have f2 := filter_split (fun x => decide (x ∈ W)) (rowAt X r)
    have f3 : ((rowAt rows r).filter fun x => !decide (x ∈ W)).length ≤ ((rowAt X r).filter fun x => !decide (x ∈ W)).length :=
      nodup_sub_len ((asc_nodup (R.asc r)).sublist List.filter_sublist) fun x hx => by
        obtain ⟨h1, h2⟩ := List.mem_filter.mp hx
        exact List.mem_filter.mpr ⟨h.ki r hr x h1, h2⟩
    have f4 : (W.filter fun x => decide (x ∈ rowAt X r)).length ≤ (W.filter fun x => decide (x ∈ mayAt b r)).length :=
      nodup_sub_len (hW.sublist List.filter_sublist) fun x hx => by
        obtain ⟨h1, h2⟩ := List.mem_filter.mp hx
        exact List.mem_filter.mpr ⟨h1, decide_eq_true (h.rv.sub r x (of_decide_eq_true h2))⟩
    have := h.rv.lim r
    unfold count
    show _ ≤ min ((limAt b r : Int) - ((rowAt rows r).filter fun x => !decide (x ∈ W)).length) ((W.filter fun x => decide (x ∈ mayAt b r)).length : Nat)
    omega
  have e3 : demOf b W ≤ (W.map fun x => ((dueAt b rows ab x : Nat) : Int)).sum := by
    refine sumI_le fun x _ => ?_
    show ((demAt b x : Nat) : Int) ≤ ((max (cntR b rows ab x) (demAt b x) : Nat) : Int)
    exact Int.ofNat_le.mpr (Nat.le_max_right _ _)
  unfold isShort
  refine decide_eq_false ?_
  show ¬ (((present b ab).map fun r => count b rows r W).sum < demOf b W)
  omega
end
end IL

set_option Elab.async false
set_option linter.all false
/-! Fewest droppers, and the greatest number that is borne. -/
namespace IL
def insB {α : Type} (le : α → α → Bool) (x : α) : List α → List α
  | [] => [x]
  | y :: ys => if le x y then x :: y :: ys else y :: insB le x ys
def srtB {α : Type} (le : α → α → Bool) : List α → List α
  | [] => []
  | x :: xs => insB le x (srtB le xs)
theorem insB_perm {α : Type} (le : α → α → Bool) (x : α) : ∀ l : List α, (insB le x l).Perm (x :: l)
  | [] => .refl _
  | y :: l => by
    unfold insB
    split
    · exact .refl _
    · exact ((insB_perm le x l).cons y).trans (.swap x y l)
theorem srtB_perm {α : Type} (le : α → α → Bool) : ∀ l : List α, (srtB le l).Perm l
  | [] => .refl _
  | x :: l => (insB_perm le x _).trans ((srtB_perm le l).cons x)
/-- greater counts first -/
def leP (p q : Int × Nat) : Bool := if p.1 = q.1 then decide (p.2 ≤ q.2) else decide (q.1 < p.1)
theorem leP_ge {p q : Int × Nat} (h : leP p q = true) : q.1 ≤ p.1 := by
  unfold leP at h
  split at h
  · omega
  · have := of_decide_eq_true h; omega
theorem leP_le {p q : Int × Nat} (h : ¬ leP p q = true) : p.1 ≤ q.1 := by
  unfold leP at h
  split at h
  · omega
  · rw [decide_eq_true_eq] at h; omega
theorem insB_ge (p : Int × Nat) : ∀ {l : List (Int × Nat)}, l.Pairwise (fun a c => c.1 ≤ a.1) → (insB leP p l).Pairwise (fun a c => c.1 ≤ a.1)
  | [], _ => List.pairwise_singleton _ _
  | q :: l, h => by
    have h' := List.pairwise_cons.mp h
    unfold insB
    split
    · rename_i e
      have := leP_ge e
      refine List.pairwise_cons.mpr ⟨fun z hz => ?_, h⟩
      rcases List.mem_cons.mp hz with e | hz
      · rw [e]; exact this
      · exact Int.le_trans (h'.1 z hz) this
    · rename_i e
      have := leP_le e
      refine List.pairwise_cons.mpr ⟨fun z hz => ?_, insB_ge p h'.2⟩
      rcases List.mem_cons.mp ((insB_perm leP p l).mem_iff.mp hz) with e | hz
      · rw [e]; exact this
      · exact h'.1 z hz
theorem srtB_ge : ∀ l : List (Int × Nat), (srtB leP l).Pairwise (fun a c => c.1 ≤ a.1)
  | [] => .nil
  | p :: l => insB_ge p (srtB_ge l)
def gfF (b : Bk) (rows : List (List Nat)) (ab W : List Nat) : List (Int × Nat) := srtB leP ((present b ab).map fun r => (count b rows r W, r))
def sumF (l : List (Int × Nat)) : Int := (l.map (·.1)).sum
/-- the fewest droppers of a set -/
def ldrop (b : Bk) (rows : List (List Nat)) (ab W : List Nat) : Option (List Nat) :=
  ((List.range ((gfF b rows ab W).length + 1)).find? fun k => decide (sumF ((gfF b rows ab W).drop k) < demOf b W)).map fun k => srt (((gfF b rows ab W).take k).map (·.2))
section
variable {b : Bk} {rows : List (List Nat)} {ab : List Nat}
theorem gf_perm (W : List Nat) : (gfF b rows ab W).Perm ((present b ab).map fun r => (count b rows r W, r)) := srtB_perm _ _
theorem gf_snd (W : List Nat) : ((gfF b rows ab W).map (·.2)).Perm (present b ab) := by
  have := (gf_perm (b := b) (rows := rows) (ab := ab) W).map (·.2)
  rw [List.map_map] at this
  have e : (present b ab).map ((fun p : Int × Nat => p.2) ∘ fun r => (count b rows r W, r)) = present b ab := by
    rw [show ((fun p : Int × Nat => p.2) ∘ fun r => (count b rows r W, r)) = id from rfl, List.map_id]
  rwa [e] at this
theorem gf_mem {W : List Nat} {p : Int × Nat} (h : p ∈ gfF b rows ab W) : p.1 = count b rows p.2 W := by
  obtain ⟨r, _, rfl⟩ := List.mem_map.mp ((gf_perm W).mem_iff.mp h)
  rfl
theorem gf_len (W : List Nat) : (gfF b rows ab W).length = (present b ab).length := by
  have := (gf_snd (b := b) (rows := rows) (ab := ab) W).length_eq
  rwa [List.length_map] at this
theorem sumF_of {W : List Nat} : ∀ {l : List (Int × Nat)}, (∀ p ∈ l, p.1 = count b rows p.2 W) → sumF l = ((l.map (·.2)).map fun r => count b rows r W).sum
  | [], _ => rfl
  | p :: l, h => by
    have ih := sumF_of (l := l) fun q hq => h q (List.mem_cons_of_mem _ hq)
    show p.1 + sumF l = count b rows p.2 W + _
    rw [ih, h p List.mem_cons_self]
    rfl
theorem perm_sumI {l m : List Int} (h : l.Perm m) : l.sum = m.sum := by
  induction h with
  | nil => rfl
  | cons x _ ih => simp [ih]
  | swap x y l => simp only [List.sum_cons]; omega
  | trans _ _ h1 h2 => exact h1.trans h2
theorem sub_take : ∀ {l m : List (Int × Nat)}, l.Pairwise (fun a c => c.1 ≤ a.1) → m.Sublist l → sumF m ≤ sumF (l.take m.length)
  | _, [], _, _ => by simp [sumF]
  | [], _ :: _, _, h => by cases h
  | x :: l, y :: m, hp, h => by
    have hp' := List.pairwise_cons.mp hp
    have h2 : m.Sublist l ∧ y.1 ≤ x.1 := by
      cases h with
      | cons _ h => exact ⟨(List.sublist_cons_self y m).trans h, hp'.1 y (h.subset List.mem_cons_self)⟩
      | cons_cons _ h => exact ⟨h, Int.le_refl _⟩
    have ih := sub_take hp'.2 h2.1
    show y.1 + sumF m ≤ x.1 + sumF (l.take m.length)
    omega
theorem sumF_split (k : Nat) (l : List (Int × Nat)) : sumF l = sumF (l.take k) + sumF (l.drop k) := by
  unfold sumF
  rw [← List.sum_append, ← List.map_append, List.take_append_drop]
theorem sumF_filter (p : Int × Nat → Bool) : ∀ l : List (Int × Nat), sumF l = sumF (l.filter p) + sumF (l.filter fun x => !p x)
  | [] => rfl
  | x :: l => by
    have ih := sumF_filter p l
    have e : sumF (x :: l) = x.1 + sumF l := rfl
    rw [e, ih]
    cases h : p x
    · rw [List.filter_cons_of_neg (by rw [h]; exact Bool.false_ne_true), List.filter_cons_of_pos (by rw [h]; rfl)]
      show _ = _ + (x.1 + sumF _); omega
    · rw [List.filter_cons_of_pos h, List.filter_cons_of_neg (by rw [h]; exact Bool.false_ne_true)]
      show _ = (x.1 + sumF _) + _; omega
/-- the present ones behind droppings -/
theorem present_app {ab' D : List Nat} (h : ∀ r, r ∈ ab' ↔ r ∈ ab ∨ r ∈ D) : present b ab' = (present b ab).filter fun r => !decide (r ∈ D) := by
  unfold present
  rw [List.filter_filter]
  refine List.filter_congr fun r _ => ?_
  have := h r
  by_cases h1 : r ∈ ab <;> by_cases h2 : r ∈ D <;> simp [h1, h2, this]
/-- what is left of all counts -/
theorem left_sum {D : List Nat} (W : List Nat) : (((present b ab).filter fun r => !decide (r ∈ D)).map fun r => count b rows r W).sum = sumF ((gfF b rows ab W).filter fun p => !decide (p.2 ∈ D)) := by
  rw [sumF_of fun p hp => gf_mem (List.mem_filter.mp hp).1]
  refine perm_sumI (List.Perm.map _ ?_)
  have := (gf_snd (b := b) (rows := rows) (ab := ab) W).symm.filter fun r => !decide (r ∈ D)
  rw [List.filter_map] at this
  exact this
theorem drop_filter {l : List (Int × Nat)} (hn : (l.map (·.2)).Nodup) (k : Nat) : (l.filter fun p => !decide (p.2 ∈ srt ((l.take k).map (·.2)))) = l.drop k := by
  have e : l = l.take k ++ l.drop k := (List.take_append_drop k l).symm
  have hn' := hn
  rw [e, List.map_append] at hn'
  have hd := (List.nodup_append.mp hn').2.2
  conv => lhs; arg 2; rw [e]
  rw [List.filter_append, List.filter_eq_nil_iff.mpr fun p hp => by
      have : p.2 ∈ srt ((l.take k).map (·.2)) := (srt_perm _).mem_iff.mpr (List.mem_map.mpr ⟨p, hp, rfl⟩)
      rw [decide_eq_true this]; decide, List.nil_append, List.filter_eq_self.mpr fun p hp => by
      have : p.2 ∉ srt ((l.take k).map (·.2)) := fun z => hd p.2 ((srt_perm _).mem_iff.mp z) p.2 (List.mem_map.mpr ⟨p, hp, rfl⟩) rfl
      rw [decide_eq_false this]; rfl]
structure LDrop (b : Bk) (rows : List (List Nat)) (ab W D : List Nat) : Prop where
  asc : Asc D
  sub : ∀ r ∈ D, r ∈ present b ab
  short : (((present b ab).filter fun r => !decide (r ∈ D)).map fun r => count b rows r W).sum < demOf b W
/-- what is told is such, and of no more readers than any such -/
theorem ldrop_some {W D : List Nat} (h : ldrop b rows ab W = some D) : LDrop b rows ab W D := by
  unfold ldrop at h
  obtain ⟨k, hk, rfl⟩ := Option.map_eq_some_iff.mp h
  have hk1 := List.find?_some hk
  have hk1 : sumF ((gfF b rows ab W).drop k) < demOf b W := of_decide_eq_true hk1
  have hn : ((gfF b rows ab W).map (·.2)).Nodup := (gf_snd W).nodup_iff.mpr (present_nd b ab)
  have hs : (((gfF b rows ab W).take k).map (·.2)).Sublist ((gfF b rows ab W).map (·.2)) := (List.take_sublist _ _).map _
  refine ⟨asc_srt (hn.sublist hs), fun r hr => (gf_snd W).mem_iff.mp (hs.subset ((srt_perm _).mem_iff.mp hr)), ?_⟩
  rw [left_sum, drop_filter hn]
  exact hk1
theorem ldrop_least {W D : List Nat} (hn : D.Nodup) (hs : ∀ r ∈ D, r ∈ present b ab) (h : (((present b ab).filter fun r => !decide (r ∈ D)).map fun r => count b rows r W).sum < demOf b W) : ∃ D', ldrop b rows ab W = some D' ∧ D'.length ≤ D.length := by
  have hg : ((gfF b rows ab W).map (·.2)).Nodup := (gf_snd W).nodup_iff.mpr (present_nd b ab)
  rw [left_sum] at h
  have hl : ((gfF b rows ab W).filter fun p => decide (p.2 ∈ D)).length = D.length := by
    have e : ((gfF b rows ab W).filter fun p => decide (p.2 ∈ D)).length = (((gfF b rows ab W).map (·.2)).filter fun r => decide (r ∈ D)).length := by
      rw [List.filter_map, List.length_map]; rfl
    rw [e]
    exact nodup_eq_len (hg.sublist List.filter_sublist) hn fun r => by
      rw [List.mem_filter, decide_eq_true_eq]
      exact ⟨fun z => z.2, fun z => ⟨(gf_snd W).mem_iff.mpr (hs r z), z⟩⟩
  have h1 := sumF_filter (fun p => decide (p.2 ∈ D)) (gfF b rows ab W)
  have h2 := sub_take (srtB_ge _) (List.filter_sublist (p := fun p : Int × Nat => decide (p.2 ∈ D)) (l := gfF b rows ab W))
  rw [hl] at h2
  have h2 : sumF ((gfF b rows ab W).filter fun p => decide (p.2 ∈ D)) ≤ sumF ((gfF b rows ab W).take D.length) := h2
  have h3 := sumF_split D.length (gfF b rows ab W)
  have h4 : sumF ((gfF b rows ab W).drop D.length) < demOf b W := by omega
  have hDl : D.length ≤ (gfF b rows ab W).length := by
    rw [← hl]; exact List.length_filter_le _ _
  unfold ldrop
  cases hf : (List.range ((gfF b rows ab W).length + 1)).find? fun k => decide (sumF ((gfF b rows ab W).drop k) < demOf b W) with
  | none =>
    have := List.find?_eq_none.mp hf D.length (List.mem_range.mpr (by omega))
    exact absurd (decide_eq_true h4) this
  | some k =>
    refine ⟨_, rfl, ?_⟩
    rw [(srt_perm _).length_eq, List.length_map, List.length_take]
    have hk : k ≤ D.length := by
      apply Nat.le_of_not_lt
      intro hk
      obtain ⟨_, as, bs, e1, e2⟩ := List.find?_eq_some_iff_append.mp hf
      have hmem : D.length ∈ as := by
        have hx : (List.range ((gfF b rows ab W).length + 1)).Pairwise (· < ·) := List.pairwise_lt_range
        have hm : D.length ∈ as ++ k :: bs := by rw [← e1]; exact List.mem_range.mpr (by omega)
        rcases List.mem_append.mp hm with z | z
        · exact z
        · rw [e1] at hx
          have hx2 := (List.pairwise_cons.mp (List.pairwise_append.mp hx).2.1).1
          rcases List.mem_cons.mp z with z | z
          · omega
          · have := hx2 _ z; omega
      have := e2 _ hmem
      simp [h4] at this
    omega
/-! ### the greatest number that is borne -/
def minL {α : Type} (f : α → Option Int) (m : Int) (l : List α) : Int := l.foldl (fun m x => match f x with | some v => min m v | none => m) m
theorem le_minL {α : Type} (f : α → Option Int) (z : Int) : ∀ (l : List α) (m : Int), z ≤ minL f m l ↔ z ≤ m ∧ ∀ x ∈ l, ∀ v, f x = some v → z ≤ v
  | [], m => by simp [minL]
  | x :: l, m => by
    have ih := le_minL f z l (match f x with | some v => min m v | none => m)
    show z ≤ minL f _ l ↔ _
    rw [ih]
    cases h : f x with
    | none =>
      constructor
      · rintro ⟨a, c⟩
        refine ⟨a, fun y hy v hv => ?_⟩
        rcases List.mem_cons.mp hy with e | hy
        · subst e; rw [h] at hv; cases hv
        · exact c y hy v hv
      · rintro ⟨a, c⟩
        exact ⟨a, fun y hy => c y (List.mem_cons_of_mem _ hy)⟩
    | some v0 =>
      constructor
      · rintro ⟨a, c⟩
        have a : z ≤ min m v0 := a
        refine ⟨by omega, fun y hy v hv => ?_⟩
        rcases List.mem_cons.mp hy with e | hy
        · subst e; rw [h] at hv; cases hv; omega
        · exact c y hy v hv
      · rintro ⟨a, c⟩
        have := c x List.mem_cons_self v0 h
        exact ⟨by show z ≤ min m v0; omega, fun y hy => c y (List.mem_cons_of_mem _ hy)⟩
/-- the lots of works: all that are not empty -/
def LotsOf (n : Nat) (S : List (List Nat)) : Prop := ∀ W : List Nat, W ∈ S ↔ W ≠ [] ∧ Asc W ∧ ∀ x ∈ W, x < n
def borneF (b : Bk) (rows : List (List Nat)) (ab : List Nat) (S : List (List Nat)) : Int := minL (fun W => (ldrop b rows ab W).map fun D => ((D.length : Nat) : Int) - 1) ((present b ab).length : Nat) S
def goneL (ab D : List Nat) : List Nat := srt (ab ++ D)
theorem mem_gone {ab D : List Nat} {r : Nat} : r ∈ goneL ab D ↔ r ∈ ab ∨ r ∈ D := by
  unfold goneL; rw [(srt_perm _).mem_iff, List.mem_append]
def isNo : ExtR → Bool
  | .yes _ => false
  | .no _ => true
def bestF (b : Bk) (rows : List (List Nat)) (ab : List Nat) (Ds : List (List Nat)) : Int := minL (fun D => if isNo (extF b rows (goneL ab D)) then some (((D.length : Nat) : Int) - 1) else none) ((present b ab).length : Nat) Ds
/-- behind a dropping, a set is short exactly if its left counts are too few -/
theorem short_gone {D W : List Nat} : isShort b rows (goneL ab D) W = decide ((((present b ab).filter fun r => !decide (r ∈ D)).map fun r => count b rows r W).sum < demOf b W) := by
  unfold isShort countsOf
  rw [present_app fun r => mem_gone]
theorem ext_iff {D : List Nat} (V : BkV b) (R : RowsV b rows) (h6 : b.rd.length ≤ 6) (hd : ∀ x, demAt b x ≤ 6) (ab : List Nat) : isNo (extF b rows ab) = true ↔ ∃ W, W ≠ [] ∧ Asc W ∧ (∀ x ∈ W, x < b.dem.length) ∧ isShort b rows ab W = true := by
  have h := ext_ok (ab := ab) V R h6 hd
  cases e : extF b rows ab with
  | yes X =>
    rw [e] at h
    have h : ExtOk b rows ab X := h
    constructor
    · intro z; cases z
    · rintro ⟨W, _, h2, h3, h4⟩
      rw [ext_no_short V R h (asc_nodup h2) h3] at h4
      cases h4
  | no T =>
    rw [e] at h
    obtain ⟨h1, h2, h3, h4⟩ : Asc T ∧ (∀ x ∈ T, x < b.dem.length) ∧ T ≠ [] ∧ isShort b rows ab T = true := h
    exact ⟨fun _ => ⟨T, h3, h1, h2, h4⟩, fun _ => rfl⟩
theorem borne_best {S Ds : List (List Nat)} (V : BkV b) (R : RowsV b rows) (h6 : b.rd.length ≤ 6) (hd : ∀ x, demAt b x ≤ 6) (hS : LotsOf b.dem.length S) (hDs : ∀ D : List Nat, D ∈ Ds ↔ Asc D ∧ ∀ r ∈ D, r ∈ present b ab) : borneF b rows ab S = bestF b rows ab Ds := by
  have key : ∀ z, z ≤ borneF b rows ab S ↔ z ≤ bestF b rows ab Ds := fun z => by
    unfold borneF bestF
    rw [le_minL, le_minL]
    refine and_congr_right fun _ => ⟨fun h D hD v hv => ?_, fun h W hW v hv => ?_⟩
    · split at hv
      · rename_i e
        cases hv
        obtain ⟨W, h1, h2, h3, h4⟩ := (ext_iff (D := D) V R h6 hd _).mp e
        rw [short_gone] at h4
        have hDD := (hDs D).mp hD
        obtain ⟨D', e1, e2⟩ := ldrop_least (asc_nodup hDD.1) hDD.2 (of_decide_eq_true h4)
        have := h W ((hS W).mpr ⟨h1, h2, h3⟩) (((D'.length : Nat) : Int) - 1) (by rw [e1]; rfl)
        omega
      · cases hv
    · obtain ⟨D, e, rfl⟩ := Option.map_eq_some_iff.mp hv
      have hL := ldrop_some e
      refine h D ((hDs D).mpr ⟨hL.asc, hL.sub⟩) _ ?_
      have hW' := (hS W).mp hW
      rw [if_pos ((ext_iff (D := D) V R h6 hd _).mpr ⟨W, hW'.1, hW'.2.1, hW'.2.2, by rw [short_gone]; exact decide_eq_true hL.short⟩)]
  have h1 := (key (borneF b rows ab S)).mp (Int.le_refl _)
  have h2 := (key (bestF b rows ab Ds)).mpr (Int.le_refl _)
  omega
end
end IL

set_option Elab.async false
set_option linter.all false
set_option maxHeartbeats 1000000
/-! Tight sets of good rows. -/
namespace IL
section
variable {b : Bk} {kept rows : List (List Nat)} {ab : List Nat} {work : Nat}
/-- a told closed set is what the ways reach -/
theorem bfs_keys (V : BkV b) (R : RowsV b rows) : ∀ (n : Nat) (w : Ways) (i : Nat) (q : List Nat), WInv b kept rows ab work w i → q = (keysW w).drop i → ∀ S, bfs b kept rows ab n w q = .closed S → ∃ w' i', WInv b kept rows ab work w' i' ∧ S = keysW w'
  | 0, w, i, q, I, _, S, h => by cases h; exact ⟨w, i, I, rfl⟩
  | n + 1, w, i, [], I, hq, S, h => by cases h; exact ⟨w, i, I, rfl⟩
  | n + 1, w, i, here :: q, I, hq, S, h => by
    have hh : (keysW w)[i]? = some here := by
      have : ((keysW w).drop i)[0]? = some here := by rw [← hq]; rfl
      rw [List.getElem?_drop] at this
      simpa using this
    have hi : i < w.length := by
      have := (List.getElem?_eq_some_iff.mp hh).1
      unfold keysW at this
      rw [List.length_map] at this
      exact this
    have hq' : q = (keysW w).drop (i + 1) := by
      rw [← List.tail_drop, ← hq]; rfl
    unfold bfs at h
    cases hf : (takers b rows ab here).find? (roomB b rows) with
    | some r => rw [hf] at h; cases h
    | none =>
      rw [hf] at h
      have hno : ∀ r ∈ takers b rows ab here, roomB b rows r = false := fun r hr => by
        have := List.find?_eq_none.mp hf r hr
        simpa using this
      obtain ⟨I', hq2⟩ := winv_next V R I hh hi hq' hno
      exact bfs_keys V R n _ (i + 1) _ I' hq2 S h
/-- what the ways reach lies in every closed set with the work -/
theorem keys_sub {W : List Nat} (hW : ClosedS b kept rows ab W) (hw : work ∈ W) {w : Ways} {i : Nat} (I : WInv b kept rows ab work w i) : ∀ (k x : Nat), (keysW w)[k]? = some x → x ∈ W := by
  intro k
  induction k using Nat.strongRecOn with
  | ind k ih =>
    intro x hx
    obtain ⟨o, ho⟩ := keys_get.mp hx
    rcases Nat.eq_zero_or_pos k with hk | hk
    · subst hk
      rw [I.hd] at ho
      cases ho
      exact hw
    · obtain ⟨p, r, j, g1, g2, g3, g4, g5, g6, g7, _⟩ := I.way k x o ho hk
      have hp := ih j g3 p g4
      obtain ⟨t1, t2, t3⟩ := mem_takers.mp g5
      rcases hW r t1 with h | ⟨_, h⟩
      · exact absurd (h p t2 hp) t3
      · exact Classical.byContradiction fun z => g7 (h x g6 z)
theorem step_least (V : BkV b) (R : RowsV b rows) (hwk : work < b.dem.length) {S W : List Nat} (h : stepF b kept rows ab work = .closed S) (hW : ClosedS b kept rows ab W) (hw : work ∈ W) : ∀ x ∈ S, x ∈ W := by
  obtain ⟨w, i, I, rfl⟩ := bfs_keys (kept := kept) (work := work) V R _ [(work, none)] 0 [work] ⟨nodup_one _, rfl, Nat.zero_le _, fun x hx => by rw [List.mem_singleton.mp (show x ∈ [work] from hx)]; exact hwk, fun k x o hk hp => by
    cases k with
    | zero => omega
    | succ k => simp at hk, fun j y r hj => absurd hj (Nat.not_lt_zero _)⟩ rfl S h
  intro x hx
  obtain ⟨k, hk⟩ := List.getElem?_of_mem hx
  exact keys_sub hW hw I k x hk
end
section
variable {b : Bk} {X R0 : List (List Nat)} {ab : List Nat}
/-- demands read in good rows -/
theorem dem_sum (hc : ∀ x, x < b.dem.length → cntR b X ab x = demAt b x) {W : List Nat} (hlt : ∀ x ∈ W, x < b.dem.length) : demOf b W = ((present b ab).map fun r => (((W.filter fun x => decide (x ∈ rowAt X r)).length : Nat) : Int)).sum := by
  have h1 := double (b := b) (ab := ab) (rows := X) W
  rw [← sum_cast, ← h1]
  unfold demOf
  rw [sum_cast]
  refine sumI_eq fun x hx => ?_
  rw [hc x (hlt x hx)]; rfl
theorem part_le (V : BkV b) (R : RowsV b X) (h0 : ∀ r, rowAt R0 r = []) {W : List Nat} (hW : W.Nodup) (r : Nat) : (((W.filter fun x => decide (x ∈ rowAt X r)).length : Nat) : Int) ≤ count b R0 r W := by
  unfold count
  have e0 : R0.getD r [] = [] := h0 r
  rw [e0]
  have h1 : (W.filter fun x => decide (x ∈ rowAt X r)).length ≤ (rowAt X r).length := by
    rw [inter_comm hW (asc_nodup (R.asc r))]; exact List.length_filter_le _ _
  have h2 := R.lim r
  have h3 : (W.filter fun x => decide (x ∈ rowAt X r)).length ≤ (W.filter fun x => decide (x ∈ (b.rd.getD r default).2)).length :=
    nodup_sub_len (hW.sublist List.filter_sublist) fun x hx => by
      obtain ⟨g1, g2⟩ := List.mem_filter.mp hx
      exact List.mem_filter.mpr ⟨g1, decide_eq_true (R.sub r x (of_decide_eq_true g2))⟩
  have h4 : limAt b r = (b.rd.getD r default).1 := rfl
  simp only [List.filter_nil, List.length_nil]
  omega
/-- a set is tight just if it is closed in good rows -/
theorem tight_closed (V : BkV b) (R : RowsV b X) (R0v : RowsV b R0) (h0 : ∀ r, rowAt R0 r = []) (hc : ∀ x, x < b.dem.length → cntR b X ab x = demAt b x) {W : List Nat} (hW : W.Nodup) (hlt : ∀ x ∈ W, x < b.dem.length) :
    (countsOf b R0 ab W).sum = demOf b W ↔ ClosedS b R0 X ab W := by
  rw [dem_sum hc hlt]
  unfold countsOf
  constructor
  · intro e r hr
    have heq : (((W.filter fun x => decide (x ∈ rowAt X r)).length : Nat) : Int) = count b R0 r W := by
      apply Classical.byContradiction
      intro z
      have h1 := part_le V R h0 hW r
      have := sumI_lt (f := fun r => (((W.filter fun x => decide (x ∈ rowAt X r)).length : Nat) : Int)) (g := fun r => count b R0 r W) (l := present b ab) (y := r) (fun x _ => part_le V R h0 hW x) hr (by omega)
      omega
    have e0 : R0.getD r [] = [] := h0 r
    unfold count at heq
    rw [e0] at heq
    simp only [List.filter_nil, List.length_nil] at heq
    have nX := asc_nodup (R.asc r)
    have ic := inter_comm hW nX
    have l1 : ((rowAt X r).filter fun x => decide (x ∈ W)).length ≤ (rowAt X r).length := List.length_filter_le _ _
    have l2 := R.lim r
    have l4 : limAt b r = (b.rd.getD r default).1 := rfl
    by_cases hm : (W.filter fun x => decide (x ∈ rowAt X r)).length = (W.filter fun x => decide (x ∈ (b.rd.getD r default).2)).length
    · left
      intro x hx hxW
      apply Classical.byContradiction
      intro hn
      have : ((x :: W.filter fun x => decide (x ∈ rowAt X r)).length) ≤ (W.filter fun x => decide (x ∈ (b.rd.getD r default).2)).length := by
        refine nodup_sub_len (List.nodup_cons.mpr ⟨fun z => hn (of_decide_eq_true (List.mem_filter.mp z).2), hW.sublist List.filter_sublist⟩) fun y hy => ?_
        rcases List.mem_cons.mp hy with rfl | hy
        · exact List.mem_filter.mpr ⟨hxW, decide_eq_true hx⟩
        · obtain ⟨g1, g2⟩ := List.mem_filter.mp hy
          exact List.mem_filter.mpr ⟨g1, decide_eq_true (R.sub r y (of_decide_eq_true g2))⟩
      rw [List.length_cons] at this
      omega
    · right
      refine ⟨decide_eq_false (by omega), fun x hx hxW => ?_⟩
      exfalso
      have : (x :: (rowAt X r).filter fun x => decide (x ∈ W)).length ≤ (rowAt X r).length := by
        refine nodup_sub_len (List.nodup_cons.mpr ⟨fun z => hxW (of_decide_eq_true (List.mem_filter.mp z).2), nX.sublist List.filter_sublist⟩) fun y hy => ?_
        rcases List.mem_cons.mp hy with rfl | hy
        · exact hx
        · exact (List.mem_filter.mp hy).1
      rw [List.length_cons] at this
      omega
  · intro h
    refine sumI_eq fun r hr => ?_
    refine (closed_count V R R0v hW hr (fun x hx => ?_) h).symm
    rw [h0 r] at hx; cases hx
/-- cut and join of closed sets are closed -/
theorem closed_cut {S T U : List Nat} (hS : ClosedS b R0 X ab S) (hT : ClosedS b R0 X ab T) (h0 : ∀ r, rowAt R0 r = []) (h : ∀ x, x ∈ U ↔ x ∈ S ∧ x ∈ T) : ClosedS b R0 X ab U := fun r hr => by
  rcases hS r hr with a | ⟨a1, a2⟩
  · left
    intro x hx hU
    exact a x hx ((h x).mp hU).1
  · rcases hT r hr with c | ⟨c1, c2⟩
    · left
      intro x hx hU
      exact c x hx ((h x).mp hU).2
    · right
      refine ⟨a1, fun x hx hU => ?_⟩
      by_cases hs : x ∈ S
      · exact c2 x hx fun z => hU ((h x).mpr ⟨hs, z⟩)
      · exact a2 x hx hs
/-- rows that read each work as often as wanted: no set is short -/
theorem good_no_short (V : BkV b) (R : RowsV b X) (h0 : ∀ r, rowAt R0 r = []) (hc : ∀ x, x < b.dem.length → cntR b X ab x = demAt b x) {W : List Nat} (hW : W.Nodup) (hlt : ∀ x ∈ W, x < b.dem.length) : isShort b R0 ab W = false := by
  unfold isShort
  apply decide_eq_false
  rw [dem_sum hc hlt]
  have := sumI_le (f := fun r => (((W.filter fun x => decide (x ∈ rowAt X r)).length : Nat) : Int)) (g := fun r => count b R0 r W) (l := present b ab) (fun x _ => part_le V R h0 hW x)
  unfold countsOf
  omega
end
end IL

set_option Elab.async false
set_option linter.all false
set_option maxRecDepth 100000
set_option maxHeartbeats 1000000
/-! Mirrors: what the evaluator gives, by big steps. -/
namespace IL
open PySem
/-! ### trees of numbers, tuples, rows, books -/
def nD (n : Nat) : D := .int n
def iD (n : Int) : D := .int n
def tN (l : List Nat) : D := .tup (l.map nD)
def lN (l : List Nat) : D := .lst (l.map nD)
def lT (l : List (List Nat)) : D := .lst (l.map tN)
def rdD (p : Nat × List Nat) : D := .tup [nD p.1, tN p.2]
def bkD (b : Bk) : D := .book (b.dem.map nD) (b.rd.map rdD)
/-! ### results with a wish -/
def Sat {α : Type} (r : R α) (Q : α → Wd → Prop) : Prop := match r with
  | .ok a w => Q a w
  | _ => False
def SatC (r : CR) (Q : D → Bool → List Ob → Prop) : Prop := match r with
  | .ok d fr s => Q d fr s
  | _ => False
theorem satC_eq {r : CR} {d : D} {fr : Bool} {s : List Ob} (h : SatC r fun d' fr' s' => d' = d ∧ fr' = fr ∧ s' = s) : r = .ok d fr s := by
  cases r with
  | ok d' fr' s' => obtain ⟨rfl, rfl, rfl⟩ := h; rfl
  | exn c x s => exact h.elim
  | bad => exact h.elim
theorem eq_satC {r : CR} {d : D} {fr : Bool} {s : List Ob} {Q : D → Bool → List Ob → Prop} (h : r = .ok d fr s) (q : Q d fr s) : SatC r Q := by subst h; exact q
theorem satC_ex {r : CR} {Q : D → Bool → List Ob → Prop} (h : SatC r Q) : ∃ d fr s, r = .ok d fr s ∧ Q d fr s := by
  cases r with
  | ok d' fr' s' => exact ⟨_, _, _, rfl, h⟩
  | exn c x s => exact h.elim
  | bad => exact h.elim
theorem satC_mono {r : CR} {Q Q' : D → Bool → List Ob → Prop} (h : SatC r Q) (q : ∀ d fr s, Q d fr s → Q' d fr s) : SatC r Q' := by
  cases r with
  | ok d' fr' s' => exact q _ _ _ h
  | exn c x s => exact h.elim
  | bad => exact h.elim
theorem sat_mono {α : Type} {r : R α} {Q Q' : α → Wd → Prop} (h : Sat r Q) (q : ∀ a w, Q a w → Q' a w) : Sat r Q' := by
  cases r with
  | ok a w => exact q _ _ h
  | exn c x s => exact h.elim
  | bad => exact h.elim
theorem sat_ex {α : Type} {r : R α} {Q : α → Wd → Prop} (h : Sat r Q) : ∃ a w, r = .ok a w ∧ Q a w := by
  cases r with
  | ok a w => exact ⟨_, _, rfl, h⟩
  | exn c x s => exact h.elim
  | bad => exact h.elim
theorem eq_sat {α : Type} {r : R α} {a : α} {w : Wd} {Q : α → Wd → Prop} (h : r = .ok a w) (q : Q a w) : Sat r Q := by subst h; exact q
theorem sat_bind {α β : Type} {r : R α} {k : α → Wd → R β} {Q : β → Wd → Prop} (h : Sat r fun a w => Sat (k a w) Q) : Sat (r.bind k) Q := by
  cases r with
  | ok a w => exact h
  | exn c x s => exact h.elim
  | bad => exact h.elim
/-! ### the evaluator, not to be unfolded -/
@[irreducible] def Ev (cf : Nat → List D → List Ob → CR) (e : E) (w : Wd) : R (D × Bool) := ev cf e w
@[irreducible] def Evs (cf : Nat → List D → List Ob → CR) (e : Es) (w : Wd) : R (List D) := evs cf e w
@[irreducible] def EvO (cf : Nat → List D → List Ob → CR) (e : O) (w : Wd) : R (Option Int) := evO cf e w
@[irreducible] def EvT (cf : Nat → List D → List Ob → CR) (e : T) (w : Wd) : R Bool := evT cf e w
@[irreducible] def EvC (cf : Nat → List D → List Ob → CR) (e : OT) (w : Wd) : R Bool := evC cf e w
@[irreducible] def EvI (cf : Nat → List D → List Ob → CR) (e : It) (w : Wd) : R (List D) := evI cf e w
@[irreducible] def Runs (cf : Nat → List D → List Ob → CR) (e : Ss) (w : Wd) : R Flow := runs cf e w
@[irreducible] def Cal (tab : List Df) (n f : Nat) (ds : List D) (s : List Ob) : CR := callF tab n f ds s
theorem Ev_def {cf e w} : Ev cf e w = ev cf e w := by unfold Ev; rfl
theorem Evs_def {cf e w} : Evs cf e w = evs cf e w := by unfold Evs; rfl
theorem EvO_def {cf e w} : EvO cf e w = evO cf e w := by unfold EvO; rfl
theorem EvT_def {cf e w} : EvT cf e w = evT cf e w := by unfold EvT; rfl
theorem EvC_def {cf e w} : EvC cf e w = evC cf e w := by unfold EvC; rfl
theorem EvI_def {cf e w} : EvI cf e w = evI cf e w := by unfold EvI; rfl
theorem Runs_def {cf e w} : Runs cf e w = runs cf e w := by unfold Runs; rfl
theorem Cal_def {tab n f ds s} : Cal tab n f ds s = callF tab n f ds s := by unfold Cal; rfl
theorem Cal_fun (tab : List Df) (n : Nat) : Cal tab n = callF tab n := by funext f ds s; exact Cal_def
section
variable {cf : Nat → List D → List Ob → CR} {w w1 w2 w3 : Wd} {a b c e : E} {x y z : D × Bool} {d : D} {i : Nat} {s s' : List Ob} {k : Bool}
/-! ### expressions by big steps -/
theorem ev_var (h : w.e[i]? = some (.val d)) : Ev cf (.var i) w = .ok (d, false) w := by
  simp only [Ev_def, Evs_def, EvO_def, EvT_def, EvC_def, EvI_def] at *
  show (w.read i).bind _ = _
  unfold Wd.read; rw [h]
theorem ev_varc (h : w.e[i]? = some (.cell d)) : Ev cf (.var i) w = .ok (d, false) (w.put i d) := by
  simp only [Ev_def, Evs_def, EvO_def, EvT_def, EvC_def, EvI_def] at *
  show (w.read i).bind _ = _
  unfold Wd.read; rw [h]
theorem ev_int {n : Int} : Ev cf (.int n) w = .ok (.int n, false) w := by
  simp only [Ev_def, Evs_def, EvO_def, EvT_def, EvC_def, EvI_def] at *
  exact rfl
theorem ev_str {n : Str} : Ev cf (.str n) w = .ok (.str n, false) w := by
  simp only [Ev_def, Evs_def, EvO_def, EvT_def, EvC_def, EvI_def] at *
  exact rfl
theorem ev_bl : Ev cf (.bl k) w = .ok (.bl k, false) w := by
  simp only [Ev_def, Evs_def, EvO_def, EvT_def, EvC_def, EvI_def] at *
  exact rfl
theorem ev_non : Ev cf .non w = .ok (.non, false) w := by
  simp only [Ev_def, Evs_def, EvO_def, EvT_def, EvC_def, EvI_def] at *
  exact rfl
theorem ev_glob {n : Str} {j : Int} : Ev cf (.glob n j) w = .ok (.int j, false) w := by
  simp only [Ev_def, Evs_def, EvO_def, EvT_def, EvC_def, EvI_def] at *
  exact rfl
theorem ev_dct0 : Ev cf .dct0 w = .ok (.dct [] [], true) w := by
  simp only [Ev_def, Evs_def, EvO_def, EvT_def, EvC_def, EvI_def] at *
  exact rfl
theorem ev_bin {o : BOp} (ha : Ev cf a w = .ok x w1) (hb : Ev cf b w1 = .ok y w2) (hd : binD o x.1 y.1 = some d) : Ev cf (.bin o a b) w = .ok (d, isFr d) w2 := by
  simp only [Ev_def, Evs_def, EvO_def, EvT_def, EvC_def, EvI_def] at *
  show (ev cf a w).bind _ = _
  rw [ha]; show (ev cf b w1).bind _ = _
  rw [hb]; show (R.opt (binD o x.1 y.1) w2).bind _ = _
  rw [hd]; rfl
theorem ev_neg {n : Int} (ha : Ev cf a w = .ok x w1) (hd : intOf x.1 = some n) : Ev cf (.neg a) w = .ok (.int (-n), false) w1 := by
  simp only [Ev_def, Evs_def, EvO_def, EvT_def, EvC_def, EvI_def] at *
  show (ev cf a w).bind _ = _
  rw [ha]; show (R.opt (intOf x.1) w1).bind _ = _
  rw [hd]; rfl
theorem ev_not (ha : Ev cf a w = .ok x w1) (hd : boolOf x.1 = some k) : Ev cf (.not a) w = .ok (.bl (!k), false) w1 := by
  simp only [Ev_def, Evs_def, EvO_def, EvT_def, EvC_def, EvI_def] at *
  show (ev cf a w).bind _ = _
  rw [ha]; show (R.opt (boolOf x.1) w1).bind _ = _
  rw [hd]; rfl
theorem ev_cmp {o : COp} (ha : Ev cf a w = .ok x w1) (hb : Ev cf b w1 = .ok y w2) (hd : cmpD o x.1 y.1 = some k) : Ev cf (.cmp o a b) w = .ok (.bl k, false) w2 := by
  simp only [Ev_def, Evs_def, EvO_def, EvT_def, EvC_def, EvI_def] at *
  show (ev cf a w).bind _ = _
  rw [ha]; show (ev cf b w1).bind _ = _
  rw [hb]; show (R.opt (cmpD o x.1 y.1) w2).bind _ = _
  rw [hd]; rfl
theorem ev_cmpv {o : COp} {d0 : D} (h0 : w.get i = some d0) (hb : Ev cf b w = .ok y w2) (h1 : w2.get i = some d) (hd : cmpD o d y.1 = some k) : Ev cf (.cmpv o i b) w = .ok (.bl k, false) w2 := by
  simp only [Ev_def, Evs_def, EvO_def, EvT_def, EvC_def, EvI_def] at *
  show (R.opt (w.get i) w).bind _ = _
  rw [h0]; show (ev cf b w).bind _ = _
  rw [hb]; show (R.opt (w2.get i) w2).bind _ = _
  rw [h1]; show (R.opt (cmpD o d y.1) w2).bind _ = _
  rw [hd]; rfl
theorem ev_inv {o : COp} (ha : Ev cf a w = .ok x w1) (h1 : w1.get i = some d) (hd : cmpD o x.1 d = some k) : Ev cf (.inv o a i) w = .ok (.bl k, false) w1 := by
  simp only [Ev_def, Evs_def, EvO_def, EvT_def, EvC_def, EvI_def] at *
  show (ev cf a w).bind _ = _
  rw [ha]; show (R.opt (w1.get i) w1).bind _ = _
  rw [h1]; show (R.opt (cmpD o x.1 d) w1).bind _ = _
  rw [hd]; rfl
/-- both comparisons are of what stands: no state is changed -/
theorem ev_chain {o p : COp} {k1 k2 : Bool} (ha : Ev cf a w = .ok x w) (hb : Ev cf b w = .ok y w) (h1 : cmpD o x.1 y.1 = some k1) (hc : Ev cf c w = .ok z w) (h2 : cmpD p y.1 z.1 = some k2) : Ev cf (.chain o p a b c) w = .ok (.bl (k1 && k2), false) w := by
  simp only [Ev_def, Evs_def, EvO_def, EvT_def, EvC_def, EvI_def] at *
  show (ev cf a w).bind _ = _
  rw [ha]; show (ev cf b w).bind _ = _
  rw [hb]; show (R.opt (cmpD o x.1 y.1) w).bind _ = _
  rw [h1]
  cases k1
  · rfl
  · show (ev cf c w).bind _ = _
    rw [hc]; show (R.opt (cmpD p y.1 z.1) w).bind _ = _
    rw [h2]; rfl
theorem ev_and {k2 f1 f2 : Bool} (ha : Ev cf a w = .ok (.bl k, f1) w1) (hb : k = true → Ev cf b w1 = .ok (.bl k2, f2) w1) : Ev cf (.and a b) w = .ok (.bl (k && k2), false) w1 := by
  simp only [Ev_def, Evs_def, EvO_def, EvT_def, EvC_def, EvI_def] at *
  show (ev cf a w).bind _ = _
  rw [ha]
  cases k
  · rfl
  · show (ev cf b w1).bind _ = _
    rw [hb rfl]; rfl
theorem ev_or {k2 f1 f2 : Bool} (ha : Ev cf a w = .ok (.bl k, f1) w1) (hb : k = false → Ev cf b w1 = .ok (.bl k2, f2) w1) : Ev cf (.or a b) w = .ok (.bl (k || k2), false) w1 := by
  simp only [Ev_def, Evs_def, EvO_def, EvT_def, EvC_def, EvI_def] at *
  show (ev cf a w).bind _ = _
  rw [ha]
  cases k
  · show (ev cf b w1).bind _ = _
    rw [hb rfl]; rfl
  · rfl
theorem ev_ite {t : T} {fr : Bool} {d1 d2 : D} (hc : EvT cf t w = .ok k w1) (ha : k = true → Ev cf a w1 = .ok (d1, fr) w2) (hb : k = false → Ev cf b w1 = .ok (d2, fr) w2) : Ev cf (.ite t a b) w = .ok (if k then d1 else d2, fr) w2 := by
  simp only [Ev_def, Evs_def, EvO_def, EvT_def, EvC_def, EvI_def] at *
  show (evT cf t w).bind _ = _
  rw [hc]
  cases k
  · exact hb rfl
  · exact ha rfl
theorem evs_nil : Evs cf .nil w = .ok [] w := by
  simp only [Ev_def, Evs_def, EvO_def, EvT_def, EvC_def, EvI_def] at *
  exact rfl
theorem evs_cons {es : Es} {ds : List D} (ha : Ev cf a w = .ok x w1) (hb : Evs cf es w1 = .ok ds w2) : Evs cf (.cons a es) w = .ok (x.1 :: ds) w2 := by
  simp only [Ev_def, Evs_def, EvO_def, EvT_def, EvC_def, EvI_def] at *
  show (ev cf a w).bind _ = _
  rw [ha]; show (evs cf es w1).bind _ = _
  rw [hb]
theorem ev_lst {es : Es} {ds : List D} (h : Evs cf es w = .ok ds w1) (hl : (decide (ds.length ≤ lim)) = true) : Ev cf (.lst es) w = .ok (.lst ds, true) w1 := by
  simp only [Ev_def, Evs_def, EvO_def, EvT_def, EvC_def, EvI_def] at *
  show (evs cf es w).bind _ = _
  rw [h]; show (if ds.length ≤ lim then _ else _) = _
  rw [if_pos (of_decide_eq_true hl)]
theorem ev_tup {es : Es} {ds : List D} (h : Evs cf es w = .ok ds w1) (hl : (decide (ds.length ≤ lim)) = true) : Ev cf (.tup es) w = .ok (.tup ds, false) w1 := by
  simp only [Ev_def, Evs_def, EvO_def, EvT_def, EvC_def, EvI_def] at *
  show (evs cf es w).bind _ = _
  rw [h]; show (if ds.length ≤ lim then _ else _) = _
  rw [if_pos (of_decide_eq_true hl)]
theorem ev_ix (ha : Ev cf a w = .ok x w1) (hb : Ev cf b w1 = .ok y w2) (hd : ixD x.1 y.1 = some d) : Ev cf (.ix a b) w = .ok (d, false) w2 := by
  simp only [Ev_def, Evs_def, EvO_def, EvT_def, EvC_def, EvI_def] at *
  show (ev cf a w).bind _ = _
  rw [ha]; show (ev cf b w1).bind _ = _
  rw [hb]; show (R.opt (ixD x.1 y.1) w2).bind _ = _
  rw [hd]; rfl
theorem ev_ixv {d0 d1 : D} (h0 : w.get i = some d0) (hb : Ev cf b w = .ok y w2) (h1 : w2.get i = some d1) (hd : ixD (w2.deref d1) y.1 = some d) : Ev cf (.ixv i b) w = .ok (d, false) w2 := by
  simp only [Ev_def, Evs_def, EvO_def, EvT_def, EvC_def, EvI_def] at *
  show (R.opt (w.get i) w).bind _ = _
  rw [h0]; show (ev cf b w).bind _ = _
  rw [hb]; show (R.opt (w2.get i) w2).bind _ = _
  rw [h1]; show (R.opt (ixD (w2.deref d1) y.1) w2).bind _ = _
  rw [hd]; rfl
theorem evO_no : EvO cf .no w = .ok none w := by
  simp only [Ev_def, Evs_def, EvO_def, EvT_def, EvC_def, EvI_def] at *
  exact rfl
theorem evO_yes {n : Int} (ha : Ev cf a w = .ok x w1) (hd : intOf x.1 = some n) : EvO cf (.yes a) w = .ok (some n) w1 := by
  simp only [Ev_def, Evs_def, EvO_def, EvT_def, EvC_def, EvI_def] at *
  show (ev cf a w).bind _ = _
  rw [ha]; show (R.opt (intOf x.1) w1).bind _ = _
  rw [hd]; rfl
theorem ev_sl {lo hi : O} {l h : Option Int} (ha : Ev cf a w = .ok x w1) (hl : EvO cf lo w1 = .ok l w2) (hh : EvO cf hi w2 = .ok h w3) (hd : slD x.1 l h = some d) : Ev cf (.sl a lo hi) w = .ok (d, isFr d) w3 := by
  simp only [Ev_def, Evs_def, EvO_def, EvT_def, EvC_def, EvI_def] at *
  show (ev cf a w).bind _ = _
  rw [ha]; show (evO cf lo w1).bind _ = _
  rw [hl]; show (evO cf hi w2).bind _ = _
  rw [hh]; show (R.opt (slD x.1 l h) w3).bind _ = _
  rw [hd]; rfl
theorem ev_rev (ha : Ev cf a w = .ok x w1) (hd : revD x.1 = some d) : Ev cf (.rev a) w = .ok (d, isFr d) w1 := by
  simp only [Ev_def, Evs_def, EvO_def, EvT_def, EvC_def, EvI_def] at *
  show (ev cf a w).bind _ = _
  rw [ha]; show (R.opt (revD x.1) w1).bind _ = _
  rw [hd]; rfl
theorem ev_b1 {f : B1} (ha : Ev cf a w = .ok x w1) (hd : b1D f x.1 = some d) : Ev cf (.b1 f a) w = .ok (d, isFr d) w1 := by
  simp only [Ev_def, Evs_def, EvO_def, EvT_def, EvC_def, EvI_def] at *
  show (ev cf a w).bind _ = _
  rw [ha]; show (R.opt (b1D f x.1) w1).bind _ = _
  rw [hd]; rfl
theorem ev_lenv {d0 : D} (h0 : w.get i = some d0) (hd : b1D .len d0 = some d) : Ev cf (.lenv i) w = .ok (d, false) w := by
  simp only [Ev_def, Evs_def, EvO_def, EvT_def, EvC_def, EvI_def] at *
  show (R.opt (w.get i) w).bind _ = _
  rw [h0]; show (R.opt (b1D .len d0) w).bind _ = _
  rw [hd]; rfl
theorem ev_max2 {m n : Int} (ha : Ev cf a w = .ok x w1) (hb : Ev cf b w1 = .ok y w2) (h1 : intOf x.1 = some m) (h2 : intOf y.1 = some n) : Ev cf (.max2 a b) w = .ok (.int (max m n), false) w2 := by
  simp only [Ev_def, Evs_def, EvO_def, EvT_def, EvC_def, EvI_def] at *
  show (ev cf a w).bind _ = _
  rw [ha]; show (ev cf b w1).bind _ = _
  rw [hb]; show (R.opt (intOf x.1) w2).bind _ = _
  rw [h1]; show (R.opt (intOf y.1) w2).bind _ = _
  rw [h2]; show R.ok (D.int (if n > m then n else m), false) w2 = _
  congr 3
  split <;> omega
theorem ev_min2 {m n : Int} (ha : Ev cf a w = .ok x w1) (hb : Ev cf b w1 = .ok y w2) (h1 : intOf x.1 = some m) (h2 : intOf y.1 = some n) : Ev cf (.min2 a b) w = .ok (.int (min m n), false) w2 := by
  simp only [Ev_def, Evs_def, EvO_def, EvT_def, EvC_def, EvI_def] at *
  show (ev cf a w).bind _ = _
  rw [ha]; show (ev cf b w1).bind _ = _
  rw [hb]; show (R.opt (intOf x.1) w2).bind _ = _
  rw [h1]; show (R.opt (intOf y.1) w2).bind _ = _
  rw [h2]; show R.ok (D.int (if n < m then n else m), false) w2 = _
  congr 3
  split <;> omega
theorem ev_isi {t : Ty} (ha : Ev cf a w = .ok x w1) (hd : isiD t x.1 = some k) : Ev cf (.isi t a) w = .ok (.bl k, false) w1 := by
  simp only [Ev_def, Evs_def, EvO_def, EvT_def, EvC_def, EvI_def] at *
  show (ev cf a w).bind _ = _
  rw [ha]; show (R.opt (isiD t x.1) w1).bind _ = _
  rw [hd]; rfl
theorem ev_dem {ds rs : List D} {fr : Bool} (ha : Ev cf a w = .ok (.book ds rs, fr) w1) : Ev cf (.dem a) w = .ok (.lst ds, true) w1 := by
  simp only [Ev_def, Evs_def, EvO_def, EvT_def, EvC_def, EvI_def] at *
  show (ev cf a w).bind _ = _
  rw [ha]
theorem ev_rdr {ds rs : List D} {fr : Bool} (ha : Ev cf a w = .ok (.book ds rs, fr) w1) : Ev cf (.rdr a) w = .ok (.lst rs, true) w1 := by
  simp only [Ev_def, Evs_def, EvO_def, EvT_def, EvC_def, EvI_def] at *
  show (ev cf a w).bind _ = _
  rw [ha]
theorem ev_demb {B : Bk} {fr : Bool} (ha : Ev cf a w = .ok (bkD B, fr) w1) : Ev cf (.dem a) w = .ok (lN B.dem, true) w1 := by
  exact ev_dem ha
theorem ev_rdrb {B : Bk} {fr : Bool} (ha : Ev cf a w = .ok (bkD B, fr) w1) : Ev cf (.rdr a) w = .ok (.lst (B.rd.map rdD), true) w1 := by
  exact ev_rdr ha
theorem ev_call {f : Nat} {es : Es} {ds : List D} {fr : Bool} (h : Evs cf es w = .ok ds w1) (hc : cf f ds w1.s = .ok d fr s) : Ev cf (.call f es) w = .ok (d, fr) { w1 with s := s } := by
  simp only [Ev_def, Evs_def, EvO_def, EvT_def, EvC_def, EvI_def] at *
  show (evs cf es w).bind _ = _
  rw [h]; show (match cf f ds w1.s with
    | .ok d fr s => R.ok (d, fr) { w1 with s := s }
    | .exn c x s => .exn c x { w1 with s := s }
    | .bad => .bad) = _
  rw [hc]
/-- a call that keeps the store -/
theorem ev_callP {f : Nat} {es : Es} {ds : List D} {fr : Bool} (h : Evs cf es w = .ok ds w1) (hc : cf f ds w1.s = .ok d fr w1.s) : Ev cf (.call f es) w = .ok (d, fr) w1 := by
  exact ev_call h hc
theorem ev_listR {n : Nat} (ha : Ev cf a w = .ok (.int n, k) w1) (hn : n ≤ 1000) : Ev cf (.listR a) w = .ok (lN (List.range n), true) w1 := by
  simp only [Ev_def, Evs_def, EvO_def, EvT_def, EvC_def, EvI_def] at *
  show (ev cf a w).bind _ = _
  rw [ha]; show (if ((n : Int) ≤ 1000 ∧ -1000000 ≤ (n : Int)) then R.ok (D.lst (rng 0 n), true) w1 else .bad) = _
  rw [if_pos (by omega)]
  unfold lN rng
  congr 3
  rw [show ((n : Int) - 0).toNat = n by omega]
  exact List.map_congr_left fun j _ => by show D.int (0 + (j : Int)) = D.int j; rw [Int.zero_add]
theorem ev_tupR {n : Nat} (ha : Ev cf a w = .ok (.int n, k) w1) (hn : n ≤ 1000) : Ev cf (.tupR a) w = .ok (tN (List.range n), false) w1 := by
  simp only [Ev_def, Evs_def, EvO_def, EvT_def, EvC_def, EvI_def] at *
  show (ev cf a w).bind _ = _
  rw [ha]; show (if ((n : Int) ≤ 1000 ∧ -1000000 ≤ (n : Int)) then R.ok (D.tup (rng 0 n), false) w1 else .bad) = _
  rw [if_pos (by omega)]
  unfold tN rng
  congr 3
  rw [show ((n : Int) - 0).toNat = n by omega]
  exact List.map_congr_left fun j _ => by show D.int (0 + (j : Int)) = D.int j; rw [Int.zero_add]
theorem ev_sset {ns : List Int} (ha : Ev cf a w = .ok x w1) (h1 : tupI x.1 = some ns) (h2 : ns.length ≤ 60) : Ev cf (.sset a) w = .ok (.lst ((sortI (dedup ns)).map .int), true) w1 := by
  simp only [Ev_def, Evs_def, EvO_def, EvT_def, EvC_def, EvI_def] at *
  show (ev cf a w).bind _ = _
  rw [ha]; show (R.opt (tupI x.1) w1).bind _ = _
  rw [h1]; show (if ns.length ≤ 60 then _ else _) = _
  rw [if_pos h2]
/-! ### tests -/
theorem evT_ev (ha : Ev cf a w = .ok x w1) (hd : boolOf x.1 = some k) : EvT cf (.ev a) w = .ok k w1 := by
  simp only [Ev_def, Evs_def, EvO_def, EvT_def, EvC_def, EvI_def] at *
  show (ev cf a w).bind _ = _
  rw [ha]; show R.opt (boolOf x.1) w1 = _
  rw [hd]; rfl
theorem evT_not {t : T} (ha : EvT cf t w = .ok k w1) : EvT cf (.not t) w = .ok (!k) w1 := by
  simp only [Ev_def, Evs_def, EvO_def, EvT_def, EvC_def, EvI_def] at *
  show (evT cf t w).bind _ = _
  rw [ha]
theorem evT_and {t u : T} {k2 : Bool} (ha : EvT cf t w = .ok k w1) (hb : k = true → EvT cf u w1 = .ok k2 w1) : EvT cf (.and t u) w = .ok (k && k2) w1 := by
  simp only [Ev_def, Evs_def, EvO_def, EvT_def, EvC_def, EvI_def] at *
  show (evT cf t w).bind _ = _
  rw [ha]
  cases k
  · rfl
  · exact (hb rfl)
theorem evT_or {t u : T} {k2 : Bool} (ha : EvT cf t w = .ok k w1) (hb : k = false → EvT cf u w1 = .ok k2 w1) : EvT cf (.or t u) w = .ok (k || k2) w1 := by
  simp only [Ev_def, Evs_def, EvO_def, EvT_def, EvC_def, EvI_def] at *
  show (evT cf t w).bind _ = _
  rw [ha]
  cases k
  · exact (hb rfl)
  · rfl
theorem evT_cmp {o : COp} (ha : Ev cf a w = .ok x w1) (hb : Ev cf b w1 = .ok y w2) (hd : cmpD o x.1 y.1 = some k) : EvT cf (.cmp o a b) w = .ok k w2 := by
  simp only [Ev_def, Evs_def, EvO_def, EvT_def, EvC_def, EvI_def] at *
  show (ev cf a w).bind _ = _
  rw [ha]; show (ev cf b w1).bind _ = _
  rw [hb]; show R.opt (cmpD o x.1 y.1) w2 = _
  rw [hd]; rfl
theorem evT_cmpv {o : COp} {d0 : D} (h0 : w.get i = some d0) (hb : Ev cf b w = .ok y w2) (h1 : w2.get i = some d) (hd : cmpD o d y.1 = some k) : EvT cf (.cmpv o i b) w = .ok k w2 := by
  simp only [Ev_def, Evs_def, EvO_def, EvT_def, EvC_def, EvI_def] at *
  show (R.opt (w.get i) w).bind _ = _
  rw [h0]; show (ev cf b w).bind _ = _
  rw [hb]; show (R.opt (w2.get i) w2).bind _ = _
  rw [h1]; show R.opt (cmpD o d y.1) w2 = _
  rw [hd]; rfl
theorem evT_inv {o : COp} (ha : Ev cf a w = .ok x w1) (h1 : w1.get i = some d) (hd : cmpD o x.1 d = some k) : EvT cf (.inv o a i) w = .ok k w1 := by
  simp only [Ev_def, Evs_def, EvO_def, EvT_def, EvC_def, EvI_def] at *
  show (ev cf a w).bind _ = _
  rw [ha]; show (R.opt (w1.get i) w1).bind _ = _
  rw [h1]; show R.opt (cmpD o x.1 d) w1 = _
  rw [hd]; rfl
theorem evT_chain {o p : COp} {k1 k2 : Bool} (ha : Ev cf a w = .ok x w) (hb : Ev cf b w = .ok y w) (h1 : cmpD o x.1 y.1 = some k1) (hc : Ev cf c w = .ok z w) (h2 : cmpD p y.1 z.1 = some k2) : EvT cf (.chain o p a b c) w = .ok (k1 && k2) w := by
  simp only [Ev_def, Evs_def, EvO_def, EvT_def, EvC_def, EvI_def] at *
  show (ev cf a w).bind _ = _
  rw [ha]; show (ev cf b w).bind _ = _
  rw [hb]; show (R.opt (cmpD o x.1 y.1) w).bind _ = _
  rw [h1]
  cases k1
  · rfl
  · show (ev cf c w).bind _ = _
    rw [hc]; show R.opt (cmpD p y.1 z.1) w = _
    rw [h2]; rfl
theorem evC_no : EvC cf .no w = .ok true w := by
  simp only [Ev_def, Evs_def, EvO_def, EvT_def, EvC_def, EvI_def] at *
  exact rfl
theorem evC_yes {t : T} (h : EvT cf t w = .ok k w1) : EvC cf (.yes t) w = .ok k w1 := by
  simp only [Ev_def, Evs_def, EvO_def, EvT_def, EvC_def, EvI_def] at *
  exact h
/-! ### what is walked -/
theorem evI_seq {ds : List D} (ha : Ev cf a w = .ok x w1) (hd : itemsOf x.1 = some ds) : EvI cf (.seq a) w = .ok ds w1 := by
  simp only [Ev_def, Evs_def, EvO_def, EvT_def, EvC_def, EvI_def] at *
  show (ev cf a w).bind _ = _
  rw [ha]; show R.opt (itemsOf x.1) w1 = _
  rw [hd]; rfl
theorem evI_r1 {n : Nat} (ha : Ev cf a w = .ok (.int n, k) w1) (hn : n ≤ 1000000) : EvI cf (.r1 a) w = .ok ((List.range n).map nD) w1 := by
  simp only [Ev_def, Evs_def, EvO_def, EvT_def, EvC_def, EvI_def] at *
  show (ev cf a w).bind _ = _
  rw [ha]; show (if ((n : Int) ≤ 1000000 ∧ -1000000 ≤ (n : Int)) then R.ok (rng 0 n) w1 else .bad) = _
  rw [if_pos (by omega)]
  unfold rng
  congr 1
  rw [show ((n : Int) - 0).toNat = n by omega]
  exact List.map_congr_left fun j _ => by show D.int (0 + (j : Int)) = D.int j; rw [Int.zero_add]
theorem evI_enm {ds : List D} (ha : Ev cf a w = .ok (.lst ds, k) w1) : EvI cf (.enm a) w = .ok (enumD 0 ds) w1 := by
  simp only [Ev_def, Evs_def, EvO_def, EvT_def, EvC_def, EvI_def] at *
  show (ev cf a w).bind _ = _
  rw [ha]
theorem evI_zip {ds : List D} (ha : Ev cf a w = .ok x w1) (hb : Ev cf b w1 = .ok y w2) (hd : zipD x.1 y.1 = some ds) : EvI cf (.zip a b) w = .ok ds w2 := by
  simp only [Ev_def, Evs_def, EvO_def, EvT_def, EvC_def, EvI_def] at *
  show (ev cf a w).bind _ = _
  rw [ha]; show (ev cf b w1).bind _ = _
  rw [hb]; show R.opt (zipD x.1 y.1) w2 = _
  rw [hd]; rfl
/-! ### comprehensions that keep the state -/
theorem compL_map {α : Type} {f : D → Wd → R (Option D)} {enc : α → D} {g : α → Option D} {w : Wd} : ∀ {L : List α}, (∀ x ∈ L, f (enc x) w = .ok (g x) w) → compL f (L.map enc) w = .ok (L.filterMap g) w
  | [], _ => rfl
  | x :: L, h => by
    show (f (enc x) w).bind _ = _
    rw [h x List.mem_cons_self]
    show (compL f (L.map enc) w).bind _ = _
    rw [compL_map fun y m => h y (List.mem_cons_of_mem _ m)]
    show R.ok (match g x with | some r => r :: L.filterMap g | none => L.filterMap g) w = _
    rw [List.filterMap_cons]
    cases g x <;> rfl
theorem filterMap_pq {α β : Type} (p : α → Bool) (q : α → β) : ∀ L : List α, (L.filterMap fun x => if p x = true then some (q x) else none) = (L.filter p).map q
  | [] => rfl
  | x :: L => by
    rw [List.filterMap_cons, List.filter_cons, filterMap_pq p q L]
    cases p x <;> rfl
theorem back_same : ∀ (own : List Nat) (e : List Sl), backE e own (hideE own e) = e := by
  have key : ∀ (o : List Nat) (e : List Sl) (own : List Nat) (j : Nat), (backE e own (hideE o e))[j]? = if j ∈ own then e[j]? else (hideE o e)[j]? := by
    intro o e own
    induction own with
    | nil => intro j; simp [backE]
    | cons v own ih =>
      intro j
      show ((backE e own (hideE o e)).set v (e.getD v .no))[j]? = _
      have hl : (backE e own (hideE o e)).length = e.length := by
        have a1 : ∀ (own : List Nat) (x : List Sl), (backE e own x).length = x.length := by
          intro own; induction own with
          | nil => intro x; rfl
          | cons v own ih => intro x; show ((backE e own x).set v _).length = _; rw [List.length_set]; exact ih x
        have a2 : ∀ (own : List Nat) (x : List Sl), (hideE own x).length = x.length := by
          intro own; induction own with
          | nil => intro x; rfl
          | cons v own ih => intro x; show ((hideE own x).set v _).length = _; rw [List.length_set]; exact ih x
        rw [a1, a2]
      by_cases hv : v = j
      · subst hv
        rw [List.getElem?_set, if_pos rfl, hl]
        simp only [List.mem_cons, true_or, if_true]
        by_cases hz : v < e.length
        · rw [if_pos hz, List.getD_eq_getElem?_getD, List.getElem?_eq_getElem hz]; rfl
        · rw [if_neg hz, List.getElem?_eq_none (by omega)]
      · rw [List.getElem?_set_ne hv, ih j]
        have : j ∈ v :: own ↔ j ∈ own := by simp [Ne.symm hv, eq_comm, hv]
        simp only [this]
  have hid : ∀ (o : List Nat) (e : List Sl) (j : Nat), j ∉ o → (hideE o e)[j]? = e[j]? := by
    intro o e
    induction o with
    | nil => intro j _; rfl
    | cons v o ih =>
      intro j hj
      show ((hideE o e).set v .no)[j]? = _
      rw [List.getElem?_set_ne (fun z => hj (by simp [z])), ih j (fun z => hj (List.mem_cons_of_mem _ z))]
  intro own e
  apply List.ext_getElem?
  intro j
  rw [key own e own j]
  split
  · rfl
  · rename_i h; exact hid own e j h
theorem ev_comp {α : Type} {own : List Nat} {g : Tg} {it : It} {oc : OT} {enc : α → D} {L : List α} {p : α → Bool} {q : α → D} {asg : α → Wd} {fr : α → Bool} {e0 : List Sl} (hi : EvI cf it w = .ok (L.map enc) w1) (hl : L.length ≤ lim) (hz : freezeE own w1.e = w1.e) (h0 : hideE own w1.e = e0)
    (ha : ∀ x ∈ L, asgT g (enc x) ⟨e0, w1.s⟩ = some (asg x)) (hc : ∀ x ∈ L, EvC cf oc (asg x) = .ok (p x) (asg x)) (he : ∀ x ∈ L, p x = true → Ev cf e (asg x) = .ok (q x, fr x) (asg x))
    (hh : ∀ x ∈ L, (⟨hideE own (asg x).e, (asg x).s⟩ : Wd) = ⟨e0, w1.s⟩) :
    Ev cf (.comp own g it oc e) w = .ok (.lst ((L.filter p).map q), true) w1 := by
  simp only [Ev_def, Evs_def, EvO_def, EvT_def, EvC_def, EvI_def] at *
  subst h0
  show (evI cf it w).bind _ = _
  rw [hi]
  show (if (L.map enc).length ≤ lim then _ else _) = _
  rw [if_pos (by rw [List.length_map]; exact hl), hz]
  rw [compL_map (g := fun x => if p x = true then some (q x) else none) fun x m => ?_]
  · rw [filterMap_pq]
    show R.ok _ { w1 with e := backE w1.e own (hideE own w1.e) } = _
    rw [back_same]
  · show ((R.opt (asgT g (enc x) _) _).bind _).calm = _
    rw [ha x m]
    show ((evC cf oc (asg x)).bind _).calm = _
    rw [hc x m]
    cases hp : p x with
    | false =>
      show R.ok none { asg x with e := hideE own (asg x).e } = _
      rw [show ({ asg x with e := hideE own (asg x).e } : Wd) = ⟨hideE own w1.e, w1.s⟩ from hh x m]; rfl
    | true =>
      show ((ev cf e (asg x)).bind _).calm = _
      rw [he x m hp]
      show R.ok (some (q x)) { asg x with e := hideE own (asg x).e } = _
      rw [show ({ asg x with e := hideE own (asg x).e } : Wd) = ⟨hideE own w1.e, w1.s⟩ from hh x m]; rfl
theorem ev_comp0 {α : Type} {own : List Nat} {g : Tg} {it : It} {enc : α → D} {L : List α} {q : α → D} {asg : α → Wd} {fr : α → Bool} {e0 : List Sl} (hi : EvI cf it w = .ok (L.map enc) w1) (hl : L.length ≤ lim) (hz : freezeE own w1.e = w1.e) (h0 : hideE own w1.e = e0)
    (ha : ∀ x ∈ L, asgT g (enc x) ⟨e0, w1.s⟩ = some (asg x)) (he : ∀ x ∈ L, Ev cf e (asg x) = .ok (q x, fr x) (asg x))
    (hh : ∀ x ∈ L, (⟨hideE own (asg x).e, (asg x).s⟩ : Wd) = ⟨e0, w1.s⟩) :
    Ev cf (.comp own g it .no e) w = .ok (.lst (L.map q), true) w1 := by
  have := ev_comp (oc := .no) (p := fun _ => true) (q := q) (fr := fr) hi hl hz h0 ha (fun _ _ => evC_no) (fun x m _ => he x m) hh
  rw [this]
  congr 3
  rw [List.filter_eq_self.mpr (fun _ _ => rfl)]
end
end IL

set_option Elab.async false
set_option linter.all false
set_option maxRecDepth 100000
set_option maxHeartbeats 1000000
namespace IL
open PySem
section
variable {cf : Nat → List D → List Ob → CR} {w w1 w2 w3 : Wd} {e : E} {x y z : D × Bool} {d : D} {i j : Nat} {ss a b : Ss} {Q : Flow → Wd → Prop} {k : Bool}
/-- what follows a suite -/
def Nx (cf : Nat → List D → List Ob → CR) (ss : Ss) (Q : Flow → Wd → Prop) : Flow → Wd → Prop
  | .nx, w => Sat (Runs cf ss w) Q
  | .rt d fr, w => Q (.rt d fr) w
theorem satr_cons {st : S} (h : Sat (runS cf st w) (Nx cf ss Q)) : Sat (runs cf (.cons st ss) w) Q := by
  show Sat ((runS cf st w).bind _) Q
  refine sat_bind (sat_mono h fun fl w1 q => ?_)
  cases fl with
  | nx => exact Runs_def ▸ q
  | rt d fr => exact q
theorem nx_of (h : Sat (runs cf ss w) Q) : Nx cf ss Q .nx w := by
  show Sat (Runs cf ss w) Q
  rw [Runs_def]; exact h
theorem nx_of' (h : Sat (Runs cf ss w) Q) : Nx cf ss Q .nx w := h
theorem dec_rfl {p : Prop} {h : Decidable p} (e : @decide p h = true) : @decide p h = true := e
theorem asg_nm {d : D} (h : (decide (i < w.e.length)) = true) (hw : (⟨w.e.set i (.val d), w.s⟩ : Wd) = w2) : asgT (.nm i) d w = some w2 := by
  subst hw
  show (if i < w.e.length then _ else _) = _
  rw [if_pos (of_decide_eq_true h)]; rfl
theorem asg_t2 {g h : Tg} {d x y : D} (hd : d = .tup [x, y]) (h1 : asgT g x w = some w1) (h2 : asgT h y w1 = some w2) : asgT (.t2 g h) d w = some w2 := by
  subst hd
  show (asgT g x w).bind _ = _
  rw [h1]; exact h2
theorem asg_t2l {g h : Tg} {d x y : D} (hd : d = .lst [x, y]) (h1 : asgT g x w = some w1) (h2 : asgT h y w1 = some w2) : asgT (.t2 g h) d w = some w2 := by
  subst hd
  show (asgT g x w).bind _ = _
  rw [h1]; exact h2
theorem asg_t3 {g h k : Tg} {d x y z : D} (hd : d = .tup [x, y, z]) (h1 : asgT g x w = some w1) (h2 : asgT h y w1 = some w2) (h3 : asgT k z w2 = some w3) : asgT (.t3 g h k) d w = some w3 := by
  subst hd
  show (asgT g x w).bind _ = _
  rw [h1]; show (asgT h y w1).bind _ = _
  rw [h2]; exact h3
theorem sat_nil (q : Q .nx w) : Sat (Runs cf .nil w) Q := by
  simp only [Ev_def, EvT_def, EvI_def, Runs_def, Cal_def, Cal_fun] at *
  exact q
theorem putF_v {d : D} {fr : Bool} (h : (fr && isFr d) = false) (hw : (⟨w.e.set i (.val d), w.s⟩ : Wd) = w2) : w.putF i d fr = w2 := by subst hw; unfold Wd.putF; rw [h]; rfl
theorem putF_c {d : D} {fr : Bool} (h : (fr && isFr d) = true) (hw : (⟨w.e.set i (.cell d), w.s⟩ : Wd) = w2) : w.putF i d fr = w2 := by subst hw; unfold Wd.putF; rw [h]; rfl
theorem sat_set (he : Ev cf e w = .ok x w1) (hi : (decide (i < w1.e.length)) = true) (hw : w1.putF i x.1 x.2 = w2) (q : Sat (Runs cf ss w2) Q) : Sat (Runs cf (.cons (.set i e) ss) w) Q := by
  simp only [Ev_def, EvT_def, EvI_def, Runs_def, Cal_def, Cal_fun] at *
  subst hw
  refine satr_cons ?_
  show Sat ((ev cf e w).bind _) _
  rw [he]
  show Sat (if i < w1.e.length then _ else _) _
  rw [if_pos (of_decide_eq_true hi)]
  exact nx_of q
theorem sat_setT {g : Tg} (he : Ev cf e w = .ok x w1) (ha : asgT g x.1 w1 = some w2) (q : Sat (Runs cf ss w2) Q) : Sat (Runs cf (.cons (.setT g e) ss) w) Q := by
  simp only [Ev_def, EvT_def, EvI_def, Runs_def, Cal_def, Cal_fun] at *
  refine satr_cons ?_
  show Sat ((ev cf e w).bind _) _
  rw [he]
  show Sat ((R.opt (asgT g x.1 w1) w1).bind _) _
  rw [ha]
  exact nx_of q
theorem sat_par2 {e1 e2 : E} {w4 w5 : Wd} (h1 : Ev cf e1 w = .ok x w1) (h2 : Ev cf e2 w1 = .ok y w2) (hi : (decide (i < w2.e.length ∧ j < w2.e.length)) = true) (g1 : w2.putF i x.1 x.2 = w4) (g2 : w4.putF j y.1 y.2 = w5) (q : Sat (Runs cf ss w5) Q) : Sat (Runs cf (.cons (.par2 i j e1 e2) ss) w) Q := by
  simp only [Ev_def, EvT_def, EvI_def, Runs_def, Cal_def, Cal_fun] at *
  subst g1 g2
  refine satr_cons ?_
  show Sat ((ev cf e1 w).bind _) _
  rw [h1]
  show Sat ((ev cf e2 w1).bind _) _
  rw [h2]
  show Sat (if i < w2.e.length ∧ j < w2.e.length then _ else _) _
  rw [if_pos (of_decide_eq_true hi)]
  exact nx_of q
theorem sat_par3 {l : Nat} {e1 e2 e3 : E} {w4 w5 w6 : Wd} (h1 : Ev cf e1 w = .ok x w1) (h2 : Ev cf e2 w1 = .ok y w2) (h3 : Ev cf e3 w2 = .ok z w3) (hi : (decide (i < w3.e.length ∧ j < w3.e.length ∧ l < w3.e.length)) = true) (g1 : w3.putF i x.1 x.2 = w4) (g2 : w4.putF j y.1 y.2 = w5) (g3 : w5.putF l z.1 z.2 = w6) (q : Sat (Runs cf ss w6) Q) : Sat (Runs cf (.cons (.par3 i j l e1 e2 e3) ss) w) Q := by
  simp only [Ev_def, EvT_def, EvI_def, Runs_def, Cal_def, Cal_fun] at *
  subst g1 g2 g3
  refine satr_cons ?_
  show Sat ((ev cf e1 w).bind _) _
  rw [h1]
  show Sat ((ev cf e2 w1).bind _) _
  rw [h2]
  show Sat ((ev cf e3 w2).bind _) _
  rw [h3]
  show Sat (if i < w3.e.length ∧ j < w3.e.length ∧ l < w3.e.length then _ else _) _
  rw [if_pos (of_decide_eq_true hi)]
  exact nx_of q
theorem sat_exp (he : Ev cf e w = .ok x w1) (q : Sat (Runs cf ss w1) Q) : Sat (Runs cf (.cons (.exp e) ss) w) Q := by
  simp only [Ev_def, EvT_def, EvI_def, Runs_def, Cal_def, Cal_fun] at *
  refine satr_cons ?_
  show Sat ((ev cf e w).bind _) _
  rw [he]
  exact nx_of q
theorem cl_of {ds : List D} (h : w.e[i]? = some (.cell (.lst ds))) : w.cl i = some ds := by unfold Wd.cl; rw [h]
theorem sat_app {ds ds0 : List D} (h0 : w.e[i]? = some (.cell (.lst ds0))) (he : Ev cf e w = .ok x w1) (h1 : w1.e[i]? = some (.cell (.lst ds))) (hl : ds.length < lim) (q : Sat (Runs cf ss { w1 with e := w1.e.set i (.cell (.lst (ds ++ [x.1]))) }) Q) : Sat (Runs cf (.cons (.app i e) ss) w) Q := by
  simp only [Ev_def, EvT_def, EvI_def, Runs_def, Cal_def, Cal_fun] at *
  refine satr_cons ?_
  show Sat ((R.opt (w.cl i) w).bind _) _
  rw [cl_of h0]
  show Sat ((ev cf e w).bind _) _
  rw [he]
  show Sat ((R.opt (w1.cl i) w1).bind _) _
  rw [cl_of h1]
  show Sat (if ds.length < lim then _ else _) _
  rw [if_pos hl]
  exact nx_of q
/-- a list of a slot's own is changed -/
theorem sat_setiL {ix : E} {ds : List D} {d0 : D} {n : Nat} (he : Ev cf e w = .ok x w1) (h0 : w1.get i = some d0) (hx : Ev cf ix w1 = .ok y w2) (h1 : w2.e[i]? = some (.cell (.lst ds))) (hn : y.1 = .int n) (hl : n < ds.length) (q : Sat (Runs cf ss { w2 with e := w2.e.set i (.cell (.lst (ds.set n x.1))) }) Q) : Sat (Runs cf (.cons (.seti i ix e) ss) w) Q := by
  simp only [Ev_def, EvT_def, EvI_def, Runs_def, Cal_def, Cal_fun] at *
  refine satr_cons ?_
  show Sat ((ev cf e w).bind _) _
  rw [he]
  show Sat ((R.opt (w1.get i) w1).bind _) _
  rw [h0]
  show Sat ((ev cf ix w1).bind _) _
  rw [hx]
  show Sat (match w2.e[i]? with
    | some (.cell (.lst ds)) => (R.opt (intOf y.1) w2).bind fun k w => (R.opt (ixN ds.length k) w).bind fun j w => R.ok Flow.nx { w with e := w.e.set i (.cell (.lst (ds.set j x.1))) }
    | some (.cell (.dct ks ds)) => (R.opt (keyOf y.1) w2).bind fun k w => if ds.length < lim then .ok .nx { w with e := w.e.set i (.cell (.dct (dctPut ks ds k x.1).1 (dctPut ks ds k x.1).2)) } else .bad
    | some (.val (.ref n)) => match w2.s[n]? with
      | some (.box ds) => (R.opt (intOf y.1) w2).bind fun k w => (R.opt (ixN ds.length k) w).bind fun j w => .ok .nx { w with s := w.s.set n (.box (ds.set j x.1)) }
      | _ => .bad
    | _ => .bad) _
  rw [h1, hn]
  show Sat ((R.opt (ixN ds.length (n : Int)) w2).bind _) _
  have : ixN ds.length (n : Int) = some n := by
    unfold ixN L2.ixN
    first
      | (rw [if_pos (by omega)]; first | rfl | simp [hl] | (rw [if_pos (by omega)]; simp))
      | simp [hl]
  rw [this]
  exact nx_of q
theorem sat_aug {m n : Int} {d0 : D} (h0 : w.get i = some d0) (he : Ev cf e w = .ok x w1) (h1 : w1.get i = some d) (hm : intOf d = some m) (hn : intOf x.1 = some n) (hi : (decide (i < w1.e.length)) = true) (q : Sat (Runs cf ss (w1.put i (.int (m + n)))) Q) : Sat (Runs cf (.cons (.aug i e) ss) w) Q := by
  simp only [Ev_def, EvT_def, EvI_def, Runs_def, Cal_def, Cal_fun] at *
  refine satr_cons ?_
  show Sat ((R.opt (w.get i) w).bind _) _
  rw [h0]
  show Sat ((ev cf e w).bind _) _
  rw [he]
  show Sat ((R.opt (w1.get i) w1).bind _) _
  rw [h1]
  show Sat ((R.opt (intOf d) w1).bind _) _
  rw [hm]
  show Sat ((R.opt (intOf x.1) w1).bind _) _
  rw [hn]
  show Sat (if i < w1.e.length then _ else _) _
  rw [if_pos (of_decide_eq_true hi)]
  exact nx_of q
theorem sat_ret (he : Ev cf e w = .ok x w1) (q : Q (.rt x.1 x.2) w1) : Sat (Runs cf (.cons (.ret e) ss) w) Q := by
  simp only [Ev_def, EvT_def, EvI_def, Runs_def, Cal_def, Cal_fun] at *
  refine satr_cons ?_
  show Sat ((ev cf e w).bind _) _
  rw [he]
  exact q
theorem sat_retN (q : Q (.rt .non false) w) : Sat (Runs cf (.cons .retN ss) w) Q := by
  simp only [Ev_def, EvT_def, EvI_def, Runs_def, Cal_def, Cal_fun] at *
  exact satr_cons q
theorem sat_ite {c : T} (hc : EvT cf c w = .ok k w1) (ht : k = true → Sat (Runs cf a w1) (Nx cf ss Q)) (hf : k = false → Sat (Runs cf b w1) (Nx cf ss Q)) : Sat (Runs cf (.cons (.ite c a b) ss) w) Q := by
  simp only [Ev_def, EvT_def, EvI_def, Runs_def, Cal_def, Cal_fun] at *
  refine satr_cons ?_
  show Sat ((evT cf c w).bind _) _
  rw [hc]
  cases k
  · exact hf rfl
  · exact ht rfl
theorem forL_inv {f : D → Wd → R Flow} {I : List D → Wd → Prop} {Q : Flow → Wd → Prop} (hs : ∀ d r w, I (d :: r) w → Sat (f d w) fun fl w' => match fl with
    | .nx => I r w'
    | .rt d fr => Q (.rt d fr) w') (hd : ∀ w, I [] w → Q .nx w) : ∀ ds w, I ds w → Sat (forL f ds w) Q
  | [], w, h => hd w h
  | d :: ds, w, h => by
    show Sat ((f d w).bind _) Q
    refine sat_bind (sat_mono (hs d ds w h) fun fl w1 q => ?_)
    cases fl with
    | nx => exact forL_inv hs hd ds w1 q
    | rt d fr => exact q
theorem sat_for {g : Tg} {it : It} {ds : List D} (I : List D → Wd → Prop) (hi : EvI cf it w = .ok ds w1) (h0 : I ds w1)
    (hs : ∀ d r w, I (d :: r) w → ∃ w', asgT g d w = some w' ∧ Sat (Runs cf b w') fun fl w' => match fl with
      | .nx => I r w'
      | .rt d fr => Q (.rt d fr) w') (hd : ∀ w, I [] w → Sat (Runs cf ss w) Q) : Sat (Runs cf (.cons (.for_ g it b) ss) w) Q := by
  simp only [Ev_def, EvT_def, EvI_def, Runs_def, Cal_def, Cal_fun] at *
  refine satr_cons ?_
  show Sat ((evI cf it w).bind _) _
  rw [hi]
  show Sat (forL _ ds w1) _
  refine forL_inv (I := I) (fun d r w h => ?_) (fun w h => nx_of (hd w h)) ds w1 h0
  obtain ⟨w', ha, hb⟩ := hs d r w h
  show Sat ((R.opt (asgT g d w) w).bind _) _
  rw [ha]
  refine sat_mono (show Sat (runs cf b w') _ from hb) fun fl w2 q => ?_
  cases fl with
  | nx => exact q
  | rt d fr => exact q
theorem whL_inv {c : Wd → R Bool} {f : Wd → R Flow} {I : Wd → Prop} {M : Wd → Nat} {Q : Flow → Wd → Prop} (hs : ∀ w, I w → Sat (c w) fun k w1 => if k then Sat (f w1) (fun fl w2 => match fl with
    | .nx => I w2 ∧ M w2 < M w
    | .rt d fr => Q (.rt d fr) w2) else Q .nx w1) : ∀ (n : Nat) w, I w → M w < n → Sat (whL c f n w) Q
  | 0, w, _, h => absurd h (Nat.not_lt_zero _)
  | n + 1, w, h, hm => by
    show Sat ((c w).bind _) Q
    refine sat_bind (sat_mono (hs w h) fun k w1 q => ?_)
    cases k with
    | false => exact q
    | true =>
      show Sat ((f w1).bind _) Q
      refine sat_bind (sat_mono q fun fl w2 q2 => ?_)
      cases fl with
      | nx => exact whL_inv hs n w2 q2.1 (by have := q2.2; omega)
      | rt d fr => exact q2
theorem sat_wh {c : T} (I : Wd → Prop) (M : Wd → Nat) (h0 : I w) (hm : M w < 100000) (hs : ∀ w, I w → Sat (EvT cf c w) fun k w1 => if k then Sat (Runs cf b w1) (fun fl w2 => match fl with
    | .nx => I w2 ∧ M w2 < M w
    | .rt d fr => Q (.rt d fr) w2) else Sat (Runs cf ss w1) Q) : Sat (Runs cf (.cons (.wh c b) ss) w) Q := by
  simp only [Ev_def, EvT_def, EvI_def, Runs_def, Cal_def, Cal_fun] at *
  refine satr_cons ?_
  show Sat (whL _ _ 100000 w) _
  refine whL_inv (I := I) (M := M) (fun w h => ?_) 100000 w h0 hm
  refine sat_mono (hs w h) fun k w1 q => ?_
  cases k with
  | false => exact nx_of q
  | true => exact sat_mono q fun fl w2 q2 => by cases fl <;> exact q2
/-! ### calls -/
def FinQ (R : D → Bool → List Ob → Prop) : Flow → Wd → Prop
  | .nx, w => R .non false w.s
  | .rt d fr, w => R d fr w.s
theorem call_sat {tab : List Df} {n f : Nat} {df : Df} {ds : List D} {s : List Ob} {R : D → Bool → List Ob → Prop} (ht : tab[f]? = some df) (hl : (decide (ds.length = df.np)) = true) (h : Sat (Runs (Cal tab n) df.body ⟨ds.map .val ++ List.replicate (df.vars.length - df.np) .no, s⟩) (FinQ R)) : SatC (Cal tab (n + 1) f ds s) R := by
  simp only [Ev_def, EvT_def, EvI_def, Runs_def, Cal_def, Cal_fun] at *
  unfold callF
  rw [ht]
  show SatC (if ds.length = df.np then _ else _) R
  rw [if_pos (of_decide_eq_true hl)]
  obtain ⟨fl, w, h1, h2⟩ := sat_ex h
  rw [h1]
  cases fl <;> exact h2
theorem call_eq {tab : List Df} {n f : Nat} {df : Df} {ds : List D} {s s' : List Ob} {d : D} {fr : Bool} (ht : tab[f]? = some df) (hl : (decide (ds.length = df.np)) = true) (h : Sat (Runs (Cal tab n) df.body ⟨ds.map .val ++ List.replicate (df.vars.length - df.np) .no, s⟩) (FinQ fun d' fr' s'' => d' = d ∧ fr' = fr ∧ s'' = s')) : Cal tab (n + 1) f ds s = .ok d fr s' := by
  exact satC_eq (call_sat ht hl h)
end
/-! ### leaves -/
section
variable {α β : Type}
theorem ok_int {n : Nat} {i : Int} : D.ok n (.int i) = true := by cases n <;> rfl
theorem nD_py (n : Nat) : (nD n).py = some (.int n) := rfl
theorem eqD_int (i j : Int) : eqD (.int i) (.int j) = decide (i = j) := by
  show PyData.eqv (.int i) (.int j) = _
  simp only [PyData.eqv]
  by_cases h : i = j <;> simp [h]
theorem cmp_eq_int {i j : Int} : cmpD .eq (.int i) (.int j) = some (decide (i = j)) := by rw [← eqD_int]; rfl
theorem cmp_ne_int {i j : Int} : cmpD .ne (.int i) (.int j) = some (!decide (i = j)) := by rw [← eqD_int]; rfl
theorem cmp_eq_nat {i j : Nat} : cmpD .eq (nD i) (nD j) = some (decide (i = j)) := by
  show cmpD .eq (.int i) (.int j) = _
  rw [cmp_eq_int]
  congr 1
  exact decide_eq_decide.mpr (by omega)
theorem inD_nat (x : Nat) : ∀ l : List Nat, inD (nD x) (l.map nD) = decide (x ∈ l)
  | [] => rfl
  | y :: l => by
    have ih := inD_nat x l
    unfold inD at ih ⊢
    rw [List.map_cons, List.any_cons, ih, show eqD (nD y) (nD x) = decide ((y : Int) = x) from eqD_int _ _]
    by_cases h : x = y
    · subst h; simp
    · have h' : ¬ (y : Int) = x := by omega
      rw [decide_eq_false h']
      simp [h]
theorem flat_nat : ∀ l : List Nat, (l.map nD).all flatD = true
  | [] => rfl
  | y :: l => by rw [List.map_cons, List.all_cons, flat_nat l]; rfl
theorem inF_nat (x : Nat) (l : List Nat) : inF (nD x) (l.map nD) = some (decide (x ∈ l)) := by
  unfold inF
  rw [flat_nat, inD_nat]; rfl
theorem inT_nat (x : Nat) (l : List Nat) : inT (nD x) (l.map nD) = some (decide (x ∈ l)) := by
  unfold inT
  rw [flat_nat, inD_nat]; rfl
theorem cmp_in_tN {x : Nat} {l : List Nat} : cmpD .isin (nD x) (tN l) = some (decide (x ∈ l)) := inF_nat x l
theorem cmp_notin_tN {x : Nat} {l : List Nat} : cmpD .notin (nD x) (tN l) = some (!decide (x ∈ l)) := by
  show (inF (nD x) (l.map nD)).map not = _
  rw [inF_nat]; rfl
theorem cmp_in_lN {x : Nat} {l : List Nat} : cmpD .isin (nD x) (lN l) = some (decide (x ∈ l)) := inT_nat x l
theorem cmp_notin_lN {x : Nat} {l : List Nat} : cmpD .notin (nD x) (lN l) = some (!decide (x ∈ l)) := by
  show (inT (nD x) (l.map nD)).map not = _
  rw [inT_nat]; rfl
theorem len_map {f : α → D} {L : List α} : b1D .len (.lst (L.map f)) = some (.int (L.length : Nat)) := by show some (D.int ((L.map f).length : Nat)) = _; rw [List.length_map]
theorem len_mapT {f : α → D} {L : List α} : b1D .len (.tup (L.map f)) = some (.int (L.length : Nat)) := by show some (D.int ((L.map f).length : Nat)) = _; rw [List.length_map]
theorem len_tN {L : List Nat} : b1D .len (tN L) = some (.int (L.length : Nat)) := len_mapT
theorem len_lN {L : List Nat} : b1D .len (lN L) = some (.int (L.length : Nat)) := len_map
theorem len_bk {b : Bk} : b1D .len (bkD b) = some (.int (b.dem.length : Nat)) := by show some (D.int ((b.dem.map nD).length : Nat)) = _; rw [List.length_map]
theorem ixN_nat {n i : Nat} (h : i < n) : ixN n (i : Int) = some i := by
  unfold ixN L2.ixN
  first
    | (rw [if_pos (by omega)]; first | rfl | simp [h] | (rw [if_pos (by omega)]; simp))
    | simp [h]
theorem ix_map [Inhabited α] {f : α → D} {L : List α} {i : Nat} (h : i < L.length) : ixD (.lst (L.map f)) (nD i) = some (f (L.getD i default)) := by
  show (ixN (L.map f).length (i : Int)).bind _ = _
  rw [ixN_nat (by rw [List.length_map]; exact h)]
  show (L.map f)[i]? = _
  rw [List.getElem?_map, List.getD_eq_getElem?_getD, List.getElem?_eq_getElem h]; rfl
theorem ix_mapT [Inhabited α] {f : α → D} {L : List α} {i : Nat} (h : i < L.length) : ixD (.tup (L.map f)) (nD i) = some (f (L.getD i default)) := ix_map h
theorem ix_lN {L : List Nat} {i : Nat} (h : i < L.length) : ixD (lN L) (nD i) = some (nD (L.getD i 0)) := ix_map h
theorem ix_lT {L : List (List Nat)} {i : Nat} (h : i < L.length) : ixD (lT L) (nD i) = some (tN (L.getD i [])) := ix_map h
theorem ints_map {f : α → Int} : ∀ L : List α, intsOf (L.map fun x => .int (f x)) = some (L.map f)
  | [] => rfl
  | x :: L => by
    show (intsOf (L.map fun x => D.int (f x))).map (f x :: ·) = _
    rw [ints_map L]; rfl
theorem ints_nat (L : List Nat) : intsOf (L.map nD) = some (L.map fun (n : Nat) => (n : Int)) := ints_map (f := fun (n : Nat) => (n : Int)) L
theorem bools_map {f : α → Bool} : ∀ L : List α, boolsOf (L.map fun x => .bl (f x)) = some (L.map f)
  | [] => rfl
  | x :: L => by
    show (boolsOf (L.map fun x => D.bl (f x))).map (f x :: ·) = _
    rw [bools_map L]; rfl
theorem sum_map {f : α → Int} {L : List α} : b1D .sum (.lst (L.map fun x => .int (f x))) = some (.int (L.map f).sum) := by
  show (intsOf _).map _ = _
  rw [ints_map]; rfl
theorem all_map {f : α → Bool} {L : List α} : b1D .all (.lst (L.map fun x => .bl (f x))) = some (.bl (L.all f)) := by
  show (boolsOf _).map _ = _
  rw [bools_map]
  show some (D.bl ((L.map f).all id)) = _
  rw [List.all_map]; rfl
theorem tup_map {f : α → D} {L : List α} : b1D .tuple (.lst (L.map f)) = some (.tup (L.map f)) := rfl
theorem list_map {f : α → D} {L : List α} : b1D .list (.tup (L.map f)) = some (.lst (L.map f)) := rfl
theorem zipL_map {f : α → D} {g : β → D} : ∀ (L : List α) (M : List β), zipL (L.map f) (M.map g) = (L.zip M).map fun p => .tup [f p.1, g p.2]
  | [], _ => by simp [zipL]
  | _ :: _, [] => by simp [zipL]
  | x :: L, y :: M => by
    have ih := zipL_map (f := f) (g := g) L M
    unfold zipL at ih ⊢
    rw [List.map_cons, List.map_cons, List.zipWith_cons_cons, ih]; rfl
theorem zip_map {f : α → D} {g : β → D} {L : List α} {M : List β} : zipD (.lst (L.map f)) (.lst (M.map g)) = some ((L.zip M).map fun p => .tup [f p.1, g p.2]) := by
  show some (zipL _ _) = _
  rw [zipL_map]
theorem enumD_map {f : α → D} : ∀ (L : List α) (n : Nat), enumD (n : Int) (L.map f) = (L.zipIdx n).map fun p => .tup [nD p.2, f p.1]
  | [], _ => rfl
  | x :: L, n => by
    rw [List.map_cons, List.zipIdx_cons, List.map_cons]
    show D.tup [.int n, f x] :: enumD ((n : Int) + 1) (L.map f) = _
    rw [show ((n : Int) + 1) = ((n + 1 : Nat) : Int) by omega, enumD_map L (n + 1)]; rfl
theorem evI_enmM {cf : Nat → List D → List Ob → CR} {w w1 : Wd} {a : E} {k : Bool} {f : α → D} {L : List α} (ha : Ev cf a w = .ok (.lst (L.map f), k) w1) : EvI cf (.enm a) w = .ok (L.zipIdx.map fun p => .tup [nD p.2, f p.1]) w1 := by
  rw [evI_enm ha]
  congr 1
  exact enumD_map L 0
end
end IL
namespace IL
open PySem
section
variable {cf : Nat → List D → List Ob → CR} {w w1 w2 w3 : Wd} {e : E} {x y z : D × Bool} {d : D} {i j : Nat} {ss a b : Ss} {Q : Flow → Wd → Prop} {k : Bool}
/-- a boxed list is changed -/
theorem sat_setiB {ix : E} {ds : List D} {d0 : D} {n m : Nat} (he : Ev cf e w = .ok x w1) (h0 : w1.get i = some d0) (hx : Ev cf ix w1 = .ok y w2) (h1 : w2.e[i]? = some (.val (.ref m))) (h2 : w2.s[m]? = some (.box ds)) (hn : y.1 = .int n) (hl : n < ds.length) (q : Sat (Runs cf ss { w2 with s := w2.s.set m (.box (ds.set n x.1)) }) Q) : Sat (Runs cf (.cons (.seti i ix e) ss) w) Q := by
  simp only [Ev_def, EvT_def, EvI_def, Runs_def, Cal_def, Cal_fun] at *
  refine satr_cons ?_
  show Sat ((ev cf e w).bind _) _
  rw [he]
  show Sat ((R.opt (w1.get i) w1).bind _) _
  rw [h0]
  show Sat ((ev cf ix w1).bind _) _
  rw [hx]
  show Sat (match w2.e[i]? with
    | some (.cell (.lst ds)) => (R.opt (intOf y.1) w2).bind fun k w => (R.opt (ixN ds.length k) w).bind fun j w => R.ok Flow.nx { w with e := w.e.set i (.cell (.lst (ds.set j x.1))) }
    | some (.cell (.dct ks ds)) => (R.opt (keyOf y.1) w2).bind fun k w => if ds.length < lim then .ok .nx { w with e := w.e.set i (.cell (.dct (dctPut ks ds k x.1).1 (dctPut ks ds k x.1).2)) } else .bad
    | some (.val (.ref n)) => match w2.s[n]? with
      | some (.box ds) => (R.opt (intOf y.1) w2).bind fun k w => (R.opt (ixN ds.length k) w).bind fun j w => .ok .nx { w with s := w.s.set n (.box (ds.set j x.1)) }
      | _ => .bad
    | _ => .bad) _
  rw [h1]
  show Sat (match w2.s[m]? with
      | some (.box ds) => (R.opt (intOf y.1) w2).bind fun k w => (R.opt (ixN ds.length k) w).bind fun j w => R.ok Flow.nx { w with s := w.s.set m (.box (ds.set j x.1)) }
      | _ => .bad) _
  rw [h2, hn]
  show Sat ((R.opt (ixN ds.length (n : Int)) w2).bind _) _
  rw [ixN_nat hl]
  exact nx_of q
/-- a new boxed list -/
theorem ev_box {es : Es} {ds : List D} (h : Evs cf es w = .ok ds w1) (hl : (decide (ds.length ≤ lim)) = true) : Ev cf (.box es) w = .ok (.ref w1.s.length, false) { w1 with s := w1.s ++ [.box ds] } := by
  simp only [Ev_def, Evs_def] at *
  show (evs cf es w).bind _ = _
  rw [h]; show (if ds.length ≤ lim then _ else _) = _
  rw [if_pos (of_decide_eq_true hl)]
theorem bin_mod {i j : Int} (h : 0 < j) : binD .mod (.int i) (.int j) = some (.int (i % j)) := by show (if 0 < j then _ else _) = _; rw [if_pos h]
theorem bin_fdiv {i j : Int} (h : 0 < j ∧ j < 1073741824) : binD .fdiv (.int i) (.int j) = some (.int (i / j)) := by show (if 0 < j ∧ j < 1073741824 then _ else _) = _; rw [if_pos h]
theorem bin_mul {i j : Int} (h : -(2 ^ 64) < j ∧ j < 2 ^ 64) : binD .mul (.int i) (.int j) = some (.int (i * j)) := by show (if (-(2 ^ 64) < j ∧ j < 2 ^ 64) ∨ (-(2 ^ 64) < i ∧ i < 2 ^ 64) then _ else _) = _; rw [if_pos (.inl h)]
theorem bin_addL {xs ys : List D} (h : xs.length + ys.length ≤ lim) : binD .add (.lst xs) (.lst ys) = some (.lst (xs ++ ys)) := by show (if xs.length + ys.length ≤ lim then _ else _) = _; rw [if_pos h]
theorem bin_addT {xs ys : List D} (h : xs.length + ys.length ≤ lim) : binD .add (.tup xs) (.tup ys) = some (.tup (xs ++ ys)) := by show (if xs.length + ys.length ≤ lim then _ else _) = _; rw [if_pos h]
theorem bin_addlN {xs ys : List Nat} (h : xs.length + ys.length ≤ lim) : binD .add (lN xs) (lN ys) = some (lN (xs ++ ys)) := by
  unfold lN
  rw [bin_addL (by simpa using h), List.map_append]
theorem bin_addtN {xs ys : List Nat} (h : xs.length + ys.length ≤ lim) : binD .add (tN xs) (tN ys) = some (tN (xs ++ ys)) := by
  unfold tN
  rw [bin_addT (by simpa using h), List.map_append]
/-- a list of kept and dropped answers -/
inductive FM {α : Type} (Rl : α → Option D → Prop) : List α → List D → Prop where
  | nil : FM Rl [] []
  | no {x : α} {L : List α} {ds : List D} : Rl x none → FM Rl L ds → FM Rl (x :: L) ds
  | yes {x : α} {d : D} {L : List α} {ds : List D} : Rl x (some d) → FM Rl L ds → FM Rl (x :: L) (d :: ds)
theorem compL_eff {α : Type} {f : D → Wd → R (Option D)} {enc : α → D} {P : List Ob → Prop} {Rl : α → Option D → Prop} {e0 : List Sl} : ∀ {L : List α} (s : List Ob), P s → (∀ x ∈ L, ∀ s, P s → ∃ o s', f (enc x) ⟨e0, s⟩ = .ok o ⟨e0, s'⟩ ∧ P s' ∧ Rl x o) → ∃ ds s', compL f (L.map enc) ⟨e0, s⟩ = .ok ds ⟨e0, s'⟩ ∧ P s' ∧ FM Rl L ds
  | [], s, hs, _ => ⟨[], s, rfl, hs, .nil⟩
  | x :: L, s, hs, h => by
    obtain ⟨o, s1, h1, p1, r1⟩ := h x List.mem_cons_self s hs
    obtain ⟨ds, s2, h2, p2, r2⟩ := compL_eff s1 p1 fun y m => h y (List.mem_cons_of_mem _ m)
    cases o with
    | none =>
      refine ⟨ds, s2, ?_, p2, .no r1 r2⟩
      show (f (enc x) _).bind _ = _
      rw [h1]
      show (compL f (L.map enc) _).bind _ = _
      rw [h2]
    | some d =>
      refine ⟨d :: ds, s2, ?_, p2, .yes r1 r2⟩
      show (f (enc x) _).bind _ = _
      rw [h1]
      show (compL f (L.map enc) _).bind _ = _
      rw [h2]
/-- a comprehension that changes the store alone -/
theorem ev_compE {α : Type} {own : List Nat} {g : Tg} {it : It} {oc : OT} {enc : α → D} {L : List α} {e0 : List Sl} {asg : α → List Sl} (P : List Ob → Prop) (Rl : α → Option D → Prop) (hi : EvI cf it w = .ok (L.map enc) w1) (hp : P w1.s) (hl : L.length ≤ lim) (hz : freezeE own w1.e = w1.e) (h0 : hideE own w1.e = e0)
    (ha : ∀ x ∈ L, ∀ s, asgT g (enc x) ⟨e0, s⟩ = some ⟨asg x, s⟩) (hh : ∀ x ∈ L, hideE own (asg x) = e0)
    (hb : ∀ x ∈ L, ∀ s, P s → ∃ k s1, EvC cf oc ⟨asg x, s⟩ = .ok k ⟨asg x, s1⟩ ∧ (k = false → P s1 ∧ Rl x none) ∧ (k = true → ∃ d fr s2, Ev cf e ⟨asg x, s1⟩ = .ok (d, fr) ⟨asg x, s2⟩ ∧ P s2 ∧ Rl x (some d))) :
    ∃ ds s', Ev cf (.comp own g it oc e) w = .ok (.lst ds, true) ⟨w1.e, s'⟩ ∧ P s' ∧ FM Rl L ds := by
  simp only [Ev_def, EvC_def, EvI_def] at *
  subst h0
  obtain ⟨ds, s', h1, h2, h3⟩ := compL_eff (f := fun d w => ((R.opt (asgT g d w) w).bind fun w' _ => (evC cf oc w').bind fun k w => if k then (ev cf e w).bind fun r w => .ok (some r.1) { w with e := hideE own w.e } else .ok none { w with e := hideE own w.e }).calm) (enc := enc) (P := P) (Rl := Rl) (e0 := hideE own w1.e) (L := L) w1.s hp fun x m s hs => by
    obtain ⟨k, s1, c1, c2, c3⟩ := hb x m s hs
    cases k with
    | false =>
      refine ⟨none, s1, ?_, c2 rfl⟩
      show ((R.opt (asgT g (enc x) _) _).bind _).calm = _
      rw [ha x m s]
      show ((evC cf oc ⟨asg x, s⟩).bind _).calm = _
      rw [c1]
      show R.ok none (⟨hideE own (asg x), s1⟩ : Wd) = _
      rw [hh x m]
    | true =>
      obtain ⟨d, fr, s2, k1, k2, k3⟩ := c3 rfl
      refine ⟨some d, s2, ?_, k2, k3⟩
      show ((R.opt (asgT g (enc x) _) _).bind _).calm = _
      rw [ha x m s]
      show ((evC cf oc ⟨asg x, s⟩).bind _).calm = _
      rw [c1]
      show ((ev cf e ⟨asg x, s1⟩).bind _).calm = _
      rw [k1]
      show R.ok (some d) (⟨hideE own (asg x), s2⟩ : Wd) = _
      rw [hh x m]
  refine ⟨ds, s', ?_, h2, h3⟩
  show (evI cf it w).bind _ = _
  rw [hi]
  show (if (L.map enc).length ≤ lim then _ else _) = _
  rw [if_pos (by rw [List.length_map]; exact hl), hz, h1]
  show R.ok _ (⟨backE w1.e own (hideE own w1.e), s'⟩ : Wd) = _
  rw [back_same]
end
end IL

set_option Elab.async false
set_option linter.all false
set_option maxRecDepth 100000
set_option maxHeartbeats 1000000
namespace IL
open PySem
/-! ### sorting Nats -/
theorem pm_ins {α : Type} (le : α → α → Bool) (x : α) : ∀ l : List α, (insBy le x l).Perm (x :: l)
  | [] => .refl _
  | y :: l => by
    unfold insBy
    split
    · exact .refl _
    · exact ((pm_ins le x l).cons y).trans (.swap x y l)
theorem pm_sort {α : Type} (le : α → α → Bool) : ∀ l : List α, (sortBy le l).Perm l
  | [] => .refl _
  | x :: l => (pm_ins le x _).trans ((pm_sort le l).cons x)
theorem pm_insS (x : Int) : ∀ {l : List Int}, l.Pairwise (· ≤ ·) → (insBy (fun x y => decide (x ≤ y)) x l).Pairwise (· ≤ ·)
  | [], _ => List.pairwise_singleton _ _
  | y :: l, h => by
    unfold insBy
    have h' := List.pairwise_cons.mp h
    split
    · rename_i hc
      have hc := of_decide_eq_true hc
      refine List.pairwise_cons.mpr ⟨fun z hz => ?_, h⟩
      rcases List.mem_cons.mp hz with e | hz
      · subst e; exact hc
      · have := h'.1 z hz; omega
    · rename_i hc
      have hc : ¬ x ≤ y := fun z => hc (decide_eq_true z)
      refine List.pairwise_cons.mpr ⟨fun z hz => ?_, pm_insS x h'.2⟩
      rcases List.mem_cons.mp ((pm_ins _ x l).mem_iff.mp hz) with e | hz
      · subst e; omega
      · exact h'.1 z hz
theorem pm_sortS : ∀ l : List Int, (sortI l).Pairwise (· ≤ ·)
  | [] => .nil
  | x :: l => pm_insS x (pm_sortS l)
def cstN (l : List Nat) : List Int := l.map fun (n : Nat) => (n : Int)
def sortN (l : List Nat) : List Nat := (sortI (cstN l)).map Int.toNat
theorem cst_toNat : ∀ l : List Nat, (cstN l).map Int.toNat = l
  | [] => rfl
  | x :: l => by
    show (x : Int).toNat :: (cstN l).map Int.toNat = _
    rw [cst_toNat l, Int.toNat_natCast]
theorem sortN_perm (l : List Nat) : (sortN l).Perm l := by
  have := (pm_sort (fun x y : Int => decide (x ≤ y)) (cstN l)).map Int.toNat
  rw [cst_toNat] at this
  exact this
theorem sortN_cst (l : List Nat) : cstN (sortN l) = sortI (cstN l) := by
  unfold sortN
  have h : ∀ m : List Int, (∀ x ∈ m, 0 ≤ x) → cstN (m.map Int.toNat) = m := by
    intro m
    induction m with
    | nil => intro _; rfl
    | cons x m ih =>
      intro hm
      show ((x.toNat : Nat) : Int) :: cstN (m.map Int.toNat) = _
      rw [ih fun y hy => hm y (List.mem_cons_of_mem _ hy), Int.toNat_of_nonneg (hm x List.mem_cons_self)]
  refine h _ fun x hx => ?_
  have hx := (pm_sort (fun x y : Int => decide (x ≤ y)) (cstN l)).mem_iff.mp hx
  obtain ⟨n, _, rfl⟩ := List.mem_map.mp hx
  omega
theorem sortN_le (l : List Nat) : (sortN l).Pairwise (· ≤ ·) := by
  have h := pm_sortS (cstN l)
  rw [← sortN_cst] at h
  exact (List.pairwise_map.mp h).imp fun h => by omega
theorem cst_map (l : List Nat) : (cstN l).map D.int = l.map nD := by
  unfold cstN; rw [List.map_map]; rfl
theorem sorted_lN {l : List Nat} : b1D .sorted (lN l) = some (lN (sortN l)) := by
  show sortedD (l.map nD) = _
  unfold sortedD
  rw [ints_nat]
  show some (D.lst ((sortI (cstN l)).map D.int)) = _
  rw [← sortN_cst, cst_map]; rfl
theorem sorted_tN {l : List Nat} : b1D .sorted (tN l) = some (lN (sortN l)) := by
  show (match intsOf (l.map nD) with | some ns => some (D.lst ((sortI ns).map .int)) | none => none) = _
  rw [ints_nat]
  show some (D.lst ((sortI (cstN l)).map D.int)) = _
  rw [← sortN_cst, cst_map]; rfl
/-! ### pop -/
section
variable {cf : Nat → List D → List Ob → CR} {w w1 : Wd} {a : E} {i k : Nat}
theorem ev_pop {ds0 ds : List D} {d : D} {f : Bool} (h0 : w.e[i]? = some (.cell (.lst ds0))) (ha : Ev cf a w = .ok (nD k, f) w1) (h1 : w1.e[i]? = some (.cell (.lst ds))) (hk : ds[k]? = some d) (hm : k < 1000) : Ev cf (.pop i a) w = .ok (d, false) { w1 with e := w1.e.set i (.cell (.lst (ds.eraseIdx k))) } := by
  simp only [Ev_def] at *
  have hl : k < ds.length := (List.getElem?_eq_some_iff.mp hk).1
  show (R.opt (w.cl i) w).bind _ = _
  rw [cl_of h0]
  show (ev cf a w).bind _ = _
  rw [ha]
  show (R.opt (w1.cl i) w1).bind _ = _
  rw [cl_of h1]
  show (R.opt (ixN ds.length (k : Int)) w1).bind _ = _
  rw [ixN_nat hl]
  show (R.opt ds[k]? w1).bind _ = _
  rw [hk]
  have hb : (-(2 ^ 63) ≤ (k : Int) ∧ (k : Int) < 2 ^ 63) := ⟨by omega, by omega⟩
  simp only [R.opt_some, R.bind_ok, if_pos hb]
end
theorem erase_perm {α : Type} : ∀ {l : List α} {k : Nat} {x : α}, l[k]? = some x → (x :: l.eraseIdx k).Perm l
  | [], _, _, h => by simp at h
  | y :: l, 0, x, h => by simp at h; subst h; exact .refl _
  | y :: l, k + 1, x, h => by
    rw [List.eraseIdx_cons_succ]
    exact (List.Perm.swap y x _).trans ((erase_perm (by simpa using h)).cons y)
theorem map_erase {α β : Type} (f : α → β) : ∀ (l : List α) (k : Nat), (l.map f).eraseIdx k = (l.eraseIdx k).map f
  | [], _ => by simp
  | y :: l, 0 => rfl
  | y :: l, k + 1 => by rw [List.map_cons, List.eraseIdx_cons_succ, List.eraseIdx_cons_succ, List.map_cons, map_erase f l k]
theorem asc_of {l : List Nat} (h : l.Pairwise (· ≤ ·)) (n : l.Nodup) : Asc l := (h.and n).imp fun h => by have := h.2; omega
theorem sortN_srt (l : List Nat) : sortN l = srt l := le_uniq ((sortN_perm l).trans (srt_perm l).symm) (sortN_le l) (srt_le l)
theorem asc_sortN {l : List Nat} (n : l.Nodup) : Asc (sortN l) := asc_of (sortN_le l) ((sortN_perm l).nodup_iff.mpr n)
end IL
namespace IL
open PySem
section
variable {cf : Nat → List D → List Ob → CR} {w w1 w2 w3 : Wd} {e a : E} {i : Nat} {ss : Ss} {Q : Flow → Wd → Prop} {K : D × Bool → Wd → Prop}
/-! ### with a wish -/
theorem ss_set (h : Sat (Ev cf e w) fun x w1 => (decide (i < w1.e.length)) = true ∧ Sat (Runs cf ss (w1.putF i x.1 x.2)) Q) : Sat (Runs cf (.cons (.set i e) ss) w) Q := by
  obtain ⟨x, w1, h1, h2, h3⟩ := sat_ex h
  exact sat_set h1 h2 rfl h3
theorem ss_ret (h : Sat (Ev cf e w) fun x w1 => Q (.rt x.1 x.2) w1) : Sat (Runs cf (.cons (.ret e) ss) w) Q := by
  obtain ⟨x, w1, h1, h2⟩ := sat_ex h
  exact sat_ret h1 h2
theorem se_b1 {f : B1} (h : Sat (Ev cf a w) fun x w1 => ∃ d, b1D f x.1 = some d ∧ K (d, isFr d) w1) : Sat (Ev cf (.b1 f a) w) K := by
  obtain ⟨x, w1, h1, d, h2, h3⟩ := sat_ex h
  exact eq_sat (ev_b1 h1 h2) h3
theorem se_comp {α : Type} {own : List Nat} {g : Tg} {it : It} {oc : OT} {enc : α → D} {L : List α} {e0 : List Sl} {asg : α → List Sl} (P : List Ob → Prop) (Rl : α → Option D → Prop) (hi : EvI cf it w = .ok (L.map enc) w1) (hp : P w1.s) (hl : L.length ≤ lim) (hz : freezeE own w1.e = w1.e) (h0 : hideE own w1.e = e0)
    (ha : ∀ x ∈ L, ∀ s, asgT g (enc x) ⟨e0, s⟩ = some ⟨asg x, s⟩) (hh : ∀ x ∈ L, hideE own (asg x) = e0)
    (hb : ∀ x ∈ L, ∀ s, P s → ∃ k s1, EvC cf oc ⟨asg x, s⟩ = .ok k ⟨asg x, s1⟩ ∧ (k = false → P s1 ∧ Rl x none) ∧ (k = true → ∃ d fr s2, Ev cf e ⟨asg x, s1⟩ = .ok (d, fr) ⟨asg x, s2⟩ ∧ P s2 ∧ Rl x (some d)))
    (hk : ∀ ds s', P s' → FM Rl L ds → K (.lst ds, true) ⟨w1.e, s'⟩) : Sat (Ev cf (.comp own g it oc e) w) K := by
  obtain ⟨ds, s', h1, h2, h3⟩ := ev_compE P Rl hi hp hl hz h0 ha hh hb
  exact eq_sat h1 (hk ds s' h2 h3)
end
theorem eqS_trans {a b c : List Sl} (h : a = b) (k : b = c) : a = c := h.trans k
end IL
namespace IL
open PySem
/-! ### equality of trees -/
theorem oks_map {α : Type} {f : α → D} {n : Nat} : ∀ {L : List α}, (∀ x ∈ L, D.ok n (f x) = true) → D.oks n (L.map f) = true
  | [], _ => by simp [D.oks]
  | x :: L, h => by
    rw [List.map_cons]
    simp only [D.oks, Bool.and_eq_true]
    exact ⟨h x List.mem_cons_self, oks_map fun y m => h y (List.mem_cons_of_mem _ m)⟩
theorem ok_nD {n k : Nat} : D.ok n (nD k) = true := ok_int
theorem ok_tN {n : Nat} {l : List Nat} : D.ok (n + 1) (tN l) = true := by
  show D.ok (n + 1) (.tup (l.map nD)) = true
  simp only [D.ok]
  exact oks_map fun _ _ => ok_nD
theorem ok_lN {n : Nat} {l : List Nat} : D.ok (n + 1) (lN l) = true := by
  show D.ok (n + 1) (.lst (l.map nD)) = true
  simp only [D.ok]
  exact oks_map fun _ _ => ok_nD
theorem ok_lT {n : Nat} {l : List (List Nat)} : D.ok (n + 2) (lT l) = true := by
  show D.ok (n + 2) (.lst (l.map tN)) = true
  simp only [D.ok]
  exact oks_map fun _ _ => ok_tN
theorem pys_map {α : Type} {f : α → D} {g : α → PyData} (h : ∀ x, (f x).py = some (g x)) : ∀ L : List α, D.pys (L.map f) = some (L.map g)
  | [] => by simp [D.pys]
  | x :: L => by rw [List.map_cons]; simp only [D.pys, h, pys_map h L]; rfl
def gN (n : Nat) : PyData := .int n
def gT (l : List Nat) : PyData := .tuple (l.map gN)
theorem py_tN (l : List Nat) : (tN l).py = some (gT l) := by
  show (D.tup (l.map nD)).py = _
  simp only [D.py, pys_map (f := nD) (g := gN) (fun _ => rfl)]
  rfl
theorem eqvAll_map {α : Type} [DecidableEq α] {g : α → PyData} (h : ∀ x y, PyData.eqv (g x) (g y) = decide (x = y)) : ∀ a b : List α, PyData.eqvAll (a.map g) (b.map g) = decide (a = b)
  | [], [] => by simp [PyData.eqvAll]
  | [], _ :: _ => by simp [PyData.eqvAll]
  | _ :: _, [] => by simp [PyData.eqvAll]
  | x :: a, y :: b => by
    rw [List.map_cons, List.map_cons]
    simp only [PyData.eqvAll, h, eqvAll_map h a b]
    by_cases e : x = y <;> by_cases e2 : a = b <;> simp [e, e2]
theorem eqv_gN (x y : Nat) : PyData.eqv (gN x) (gN y) = decide (x = y) := by
  show PyData.eqv (.int x) (.int y) = _
  simp only [PyData.eqv]
  by_cases h : x = y
  · simp [h]
  · have : ¬ (x : Int) = y := by omega
    simp [h, this]
theorem eqv_gT (a b : List Nat) : PyData.eqv (gT a) (gT b) = decide (a = b) := by
  show PyData.eqv (.tuple _) (.tuple _) = _
  simp only [PyData.eqv]
  exact eqvAll_map eqv_gN a b
theorem eqD_tN (a b : List Nat) : eqD (tN a) (tN b) = decide (a = b) := by
  unfold eqD; rw [py_tN, py_tN]; exact eqv_gT a b
theorem eqN_of {x y : D} (hx : D.ok 60 x = true) (hy : D.ok 60 y = true) (h : ∀ s, x ≠ .str s) : eqN x y = some (eqD x y) := by
  unfold eqN
  split
  · exact absurd rfl (h _)
  · rw [hx, hy]; rfl
theorem cmp_eq_tN {a b : List Nat} : cmpD .eq (tN a) (tN b) = some (decide (a = b)) := by
  show eqN (tN a) (tN b) = _
  rw [eqN_of ok_tN ok_tN (fun _ z => nomatch z), eqD_tN]
theorem cmp_ne_tN {a b : List Nat} : cmpD .ne (tN a) (tN b) = some (!decide (a = b)) := by
  show (eqN (tN a) (tN b)).map not = _
  rw [eqN_of ok_tN ok_tN (fun _ z => nomatch z), eqD_tN]; rfl
theorem eqD_lst {α : Type} [DecidableEq α] {f : α → D} {g : α → PyData} (hf : ∀ x, (f x).py = some (g x)) (hg : ∀ x y, PyData.eqv (g x) (g y) = decide (x = y)) (a b : List α) : eqD (.lst (a.map f)) (.lst (b.map f)) = decide (a = b) := by
  unfold eqD
  have e : ∀ l : List α, (D.lst (l.map f)).py = some (.list (l.map g)) := fun l => by simp only [D.py, pys_map hf]
  rw [e, e]
  simp only [PyData.eqv]
  exact eqvAll_map hg a b
theorem cmp_eq_lN {a b : List Nat} : cmpD .eq (lN a) (lN b) = some (decide (a = b)) := by
  show eqN (lN a) (lN b) = _
  rw [eqN_of ok_lN ok_lN (fun _ z => nomatch z)]
  congr 1; exact eqD_lst (g := gN) (fun _ => rfl) eqv_gN a b
theorem cmp_ne_lN {a b : List Nat} : cmpD .ne (lN a) (lN b) = some (!decide (a = b)) := by
  show (eqN (lN a) (lN b)).map not = _
  rw [eqN_of ok_lN ok_lN (fun _ z => nomatch z), show eqD (lN a) (lN b) = decide (a = b) from eqD_lst (g := gN) (fun _ => rfl) eqv_gN a b]; rfl
theorem cmp_eq_lT {a b : List (List Nat)} : cmpD .eq (lT a) (lT b) = some (decide (a = b)) := by
  show eqN (lT a) (lT b) = _
  rw [eqN_of ok_lT ok_lT (fun _ z => nomatch z)]
  congr 1; exact eqD_lst (g := gT) py_tN eqv_gT a b
def gR (p : Nat × List Nat) : PyData := .tuple [gN p.1, gT p.2]
theorem py_rdD (p : Nat × List Nat) : (rdD p).py = some (gR p) := by
  show (D.tup [nD p.1, tN p.2]).py = _
  simp only [D.py, D.pys, py_tN]; rfl
theorem eqv_gR (a b : Nat × List Nat) : PyData.eqv (gR a) (gR b) = decide (a = b) := by
  show PyData.eqv (.tuple _) (.tuple _) = _
  simp only [PyData.eqv, PyData.eqvAll, eqv_gN, eqv_gT]
  obtain ⟨a1, a2⟩ := a
  obtain ⟨b1, b2⟩ := b
  by_cases e : a1 = b1 <;> by_cases e2 : a2 = b2 <;> simp [e, e2]
theorem ok_rdD {n : Nat} {p : Nat × List Nat} : D.ok (n + 2) (rdD p) = true := by
  show D.ok (n + 2) (.tup [nD p.1, tN p.2]) = true
  simp only [D.ok, D.oks, ok_nD, ok_tN]; rfl
theorem eqDs_map {α : Type} [DecidableEq α] {f : α → D} {g : α → PyData} (hf : ∀ x, (f x).py = some (g x)) (hg : ∀ x y, PyData.eqv (g x) (g y) = decide (x = y)) (a b : List α) : eqDs (a.map f) (b.map f) = decide (a = b) := by
  unfold eqDs
  rw [pys_map hf, pys_map hf]
  exact eqvAll_map hg a b
theorem cmp_eq_bk {a b : Bk} : cmpD .eq (bkD a) (bkD b) = some (decide (a.dem = b.dem) && decide (a.rd = b.rd)) := by
  show (if okDs (a.dem.map nD) && okDs (a.rd.map rdD) && (okDs (b.dem.map nD) && okDs (b.rd.map rdD)) then some (eqDs (a.dem.map nD) (b.dem.map nD) && eqDs (a.rd.map rdD) (b.rd.map rdD)) else none) = _
  have h1 : ∀ l : List Nat, okDs (l.map nD) = true := fun l => oks_map fun _ _ => ok_nD
  have h2 : ∀ l : List (Nat × List Nat), okDs (l.map rdD) = true := fun l => oks_map fun _ _ => ok_rdD
  rw [h1, h1, h2, h2, eqDs_map (g := gN) (fun _ => rfl) eqv_gN, eqDs_map py_rdD eqv_gR]; rfl
theorem ix_last {l : List Nat} (h : l ≠ []) : ixD (tN l) (.int (-1)) = some (nD (l.getLast h)) := by
  show (ixN (l.map nD).length (-1)).bind _ = _
  have hp : 0 < l.length := List.length_pos_iff.mpr h
  have : ixN (l.map nD).length (-1) = some (l.length - 1) := by
    rw [List.length_map]
    unfold ixN L2.ixN
    first
      | (rw [if_neg (by omega), if_pos (by omega)]; congr 1; omega)
      | (simp; omega)
      | (split <;> first | omega | (congr 1; omega) | (split <;> first | omega | (congr 1; omega)))
  rw [this]
  show (l.map nD)[l.length - 1]? = _
  rw [List.getElem?_map, List.getLast_eq_getElem, List.getElem?_eq_getElem (by omega)]; rfl
section
variable {cf : Nat → List D → List Ob → CR} {w w1 w2 w3 : Wd} {e a b : E} {x y : D × Bool} {i : Nat} {ss t u : Ss} {c : T} {Q : Flow → Wd → Prop}
/-- a slot is read for good, a cell or a value -/
theorem ev_varS {d : D} (h : w.e[i]? = some (.cell d) ∨ w.e[i]? = some (.val d)) : Ev cf (.var i) w = .ok (d, false) ⟨w.e.set i (.val d), w.s⟩ := by
  rcases h with h | h
  · exact ev_varc h
  · rw [ev_var h]
    congr 1
    obtain ⟨hl, he⟩ := List.getElem?_eq_some_iff.mp h
    have : w.e.set i (.val d) = w.e := by rw [← he]; exact List.set_getElem_self hl
    rw [this]
/-! ### a Book is made -/
theorem ev_mk {f : Nat} {ds rs : List D} {s : List Ob} (ha : Ev cf a w = .ok x w1) (hb : Ev cf b w1 = .ok y w2) (hc : cf f [.me, x.1, y.1] w2.s = .exn 7 (some (.tup [.lst ds, .lst rs])) s) (hk : (fixDs ds && fixDs rs && noMe x.1 && noMe y.1 && w2.s.all noMeO && s.all noMeO) = true) : Ev cf (.mk f a b) w = .ok (.book ds rs, false) ⟨w2.e, s⟩ := by
  simp only [Ev_def] at *
  show (ev cf a w).bind _ = _
  rw [ha]; show (ev cf b w1).bind _ = _
  rw [hb]; show (match cf f [.me, x.1, y.1] w2.s with
    | .exn 7 (some (.tup [.lst ds, .lst rs])) s => if fixDs ds && fixDs rs && noMe x.1 && noMe y.1 && w2.s.all noMeO && s.all noMeO then R.ok (D.book ds rs, false) { w2 with s := s } else .bad
    | _ => .bad) = _
  rw [hc]
  show (if (fixDs ds && fixDs rs && noMe x.1 && noMe y.1 && w2.s.all noMeO && s.all noMeO) = true then _ else _) = _
  rw [if_pos hk]
theorem runs_ite0 (hc : EvT cf c w = .ok false w1) : Runs cf (.cons (.ite c t .nil) ss) w = Runs cf ss w1 := by
  simp only [EvT_def, Runs_def] at *
  show ((evT cf c w).bind _).bind _ = _
  rw [hc]; rfl
theorem runs_for {g : Tg} {it : It} {ds : List D} (I : List D → Wd → Prop) (hi : EvI cf it w = .ok ds w1) (h0 : I ds w1)
    (hs : ∀ d r w, I (d :: r) w → ∃ w' w'', asgT g d w = some w' ∧ Runs cf t w' = .ok .nx w'' ∧ I r w'') : ∃ w2, I [] w2 ∧ Runs cf (.cons (.for_ g it t) ss) w = Runs cf ss w2 := by
  simp only [EvI_def, Runs_def] at *
  have key : ∀ (ds : List D) (w : Wd), I ds w → ∃ w2, I [] w2 ∧ forL (fun d w => (R.opt (asgT g d w) w).bind fun w' _ => runs cf t w') ds w = .ok .nx w2 := by
    intro ds
    induction ds with
    | nil => intro w h; exact ⟨w, h, rfl⟩
    | cons d r ih =>
      intro w h
      obtain ⟨w', w'', h1, h2, h3⟩ := hs d r w h
      obtain ⟨w2, k1, k2⟩ := ih w'' h3
      refine ⟨w2, k1, ?_⟩
      show (((R.opt (asgT g d w) w).bind fun w' _ => runs cf t w').bind _) = _
      rw [h1]
      show ((runs cf t w').bind _) = _
      rw [h2]
      exact k2
  obtain ⟨w2, k1, k2⟩ := key ds w1 h0
  refine ⟨w2, k1, ?_⟩
  show ((evI cf it w).bind _).bind _ = _
  rw [hi]
  show (forL _ ds w1).bind _ = _
  rw [k2]
theorem runs_done (ha : Ev cf a w = .ok (x.1, true) w1) (hb : Ev cf b w1 = .ok (y.1, true) w2) (h1 : isMe (w1.get 0) = some ()) (h2 : isMe (w2.get 0) = some ()) : Runs cf (.cons (.done a b) ss) w = .exn 7 (some (.tup [x.1, y.1])) w2 := by
  simp only [Ev_def, Runs_def] at *
  show ((ev cf a w).bind _).bind _ = _
  rw [ha]; show (((R.opt (isMe (w1.get 0)) w1).bind _)).bind _ = _
  rw [h1]; show ((ev cf b w1).bind _).bind _ = _
  rw [hb]; show (((R.opt (isMe (w2.get 0)) w2).bind _)).bind _ = _
  rw [h2]; rfl
theorem call_exn {tab : List Df} {n f : Nat} {df : Df} {ds : List D} {s : List Ob} {k : Nat} {o : Option D} {w : Wd} (ht : tab[f]? = some df) (hl : (decide (ds.length = df.np)) = true) (h : Runs (Cal tab n) df.body ⟨ds.map .val ++ List.replicate (df.vars.length - df.np) .no, s⟩ = .exn k o w) : Cal tab (n + 1) f ds s = .exn k o w.s := by
  simp only [Runs_def, Cal_def, Cal_fun] at *
  unfold callF
  rw [ht]
  show (if ds.length = df.np then _ else _) = _
  rw [if_pos (of_decide_eq_true hl), h]; rfl
end
end IL
namespace IL
open PySem
section
variable {cf : Nat → List D → List Ob → CR} {w w1 w2 w3 : Wd} {e a b : E} {x y : D × Bool} {i m : Nat}
/-- an item of a boxed list -/
theorem ev_ixb {ds : List D} {d d0 : D} (h0 : w.get i = some d0) (hb : Ev cf b w = .ok y w2) (h1 : w2.get i = some (.ref m)) (hs : w2.s[m]? = some (.box ds)) (hd : ixD (.lst ds) y.1 = some d) : Ev cf (.ixv i b) w = .ok (d, false) w2 := by
  refine ev_ixv h0 hb h1 ?_
  unfold Wd.deref
  dsimp only
  rw [hs]; exact hd
end
end IL
namespace IL
open PySem
/-! ### ways, links -/
def wayD : Option (Nat × Nat) → D
  | none => .non
  | some (p, r) => .tup [nD p, nD r]
def wD (w : Ways) : D := .dct (w.map fun p => .inl (p.1 : Int)) (w.map fun p => wayD p.2)
def gD : Option Nat → D
  | none => .non
  | some y => nD y
def linkD (l : Link) : D := .tup [nD l.1, nD l.2.1, gD l.2.2]
theorem key_any (o : Nat) : ∀ w : Ways, ((w.map fun p => (Sum.inl (p.1 : Int) : L2.Key)).any fun x => decide (x = Sum.inl (o : Int))) = decide (o ∈ keysW w)
  | [] => rfl
  | p :: w => by
    have ih := key_any o w
    show (decide ((Sum.inl (p.1 : Int) : L2.Key) = Sum.inl (o : Int)) || _) = _
    rw [ih]
    have e : decide ((Sum.inl (p.1 : Int) : L2.Key) = Sum.inl (o : Int)) = decide (o = p.1) := decide_eq_decide.mpr ⟨fun h => by injection h with h; omega, fun h => by rw [h]⟩
    rw [e]
    show (decide (o = p.1) || decide (o ∈ keysW w)) = decide (o ∈ p.1 :: keysW w)
    by_cases h1 : o = p.1 <;> by_cases h2 : o ∈ keysW w <;> simp [h1, h2]
theorem cmp_notin_wD {o : Nat} {w : Ways} : cmpD .notin (nD o) (wD w) = some (!decide (o ∈ keysW w)) := by
  show (keyOf (nD o)).map (fun k => !(w.map fun p => (Sum.inl (p.1 : Int) : L2.Key)).any fun x => decide (x = k)) = _
  show some (!(w.map fun p => (Sum.inl (p.1 : Int) : L2.Key)).any fun x => decide (x = Sum.inl (o : Int))) = _
  rw [key_any]
theorem ix_wD {w : Ways} {x : Nat} (h : x ∈ keysW w) : ixD (wD w) (nD x) = some (wayD (wayAt w x)) := by
  show dctGet (w.map fun p => (Sum.inl (p.1 : Int) : L2.Key)) (w.map fun p => wayD p.2) (Sum.inl (x : Int)) = _
  induction w with
  | nil => cases h
  | cons p w ih =>
    show (if (Sum.inl (p.1 : Int) : L2.Key) = Sum.inl (x : Int) then some (wayD p.2) else _) = _
    by_cases e : p.1 = x
    · subst e
      rw [if_pos rfl]
      unfold wayAt; simp
    · rw [if_neg (fun z => e (by injection z with z; omega))]
      have hm : x ∈ keysW w := by
        rcases List.mem_cons.mp (show x ∈ p.1 :: keysW w from h) with z | z
        · exact absurd z.symm e
        · exact z
      rw [ih hm]
      unfold wayAt
      rw [List.find?_cons_of_neg (by simpa using e)]
theorem put_wD {w : Ways} {o : Nat} {v : Option (Nat × Nat)} (h : o ∉ keysW w) : dctPut (w.map fun p => (Sum.inl (p.1 : Int) : L2.Key)) (w.map fun p => wayD p.2) (Sum.inl (o : Int)) (wayD v) = (((w ++ [(o, v)]).map fun p => (Sum.inl (p.1 : Int) : L2.Key)), ((w ++ [(o, v)]).map fun p => wayD p.2)) := by
  unfold dctPut
  rw [key_any, decide_eq_false h, if_neg (by intro z; cases z), List.map_append, List.map_append]; rfl
theorem list_wD {w : Ways} : b1D .list (wD w) = some (lN (keysW w)) := by
  show some (D.lst ((w.map fun p => (Sum.inl (p.1 : Int) : L2.Key)).map keyD)) = some (D.lst ((w.map (·.1)).map nD))
  rw [List.map_map, List.map_map]; rfl
theorem cmp_ne_g {o : Nat} {g : Option Nat} : cmpD .ne (nD o) (gD g) = some (!decide (some o = g)) := by
  cases g with
  | none =>
    show (eqN (nD o) .non).map not = _
    rw [eqN_of ok_nD rfl (fun _ z => nomatch z)]
    have : eqD (nD o) .non = false := by show PyData.eqv (.int o) .none = false; simp [PyData.eqv]
    rw [this]; simp
  | some y =>
    show (eqN (nD o) (nD y)).map not = _
    rw [eqN_of ok_nD ok_nD (fun _ z => nomatch z), show eqD (nD o) (nD y) = decide ((o : Int) = y) from eqD_int _ _]
    show some (!decide ((o : Int) = y)) = _
    congr 2
    exact decide_eq_decide.mpr ⟨fun h => by congr 1; omega, fun h => by injection h with h; omega⟩
section
variable {cf : Nat → List D → List Ob → CR} {w w1 w2 w3 : Wd} {e : E} {x y : D × Bool} {i : Nat} {ss b : Ss} {Q : Flow → Wd → Prop}
/-- a dict of a slot's own is changed -/
theorem sat_setiD {ix : E} {ks : List L2.Key} {ds : List D} {d0 : D} {k : L2.Key} (he : Ev cf e w = .ok x w1) (h0 : w1.get i = some d0) (hx : Ev cf ix w1 = .ok y w2) (h1 : w2.e[i]? = some (.cell (.dct ks ds))) (hk : keyOf y.1 = some k) (hl : ds.length < lim) (q : Sat (Runs cf ss { w2 with e := w2.e.set i (.cell (.dct (dctPut ks ds k x.1).1 (dctPut ks ds k x.1).2)) }) Q) : Sat (Runs cf (.cons (.seti i ix e) ss) w) Q := by
  simp only [Ev_def, Runs_def] at *
  refine satr_cons ?_
  show Sat ((ev cf e w).bind _) _
  rw [he]
  show Sat ((R.opt (w1.get i) w1).bind _) _
  rw [h0]
  show Sat ((ev cf ix w1).bind _) _
  rw [hx]
  show Sat (match w2.e[i]? with
    | some (.cell (.lst ds)) => (R.opt (intOf y.1) w2).bind fun k w => (R.opt (ixN ds.length k) w).bind fun j w => R.ok Flow.nx { w with e := w.e.set i (.cell (.lst (ds.set j x.1))) }
    | some (.cell (.dct ks ds)) => (R.opt (keyOf y.1) w2).bind fun k w => if ds.length < lim then .ok .nx { w with e := w.e.set i (.cell (.dct (dctPut ks ds k x.1).1 (dctPut ks ds k x.1).2)) } else .bad
    | some (.val (.ref n)) => match w2.s[n]? with
      | some (.box ds) => (R.opt (intOf y.1) w2).bind fun k w => (R.opt (ixN ds.length k) w).bind fun j w => .ok .nx { w with s := w.s.set n (.box (ds.set j x.1)) }
      | _ => .bad
    | _ => .bad) _
  rw [h1]
  show Sat ((R.opt (keyOf y.1) w2).bind _) _
  rw [hk]
  show Sat (if ds.length < lim then _ else _) _
  rw [if_pos hl]
  exact nx_of q
theorem whL_invN {c : Wd → R Bool} {f : Wd → R Flow} {I : Nat → Wd → Prop} {Q : Flow → Wd → Prop} (hs : ∀ m w, I m w → Sat (c w) fun k w1 => if k then Sat (f w1) (fun fl w2 => match fl with
    | .nx => ∃ m', m' < m ∧ I m' w2
    | .rt d fr => Q (.rt d fr) w2) else Q .nx w1) : ∀ (n m : Nat) w, I m w → m < n → Sat (whL c f n w) Q
  | 0, m, w, _, h => absurd h (Nat.not_lt_zero _)
  | n + 1, m, w, h, hm => by
    show Sat ((c w).bind _) Q
    refine sat_bind (sat_mono (hs m w h) fun k w1 q => ?_)
    cases k with
    | false => exact q
    | true =>
      show Sat ((f w1).bind _) Q
      refine sat_bind (sat_mono q fun fl w2 q2 => ?_)
      cases fl with
      | nx =>
        obtain ⟨m', h1, h2⟩ := q2
        exact whL_invN hs n m' w2 h2 (by omega)
      | rt d fr => exact q2
/-- while, by an index that falls -/
theorem sat_whN {c : T} (I : Nat → Wd → Prop) {m0 : Nat} (h0 : I m0 w) (hm : m0 < 100000) (hs : ∀ m w, I m w → ∃ k w1, EvT cf c w = .ok k w1 ∧ (k = true → Sat (Runs cf b w1) (fun fl w2 => match fl with
    | .nx => ∃ m', m' < m ∧ I m' w2
    | .rt d fr => Q (.rt d fr) w2)) ∧ (k = false → Sat (Runs cf ss w1) Q)) : Sat (Runs cf (.cons (.wh c b) ss) w) Q := by
  simp only [EvT_def, Runs_def] at *
  refine satr_cons ?_
  show Sat (whL _ _ 100000 w) _
  refine whL_invN (I := I) (fun m w h => ?_) 100000 m0 w h0 hm
  obtain ⟨k, w1, h1, h2, h3⟩ := hs m w h
  rw [h1]
  cases k with
  | false => exact nx_of (h3 rfl)
  | true =>
    show Sat (runs cf b w1) _
    exact sat_mono (h2 rfl) fun fl w2 q2 => by cases fl <;> exact q2
end
end IL
namespace IL
open PySem
/-- a comprehension whose first turn makes a slot's list a value -/
theorem ev_comp0F {cf : Nat → List D → List Ob → CR} {w w1 : Wd} {e : E} {α : Type} {own : List Nat} {g : Tg} {it : It} {enc : α → D} {L : List α} {q : α → D} {asgA asgB : α → List Sl} {frA frB : α → Bool} {eA eB : List Sl} (hi : EvI cf it w = .ok (L.map enc) w1) (hl : L.length ≤ lim) (hz : freezeE own w1.e = w1.e) (h0 : hideE own w1.e = eA)
    (hA : ∀ x ∈ L, asgT g (enc x) ⟨eA, w1.s⟩ = some ⟨asgA x, w1.s⟩) (heA : ∀ x ∈ L, Ev cf e ⟨asgA x, w1.s⟩ = .ok (q x, frA x) ⟨asgB x, w1.s⟩)
    (hB : ∀ x ∈ L, asgT g (enc x) ⟨eB, w1.s⟩ = some ⟨asgB x, w1.s⟩) (heB : ∀ x ∈ L, Ev cf e ⟨asgB x, w1.s⟩ = .ok (q x, frB x) ⟨asgB x, w1.s⟩) (hh : ∀ x ∈ L, hideE own (asgB x) = eB) :
    ∃ e', Ev cf (.comp own g it .no e) w = .ok (.lst (L.map q), true) ⟨e', w1.s⟩ := by
  simp only [Ev_def, EvI_def] at *
  subst h0
  have kB : ∀ M : List α, (∀ x ∈ M, x ∈ L) → compL (fun d w => ((R.opt (asgT g d w) w).bind fun w' _ => (evC cf .no w').bind fun k w => if k then (ev cf e w).bind fun r w => .ok (some r.1) { w with e := hideE own w.e } else .ok none { w with e := hideE own w.e }).calm) (M.map enc) ⟨eB, w1.s⟩ = .ok (M.map q) ⟨eB, w1.s⟩ := by
    intro M
    induction M with
    | nil => intro _; rfl
    | cons x M ih =>
      intro hM
      have hx := hM x List.mem_cons_self
      show (((R.opt (asgT g (enc x) _) _).bind _).calm).bind _ = _
      rw [hB x hx]
      show (((ev cf e ⟨asgB x, w1.s⟩).bind _).calm).bind _ = _
      rw [heB x hx]
      show (compL _ (M.map enc) ⟨hideE own (asgB x), w1.s⟩).bind _ = _
      rw [hh x hx, ih fun y hy => hM y (List.mem_cons_of_mem _ hy)]
      rfl
  have kA : ∃ e', compL (fun d w => ((R.opt (asgT g d w) w).bind fun w' _ => (evC cf .no w').bind fun k w => if k then (ev cf e w).bind fun r w => .ok (some r.1) { w with e := hideE own w.e } else .ok none { w with e := hideE own w.e }).calm) (L.map enc) ⟨hideE own w1.e, w1.s⟩ = .ok (L.map q) ⟨e', w1.s⟩ := by
    cases L with
    | nil => exact ⟨_, rfl⟩
    | cons x M =>
      have hx : x ∈ x :: M := List.mem_cons_self
      refine ⟨eB, ?_⟩
      show (((R.opt (asgT g (enc x) _) _).bind _).calm).bind _ = _
      rw [hA x hx]
      show (((ev cf e ⟨asgA x, w1.s⟩).bind _).calm).bind _ = _
      rw [heA x hx]
      show (compL _ (M.map enc) ⟨hideE own (asgB x), w1.s⟩).bind _ = _
      rw [hh x hx, kB M fun y hy => List.mem_cons_of_mem _ hy]
      rfl
  obtain ⟨e', h⟩ := kA
  refine ⟨backE w1.e own e', ?_⟩
  show (evI cf it w).bind _ = _
  rw [hi]
  show (if (L.map enc).length ≤ lim then _ else _) = _
  rw [if_pos (by rw [List.length_map]; exact hl), hz]
  show (compL _ (L.map enc) ⟨hideE own w1.e, w1.s⟩).bind _ = _
  rw [h]
end IL

set_option Elab.async false
set_option linter.all false
set_option maxRecDepth 100000
set_option maxHeartbeats 1000000
namespace IL
open PySem
/-! ### repr of small things -/
theorem textFrom_up : ∀ (ts : List Str) (k : Nat) (acc : Str), (textFrom k acc ts).length ≤ acc.length + (ts.map fun t => t.length + 2).sum
  | [], k, acc => by show acc.length ≤ acc.length + _; omega
  | t :: r, k, acc => by
    have ih := textFrom_up r (k + 1) (acc ++ (if k > 0 then ", " else "" : String) ++ t)
    have e : (acc ++ (if k > 0 then ", " else "" : String) ++ t).length ≤ acc.length + 2 + t.length := by
      rw [strLen_append, strLen_append]
      split
      · show acc.length + 2 + t.length ≤ _; omega
      · show acc.length + 0 + t.length ≤ _; omega
    rw [List.map_cons, List.sum_cons]
    show (textFrom (k + 1) _ r).length ≤ _
    omega
theorem join_up (sep : Str) : ∀ ts : List Str, (Str.join sep ts).length ≤ (ts.map fun t => t.length + sep.length).sum
  | [] => Nat.zero_le _
  | [x] => by show x.length ≤ _; simp
  | x :: y :: r => by
    have ih := join_up sep (y :: r)
    show (x ++ sep ++ Str.join sep (y :: r)).length ≤ _
    rw [strLen_append, strLen_append, List.map_cons, List.sum_cons]
    omega
theorem sum_up {α : Type} {f : α → Nat} {B : Nat} : ∀ {l : List α}, (∀ x ∈ l, f x ≤ B) → (l.map f).sum ≤ l.length * B
  | [], _ => by simp
  | x :: l, h => by
    have ih := sum_up (l := l) fun y m => h y (List.mem_cons_of_mem _ m)
    have := h x List.mem_cons_self
    rw [List.map_cons, List.sum_cons, List.length_cons, Nat.add_mul]; omega
theorem shownAll_map : ∀ xs : List PyData, PyData.shownAll xs = xs.map PyData.shown
  | [] => by simp [PyData.shownAll]
  | x :: xs => by simp [PyData.shownAll, shownAll_map xs]
theorem showAll_map : ∀ {xs : List PyData}, (∀ x ∈ xs, x.showable = true) → PyData.showableAll xs = true
  | [], _ => by simp [PyData.showableAll]
  | x :: xs, h => by simp [PyData.showableAll, h x List.mem_cons_self, showAll_map fun y m => h y (List.mem_cons_of_mem _ m)]
/-- it can be told in at most so many signs -/
def Tx (n : Nat) (x : PyData) : Prop := x.showable = true ∧ x.shown.length ≤ n
theorem Tx.mono {n m : Nat} {x : PyData} (h : Tx n x) (hm : n ≤ m) : Tx m x := ⟨h.1, Nat.le_trans h.2 hm⟩
theorem tx_list {B n : Nat} {xs : List PyData} (h : ∀ x ∈ xs, Tx B x) (hn : 2 + xs.length * (B + 2) ≤ n) : Tx n (.list xs) := by
  refine ⟨by simp only [PyData.showable]; exact showAll_map fun x m => (h x m).1, ?_⟩
  simp only [PyData.shown, shownAll_map]
  show (textFrom 0 "[" (xs.map PyData.shown) ++ ("]" : Str)).length ≤ n
  rw [strLen_append]
  have h1 := textFrom_up (xs.map PyData.shown) 0 "["
  rw [List.map_map] at h1
  have h2 := sum_up (l := xs) (f := (fun t : Str => t.length + 2) ∘ PyData.shown) (B := B + 2) fun x m => Nat.add_le_add_right (h x m).2 2
  have e1 : ("[" : Str).length = 1 := by decide +kernel
  have e2 : ("]" : Str).length = 1 := by decide +kernel
  omega
theorem tx_tuple {B n : Nat} {xs : List PyData} (h : ∀ x ∈ xs, Tx B x) (hn : 3 + xs.length * (B + 2) ≤ n) : Tx n (.tuple xs) := by
  refine ⟨by simp only [PyData.showable]; exact showAll_map fun x m => (h x m).1, ?_⟩
  simp only [PyData.shown, shownAll_map]
  show (("(" : Str) ++ Str.join ", " (xs.map PyData.shown) ++ (if (xs.map PyData.shown).length == 1 then ",)" else ")" : String)).length ≤ n
  rw [strLen_append, strLen_append]
  have h1 := join_up ", " (xs.map PyData.shown)
  rw [List.map_map] at h1
  have e3 : (", " : Str).length = 2 := by decide +kernel
  rw [e3] at h1
  have h2 := sum_up (l := xs) (f := (fun t : Str => t.length + 2) ∘ PyData.shown) (B := B + 2) fun x m => Nat.add_le_add_right (h x m).2 2
  have e1 : ("(" : Str).length = 1 := by decide +kernel
  have e2 : (((if (xs.map PyData.shown).length == 1 then ",)" else ")" : String)) : Str).length ≤ 2 := by split <;> decide +kernel
  omega
theorem int_small : (List.range 401).all (fun k => decide (((toString ((k : Int) - 200) : String) : Str).length ≤ 6)) = true := by decide +kernel
theorem tx_int {i : Int} (h1 : -200 ≤ i) (h2 : i ≤ 200) : Tx 6 (.int i) := by
  refine ⟨?_, ?_⟩
  · simp only [PyData.showable]
    refine decide_eq_true ?_
    have : i.natAbs.log2 ≤ i.natAbs := Nat.log2_le_self _
    omega
  · simp only [PyData.shown]
    have := List.all_eq_true.mp int_small (i + 200).toNat (List.mem_range.mpr (by omega))
    have e : (((i + 200).toNat : Nat) : Int) - 200 = i := by omega
    rw [e] at this
    exact of_decide_eq_true this
theorem tx_bool (b : Bool) : Tx 6 (.bool b) := by
  refine ⟨rfl, ?_⟩
  cases b <;> simp only [PyData.shown] <;> decide +kernel
theorem tx_none : Tx 6 .none := ⟨rfl, by simp only [PyData.shown]; decide +kernel⟩
theorem tx_gN {n : Nat} (h : n ≤ 200) : Tx 6 (gN n) := tx_int (by omega) (by omega)
theorem tx_gT {l : List Nat} (h : ∀ x ∈ l, x ≤ 200) (hl : l.length ≤ 20) : Tx 200 (gT l) := by
  refine tx_tuple (B := 6) (fun x hx => ?_) (by rw [List.length_map]; omega)
  obtain ⟨n, hn, rfl⟩ := List.mem_map.mp hx
  exact tx_gN (h n hn)
theorem rp_of {d : D} {x : PyData} (h : d.py = some x) (ho : D.ok 60 d = true) (ht : Tx 90000 x) : b1D .repr d = some (.str x.shown) := by
  show (match d.py with | some x => if x.showable && D.ok 60 d && decide (x.shown.length ≤ lim) then some (D.str x.shown) else none | none => none) = _
  rw [h]
  show (if (x.showable && D.ok 60 d && decide (x.shown.length ≤ lim)) = true then _ else _) = _
  rw [if_pos]
  rw [ht.1, ho, decide_eq_true (Nat.le_trans ht.2 (by unfold lim; omega))]; rfl
theorem rp_int {i : Int} (h1 : -200 ≤ i) (h2 : i ≤ 200) : b1D .repr (.int i) = some (.str (PyData.int i).shown) := rp_of rfl ok_int ((tx_int h1 h2).mono (by omega))
theorem rp_bool {b : Bool} : b1D .repr (.bl b) = some (.str (PyData.bool b).shown) := rp_of rfl rfl ((tx_bool b).mono (by omega))
theorem rp_tN {l : List Nat} (h : ∀ x ∈ l, x ≤ 200) (hl : l.length ≤ 20) : b1D .repr (tN l) = some (.str (gT l).shown) := rp_of (py_tN l) ok_tN ((tx_gT h hl).mono (by omega))
def gTT (l : List (List Nat)) : PyData := .list (l.map gT)
theorem py_lT (l : List (List Nat)) : (lT l).py = some (gTT l) := by
  show (D.lst (l.map tN)).py = _
  simp only [D.py, pys_map (f := tN) (g := gT) py_tN]
  rfl
/-- rows that can be told -/
def Rsm (rows : List (List Nat)) : Prop := rows.length ≤ 20 ∧ ∀ r ∈ rows, r.length ≤ 20 ∧ ∀ x ∈ r, x ≤ 200
theorem tx_gTT {l : List (List Nat)} (h : Rsm l) : Tx 5000 (gTT l) := by
  refine tx_list (B := 200) (fun x hx => ?_) (by rw [List.length_map]; have := h.1; omega)
  obtain ⟨r, hr, rfl⟩ := List.mem_map.mp hx
  exact tx_gT (h.2 r hr).2 (h.2 r hr).1
theorem rp_lT {l : List (List Nat)} (h : Rsm l) : b1D .repr (lT l) = some (.str (gTT l).shown) := rp_of (py_lT l) ok_lT ((tx_gTT h).mono (by omega))
theorem rp_lT2 {a b : List (List Nat)} (h : Rsm a) (k : Rsm b) : b1D .repr (.lst [lT a, lT b]) = some (.str (PyData.list [gTT a, gTT b]).shown) := by
  refine rp_of ?_ ?_ ((tx_list (B := 5000) (fun x hx => ?_) (Nat.le_refl _)).mono ?_)
  · simp only [D.py, D.pys, py_lT]
  · simp only [D.ok, D.oks, ok_lT]; rfl
  · simp only [List.mem_cons, List.not_mem_nil, or_false] at hx
    rcases hx with rfl | rfl
    · exact tx_gTT h
    · exact tx_gTT k
  · show 2 + 2 * 5002 ≤ 90000; omega
theorem cmp_ne_str {s : Str} : cmpD .ne (.str s) (.str s) = some false := by
  show some (!(s == s)) = _
  rw [beq_self_eq_true]; rfl
theorem cmp_eq_str {s t : Str} : cmpD .eq (.str s) (.str t) = some (s == t) := rfl
end IL

set_option Elab.async false
set_option linter.all false
set_option maxRecDepth 100000
set_option maxHeartbeats 1000000
/-! A slot's own list may be taken for a value: what runs then, runs as well with the list. -/
namespace IL
open PySem
def LS : Sl → Sl → Prop
  | .no, b => b = .no
  | .cell d, b => b = .cell d
  | .val d, b => b = .val d ∨ (b = .cell d ∧ isFr d = true)
structure LE (e e' : List Sl) : Prop where
  len : e.length = e'.length
  at_ : ∀ (i : Nat) (a : Sl), e[i]? = some a → ∃ b, e'[i]? = some b ∧ LS a b
structure Lw (w w' : Wd) : Prop where
  st : w.s = w'.s
  sl : LE w.e w'.e
theorem ls_refl : ∀ a : Sl, LS a a
  | .no => rfl
  | .cell _ => rfl
  | .val _ => .inl rfl
theorem ls_trans : ∀ {a b c : Sl}, LS a b → LS b c → LS a c
  | .no, b, c, h, k => by cases h; exact k
  | .cell _, b, c, h, k => by cases h; exact k
  | .val d, b, c, h, k => by
    rcases h with rfl | ⟨rfl, hd⟩
    · exact k
    · cases k; exact .inr ⟨rfl, hd⟩
theorem le_refl (e : List Sl) : LE e e := ⟨rfl, fun i a h => ⟨a, h, ls_refl a⟩⟩
theorem le_trans {e f g : List Sl} (h : LE e f) (k : LE f g) : LE e g := ⟨h.len.trans k.len, fun i a ha => by
  obtain ⟨b, hb, h1⟩ := h.at_ i a ha
  obtain ⟨c, hc, h2⟩ := k.at_ i b hb
  exact ⟨c, hc, ls_trans h1 h2⟩⟩
theorem lw_refl (w : Wd) : Lw w w := ⟨rfl, le_refl _⟩
theorem lw_trans {u v w : Wd} (h : Lw u v) (k : Lw v w) : Lw u w := ⟨h.st.trans k.st, le_trans h.sl k.sl⟩
theorem le_set {e e' : List Sl} {a b : Sl} (h : LE e e') (k : LS a b) (i : Nat) : LE (e.set i a) (e'.set i b) := ⟨by rw [List.length_set, List.length_set]; exact h.len, fun j c hc => by
  rw [List.getElem?_set] at hc ⊢
  by_cases hi : i = j
  · subst hi
    rw [if_pos rfl] at hc ⊢
    rw [← h.len]
    by_cases hl : i < e.length
    · rw [if_pos hl] at hc ⊢
      cases hc
      exact ⟨b, rfl, k⟩
    · rw [if_neg hl] at hc; cases hc
  · rw [if_neg hi] at hc ⊢
    exact h.at_ j c hc⟩
theorem le_none {e e' : List Sl} {i : Nat} (h : LE e e') (k : e[i]? = none) : e'[i]? = none := by
  rw [List.getElem?_eq_none_iff] at k ⊢
  rw [← h.len]; exact k
theorem le_getD {e e' : List Sl} (h : LE e e') (i : Nat) : LS (e.getD i .no) (e'.getD i .no) := by
  rw [List.getD_eq_getElem?_getD, List.getD_eq_getElem?_getD]
  cases k : e[i]? with
  | none => rw [le_none h k]; exact rfl
  | some a => obtain ⟨b, hb, l⟩ := h.at_ i a k; rw [hb]; exact l
/-- results -/
def RR {α : Type} (r r' : R α) : Prop := match r with
  | .ok a w => ∃ w', r' = .ok a w' ∧ Lw w w'
  | .exn c x w => ∃ w', r' = .exn c x w' ∧ Lw w w'
  | .bad => True
theorem rr_ok {α : Type} {a : α} {w w' : Wd} (h : Lw w w') : RR (.ok a w) (.ok a w') := ⟨w', rfl, h⟩
theorem rr_bad {α : Type} {r : R α} : RR .bad r := trivial
theorem rr_bind {α β : Type} {r r' : R α} {k k' : α → Wd → R β} (h : RR r r') (hk : ∀ a w w', Lw w w' → RR (k a w) (k' a w')) : RR (r.bind k) (r'.bind k') := by
  cases r with
  | ok a w => obtain ⟨w', rfl, l⟩ := h; exact hk a w w' l
  | exn c x w => obtain ⟨w', rfl, l⟩ := h; exact ⟨w', rfl, l⟩
  | bad => trivial
theorem rr_opt {α : Type} {o : Option α} {w w' : Wd} (h : Lw w w') : RR (R.opt o w) (R.opt o w') := by
  cases o with
  | none => trivial
  | some a => exact rr_ok h
theorem rr_optq {α : Type} {o o' : Option α} {w w' : Wd} (h : Lw w w') (e : ∀ a, o = some a → o' = some a) : RR (R.opt o w) (R.opt o' w') := by
  cases o with
  | none => trivial
  | some a => rw [e a rfl]; exact rr_ok h
theorem rr_calm {α : Type} {r r' : R α} (h : RR r r') : RR r.calm r'.calm := by
  cases r with
  | ok a w => obtain ⟨w', rfl, l⟩ := h; exact rr_ok l
  | exn c x w => trivial
  | bad => trivial
theorem lw_put {w w' : Wd} (h : Lw w w') (i : Nat) (d : D) : Lw (w.put i d) (w'.put i d) := ⟨h.st, le_set h.sl (ls_refl _) i⟩
theorem lw_set {w w' : Wd} {a b : Sl} (h : Lw w w') (i : Nat) (k : LS a b) : Lw { w with e := w.e.set i a } { w' with e := w'.e.set i b } := ⟨h.st, le_set h.sl k i⟩
theorem lw_putF {w w' : Wd} (h : Lw w w') (i : Nat) (d : D) (fr : Bool) : Lw (w.putF i d fr) (w'.putF i d fr) := ⟨h.st, le_set h.sl (ls_refl _) i⟩
theorem lw_s {w w' : Wd} (h : Lw w w') (s : List Ob) : Lw { w with s := s } { w' with s := s } := ⟨rfl, h.sl⟩
theorem lw_e {w w' : Wd} {e e' : List Sl} (h : Lw w w') (k : LE e e') : Lw { w with e := e } { w' with e := e' } := ⟨h.st, k⟩
theorem rr_read {w w' : Wd} (h : Lw w w') (i : Nat) : RR (w.read i) (w'.read i) := by
  unfold Wd.read
  cases k : w.e[i]? with
  | none => rw [le_none h.sl k]; exact trivial
  | some a =>
    obtain ⟨b, hb, l⟩ := h.sl.at_ i a k
    rw [hb]
    cases a with
    | no => exact trivial
    | cell d => cases l; exact rr_ok (lw_put h i d)
    | val d =>
      rcases l with rfl | ⟨rfl, hd⟩
      · exact rr_ok h
      · refine ⟨_, rfl, h.st, ?_⟩
        have e : w.e = w.e.set i (.val d) := by
          apply List.ext_getElem?
          intro j
          rw [List.getElem?_set]
          by_cases hi : i = j
          · subst hi
            rw [if_pos rfl, k, if_pos (List.getElem?_eq_some_iff.mp k).1]
          · rw [if_neg hi]
        rw [e]
        exact le_set h.sl (ls_refl _) i
theorem get_eq {w w' : Wd} (h : Lw w w') (i : Nat) : w.get i = w'.get i := by
  unfold Wd.get
  cases k : w.e[i]? with
  | none => rw [le_none h.sl k]
  | some a =>
    obtain ⟨b, hb, l⟩ := h.sl.at_ i a k
    rw [hb]
    cases a with
    | no => cases l; rfl
    | cell d => cases l; rfl
    | val d => rcases l with rfl | ⟨rfl, hd⟩ <;> rfl
theorem rr_get {w w' : Wd} (h : Lw w w') (i : Nat) : RR (R.opt (w.get i) w) (R.opt (w'.get i) w') := by
  rw [get_eq h i]; exact rr_opt h
theorem rr_cl {w w' : Wd} (h : Lw w w') (i : Nat) : RR (R.opt (w.cl i) w) (R.opt (w'.cl i) w') := by
  refine rr_optq h fun ds hds => ?_
  unfold Wd.cl at hds ⊢
  cases k : w.e[i]? with
  | none => rw [k] at hds; cases hds
  | some a =>
    obtain ⟨b, hb, l⟩ := h.sl.at_ i a k
    rw [k] at hds
    rw [hb]
    cases a with
    | no => cases hds
    | val d => cases hds
    | cell d => cases l; exact hds
theorem deref_eq {w w' : Wd} (h : Lw w w') (d : D) : w.deref d = w'.deref d := by
  unfold Wd.deref
  cases d <;> first | rfl | (rw [h.st])
theorem le_frz {e e' : List Sl} (h : LE e e') : ∀ vs : List Nat, LE (freezeE vs e) (freezeE vs e')
  | [] => h
  | v :: vs => by
    have ih := le_frz h vs
    show LE (frzAt (freezeE vs e) v) (frzAt (freezeE vs e') v)
    unfold frzAt
    cases k : (freezeE vs e)[v]? with
    | none => rw [le_none ih k]; exact ih
    | some a =>
      obtain ⟨b, hb, l⟩ := ih.at_ v a k
      rw [hb]
      cases a with
      | no => cases l; exact ih
      | cell d => cases l; exact le_set ih (ls_refl _) v
      | val d =>
        rcases l with rfl | ⟨rfl, hd⟩
        · exact ih
        · show LE (freezeE vs e) ((freezeE vs e').set v (.val d))
          have e1 : freezeE vs e = (freezeE vs e).set v (.val d) := by
            apply List.ext_getElem?
            intro j
            rw [List.getElem?_set]
            by_cases hi : v = j
            · subst hi
              rw [if_pos rfl, k, if_pos (List.getElem?_eq_some_iff.mp k).1]
            · rw [if_neg hi]
          rw [e1]
          exact le_set ih (ls_refl _) v
theorem le_hide {e e' : List Sl} (h : LE e e') : ∀ vs : List Nat, LE (hideE vs e) (hideE vs e')
  | [] => h
  | v :: vs => le_set (le_hide h vs) (ls_refl _) v
theorem le_back {o o' e e' : List Sl} (k : LE o o') (h : LE e e') : ∀ vs : List Nat, LE (backE o vs e) (backE o' vs e')
  | [] => h
  | v :: vs => le_set (le_back k h vs) (le_getD k v) v
def AO (o o' : Option Wd) : Prop := ∀ u, o = some u → ∃ u', o' = some u' ∧ Lw u u'
theorem ao_none {o : Option Wd} : AO none o := fun _ h => nomatch h
theorem ao_bind {o o' : Option Wd} {k k' : Wd → Option Wd} (h : AO o o') (hk : ∀ u u', Lw u u' → AO (k u) (k' u')) : AO (o.bind k) (o'.bind k') := by
  cases o with
  | none => exact ao_none
  | some u => obtain ⟨u', rfl, l⟩ := h u rfl; exact hk u u' l
theorem rr_asg0 : ∀ (g : Tg) (d : D) {w w' : Wd}, Lw w w' → AO (asgT g d w) (asgT g d w') := by
  intro g
  induction g with
  | nm i =>
    intro d w w' h
    show AO (if i < w.e.length then some (w.put i d) else none) (if i < w'.e.length then some (w'.put i d) else none)
    rw [← h.sl.len]
    by_cases hi : i < w.e.length
    · rw [if_pos hi, if_pos hi]; intro u e; cases e; exact ⟨_, rfl, lw_put h i d⟩
    · rw [if_neg hi]; exact ao_none
  | t2 a b iha ihb =>
    intro d w w' h
    unfold asgT
    split
    · exact ao_bind (iha _ h) fun u u' l => ihb _ l
    · exact ao_bind (iha _ h) fun u u' l => ihb _ l
    · exact ao_none
  | t3 a b c iha ihb ihc =>
    intro d w w' h
    unfold asgT
    split
    · exact ao_bind (iha _ h) fun u u' l => ao_bind (ihb _ l) fun u u' l => ihc _ l
    · exact ao_none
  | t4 a b c e iha ihb ihc ihe =>
    intro d w w' h
    unfold asgT
    split
    · exact ao_bind (iha _ h) fun u u' l => ao_bind (ihb _ l) fun u u' l => ao_bind (ihc _ l) fun u u' l => ihe _ l
    · exact ao_none
theorem rr_asg {w w' : Wd} (h : Lw w w') (g : Tg) (d : D) : AO (asgT g d w) (asgT g d w') := rr_asg0 g d h
theorem rr_asgK {β : Type} {w w' : Wd} {g : Tg} {d : D} {k k' : Wd → Wd → R β} (h : Lw w w') (hk : ∀ u u', Lw u u' → RR (k u w) (k' u' w')) : RR ((R.opt (asgT g d w) w).bind k) ((R.opt (asgT g d w') w').bind k') := by
  have := rr_asg h g d
  cases e : asgT g d w with
  | none => trivial
  | some u =>
    obtain ⟨u', e', l⟩ := this u e
    rw [e']
    exact hk u u' l
theorem rr_compL {f f' : D → Wd → R (Option D)} (h : ∀ d w w', Lw w w' → RR (f d w) (f' d w')) : ∀ (ds : List D) (w w' : Wd), Lw w w' → RR (compL f ds w) (compL f' ds w')
  | [], _, _, l => rr_ok l
  | d :: ds, w, w', l => rr_bind (h d w w' l) fun o w w' l => rr_bind (rr_compL h ds w w' l) fun rs w w' l => rr_ok l
theorem rr_forL {f f' : D → Wd → R Flow} (h : ∀ d w w', Lw w w' → RR (f d w) (f' d w')) : ∀ (ds : List D) (w w' : Wd), Lw w w' → RR (forL f ds w) (forL f' ds w')
  | [], _, _, l => rr_ok l
  | d :: ds, w, w', l => rr_bind (h d w w' l) fun fl w w' l => by
    cases fl with
    | nx => exact rr_forL h ds w w' l
    | rt d fr => exact rr_ok l
theorem rr_whL {c c' : Wd → R Bool} {f f' : Wd → R Flow} (hc : ∀ w w', Lw w w' → RR (c w) (c' w')) (h : ∀ w w', Lw w w' → RR (f w) (f' w')) : ∀ (n : Nat) (w w' : Wd), Lw w w' → RR (whL c f n w) (whL c' f' n w')
  | 0, _, _, _ => trivial
  | n + 1, w, w', l => by
    refine rr_bind (hc w w' l) fun b w w' l => ?_
    cases b
    · exact rr_ok l
    · refine rr_bind (h w w' l) fun fl w w' l => ?_
      cases fl
      · exact rr_whL hc h n w w' l
      · exact rr_ok l
theorem rr_if {α : Type} {p : Prop} [Decidable p] {r r' s s' : R α} (h : p → RR r r') (k : ¬p → RR s s') : RR (if p then r else s) (if p then r' else s') := by
  by_cases hp : p
  · rw [if_pos hp, if_pos hp]; exact h hp
  · rw [if_neg hp, if_neg hp]; exact k hp
theorem slot_eq {w w' : Wd} (h : Lw w w') {o : Option Nat} : slotNo w o = slotNo w' o := by
  cases o with
  | none => rfl
  | some i =>
    unfold slotNo
    dsimp only
    cases k : w.e[i]? with
    | none => rw [le_none h.sl k]
    | some a =>
      obtain ⟨b, hb, l⟩ := h.sl.at_ i a k
      rw [hb]
      cases a with
      | no => cases l; rfl
      | cell d => cases l; rfl
      | val d => rcases l with rfl | ⟨rfl, hd⟩ <;> rfl
theorem sim_SE {x : Option D} {e : SE} {w w' : Wd} (h : Lw w w') : RR (seV x e w) (seV x e w') := by
  cases e with
  | con d => exact rr_if (fun _ => rr_ok h) fun _ => rr_bad
  | var i => exact rr_bind (rr_read h i) fun _ _ _ h => rr_ok h
  | fld => exact rr_bind (rr_opt h) fun _ _ _ h => rr_ok h
  | lstF s => exact rr_bind (rr_opt h) fun _ _ _ h => rr_ok h
  | catF s => exact rr_bind (rr_opt h) fun _ _ _ h => rr_bind (rr_opt h) fun _ _ _ h => rr_bind (rr_opt h) fun _ _ _ h => rr_ok h
theorem sim_Su {x : Option D} {e : Su} {w w' : Wd} (h : Lw w w') : RR (runSu x e w) (runSu x e w') := by
  cases e with
  | ret e => exact rr_bind (sim_SE h) fun _ _ _ h => rr_ok h
  | app i e => exact rr_bind (rr_cl h i) fun _ _ _ h => rr_bind (sim_SE h) fun _ _ _ h => rr_bind (rr_cl h i) fun _ _ _ h => rr_if (fun _ => rr_ok (lw_set h i (ls_refl _))) fun _ => rr_bad
section
variable (cf : Nat → List D → List Ob → CR)
mutual
theorem sim_E : ∀ (e : E) {w w' : Wd}, Lw w w' → RR (ev cf e w) (ev cf e w')
  | .var i, w, w', h => rr_bind (rr_read h i) fun _ _ _ h => rr_ok h
  | .int i, w, w', h => rr_ok h
  | .str i, w, w', h => rr_ok h
  | .bl i, w, w', h => rr_ok h
  | .non, w, w', h => rr_ok h
  | .glob _ _, w, w', h => rr_ok h
  | .bin o a b, w, w', h => rr_bind (sim_E a h) fun x _ _ h => rr_bind (sim_E b h) fun y _ _ h => rr_bind (rr_opt h) fun _ _ _ h => rr_ok h
  | .neg a, w, w', h => rr_bind (sim_E a h) fun x _ _ h => rr_bind (rr_opt h) fun _ _ _ h => rr_ok h
  | .not a, w, w', h => rr_bind (sim_E a h) fun x _ _ h => rr_bind (rr_opt h) fun _ _ _ h => rr_ok h
  | .cmp o a b, w, w', h => rr_bind (sim_E a h) fun x _ _ h => rr_bind (sim_E b h) fun y _ _ h => rr_bind (rr_opt h) fun _ _ _ h => rr_ok h
  | .cmpv o i b, w, w', h => rr_bind (rr_get h i) fun _ _ _ h => rr_bind (sim_E b h) fun y _ _ h => rr_bind (rr_get h i) fun _ _ _ h => rr_bind (rr_opt h) fun _ _ _ h => rr_ok h
  | .inv o a i, w, w', h => rr_bind (sim_E a h) fun x _ _ h => rr_bind (rr_get h i) fun _ _ _ h => rr_bind (rr_opt h) fun _ _ _ h => rr_ok h
  | .chain o p a b c, w, w', h => rr_bind (sim_E a h) fun x _ _ h => rr_bind (sim_E b h) fun y _ _ h => rr_bind (rr_opt h) fun k _ _ h =>
      rr_if (fun _ => rr_bind (sim_E c h) fun z _ _ h => rr_bind (rr_opt h) fun _ _ _ h => rr_ok h) fun _ => rr_ok h
  | .and a b, w, w', h => rr_bind (sim_E a h) fun x _ _ h => rr_bind (rr_opt h) fun k _ _ h => rr_if (fun _ => rr_bind (sim_E b h) fun _ _ _ h => rr_ok h) fun _ => rr_ok h
  | .or a b, w, w', h => rr_bind (sim_E a h) fun x _ _ h => rr_bind (rr_opt h) fun k _ _ h => rr_if (fun _ => rr_ok h) fun _ => rr_bind (sim_E b h) fun _ _ _ h => rr_ok h
  | .ite c a b, w, w', h => rr_bind (sim_T c h) fun k _ _ h => rr_if (fun _ => sim_E a h) fun _ => sim_E b h
  | .lst es, w, w', h => rr_bind (sim_Es es h) fun _ _ _ h => rr_if (fun _ => rr_ok h) fun _ => rr_bad
  | .tup es, w, w', h => rr_bind (sim_Es es h) fun _ _ _ h => rr_if (fun _ => rr_ok h) fun _ => rr_bad
  | .dct0, w, w', h => rr_ok h
  | .dct1 k v, w, w', h => rr_bind (sim_E k h) fun x _ _ h => rr_bind (sim_E v h) fun y _ _ h => rr_bind (rr_opt h) fun _ _ _ h => rr_ok h
  | .ix a i, w, w', h => rr_bind (sim_E a h) fun x _ _ h => rr_bind (sim_E i h) fun y _ _ h => rr_bind (rr_opt h) fun _ _ _ h => rr_ok h
  | .ixv i a, w, w', h => rr_bind (rr_get h i) fun _ _ _ h => rr_bind (sim_E a h) fun y _ _ h => rr_bind (rr_get h i) fun x u u' h => by
      rw [deref_eq h]
      exact rr_bind (rr_opt h) fun _ _ _ h => rr_ok h
  | .sl a lo hi, w, w', h => rr_bind (sim_E a h) fun x _ _ h => rr_bind (sim_O lo h) fun y _ _ h => rr_bind (sim_O hi h) fun y _ _ h => rr_bind (rr_opt h) fun _ _ _ h => rr_ok h
  | .rev a, w, w', h => rr_bind (sim_E a h) fun x _ _ h => rr_bind (rr_opt h) fun _ _ _ h => rr_ok h
  | .comp own g it c e, w, w', h => rr_bind (sim_I it h) fun xs u u' h => rr_if (fun _ => rr_bind (rr_compL (fun d v v' h => by exact rr_calm (rr_asgK h fun u u' h => rr_bind (sim_C c h) fun k _ _ h => rr_if (fun _ => rr_bind (sim_E e h) fun r _ _ h => rr_ok (lw_e h (le_hide h.sl own))) fun _ => rr_ok (lw_e h (le_hide h.sl own)))) xs _ _ (lw_e h (le_hide (le_frz h.sl own) own))) fun rs v v' k => rr_ok (lw_e k (le_back (le_frz h.sl own) k.sl own))) fun _ => rr_bad
  | .call f es, w, w', h => rr_bind (sim_Es es h) fun ds u u' h => by
      rw [h.st]
      cases cf f ds u'.s with
      | ok d fr s => exact rr_ok (lw_s h s)
      | exn c x s => exact ⟨_, rfl, lw_s h s⟩
      | bad => exact rr_bad
  | .b1 f a, w, w', h => rr_bind (sim_E a h) fun x _ _ h => rr_bind (rr_opt h) fun _ _ _ h => rr_ok h
  | .lenv i, w, w', h => rr_bind (rr_get h i) fun _ _ _ h => rr_bind (rr_opt h) fun _ _ _ h => rr_ok h
  | .max2 a b, w, w', h => rr_bind (sim_E a h) fun x _ _ h => rr_bind (sim_E b h) fun y _ _ h => rr_bind (rr_opt h) fun _ _ _ h => rr_bind (rr_opt h) fun _ _ _ h => rr_ok h
  | .min2 a b, w, w', h => rr_bind (sim_E a h) fun x _ _ h => rr_bind (sim_E b h) fun y _ _ h => rr_bind (rr_opt h) fun _ _ _ h => rr_bind (rr_opt h) fun _ _ _ h => rr_ok h
  | .listR a, w, w', h => rr_bind (sim_E a h) fun x _ _ h => rr_bind (rr_opt h) fun _ _ _ h => rr_if (fun _ => rr_ok h) fun _ => rr_bad
  | .tupR a, w, w', h => rr_bind (sim_E a h) fun x _ _ h => rr_bind (rr_opt h) fun _ _ _ h => rr_if (fun _ => rr_ok h) fun _ => rr_bad
  | .sset a, w, w', h => rr_bind (sim_E a h) fun x _ _ h => rr_bind (rr_opt h) fun _ _ _ h => rr_if (fun _ => rr_ok h) fun _ => rr_bad
  | .isi t a, w, w', h => rr_bind (sim_E a h) fun x _ _ h => rr_bind (rr_opt h) fun _ _ _ h => rr_ok h
  | .dem a, w, w', h => rr_bind (sim_E a h) fun x _ _ h => by split <;> first | exact rr_ok h | exact rr_bad
  | .rdr a, w, w', h => rr_bind (sim_E a h) fun x _ _ h => by split <;> first | exact rr_ok h | exact rr_bad
  | .mk f a b, w, w', h => rr_bind (sim_E a h) fun x _ _ h => rr_bind (sim_E b h) fun y u u' h => by
      rw [h.st]
      split
      · exact rr_if (fun _ => rr_ok (lw_s h _)) fun _ => rr_bad
      · exact rr_bad
  | .pop i a, w, w', h => rr_bind (rr_cl h i) fun _ _ _ h => rr_bind (sim_E a h) fun y _ _ h => rr_bind (rr_cl h i) fun ds _ _ h => rr_bind (rr_opt h) fun k _ _ h => rr_bind (rr_opt h) fun j _ _ h => rr_bind (rr_opt h) fun d _ _ h =>
      rr_if (fun _ => rr_ok (lw_set h i (ls_refl _))) fun _ => rr_bad
  | .box es, w, w', h => rr_bind (sim_Es es h) fun ds u u' h => by
      rw [h.st]
      exact rr_if (fun _ => rr_ok (lw_s h _)) fun _ => rr_bad
theorem sim_Es : ∀ (e : Es) {w w' : Wd}, Lw w w' → RR (evs cf e w) (evs cf e w')
  | .nil, w, w', h => rr_ok h
  | .cons e es, w, w', h => rr_bind (sim_E e h) fun x _ _ h => rr_bind (sim_Es es h) fun _ _ _ h => rr_ok h
theorem sim_O : ∀ (e : O) {w w' : Wd}, Lw w w' → RR (evO cf e w) (evO cf e w')
  | .no, w, w', h => rr_ok h
  | .yes e, w, w', h => rr_bind (sim_E e h) fun x _ _ h => rr_bind (rr_opt h) fun _ _ _ h => rr_ok h
theorem sim_C : ∀ (e : OT) {w w' : Wd}, Lw w w' → RR (evC cf e w) (evC cf e w')
  | .no, w, w', h => rr_ok h
  | .yes e, w, w', h => sim_T e h
theorem sim_I : ∀ (e : It) {w w' : Wd}, Lw w w' → RR (evI cf e w) (evI cf e w')
  | .seq e, w, w', h => rr_bind (sim_E e h) fun x _ _ h => rr_opt h
  | .r1 e, w, w', h => rr_bind (sim_E e h) fun x _ _ h => rr_bind (rr_opt h) fun _ _ _ h => rr_if (fun _ => rr_ok h) fun _ => rr_bad
  | .r2 a b, w, w', h => rr_bind (sim_E a h) fun x _ _ h => rr_bind (sim_E b h) fun x _ _ h => rr_bind (rr_opt h) fun _ _ _ h => rr_bind (rr_opt h) fun _ _ _ h => rr_if (fun _ => rr_ok h) fun _ => rr_bad
  | .enm e, w, w', h => rr_bind (sim_E e h) fun x _ _ h => by split <;> first | exact rr_ok h | exact rr_bad
  | .zip a b, w, w', h => rr_bind (sim_E a h) fun x _ _ h => rr_bind (sim_E b h) fun x _ _ h => rr_opt h
theorem sim_T : ∀ (e : T) {w w' : Wd}, Lw w w' → RR (evT cf e w) (evT cf e w')
  | .and a b, w, w', h => rr_bind (sim_T a h) fun k _ _ h => rr_if (fun _ => sim_T b h) fun _ => rr_ok h
  | .or a b, w, w', h => rr_bind (sim_T a h) fun k _ _ h => rr_if (fun _ => rr_ok h) fun _ => sim_T b h
  | .not a, w, w', h => rr_bind (sim_T a h) fun k _ _ h => rr_ok h
  | .ev e, w, w', h => rr_bind (sim_E e h) fun k _ _ h => rr_opt h
  | .cmp o a b, w, w', h => rr_bind (sim_E a h) fun x _ _ h => rr_bind (sim_E b h) fun y _ _ h => rr_opt h
  | .cmpv o i b, w, w', h => rr_bind (rr_get h i) fun _ _ _ h => rr_bind (sim_E b h) fun y _ _ h => rr_bind (rr_get h i) fun _ _ _ h => rr_opt h
  | .inv o a i, w, w', h => rr_bind (sim_E a h) fun x _ _ h => rr_bind (rr_get h i) fun _ _ _ h => rr_opt h
  | .chain o p a b c, w, w', h => rr_bind (sim_E a h) fun x _ _ h => rr_bind (sim_E b h) fun y _ _ h => rr_bind (rr_opt h) fun k _ _ h =>
      rr_if (fun _ => rr_bind (sim_E c h) fun z _ _ h => rr_opt h) fun _ => rr_ok h
end
mutual
theorem sim_S : ∀ (s : S) {w w' : Wd}, Lw w w' → RR (runS cf s w) (runS cf s w')
  | .set i e, w, w', h => rr_bind (sim_E cf e h) fun x u u' h => by
      rw [h.sl.len]
      exact rr_if (fun _ => rr_ok (lw_putF h _ _ _)) fun _ => rr_bad
  | .setT g e, w, w', h => rr_bind (sim_E cf e h) fun x u u' h => rr_asgK h fun _ _ h => rr_ok h
  | .par2 i j a b, w, w', h => rr_bind (sim_E cf a h) fun x _ _ h => rr_bind (sim_E cf b h) fun y u u' h => by
      rw [h.sl.len]
      exact rr_if (fun _ => rr_ok (lw_putF (lw_putF h _ _ _) _ _ _)) fun _ => rr_bad
  | .par3 i j k a b c, w, w', h => rr_bind (sim_E cf a h) fun x _ _ h => rr_bind (sim_E cf b h) fun y _ _ h => rr_bind (sim_E cf c h) fun z u u' h => by
      rw [h.sl.len]
      exact rr_if (fun _ => rr_ok (lw_putF (lw_putF (lw_putF h _ _ _) _ _ _) _ _ _)) fun _ => rr_bad
  | .exp e, w, w', h => rr_bind (sim_E cf e h) fun x u u' h => rr_ok h
  | .app i e, w, w', h => rr_bind (rr_cl h i) fun _ _ _ h => rr_bind (sim_E cf e h) fun x _ _ h => rr_bind (rr_cl h i) fun ds _ _ h => rr_if (fun _ => rr_ok (lw_set h i (ls_refl _))) fun _ => rr_bad
  | .seti i ix e, w, w', h => rr_bind (sim_E cf e h) fun x _ _ h => rr_bind (rr_get h i) fun _ _ _ h => rr_bind (sim_E cf ix h) fun k u u' h => by
      cases q : u.e[i]? with
      | none => exact rr_bad
      | some a =>
        obtain ⟨b, hb, l⟩ := h.sl.at_ i a q
        rw [hb]
        cases a with
        | no => exact rr_bad
        | cell d =>
          cases l
          cases d <;> first
            | exact rr_bad
            | exact rr_bind (rr_opt h) fun k _ _ h => rr_bind (rr_opt h) fun j _ _ h => rr_ok (lw_set h i (ls_refl _))
            | exact rr_bind (rr_opt h) fun k _ _ h => rr_if (fun _ => rr_ok (lw_set h i (ls_refl _))) fun _ => rr_bad
        | val d =>
          rcases l with rfl | ⟨rfl, hd⟩
          · cases d <;> first
              | exact rr_bad
              | (dsimp only; rw [h.st]
                 split
                 · exact rr_bind (rr_opt h) fun k _ _ h => rr_bind (rr_opt h) fun j v v' h => rr_ok ⟨by show v.s.set _ _ = v'.s.set _ _; rw [h.st], h.sl⟩
                 · exact rr_bad)
          · cases d <;> first | exact rr_bad | cases hd
  | .aug i e, w, w', h => rr_bind (rr_get h i) fun _ _ _ h => rr_bind (sim_E cf e h) fun x _ _ h => rr_bind (rr_get h i) fun _ _ _ h => rr_bind (rr_opt h) fun _ _ _ h => rr_bind (rr_opt h) fun _ u u' h => by
      rw [h.sl.len]
      exact rr_if (fun _ => rr_ok (lw_put h _ _)) fun _ => rr_bad
  | .ret e, w, w', h => rr_bind (sim_E cf e h) fun x _ _ h => rr_ok h
  | .retN, w, w', h => rr_ok h
  | .ite c a b, w, w', h => rr_bind (sim_T cf c h) fun k _ _ h => rr_if (fun _ => sim_Ss a h) fun _ => sim_Ss b h
  | .for_ g it b, w, w', h => rr_bind (sim_I cf it h) fun xs u u' h => rr_forL (fun d v v' h => by exact rr_asgK h fun _ _ h => sim_Ss b h) xs u u' h
  | .wh c b, w, w', h => rr_whL (fun v v' h => sim_T cf c h) (fun v v' h => sim_Ss b h) _ w w' h
  | .never, w, w', h => rr_bad
  | .raise c e, w, w', h => rr_bind (sim_E cf e h) fun x u u' h => ⟨_, rfl, h⟩
  | .raise0 c, w, w', h => ⟨_, rfl, h⟩
  | .try_ b hs, w, w', h => by
    have ih := sim_Ss b h
    show RR (tryR hs (runs cf b w)) (tryR hs (runs cf b w'))
    cases e : runs cf b w with
    | ok a u => rw [e] at ih; obtain ⟨u', e', l⟩ := ih; rw [e']; exact rr_ok l
    | bad => exact rr_bad
    | exn c x u =>
      rw [e] at ih
      obtain ⟨u', e', l⟩ := ih
      rw [e']
      show RR (match hs.find? (fun h => h.cs.contains c) with | some h => if slotNo u h.at_ then runSu x h.su u else .bad | none => .exn c x u) (match hs.find? (fun h => h.cs.contains c) with | some h => if slotNo u' h.at_ then runSu x h.su u' else .bad | none => .exn c x u')
      cases hs.find? (fun h => h.cs.contains c) with
      | none => exact ⟨u', rfl, l⟩
      | some h =>
        show RR (if slotNo u h.at_ then runSu x h.su u else .bad) (if slotNo u' h.at_ then runSu x h.su u' else .bad)
        rw [slot_eq l]
        exact rr_if (fun _ => sim_Su l) fun _ => rr_bad
  | .done a b, w, w', h => rr_bind (sim_E cf a h) fun x u u' h => by
      rw [get_eq h]
      exact rr_bind (rr_opt h) fun _ _ _ h => rr_bind (sim_E cf b h) fun y u u' h => by
        rw [get_eq h]
        exact rr_bind (rr_opt h) fun _ v v' h => rr_if (fun _ => ⟨_, rfl, h⟩) fun _ => rr_bad
theorem sim_Ss : ∀ (s : Ss) {w w' : Wd}, Lw w w' → RR (runs cf s w) (runs cf s w')
  | .nil, w, w', h => rr_ok h
  | .cons s ss, w, w', h => rr_bind (sim_S s h) fun fl u u' h => by
      cases fl with
      | nx => exact sim_Ss ss h
      | rt d fr => exact rr_ok h
end
end
/-! ### in proofs -/
class Clo (Q : Flow → Wd → Prop) : Prop where
  clo : ∀ {fl w w'}, Lw w w' → Q fl w → Q fl w'
theorem sat_frz {cf : Nat → List D → List Ob → CR} {ss : Ss} {w w' : Wd} {Q : Flow → Wd → Prop} [hQ : Clo Q] (l : Lw w w') (h : Sat (Runs cf ss w) Q) : Sat (Runs cf ss w') Q := by
  have := sim_Ss cf ss l
  rw [Runs_def] at h ⊢
  obtain ⟨fl, u, e, q⟩ := sat_ex h
  rw [e] at this
  obtain ⟨u', e', l'⟩ := this
  rw [e']
  exact hQ.clo l' q
instance {R : D → Bool → List Ob → Prop} : Clo (FinQ R) := ⟨fun {fl w w'} l h => by
  cases fl with
  | nx => show R _ _ w'.s; rw [← l.st]; exact h
  | rt d fr => show R _ _ w'.s; rw [← l.st]; exact h⟩
instance {cf : Nat → List D → List Ob → CR} {ss : Ss} {Q : Flow → Wd → Prop} [hQ : Clo Q] : Clo (Nx cf ss Q) := ⟨fun {fl w w'} l h => by
  cases fl with
  | nx => exact sat_frz (Q := Q) l h
  | rt d fr => exact hQ.clo l h⟩
/-- up to lists taken for values -/
def UT (P : Wd → Prop) (w : Wd) : Prop := ∃ w0, Lw w0 w ∧ P w0
theorem ut_of {P : Wd → Prop} {w : Wd} (h : P w) : UT P w := ⟨w, lw_refl w, h⟩
/-- a loop's turn ends -/
def LoopQ (P : Wd → Prop) (Q : Flow → Wd → Prop) : Flow → Wd → Prop
  | .nx, w => UT P w
  | .rt d fr, w => Q (.rt d fr) w
instance {P : Wd → Prop} {Q : Flow → Wd → Prop} [hQ : Clo Q] : Clo (LoopQ P Q) := ⟨fun {fl w w'} l h => by
  cases fl with
  | nx => obtain ⟨w0, k, p⟩ := h; exact ⟨w0, lw_trans k l, p⟩
  | rt d fr => exact hQ.clo l h⟩
section
variable {cf : Nat → List D → List Ob → CR} {w w1 w2 w3 w4 w5 w6 : Wd} {e : E} {x y z : D × Bool} {i j k : Nat} {ss : Ss} {Q : Flow → Wd → Prop}
/-- a value is kept: as a value, or as the slot's own list -/
def Keep (w : Wd) (i : Nat) (x : D × Bool) (w2 : Wd) : Prop := Lw w2 (w.putF i x.1 x.2)
theorem keep_v (h : (⟨w.e.set i (.val x.1), w.s⟩ : Wd) = w2) : Keep w i x w2 := by
  subst h
  refine ⟨rfl, le_set (le_refl _) ?_ i⟩
  cases e : x.2 && isFr x.1 with
  | false => exact .inl rfl
  | true => exact .inr ⟨rfl, ((Bool.and_eq_true ..).mp e).2⟩
theorem keep_c (h : (x.2 && isFr x.1) = true) (hw : (⟨w.e.set i (.cell x.1), w.s⟩ : Wd) = w2) : Keep w i x w2 := by
  subst hw
  unfold Keep Wd.putF
  rw [h]; exact lw_refl _
theorem sv_set [Clo Q] (he : Ev cf e w = .ok x w1) (hi : (decide (i < w1.e.length)) = true) (hw : Keep w1 i x w2) (q : Sat (Runs cf ss w2) Q) : Sat (Runs cf (.cons (.set i e) ss) w) Q :=
  sat_set he hi rfl (sat_frz hw q)
theorem keep2 {w4 : Wd} (h1 : Keep w i x w4) (h2 : Keep w4 j y w5) : Lw w5 ((w.putF i x.1 x.2).putF j y.1 y.2) := lw_trans h2 (lw_putF h1 j y.1 y.2)
theorem sv_par2 [Clo Q] {e1 e2 : E} (h1 : Ev cf e1 w = .ok x w1) (h2 : Ev cf e2 w1 = .ok y w2) (hi : (decide (i < w2.e.length ∧ j < w2.e.length)) = true) (g1 : Keep w2 i x w4) (g2 : Keep w4 j y w5) (q : Sat (Runs cf ss w5) Q) : Sat (Runs cf (.cons (.par2 i j e1 e2) ss) w) Q :=
  sat_par2 h1 h2 hi rfl rfl (sat_frz (keep2 g1 g2) q)
theorem sv_par3 [Clo Q] {e1 e2 e3 : E} (h1 : Ev cf e1 w = .ok x w1) (h2 : Ev cf e2 w1 = .ok y w2) (h3 : Ev cf e3 w2 = .ok z w3) (hi : (decide (i < w3.e.length ∧ j < w3.e.length ∧ k < w3.e.length)) = true) (g1 : Keep w3 i x w4) (g2 : Keep w4 j y w5) (g3 : Keep w5 k z w6) (q : Sat (Runs cf ss w6) Q) : Sat (Runs cf (.cons (.par3 i j k e1 e2 e3) ss) w) Q :=
  sat_par3 h1 h2 h3 hi rfl rfl rfl (sat_frz (lw_trans g3 (lw_putF (keep2 g1 g2) k z.1 z.2)) q)
/-- a slot's own list is taken for a value from here on -/
theorem sv_val [Clo Q] {d : D} (h : w.e[i]? = some (.cell d)) (hd : isFr d = true) (hw : (⟨w.e.set i (.val d), w.s⟩ : Wd) = w2) (q : Sat (Runs cf ss w2) Q) : Sat (Runs cf ss w) Q := by
  subst hw
  refine sat_frz (w := ⟨w.e.set i (.val d), w.s⟩) ⟨rfl, ?_⟩ q
  have e1 : w.e = w.e.set i (.cell d) := by
    apply List.ext_getElem?
    intro j
    rw [List.getElem?_set]
    by_cases hi : i = j
    · subst hi
      rw [if_pos rfl, h, if_pos (List.getElem?_eq_some_iff.mp h).1]
    · rw [if_neg hi]
  show LE (w.e.set i (.val d)) w.e
  have := le_set (le_refl w.e) (show LS (.val d) (.cell d) from .inr ⟨rfl, hd⟩) i
  rw [← e1] at this
  exact this
theorem sv_for [hQ : Clo Q] {g : Tg} {it : It} {ds : List D} {b : Ss} (I : List D → Wd → Prop) (hi : EvI cf it w = .ok ds w1) (h0 : I ds w1)
    (hs : ∀ d r w, I (d :: r) w → ∃ w', asgT g d w = some w' ∧ Sat (Runs cf b w') (LoopQ (I r) Q))
    (hq : ∀ w, I [] w → Sat (Runs cf ss w) Q) : Sat (Runs cf (.cons (.for_ g it b) ss) w) Q := by
  refine sat_for (I := fun ds => UT (I ds)) hi (ut_of h0) ?_ ?_
  · rintro d r w ⟨w0, l, h⟩
    obtain ⟨w', ha, hb⟩ := hs d r w0 h
    have := rr_asg l g d
    obtain ⟨u', e', l'⟩ := this _ ha
    refine ⟨u', e', ?_⟩
    refine sat_mono (sat_frz l' hb) fun fl v q => ?_
    cases fl with
    | nx => exact q
    | rt d fr => exact q
  · rintro w ⟨w0, l, h⟩
    exact sat_frz l (hq w0 h)
end
end IL

set_option Elab.async false
set_option linter.all false
set_option maxRecDepth 100000
set_option maxHeartbeats 1000000
/-! Exceptions in mirrors. -/
namespace IL
open PySem
section
variable {cf : Nat → List D → List Ob → CR} {w w1 w2 w3 w4 : Wd} {a b e : E} {es : Es} {x y z : D × Bool} {d : D} {i j f n : Nat} {s : List Ob} {k : Bool} {ds : List D} {o : Option D} {ss t u : Ss} {r : R Flow} {Q : Flow → Wd → Prop} {g : Tg}
theorem evx_call (h : Evs cf es w = .exn n o w1) : Ev cf (.call f es) w = .exn n o w1 := by
  simp only [Ev_def, Evs_def] at *
  show (evs cf es w).bind _ = _
  rw [h]
theorem evx_callC (h : Evs cf es w = .ok ds w1) (hc : cf f ds w1.s = .exn n o s) : Ev cf (.call f es) w = .exn n o { w1 with s := s } := by
  simp only [Ev_def, Evs_def] at *
  show (evs cf es w).bind _ = _
  rw [h]
  show (match cf f ds w1.s with
    | .ok d fr s => R.ok (d, fr) { w1 with s := s }
    | .exn c x s => .exn c x { w1 with s := s }
    | .bad => .bad) = _
  rw [hc]
theorem evx_callP (h : Evs cf es w = .ok ds w1) (hc : cf f ds w1.s = .exn n o w1.s) : Ev cf (.call f es) w = .exn n o w1 := evx_callC h hc
theorem evsx_hd (h : Ev cf e w = .exn n o w1) : Evs cf (.cons e es) w = .exn n o w1 := by
  simp only [Ev_def, Evs_def] at *
  show (ev cf e w).bind _ = _
  rw [h]
theorem evsx_tl (h : Ev cf e w = .ok x w1) (h2 : Evs cf es w1 = .exn n o w2) : Evs cf (.cons e es) w = .exn n o w2 := by
  simp only [Ev_def, Evs_def] at *
  show (ev cf e w).bind _ = _
  rw [h]
  show (evs cf es w1).bind _ = _
  rw [h2]
theorem evx_ix (h : Ev cf a w = .exn n o w1) : Ev cf (.ix a b) w = .exn n o w1 := by
  simp only [Ev_def] at *
  show (ev cf a w).bind _ = _
  rw [h]
theorem evx_lst (h : Evs cf es w = .exn n o w1) : Ev cf (.lst es) w = .exn n o w1 := by
  simp only [Ev_def, Evs_def] at *
  show (evs cf es w).bind _ = _
  rw [h]
/-! ### statements, step by step -/
theorem rn_set (h : Ev cf e w = .ok x w1) (hi : (decide (i < w1.e.length)) = true) (hw : w1.putF i x.1 x.2 = w2) : Runs cf (.cons (.set i e) ss) w = Runs cf ss w2 := by
  simp only [Ev_def, Runs_def] at *
  subst hw
  show ((ev cf e w).bind _).bind _ = _
  rw [h]
  show (if i < w1.e.length then R.ok Flow.nx (w1.putF i x.1 x.2) else .bad).bind _ = _
  rw [if_pos (of_decide_eq_true hi)]
theorem rn_setT (h : Ev cf e w = .ok x w1) (ha : asgT g x.1 w1 = some w2) : Runs cf (.cons (.setT g e) ss) w = Runs cf ss w2 := by
  simp only [Ev_def, Runs_def] at *
  show ((ev cf e w).bind _).bind _ = _
  rw [h]
  show ((R.opt (asgT g x.1 w1) w1).bind _).bind _ = _
  rw [ha]; rfl
theorem rn_exp (h : Ev cf e w = .ok x w1) : Runs cf (.cons (.exp e) ss) w = Runs cf ss w1 := by
  simp only [Ev_def, Runs_def] at *
  show ((ev cf e w).bind _).bind _ = _
  rw [h]
theorem rx_set (h : Ev cf e w = .exn n o w1) : Runs cf (.cons (.set i e) ss) w = .exn n o w1 := by
  simp only [Ev_def, Runs_def] at *
  show ((ev cf e w).bind _).bind _ = _
  rw [h]
theorem rx_setT (h : Ev cf e w = .exn n o w1) : Runs cf (.cons (.setT g e) ss) w = .exn n o w1 := by
  simp only [Ev_def, Runs_def] at *
  show ((ev cf e w).bind _).bind _ = _
  rw [h]
theorem rx_par2 (h : Ev cf a w = .exn n o w1) : Runs cf (.cons (.par2 i j a b) ss) w = .exn n o w1 := by
  simp only [Ev_def, Runs_def] at *
  show ((ev cf a w).bind _).bind _ = _
  rw [h]
theorem rx_exp (h : Ev cf e w = .exn n o w1) : Runs cf (.cons (.exp e) ss) w = .exn n o w1 := by
  simp only [Ev_def, Runs_def] at *
  show ((ev cf e w).bind _).bind _ = _
  rw [h]
theorem rx_ret (h : Ev cf e w = .exn n o w1) : Runs cf (.cons (.ret e) ss) w = .exn n o w1 := by
  simp only [Ev_def, Runs_def] at *
  show ((ev cf e w).bind _).bind _ = _
  rw [h]
theorem rx_raise (h : Ev cf e w = .ok x w1) : Runs cf (.cons (.raise n e) ss) w = .exn n (some x.1) w1 := by
  simp only [Ev_def, Runs_def] at *
  show ((ev cf e w).bind _).bind _ = _
  rw [h]
theorem rx_iteT {c : T} (hc : EvT cf c w = .ok true w1) (h : Runs cf t w1 = .exn n o w2) : Runs cf (.cons (.ite c t u) ss) w = .exn n o w2 := by
  simp only [EvT_def, Runs_def] at *
  show ((evT cf c w).bind _).bind _ = _
  rw [hc]
  show (runs cf t w1).bind _ = _
  rw [h]
theorem rx_iteF {c : T} (hc : EvT cf c w = .ok false w1) (h : Runs cf u w1 = .exn n o w2) : Runs cf (.cons (.ite c t u) ss) w = .exn n o w2 := by
  simp only [EvT_def, Runs_def] at *
  show ((evT cf c w).bind _).bind _ = _
  rw [hc]
  show (runs cf u w1).bind _ = _
  rw [h]
/-- try, nothing raised -/
theorem sat_try {hs : List Hd} (h : Sat (Runs cf t w) (Nx cf ss Q)) : Sat (Runs cf (.cons (.try_ t hs) ss) w) Q := by
  simp only [Runs_def] at h ⊢
  refine satr_cons ?_
  show Sat (tryR hs (runs cf t w)) _
  cases e : runs cf t w with
  | ok a u => rw [e] at h; exact h
  | exn a b c => rw [e] at h; exact h.elim
  | bad => rw [e] at h; exact h.elim
/-- try, an exception that a clause takes -/
theorem sat_tryX {hs : List Hd} {h : Hd} (hr : Runs cf t w = .exn n o w1) (hf : hs.find? (fun h => h.cs.contains n) = some h) (hn : slotNo w1 h.at_ = true) (q : Sat (runSu o h.su w1) (Nx cf ss Q)) : Sat (Runs cf (.cons (.try_ t hs) ss) w) Q := by
  simp only [Runs_def] at hr ⊢
  refine satr_cons ?_
  show Sat (tryR hs (runs cf t w)) _
  rw [hr]
  show Sat (match hs.find? (fun h => h.cs.contains n) with | some h => if slotNo w1 h.at_ then runSu o h.su w1 else .bad | none => .exn n o w1) _
  rw [hf]
  show Sat (if slotNo w1 h.at_ then runSu o h.su w1 else .bad) _
  rw [if_pos hn]; exact q
end
theorem call_exn' {tab : List Df} {n f : Nat} {df : Df} {ds : List D} {s : List Ob} {k : Nat} {o : Option D} {s' : List Ob} (ht : tab[f]? = some df) (hl : (decide (ds.length = df.np)) = true) (h : ∃ w, Runs (Cal tab n) df.body ⟨ds.map .val ++ List.replicate (df.vars.length - df.np) .no, s⟩ = .exn k o w ∧ w.s = s') : Cal tab (n + 1) f ds s = .exn k o s' := by
  obtain ⟨w, h1, h2⟩ := h
  rw [← h2]; exact call_exn ht hl h1
/-- tuples of numbers in a list -/
theorem inD_tN (a : List Nat) : ∀ L : List (List Nat), inD (tN a) (L.map tN) = decide (a ∈ L)
  | [] => rfl
  | c :: L => by
    show (eqD (tN c) (tN a) || inD (tN a) (L.map tN)) = _
    rw [eqD_tN, inD_tN a L, Bool.eq_iff_iff, Bool.or_eq_true, decide_eq_true_eq, decide_eq_true_eq, decide_eq_true_eq, List.mem_cons]
    exact ⟨fun h => h.imp Eq.symm id, fun h => h.imp Eq.symm id⟩
theorem cmp_in_lT {a : List Nat} {L : List (List Nat)} : cmpD .isin (tN a) (lT L) = some (decide (a ∈ L)) := by
  show inT (tN a) (L.map tN) = _
  unfold inT
  rw [if_pos (by
    rw [Bool.or_eq_true]; right
    rw [Bool.and_eq_true]
    exact ⟨ok_tN, oks_map fun x _ => ok_tN⟩), inD_tN]
theorem cmp_notin_lT {a : List Nat} {L : List (List Nat)} : cmpD .notin (tN a) (lT L) = some (!decide (a ∈ L)) := by
  show (inT (tN a) (L.map tN)).map not = _
  have := cmp_in_lT (a := a) (L := L)
  have : inT (tN a) (L.map tN) = some (decide (a ∈ L)) := this
  rw [this]; rfl
end IL


set_option Elab.async false
set_option linter.all false
set_option maxRecDepth 100000
set_option maxHeartbeats 1000000
namespace IL
open PySem
def il_is_number : Ss := (.cons (.ret (.and (.isi .int (.var 0)) (.and (.not (.isi .bool (.var 0))) (.chain .le .le (.var 1) (.var 0) (.var 2))))) .nil)
def il_are_ascending : Ss := (.cons (.ite (.or (.not (.ev (.isi .tuple (.var 0)))) (.not (.ev (.b1 .all (.comp [2] (.nm 2) (.seq (.var 0)) .no (.call 0 (.cons (.var 2) (.cons (.int 0) (.cons (.bin .sub (.var 1) (.int 1)) .nil))))))))) (.cons (.ret (.bl false)) .nil) .nil) (.cons (.ret (.b1 .all (.comp [2, 3] (.t2 (.nm 2) (.nm 3)) (.zip (.var 0) (.sl (.var 0) (.yes (.int 1)) .no)) .no (.cmpv .lt 2 (.var 3))))) .nil))
def il_is_reader : Ss := (.cons (.ite (.or (.not (.ev (.isi .tuple (.var 0)))) (.cmp .ne (.lenv 0) (.int 2))) (.cons (.ret (.bl false)) .nil) .nil) (.cons (.ret (.and (.call 0 (.cons (.ixv 0 (.int 0)) (.cons (.int 0) (.cons (.glob (Str.ofString "MOST") 6) .nil)))) (.call 1 (.cons (.ixv 0 (.int 1)) (.cons (.var 1) .nil))))) .nil))
def il_present_ones : Ss := (.cons (.ret (.comp [2] (.nm 2) (.r1 (.b1 .len (.rdr (.var 0)))) (.yes (.inv .notin (.var 2) 1)) (.var 2))) .nil)
def il_times_read : Ss := (.cons (.set 3 (.call 3 (.cons (.var 0) (.cons (.var 2) .nil)))) (.cons (.ret (.comp [4] (.nm 4) (.r1 (.lenv 0)) .no (.b1 .len (.comp [5] (.nm 5) (.seq (.var 3)) (.yes (.cmp .isin (.var 4) (.ixv 1 (.var 5)))) (.var 5))))) .nil))
def il_due_times : Ss := (.cons (.ret (.comp [3, 4] (.t2 (.nm 3) (.nm 4)) (.zip (.call 4 (.cons (.var 0) (.cons (.var 1) (.cons (.var 2) .nil)))) (.dem (.var 0))) .no (.max2 (.var 3) (.var 4)))) .nil)
def il_empty_rows : Ss := (.cons (.ret (.comp [1] (.nm 1) (.seq (.rdr (.var 0))) .no (.tup .nil))) .nil)
def il_has_room : Ss := (.cons (.ret (.cmp .lt (.b1 .len (.ixv 1 (.var 2))) (.ix (.ix (.rdr (.var 0)) (.var 2)) (.int 0)))) .nil)
def il_free_takers : Ss := (.cons (.set 4 (.rdr (.var 0))) (.cons (.ret (.comp [5] (.nm 5) (.seq (.call 3 (.cons (.var 0) (.cons (.var 2) .nil)))) (.yes (.and (.cmp .isin (.var 3) (.ix (.ixv 4 (.var 5)) (.int 1))) (.cmp .notin (.var 3) (.ixv 1 (.var 5))))) (.var 5))) .nil))
def il_chain_back : Ss := (.cons (.set 3 (.lst (.cons (.tup (.cons (.var 2) (.cons (.var 1) (.cons .non .nil)))) .nil))) (.cons (.wh (.cmp .isnot (.ixv 0 (.var 1)) .non) (.cons (.setT (.t2 (.nm 4) (.nm 5)) (.ixv 0 (.var 1))) (.cons (.set 3 (.bin .add (.lst (.cons (.tup (.cons (.var 5) (.cons (.var 4) (.cons (.var 1) .nil)))) .nil)) (.var 3))) (.cons (.set 1 (.var 4)) .nil)))) (.cons (.ret (.var 3)) .nil)))
def il_step : Ss := (.cons (.par2 5 6 (.dct1 (.var 4) .non) (.lst (.cons (.var 4) .nil))) (.cons (.wh (.cmpv .ne 6 (.lst .nil)) (.cons (.set 7 (.pop 6 (.int 0))) (.cons (.set 8 (.call 8 (.cons (.var 0) (.cons (.var 2) (.cons (.var 3) (.cons (.var 7) .nil)))))) (.cons (.for_ (.nm 9) (.seq (.var 8)) (.cons (.ite (.ev (.call 7 (.cons (.var 0) (.cons (.var 2) (.cons (.var 9) .nil))))) (.cons (.ret (.tup (.cons (.str (Str.ofString "chain")) (.cons (.call 9 (.cons (.var 5) (.cons (.var 7) (.cons (.var 9) .nil)))) .nil)))) .nil) .nil) .nil)) (.cons (.for_ (.nm 9) (.seq (.var 8)) (.cons (.for_ (.nm 10) (.seq (.ixv 2 (.var 9))) (.cons (.ite (.and (.cmp .notin (.var 10) (.ixv 1 (.var 9))) (.inv .notin (.var 10) 5)) (.cons (.seti 5 (.var 10) (.tup (.cons (.var 7) (.cons (.var 9) .nil)))) (.cons (.app 6 (.var 10)) .nil)) .nil) .nil)) .nil)) .nil))))) (.cons (.ret (.tup (.cons (.str (Str.ofString "closed")) (.cons (.b1 .tuple (.b1 .sorted (.b1 .list (.var 5)))) .nil)))) .nil)))
def il_after_chain : Ss := (.cons (.set 2 (.b1 .list (.var 0))) (.cons (.for_ (.t3 (.nm 3) (.nm 4) (.nm 5)) (.seq (.var 1)) (.cons (.seti 2 (.var 3) (.b1 .tuple (.b1 .sorted (.bin .add (.comp [6] (.nm 6) (.seq (.ixv 2 (.var 3))) (.yes (.cmpv .ne 6 (.var 5))) (.var 6)) (.lst (.cons (.var 4) .nil)))))) .nil)) (.cons (.ret (.var 2)) .nil)))
def il_kept_rows : Ss := (.cons (.ret (.comp [2, 3] (.t2 (.nm 2) (.nm 3)) (.enm (.var 0)) .no (.ite (.inv .isin (.var 2) 1) (.tup .nil) (.var 3)))) .nil)
def il_filled : Ss := (.cons (.par2 3 4 (.call 12 (.cons (.var 1) (.cons (.var 2) .nil))) (.call 12 (.cons (.var 1) (.cons (.var 2) .nil)))) (.cons (.par2 5 6 (.call 5 (.cons (.var 0) (.cons (.var 1) (.cons (.var 2) .nil)))) (.tup .nil)) (.cons (.for_ (.nm 7) (.r1 (.lenv 0)) (.cons (.wh (.and (.cmp .lt (.ix (.call 4 (.cons (.var 0) (.cons (.var 4) (.cons (.var 2) .nil)))) (.var 7)) (.ixv 5 (.var 7))) (.inv .notin (.var 7) 6)) (.cons (.setT (.t2 (.nm 8) (.nm 9)) (.call 10 (.cons (.var 0) (.cons (.var 3) (.cons (.var 4) (.cons (.var 2) (.cons (.var 7) .nil))))))) (.cons (.ite (.cmpv .eq 8 (.str (Str.ofString "chain"))) (.cons (.set 4 (.call 11 (.cons (.var 4) (.cons (.var 9) .nil)))) .nil) (.cons (.set 6 (.b1 .tuple (.b1 .sorted (.bin .add (.var 6) (.b1 .tuple (.comp [10] (.nm 10) (.seq (.var 9)) (.yes (.inv .notin (.var 10) 6)) (.var 10))))))) .nil)) .nil))) .nil)) (.cons (.ret (.tup (.cons (.var 4) (.cons (.var 6) .nil)))) .nil))))
def il_extension : Ss := (.cons (.setT (.t2 (.nm 3) (.nm 4)) (.call 13 (.cons (.var 0) (.cons (.var 1) (.cons (.var 2) .nil))))) (.cons (.ite (.cmpv .eq 4 (.tup .nil)) (.cons (.ret (.tup (.cons (.str (Str.ofString "yes")) (.cons (.var 3) .nil)))) .nil) .nil) (.cons (.par2 5 6 (.call 4 (.cons (.var 0) (.cons (.var 1) (.cons (.var 2) .nil)))) (.dem (.var 0))) (.cons (.ret (.tup (.cons (.str (Str.ofString "no")) (.cons (.b1 .tuple (.comp [7] (.nm 7) (.seq (.var 4)) (.yes (.cmp .le (.ixv 5 (.var 7)) (.ixv 6 (.var 7)))) (.var 7))) .nil)))) .nil))))
def il_good_rows : Ss := (.cons (.ret (.call 14 (.cons (.var 0) (.cons (.call 6 (.cons (.var 0) .nil)) (.cons (.var 1) .nil))))) .nil)
def il_need_good_rows : Ss := (.cons (.setT (.t2 (.nm 2) (.nm 3)) (.call 15 (.cons (.var 0) (.cons (.var 1) .nil)))) (.cons (.ite (.cmpv .eq 2 (.str (Str.ofString "no"))) (.cons (.raise 8 (.var 3)) .nil) .nil) (.cons (.ret (.var 3)) .nil)))
def il_least_tight : Ss := (.cons (.setT (.t2 (.nm 3) (.nm 4)) (.call 10 (.cons (.var 0) (.cons (.call 6 (.cons (.var 0) .nil)) (.cons (.call 16 (.cons (.var 0) (.cons (.var 1) .nil))) (.cons (.var 1) (.cons (.var 2) .nil))))))) (.cons (.ret (.ite (.cmpv .eq 3 (.str (Str.ofString "closed"))) (.var 4) .non)) .nil))
def il__law_feed : Ss := (.cons (.set 2 (.ix (.bin .add (.b1 .list (.sl (.var 0) (.yes (.var 1)) (.yes (.bin .add (.var 1) (.int 1))))) (.lst (.cons (.bin .add (.bin .mul (.int 71) (.var 1)) (.int 23)) .nil))) (.int 0))) (.cons (.set 3 (.max2 (.int 0) (.bin .sub (.b1 .abs (.var 2)) (.bin .pow (.int 10) (.int 18))))) (.cons (.ret (.box (.cons (.var 3) (.cons (.bin .mod (.b1 .int (.bin .add (.bin .add (.bin .mul (.bin .mod (.b1 .int (.b1 .abs (.var 2))) (.int 1000003)) (.int 7919)) (.bin .mul (.int 31) (.var 1))) (.int 17))) (.int 1000033)) .nil)))) .nil)))
def il__law_take : Ss := (.cons (.ite (.cmp .gt (.ixv 0 (.int 0)) (.int 0)) (.cons (.set 2 (.bin .mod (.b1 .int (.ixv 0 (.int 0))) (.var 1))) (.cons (.seti 0 (.int 0) (.bin .fdiv (.ixv 0 (.int 0)) (.var 1))) (.cons (.ret (.var 2)) .nil))) .nil) (.cons (.seti 0 (.int 1) (.bin .mod (.b1 .int (.bin .add (.bin .mul (.ixv 0 (.int 1)) (.int 69069)) (.int 12345))) (.int 4294967311))) (.cons (.ret (.bin .mod (.b1 .int (.bin .fdiv (.ixv 0 (.int 1)) (.int 65536))) (.var 1))) .nil)))
def il__law_pick : Ss := (.cons (.ret (.ixv 1 (.call 19 (.cons (.var 0) (.cons (.lenv 1) .nil))))) .nil)
def il__law_row : Ss := (.cons (.setT (.t2 (.nm 2) (.nm 3)) (.var 1)) (.cons (.par2 4 5 (.b1 .list (.var 3)) (.lst .nil)) (.cons (.for_ (.nm 6) (.r1 (.call 19 (.cons (.var 0) (.cons (.bin .add (.int 1) (.min2 (.var 2) (.lenv 3))) .nil)))) (.cons (.app 5 (.pop 4 (.call 19 (.cons (.var 0) (.cons (.lenv 4) .nil))))) .nil)) (.cons (.ret (.b1 .tuple (.b1 .sorted (.var 5)))) .nil))))
def il__law_rows : Ss := (.cons (.ret (.comp [3, 4] (.t2 (.nm 3) (.nm 4)) (.enm (.var 1)) .no (.ite (.inv .isin (.var 3) 2) (.tup .nil) (.call 21 (.cons (.var 0) (.cons (.var 4) .nil)))))) .nil)
def il__law_times : Ss := (.cons (.ret (.comp [2] (.nm 2) (.r1 (.var 1)) .no (.b1 .len (.comp [3] (.nm 3) (.seq (.var 0)) (.yes (.inv .isin (.var 2) 3)) (.var 3))))) .nil)
def il__law_book : Ss := (.cons (.par2 3 4 (.bin .add (.int 1) (.call 19 (.cons (.var 0) (.cons (.var 1) .nil)))) (.lst .nil)) (.cons (.set 5 (.call 19 (.cons (.var 0) (.cons (.int 3) .nil)))) (.cons (.for_ (.nm 6) (.r1 (.call 19 (.cons (.var 0) (.cons (.bin .add (.var 2) (.int 1)) .nil)))) (.cons (.set 7 (.comp [9] (.nm 9) (.r1 (.var 3)) (.yes (.cmp .lt (.call 19 (.cons (.var 0) (.cons (.int 3) .nil))) (.bin .add (.int 1) (.var 5)))) (.var 9))) (.cons (.app 4 (.tup (.cons (.call 20 (.cons (.var 0) (.cons (.lst (.cons (.int 0) (.cons (.int 1) (.cons (.int 1) (.cons (.int 1) (.cons (.int 2) (.cons (.int 2) (.cons (.int 3) (.cons (.int 4) (.cons (.int 5) (.cons (.int 6) .nil))))))))))) .nil))) (.cons (.b1 .tuple (.var 7)) .nil)))) .nil))) (.cons (.set 8 (.call 23 (.cons (.call 22 (.cons (.var 0) (.cons (.var 4) (.cons (.tup .nil) .nil)))) (.cons (.var 3) .nil)))) (.cons (.for_ (.nm 6) (.r1 (.call 20 (.cons (.var 0) (.cons (.lst (.cons (.int 0) (.cons (.int 0) (.cons (.int 1) (.cons (.int 1) (.cons (.int 2) (.cons (.int 6) .nil))))))) .nil)))) (.cons (.seti 8 (.call 19 (.cons (.var 0) (.cons (.var 3) .nil))) (.call 20 (.cons (.var 0) (.cons (.lst (.cons (.int 0) (.cons (.int 1) (.cons (.int 1) (.cons (.int 2) (.cons (.int 3) (.cons (.int 6) .nil))))))) .nil)))) .nil)) (.cons (.ret (.lst (.cons (.var 8) (.cons (.var 4) .nil)))) .nil))))))
def il__law_gone : Ss := (.cons (.ret (.b1 .tuple (.comp [2] (.nm 2) (.r1 (.lenv 1)) (.yes (.cmp .eq (.call 19 (.cons (.var 0) (.cons (.int 5) .nil))) (.int 0))) (.var 2)))) .nil)
def il__law_present : Ss := (.cons (.ret (.comp [2] (.nm 2) (.r1 (.lenv 0)) (.yes (.inv .notin (.var 2) 1)) (.var 2))) .nil)
def il__law_sets : Ss := (.cons (.par2 1 2 (.lst (.cons (.tup .nil) .nil)) (.lst (.cons (.tup .nil) .nil))) (.cons (.for_ (.nm 3) (.r1 (.lenv 0)) (.cons (.set 4 (.lst .nil)) (.cons (.for_ (.nm 5) (.seq (.var 2)) (.cons (.set 4 (.bin .add (.var 4) (.comp [6] (.nm 6) (.seq (.var 0)) (.yes (.or (.cmpv .eq 5 (.tup .nil)) (.cmpv .gt 6 (.ixv 5 (.neg (.int 1)))))) (.bin .add (.var 5) (.tup (.cons (.var 6) .nil)))))) .nil)) (.cons (.par2 1 2 (.bin .add (.var 1) (.var 4)) (.var 4)) .nil)))) (.cons (.ret (.var 1)) .nil)))
def il__law_count : Ss := (.cons (.setT (.t2 (.nm 4) (.nm 5)) (.ixv 0 (.var 2))) (.cons (.set 6 (.comp [8] (.nm 8) (.seq (.ixv 1 (.var 2))) (.yes (.inv .isin (.var 8) 3)) (.var 8))) (.cons (.set 7 (.comp [8] (.nm 8) (.seq (.var 5)) (.yes (.and (.inv .isin (.var 8) 3) (.inv .notin (.var 8) 6))) (.var 8))) (.cons (.ret (.bin .add (.lenv 6) (.min2 (.bin .sub (.var 4) (.b1 .len (.ixv 1 (.var 2)))) (.lenv 7)))) .nil))))
def il__law_lack : Ss := (.cons (.set 5 (.b1 .sum (.comp [6] (.nm 6) (.seq (.var 4)) .no (.ixv 0 (.var 6))))) (.cons (.ret (.bin .sub (.var 5) (.b1 .sum (.comp [7] (.nm 7) (.seq (.var 3)) .no (.call 28 (.cons (.var 1) (.cons (.var 2) (.cons (.var 7) (.cons (.var 4) .nil))))))))) .nil))
def il__law_told : Ss := (.cons (.try_ (.cons (.ret (.call 17 (.cons (.var 0) (.cons (.var 1) (.cons (.var 2) .nil))))) .nil) [⟨[8], some 3, .ret (.lstF (Str.ofString "short"))⟩]) .nil)
def il__law_is_right : Ss := (.cons (.set 6 (.call 30 (.cons (.var 0) (.cons (.var 3) (.cons (.var 4) .nil))))) (.cons (.set 7 (.comp [10] (.nm 10) (.seq (.var 5)) (.yes (.inv .isin (.var 4) 10)) (.var 10))) (.cons (.ite (.cmpv .eq 7 (.lst .nil)) (.cons (.set 8 (.bin .add (.bin .add (.sl (.var 1) .no (.yes (.var 4))) (.lst (.cons (.bin .add (.ixv 1 (.var 4)) (.int 1)) .nil))) (.sl (.var 1) (.yes (.bin .add (.var 4) (.int 1))) .no))) (.cons (.ite (.cmpv .isnot 6 .non) (.cons (.ret (.bl false)) .nil) .nil) (.cons (.ite (.cmp .gt (.b1 .max (.var 8)) (.int 6)) (.cons (.ret (.bl true)) .nil) .nil) (.cons (.ret (.cmp .eq (.ix (.call 15 (.cons (.mk 33 (.var 8) (.var 2)) (.cons (.var 3) .nil))) (.int 0)) (.str (Str.ofString "yes")))) .nil)))) .nil) (.cons (.set 9 (.comp [11] (.nm 11) (.r1 (.lenv 1)) (.yes (.cmp .eq (.comp [10] (.nm 10) (.seq (.var 7)) (.yes (.inv .notin (.var 11) 10)) (.int 1)) (.lst .nil))) (.var 11))) (.cons (.ret (.and (.cmp .eq (.b1 .repr (.var 6)) (.b1 .repr (.b1 .tuple (.var 9)))) (.inv .isin (.b1 .tuple (.var 9)) 5))) .nil)))))
def il_law : Ss := (.cons (.for_ (.nm 1) (.r1 (.max2 (.int 1) (.min2 (.int 2) (.lenv 0)))) (.cons (.set 2 (.call 18 (.cons (.var 0) (.cons (.var 1) .nil)))) (.cons (.setT (.t2 (.nm 3) (.nm 4)) (.call 24 (.cons (.var 2) (.cons (.int 6) (.cons (.int 6) .nil))))) (.cons (.par2 5 6 (.mk 33 (.var 3) (.var 4)) (.call 25 (.cons (.var 2) (.cons (.var 4) .nil)))) (.cons (.par2 7 8 (.comp [18] (.nm 18) (.seq (.var 4)) .no (.tup .nil)) (.call 26 (.cons (.var 4) (.cons (.var 6) .nil)))) (.cons (.set 9 (.sl (.call 27 (.cons (.listR (.lenv 3)) .nil)) (.yes (.int 1)) .no)) (.cons (.set 10 (.comp [19] (.nm 19) (.seq (.var 9)) .no (.tup (.cons (.call 29 (.cons (.var 3) (.cons (.var 4) (.cons (.var 7) (.cons (.var 8) (.cons (.var 19) .nil)))))) (.cons (.var 19) .nil))))) (.cons (.set 11 (.comp [20, 19] (.t2 (.nm 20) (.nm 19)) (.seq (.var 10)) (.yes (.cmpv .gt 20 (.int 0))) (.var 19))) (.cons (.set 12 (.comp [20, 19] (.t2 (.nm 20) (.nm 19)) (.seq (.var 10)) (.yes (.cmpv .eq 20 (.int 0))) (.var 19))) (.cons (.for_ (.nm 13) (.r1 (.lenv 3)) (.cons (.ite (.cmpv .ne 11 (.lst .nil)) (.cons (.set 14 (.call 30 (.cons (.var 5) (.cons (.var 6) (.cons (.var 13) .nil))))) (.cons (.ite (.or (.not (.ev (.isi .list (.var 14)))) (.inv .notin (.ixv 14 (.int 1)) 11)) (.cons (.ret (.bl false)) .nil) .nil) .nil)) (.cons (.ite (.not (.ev (.call 31 (.cons (.var 5) (.cons (.var 3) (.cons (.var 4) (.cons (.var 6) (.cons (.var 13) (.cons (.var 12) .nil))))))))) (.cons (.ret (.bl false)) .nil) .nil) .nil)) .nil)) (.cons (.for_ (.nm 15) (.seq (.bin .mul (.sl (.var 12) .no (.yes (.int 8))) (.b1 .int (.cmpv .eq 11 (.lst .nil))))) (.cons (.for_ (.nm 16) (.seq (.sl (.var 12) .no (.yes (.int 8)))) (.cons (.set 17 (.b1 .tuple (.comp [13] (.nm 13) (.seq (.var 15)) (.yes (.inv .isin (.var 13) 16)) (.var 13)))) (.cons (.ite (.and (.cmpv .ne 17 (.tup .nil)) (.inv .notin (.var 17) 12)) (.cons (.ret (.bl false)) .nil) .nil) (.cons (.ite (.inv .notin (.b1 .tuple (.sset (.bin .add (.var 15) (.var 16)))) 12) (.cons (.ret (.bl false)) .nil) .nil) .nil)))) .nil)) (.cons (.ite (.not (.cmpv .eq 5 (.mk 33 (.var 3) (.var 4)))) (.cons (.ret (.bl false)) .nil) .nil) .nil)))))))))))) (.cons (.ret (.bl true)) .nil))
def il_init : Ss := (.cons (.ite (.or (.not (.ev (.isi .list (.var 1)))) (.not (.chain .le .le (.int 1) (.lenv 1) (.glob (Str.ofString "MOST") 6)))) (.cons .never .nil) .nil) (.cons (.ite (.not (.ev (.b1 .all (.comp [5] (.nm 5) (.seq (.var 1)) .no (.call 0 (.cons (.var 5) (.cons (.int 0) (.cons (.glob (Str.ofString "MOST") 6) .nil)))))))) (.cons .never .nil) .nil) (.cons (.ite (.or (.not (.ev (.isi .list (.var 2)))) (.cmp .gt (.lenv 2) (.glob (Str.ofString "MOST") 6))) (.cons .never .nil) .nil) (.cons (.for_ (.t2 (.nm 3) (.nm 4)) (.enm (.var 2)) (.cons (.ite (.not (.ev (.call 2 (.cons (.var 4) (.cons (.lenv 1) .nil))))) (.cons .never .nil) .nil) .nil)) (.cons (.done (.b1 .list (.var 1)) (.b1 .list (.var 2))) .nil)))))
def df_is_number : Df := ⟨Str.ofString "is_number", 3, [Str.ofString "value", Str.ofString "least", Str.ofString "greatest"], il_is_number⟩
def df_are_ascending : Df := ⟨Str.ofString "are_ascending", 2, [Str.ofString "value", Str.ofString "many", Str.ofString "one", Str.ofString "other"], il_are_ascending⟩
def df_is_reader : Df := ⟨Str.ofString "is_reader", 2, [Str.ofString "value", Str.ofString "works"], il_is_reader⟩
def df_present_ones : Df := ⟨Str.ofString "present_ones", 2, [Str.ofString "book", Str.ofString "absent", Str.ofString "reader"], il_present_ones⟩
def df_times_read : Df := ⟨Str.ofString "times_read", 3, [Str.ofString "book", Str.ofString "rows", Str.ofString "absent", Str.ofString "some", Str.ofString "work", Str.ofString "reader"], il_times_read⟩
def df_due_times : Df := ⟨Str.ofString "due_times", 3, [Str.ofString "book", Str.ofString "rows", Str.ofString "absent", Str.ofString "many", Str.ofString "wanted"], il_due_times⟩
def df_empty_rows : Df := ⟨Str.ofString "empty_rows", 1, [Str.ofString "book", Str.ofString "reader"], il_empty_rows⟩
def df_has_room : Df := ⟨Str.ofString "has_room", 3, [Str.ofString "book", Str.ofString "rows", Str.ofString "reader"], il_has_room⟩
def df_free_takers : Df := ⟨Str.ofString "free_takers", 4, [Str.ofString "book", Str.ofString "rows", Str.ofString "absent", Str.ofString "work", Str.ofString "readers", Str.ofString "one"], il_free_takers⟩
def df_chain_back : Df := ⟨Str.ofString "chain_back", 3, [Str.ofString "ways", Str.ofString "work", Str.ofString "reader", Str.ofString "found", Str.ofString "before", Str.ofString "giver"], il_chain_back⟩
def df_step : Df := ⟨Str.ofString "step", 5, [Str.ofString "book", Str.ofString "kept", Str.ofString "rows", Str.ofString "absent", Str.ofString "work", Str.ofString "ways", Str.ofString "queue", Str.ofString "here", Str.ofString "takers", Str.ofString "reader", Str.ofString "other"], il_step⟩
def df_after_chain : Df := ⟨Str.ofString "after_chain", 2, [Str.ofString "rows", Str.ofString "chain", Str.ofString "found", Str.ofString "reader", Str.ofString "takes", Str.ofString "gives", Str.ofString "one"], il_after_chain⟩
def df_kept_rows : Df := ⟨Str.ofString "kept_rows", 2, [Str.ofString "rows", Str.ofString "absent", Str.ofString "reader", Str.ofString "row"], il_kept_rows⟩
def df_filled : Df := ⟨Str.ofString "filled", 3, [Str.ofString "book", Str.ofString "rows", Str.ofString "absent", Str.ofString "kept", Str.ofString "found", Str.ofString "due", Str.ofString "closed", Str.ofString "work", Str.ofString "word", Str.ofString "told", Str.ofString "one"], il_filled⟩
def df_extension : Df := ⟨Str.ofString "extension", 3, [Str.ofString "book", Str.ofString "rows", Str.ofString "absent", Str.ofString "found", Str.ofString "closed", Str.ofString "before", Str.ofString "wanted", Str.ofString "work"], il_extension⟩
def df_good_rows : Df := ⟨Str.ofString "good_rows", 2, [Str.ofString "book", Str.ofString "absent"], il_good_rows⟩
def df_need_good_rows : Df := ⟨Str.ofString "need_good_rows", 2, [Str.ofString "book", Str.ofString "absent", Str.ofString "word", Str.ofString "told"], il_need_good_rows⟩
def df_least_tight : Df := ⟨Str.ofString "least_tight", 3, [Str.ofString "book", Str.ofString "absent", Str.ofString "work", Str.ofString "word", Str.ofString "told"], il_least_tight⟩
def df__law_feed : Df := ⟨Str.ofString "_law_feed", 2, [Str.ofString "script", Str.ofString "k", Str.ofString "seed", Str.ofString "digits"], il__law_feed⟩
def df__law_take : Df := ⟨Str.ofString "_law_take", 2, [Str.ofString "feed", Str.ofString "many", Str.ofString "digit"], il__law_take⟩
def df__law_pick : Df := ⟨Str.ofString "_law_pick", 2, [Str.ofString "feed", Str.ofString "some"], il__law_pick⟩
def df__law_row : Df := ⟨Str.ofString "_law_row", 2, [Str.ofString "feed", Str.ofString "reader", Str.ofString "limit", Str.ofString "may", Str.ofString "rest", Str.ofString "found", Str.ofString "turn"], il__law_row⟩
def df__law_rows : Df := ⟨Str.ofString "_law_rows", 3, [Str.ofString "feed", Str.ofString "readers", Str.ofString "absent", Str.ofString "at", Str.ofString "reader"], il__law_rows⟩
def df__law_times : Df := ⟨Str.ofString "_law_times", 2, [Str.ofString "rows", Str.ofString "works", Str.ofString "work", Str.ofString "row"], il__law_times⟩
def df__law_book : Df := ⟨Str.ofString "_law_book", 3, [Str.ofString "feed", Str.ofString "most_works", Str.ofString "most_readers", Str.ofString "works", Str.ofString "readers", Str.ofString "wide", Str.ofString "turn", Str.ofString "may", Str.ofString "demands", Str.ofString "work"], il__law_book⟩
def df__law_gone : Df := ⟨Str.ofString "_law_gone", 2, [Str.ofString "feed", Str.ofString "readers", Str.ofString "at"], il__law_gone⟩
def df__law_present : Df := ⟨Str.ofString "_law_present", 2, [Str.ofString "readers", Str.ofString "absent", Str.ofString "at"], il__law_present⟩
def df__law_sets : Df := ⟨Str.ofString "_law_sets", 1, [Str.ofString "things", Str.ofString "found", Str.ofString "last", Str.ofString "turn", Str.ofString "new", Str.ofString "one", Str.ofString "thing"], il__law_sets⟩
def df__law_count : Df := ⟨Str.ofString "_law_count", 4, [Str.ofString "readers", Str.ofString "rows", Str.ofString "reader", Str.ofString "works", Str.ofString "limit", Str.ofString "may", Str.ofString "has", Str.ofString "more", Str.ofString "work"], il__law_count⟩
def df__law_lack : Df := ⟨Str.ofString "_law_lack", 5, [Str.ofString "demands", Str.ofString "readers", Str.ofString "rows", Str.ofString "some", Str.ofString "works", Str.ofString "wanted", Str.ofString "work", Str.ofString "one"], il__law_lack⟩
def df__law_told : Df := ⟨Str.ofString "_law_told", 3, [Str.ofString "book", Str.ofString "absent", Str.ofString "work", Str.ofString "error"], il__law_told⟩
def df__law_is_right : Df := ⟨Str.ofString "_law_is_right", 6, [Str.ofString "book", Str.ofString "demands", Str.ofString "readers", Str.ofString "absent", Str.ofString "work", Str.ofString "tight", Str.ofString "told", Str.ofString "with_it", Str.ofString "more", Str.ofString "due", Str.ofString "works", Str.ofString "one"], il__law_is_right⟩
def df_law : Df := ⟨Str.ofString "law", 1, [Str.ofString "script", Str.ofString "k", Str.ofString "feed", Str.ofString "demands", Str.ofString "readers", Str.ofString "book", Str.ofString "absent", Str.ofString "empty", Str.ofString "some", Str.ofString "every", Str.ofString "lacks", Str.ofString "short", Str.ofString "tight", Str.ofString "work", Str.ofString "told", Str.ofString "one", Str.ofString "other", Str.ofString "cut", Str.ofString "reader", Str.ofString "works", Str.ofString "lack"], il_law⟩
def df_init : Df := ⟨Str.ofString "init", 3, [Str.ofString "self", Str.ofString "demands", Str.ofString "readers", Str.ofString "place", Str.ofString "reader", Str.ofString "one"], il_init⟩
def tab : List Df := [df_is_number, df_are_ascending, df_is_reader, df_present_ones, df_times_read, df_due_times, df_empty_rows, df_has_room, df_free_takers, df_chain_back, df_step, df_after_chain, df_kept_rows, df_filled, df_extension, df_good_rows, df_need_good_rows, df_least_tight, df__law_feed, df__law_take, df__law_pick, df__law_row, df__law_rows, df__law_times, df__law_book, df__law_gone, df__law_present, df__law_sets, df__law_count, df__law_lack, df__law_told, df__law_is_right, df_law, df_init]
def nms : Nm := ⟨[Str.ofString "is_number", Str.ofString "are_ascending", Str.ofString "is_reader", Str.ofString "present_ones", Str.ofString "times_read", Str.ofString "due_times", Str.ofString "empty_rows", Str.ofString "has_room", Str.ofString "free_takers", Str.ofString "chain_back", Str.ofString "step", Str.ofString "after_chain", Str.ofString "kept_rows", Str.ofString "filled", Str.ofString "extension", Str.ofString "good_rows", Str.ofString "need_good_rows", Str.ofString "least_tight", Str.ofString "_law_feed", Str.ofString "_law_take", Str.ofString "_law_pick", Str.ofString "_law_row", Str.ofString "_law_rows", Str.ofString "_law_times", Str.ofString "_law_book", Str.ofString "_law_gone", Str.ofString "_law_present", Str.ofString "_law_sets", Str.ofString "_law_count", Str.ofString "_law_lack", Str.ofString "_law_told", Str.ofString "_law_is_right", Str.ofString "law"], [(Str.ofString "MOST", 6)], 33, [(Str.ofString "Short", Str.ofString "works")]⟩
local macro_rules | `(tactic| decreasing_trivial_pre_omega) => `(tactic| (first | exact ev_int | exact ev_bl | exact ev_non | exact ev_str | exact ev_glob | exact ev_dct0 | exact ev_var rfl | exact ev_varc rfl | apply ev_demb | apply ev_rdrb | apply ev_bin | apply ev_neg | apply ev_not | apply ev_cmp | apply ev_cmpv | apply ev_inv | apply ev_chain | apply ev_lst | apply ev_tup | apply ev_ix | apply ev_ixv | apply ev_sl | apply ev_rev | apply ev_b1 | apply ev_lenv | apply ev_max2 | apply ev_min2 | apply ev_isi | (apply ev_and; rotate_left 1; (focus (intro _)); rotate_right 1) | (apply ev_or; rotate_left 1; (focus (intro _)); rotate_right 1) | (apply ev_ite; rotate_left 1; (focus (intro _)); rotate_left 1; (focus (intro _)); rotate_right 2) | exact evs_nil | apply evs_cons | exact evO_no | apply evO_yes | apply evT_ev | apply evT_not | apply evT_cmp | apply evT_cmpv | apply evT_inv | apply evT_chain | (apply evT_and; rotate_left 1; (focus (intro _)); rotate_right 1) | (apply evT_or; rotate_left 1; (focus (intro _)); rotate_right 1) | exact evC_no | apply evC_yes | apply evI_enmM | apply evI_zip | apply evI_seq | (first | (apply ev_comp0; (focus (first | (apply evI_r1; (focus (repeat' decreasing_trivial_pre_omega)); (focus omega)) | (repeat' decreasing_trivial_pre_omega))); (focus ((try simp only [List.length_range, List.length_map, List.length_zip, List.length_zipIdx]); (try unfold lim); omega)); (focus exact rfl); (focus (simp only [List.set_cons_zero, List.set_cons_succ, hideE, List.map_cons, List.map_nil, List.cons_append, List.nil_append] <;> exact rfl)); (focus (intro x m; (repeat' (first | (apply asg_nm; (focus exact rfl); (focus (simp only [List.set_cons_zero, List.set_cons_succ, hideE, List.map_cons, List.map_nil, List.cons_append, List.nil_append] <;> exact rfl))) | (apply asg_t2; (focus exact rfl)) | (apply asg_t2l; (focus exact rfl)) | (apply asg_t3; (focus exact rfl)))))); (focus (intro x m; (repeat' decreasing_trivial_pre_omega))); (focus (intro x m; exact rfl))) | (apply ev_comp; (focus (first | (apply evI_r1; (focus (repeat' decreasing_trivial_pre_omega)); (focus omega)) | (repeat' decreasing_trivial_pre_omega))); (focus ((try simp only [List.length_range, List.length_map, List.length_zip, List.length_zipIdx]); (try unfold lim); omega)); (focus exact rfl); (focus (simp only [List.set_cons_zero, List.set_cons_succ, hideE, List.map_cons, List.map_nil, List.cons_append, List.nil_append] <;> exact rfl)); (focus (intro x m; (repeat' (first | (apply asg_nm; (focus exact rfl); (focus (simp only [List.set_cons_zero, List.set_cons_succ, hideE, List.map_cons, List.map_nil, List.cons_append, List.nil_append] <;> exact rfl))) | (apply asg_t2; (focus exact rfl)) | (apply asg_t2l; (focus exact rfl)) | (apply asg_t3; (focus exact rfl)))))); (focus (intro x m; (repeat' decreasing_trivial_pre_omega))); (focus (intro x m _; (repeat' decreasing_trivial_pre_omega))); (focus (intro x m; exact rfl)))) | apply ev_callP | exact sorted_lN | exact sorted_tN | exact cmp_eq_tN | exact cmp_ne_tN | exact cmp_eq_lN | exact cmp_ne_lN | exact cmp_eq_lT | exact cmp_eq_bk | exact cmp_in_tN | exact cmp_notin_tN | exact cmp_in_lN | exact cmp_notin_lN | exact cmp_eq_int | exact cmp_ne_int | exact cmp_eq_nat | exact len_bk | exact len_tN | exact len_lN | exact len_map | exact len_mapT | exact sum_map | exact all_map | exact zip_map | exact tup_map | exact list_map | exact ix_lN (by first | assumption | omega) | exact ix_lT (by first | assumption | omega) | exact ix_map (by first | assumption | omega) | exact ix_mapT (by first | assumption | omega) | exact (rfl : Wd.get _ _ = _) | exact (rfl : binD _ _ _ = _) | exact (rfl : intOf _ = _) | exact (rfl : boolOf _ = _) | exact (rfl : itemsOf _ = _) | exact (rfl : isiD _ _ = _) | exact (rfl : cmpD _ _ _ = _) | exact (rfl : b1D _ _ = _) | exact (rfl : slD _ _ _ = _) | exact (rfl : ixD _ _ = _) | exact (rfl : revD _ = _) | exact (rfl : zipD _ _ = _) | exact (rfl : tupI _ = _) | exact dec_rfl rfl | assumption))
/-- the feed stands at fd -/
def Fd (fd : Nat) (s : List Ob) : Prop := (∃ a b : Int, s[fd]? = some (.box [.int a, .int b])) ∧ s.all noMeO = true
theorem fd_new {s0 : List Ob} {a b : Int} (h : s0.all noMeO = true) : Fd s0.length (s0 ++ [.box [.int a, .int b]]) := by
  refine ⟨⟨a, b, ?_⟩, ?_⟩
  · rw [List.getElem?_append_right (Nat.le_refl _), Nat.sub_self]; rfl
  · rw [List.all_append, h]; rfl
theorem Fd.set {fd : Nat} {s : List Ob} {a b : Int} (h : Fd fd s) : Fd fd (s.set fd (.box [.int a, .int b])) := by
  obtain ⟨⟨x, y, h1⟩, h2⟩ := h
  refine ⟨⟨a, b, ?_⟩, ?_⟩
  · rw [List.getElem?_set, if_pos rfl, if_pos (List.getElem?_eq_some_iff.mp h1).1]
  · rw [List.all_eq_true] at h2 ⊢
    intro o ho
    rcases List.mem_or_eq_of_mem_set ho with h | h
    · exact h2 o h
    · rw [h]; rfl
theorem Fd.at {fd : Nat} {s : List Ob} {a b : Int} (h : Fd fd s) : (s.set fd (.box [.int a, .int b]))[fd]? = some (.box [.int a, .int b]) := by
  obtain ⟨⟨x, y, h1⟩, h2⟩ := h
  rw [List.getElem?_set, if_pos rfl, if_pos (List.getElem?_eq_some_iff.mp h1).1]
theorem ix0 (c : List Int) (x : Int) : ∃ v, ixD (.lst (c.map .int ++ [.int x])) (.int 0) = some (.int v) := by
  have g : ∀ (d : D) (r : List D), ixD (.lst (d :: r)) (.int 0) = some d := fun d r => by
    show (ixN (d :: r).length ((0 : Nat) : Int)).bind _ = _
    rw [ixN_nat (by simp)]; rfl
  cases c with
  | nil => exact ⟨x, g _ _⟩
  | cons v r => exact ⟨v, g _ _⟩
theorem cut_one (ns : List Int) (k : Nat) : (cut ns (some (k : Int)) (some ((k : Int) + 1))).length ≤ 1 := by
  unfold cut
  rw [show ((k : Int) + 1) = ((k + 1 : Nat) : Int) by omega, HT.sIx_nat, HT.sIx_nat, List.length_take]
  omega
/-- a member, the tree of a value -/
theorem mem_ix {ds : List D} {i : Nat} (h : i < ds.length) : ∃ d ∈ ds, ixD (.lst ds) (nD i) = some d := by
  refine ⟨ds[i], List.getElem_mem h, ?_⟩
  show (ixN ds.length (i : Int)).bind _ = _
  rw [ixN_nat h]
  exact List.getElem?_eq_getElem h
theorem mem_ixT {ds : List D} {i : Nat} (h : i < ds.length) : ∃ d ∈ ds, ixD (.tup ds) (nD i) = some d := mem_ix h
theorem ix_cons {d : D} {r : List D} : ixD (.lst (d :: r)) (.int 0) = some d := by
  show (ixN (d :: r).length ((0 : Nat) : Int)).bind _ = _
  rw [ixN_nat (by simp)]; rfl
theorem c__law_feed {n k : Nat} {ns : List Int} {s0 : List Ob} (hk : k ≤ 5) (hs0 : s0.all noMeO = true) : ∃ s, Fd s0.length s ∧ Cal tab (n + 1) 18 [.scr ns, nD k] s0 = .ok (.ref s0.length) false s := by
  obtain ⟨v, hv⟩ := ix0 (cut ns (some (k : Int)) (some ((k : Int) + 1))) (71 * (k : Int) + 23)
  have hc := cut_one ns k
  have := @satC_ex (Cal tab (n + 1) 18 [.scr ns, nD k] s0) (fun d fr s => d = .ref s0.length ∧ fr = false ∧ Fd s0.length s) (by
    (refine call_sat rfl rfl ?_; show Sat (Runs (Cal tab _) il__law_feed ⟨[.val _, .val _, .no, .no], _⟩) _; unfold il__law_feed)
    apply sat_set
    · apply ev_ix
      · apply ev_bin
        · (repeat' (first | decreasing_trivial_pre_omega))
        · apply ev_lst
          · apply evs_cons
            · apply ev_bin
              · apply ev_bin
                · (repeat' (first | decreasing_trivial_pre_omega))
                · (repeat' (first | decreasing_trivial_pre_omega))
                · exact bin_mul (by omega)
              · (repeat' (first | decreasing_trivial_pre_omega))
              · (repeat' (first | decreasing_trivial_pre_omega))
            · (repeat' (first | decreasing_trivial_pre_omega))
          · rfl
        · exact bin_addL (by rw [List.length_map]; unfold lim; simp; omega)
      · (repeat' (first | decreasing_trivial_pre_omega))
      · exact hv
    · exact rfl
    · (first | (apply putF_v; (focus exact rfl); (simp only [List.set_cons_zero, List.set_cons_succ, hideE, List.map_cons, List.map_nil, List.cons_append, List.nil_append] <;> exact rfl)) | (apply putF_c; (focus exact rfl); (simp only [List.set_cons_zero, List.set_cons_succ, hideE, List.map_cons, List.map_nil, List.cons_append, List.nil_append] <;> exact rfl)))
    (apply sat_set; (focus (repeat' (first | decreasing_trivial_pre_omega))); (focus exact rfl); (focus (first | (apply putF_v; (focus exact rfl); (simp only [List.set_cons_zero, List.set_cons_succ, hideE, List.map_cons, List.map_nil, List.cons_append, List.nil_append] <;> exact rfl)) | (apply putF_c; (focus exact rfl); (simp only [List.set_cons_zero, List.set_cons_succ, hideE, List.map_cons, List.map_nil, List.cons_append, List.nil_append] <;> exact rfl)))))
    apply sat_ret
    · apply ev_box
      · apply evs_cons
        · (repeat' (first | decreasing_trivial_pre_omega))
        · apply evs_cons
          · apply ev_bin
            · apply ev_b1
              · apply ev_bin
                · apply ev_bin
                  · apply ev_bin
                    · (repeat' (first | decreasing_trivial_pre_omega))
                    · (repeat' (first | decreasing_trivial_pre_omega))
                    · exact bin_mul (by omega)
                  · apply ev_bin
                    · (repeat' (first | decreasing_trivial_pre_omega))
                    · (repeat' (first | decreasing_trivial_pre_omega))
                    · exact bin_mul (by omega)
                  · (repeat' (first | decreasing_trivial_pre_omega))
                · (repeat' (first | decreasing_trivial_pre_omega))
                · (repeat' (first | decreasing_trivial_pre_omega))
              · (repeat' (first | decreasing_trivial_pre_omega))
            · (repeat' (first | decreasing_trivial_pre_omega))
            · exact bin_mod (by omega)
          · (repeat' (first | decreasing_trivial_pre_omega))
      · exact rfl
    · exact ⟨rfl, rfl, fd_new hs0⟩)
  obtain ⟨d, fr, s, h1, rfl, rfl, h2⟩ := this
  exact ⟨s, h2, h1⟩
theorem c__law_take {n m fd : Nat} {s : List Ob} (hs : Fd fd s) (hm : 0 < m) (hm2 : m ≤ 1000000) : ∃ k s', k < m ∧ Fd fd s' ∧ Cal tab (n + 1) 19 [.ref fd, nD m] s = .ok (nD k) false s' := by
  obtain ⟨a, b, hb⟩ := hs.1
  have h1 : (0 : Int) < m := by omega
  have key : ∀ x : Int, ∃ k : Nat, k < m ∧ x % (m : Int) = k := fun x => ⟨(x % (m : Int)).toNat, by have := Int.emod_nonneg x (show (m : Int) ≠ 0 by omega); have := Int.emod_lt_of_pos x h1; omega, by have := Int.emod_nonneg x (show (m : Int) ≠ 0 by omega); omega⟩
  have := @satC_ex (Cal tab (n + 1) 19 [.ref fd, nD m] s) (fun d fr s => fr = false ∧ Fd fd s ∧ ∃ k : Nat, k < m ∧ d = nD k) (by
    (refine call_sat rfl rfl ?_; show Sat (Runs (Cal tab _) il__law_take ⟨[.val _, .val _, .no], _⟩) _; unfold il__law_take)
    apply sat_ite
    · apply evT_cmp
      · apply ev_ixb
        · exact rfl
        · (repeat' (first | decreasing_trivial_pre_omega))
        · exact rfl
        · exact hb
        · exact rfl
      · (repeat' (first | decreasing_trivial_pre_omega))
      · (repeat' (first | decreasing_trivial_pre_omega))
    · intro _
      apply sat_set
      · apply ev_bin
        · apply ev_b1
          · apply ev_ixb
            · exact rfl
            · (repeat' (first | decreasing_trivial_pre_omega))
            · exact rfl
            · exact hb
            · exact rfl
          · (repeat' (first | decreasing_trivial_pre_omega))
        · (repeat' (first | decreasing_trivial_pre_omega))
        · exact bin_mod h1
      · exact rfl
      · (first | (apply putF_v; (focus exact rfl); (simp only [List.set_cons_zero, List.set_cons_succ, hideE, List.map_cons, List.map_nil, List.cons_append, List.nil_append] <;> exact rfl)) | (apply putF_c; (focus exact rfl); (simp only [List.set_cons_zero, List.set_cons_succ, hideE, List.map_cons, List.map_nil, List.cons_append, List.nil_append] <;> exact rfl)))
      apply sat_setiB (n := 0)
      · apply ev_bin
        · apply ev_ixb
          · exact rfl
          · (repeat' (first | decreasing_trivial_pre_omega))
          · exact rfl
          · exact hb
          · exact rfl
        · (repeat' (first | decreasing_trivial_pre_omega))
        · exact bin_fdiv ⟨h1, by omega⟩
      · exact rfl
      · (repeat' (first | decreasing_trivial_pre_omega))
      · exact rfl
      · exact hb
      · exact rfl
      · simp
      apply sat_ret
      · (repeat' (first | decreasing_trivial_pre_omega))
      · obtain ⟨k, hk, e⟩ := key a
        exact ⟨rfl, hs.set, k, hk, by show D.int _ = D.int _; rw [e]⟩
    · intro _
      apply sat_nil
      apply nx_of'
      apply sat_setiB (n := 1)
      · apply ev_bin
        · apply ev_b1
          · apply ev_bin
            · apply ev_bin
              · apply ev_ixb
                · exact rfl
                · (repeat' (first | decreasing_trivial_pre_omega))
                · exact rfl
                · exact hb
                · exact rfl
              · (repeat' (first | decreasing_trivial_pre_omega))
              · exact bin_mul (by omega)
            · (repeat' (first | decreasing_trivial_pre_omega))
            · (repeat' (first | decreasing_trivial_pre_omega))
          · (repeat' (first | decreasing_trivial_pre_omega))
        · (repeat' (first | decreasing_trivial_pre_omega))
        · exact bin_mod (by omega)
      · exact rfl
      · (repeat' (first | decreasing_trivial_pre_omega))
      · exact rfl
      · exact hb
      · exact rfl
      · simp
      apply sat_ret
      · apply ev_bin
        · apply ev_b1
          · apply ev_bin
            · apply ev_ixb
              · exact rfl
              · (repeat' (first | decreasing_trivial_pre_omega))
              · exact rfl
              · exact hs.at
              · exact rfl
            · (repeat' (first | decreasing_trivial_pre_omega))
            · exact bin_fdiv (by omega)
          · (repeat' (first | decreasing_trivial_pre_omega))
        · (repeat' (first | decreasing_trivial_pre_omega))
        · exact bin_mod h1
      · obtain ⟨k, hk, e⟩ := key (((b * 69069 + 12345) % 4294967311) / 65536)
        exact ⟨rfl, hs.set, k, hk, by show D.int _ = D.int _; rw [← e]⟩)
  obtain ⟨d, fr, s, h1, rfl, h2, k, hk, rfl⟩ := this
  exact ⟨k, s, hk, h2, h1⟩
theorem c__law_pick {fd n : Nat} {ds : List D} {s : List Ob} (hs : Fd fd s) (h0 : 0 < ds.length) (h1 : ds.length ≤ 1000000) : ∃ d s', d ∈ ds ∧ Fd fd s' ∧ Cal tab (n + 2) 20 [.ref fd, .lst ds] s = .ok d false s' := by
  obtain ⟨k, s', hk, hs', hc⟩ := c__law_take (n := n) hs h0 h1
  obtain ⟨d, hd, hx⟩ := mem_ix hk
  refine ⟨d, s', hd, hs', ?_⟩
  (refine call_eq rfl rfl ?_; show Sat (Runs (Cal tab _) il__law_pick ⟨[.val _, .val _], _⟩) _; unfold il__law_pick)
  apply sat_ret
  · apply ev_ixv
    · exact rfl
    · apply ev_call
      · (repeat' (first | decreasing_trivial_pre_omega))
      · exact hc
    · exact rfl
    · exact hx
  · exact ⟨rfl, rfl, rfl⟩
theorem c__law_pickT {fd n : Nat} {ds : List D} {s : List Ob} (hs : Fd fd s) (h0 : 0 < ds.length) (h1 : ds.length ≤ 1000000) : ∃ d s', d ∈ ds ∧ Fd fd s' ∧ Cal tab (n + 2) 20 [.ref fd, .tup ds] s = .ok d false s' := by
  obtain ⟨k, s', hk, hs', hc⟩ := c__law_take (n := n) hs h0 h1
  obtain ⟨d, hd, hx⟩ := mem_ixT hk
  refine ⟨d, s', hd, hs', ?_⟩
  (refine call_eq rfl rfl ?_; show Sat (Runs (Cal tab _) il__law_pick ⟨[.val _, .val _], _⟩) _; unfold il__law_pick)
  apply sat_ret
  · apply ev_ixv
    · exact rfl
    · apply ev_call
      · (repeat' (first | decreasing_trivial_pre_omega))
      · exact hc
    · exact rfl
    · exact hx
  · exact ⟨rfl, rfl, rfl⟩
theorem range_rep (n : Nat) : (List.range n).map nD = (List.range n).map nD := rfl
/-- a row of a reader -/
theorem c__law_row {fd n : Nat} {l : Nat} {m : List Nat} {s : List Ob} (hs : Fd fd s) (hm : Asc m) (hl : m.length ≤ 6) : ∃ r s', Asc r ∧ (∀ x ∈ r, x ∈ m) ∧ r.length ≤ l ∧ Fd fd s' ∧ Cal tab (n + 2) 21 [.ref fd, rdD (l, m)] s = .ok (tN r) false s' := by
  obtain ⟨k, s1, hk, h1, c1⟩ := c__law_take (n := n) (m := 1 + min l m.length) hs (by omega) (by omega)
  have := @satC_ex (Cal tab (n + 2) 21 [.ref fd, rdD (l, m)] s) (fun d fr s' => ∃ r, d = tN r ∧ fr = false ∧ Asc r ∧ (∀ x ∈ r, x ∈ m) ∧ r.length ≤ l ∧ Fd fd s') (by
    (refine call_sat rfl rfl ?_; show Sat (Runs (Cal tab _) il__law_row ⟨[.val _, .val _, .no, .no, .no, .no, .no], _⟩) _; unfold il__law_row)
    (apply sat_setT; (focus (repeat' (first | decreasing_trivial_pre_omega))); (focus (repeat' (first | (apply asg_nm; (focus exact rfl); (focus (simp only [List.set_cons_zero, List.set_cons_succ, hideE, List.map_cons, List.map_nil, List.cons_append, List.nil_append] <;> exact rfl))) | (apply asg_t2; (focus exact rfl)) | (apply asg_t2l; (focus exact rfl)) | (apply asg_t3; (focus exact rfl))))))
    apply sat_par2
    · apply ev_b1
      · (repeat' (first | decreasing_trivial_pre_omega))
      · exact list_map
    · (repeat' (first | decreasing_trivial_pre_omega))
    · exact rfl
    · (first | (apply putF_v; (focus exact rfl); (simp only [List.set_cons_zero, List.set_cons_succ, hideE, List.map_cons, List.map_nil, List.cons_append, List.nil_append] <;> exact rfl)) | (apply putF_c; (focus exact rfl); (simp only [List.set_cons_zero, List.set_cons_succ, hideE, List.map_cons, List.map_nil, List.cons_append, List.nil_append] <;> exact rfl)))
    · (first | (apply putF_v; (focus exact rfl); (simp only [List.set_cons_zero, List.set_cons_succ, hideE, List.map_cons, List.map_nil, List.cons_append, List.nil_append] <;> exact rfl)) | (apply putF_c; (focus exact rfl); (simp only [List.set_cons_zero, List.set_cons_succ, hideE, List.map_cons, List.map_nil, List.cons_append, List.nil_append] <;> exact rfl)))
    have e0 : (D.int (1 + min (l : Int) (m.length : Nat))) = nD (1 + min l m.length) := by show D.int _ = D.int _; congr 1; omega
    apply sat_for (I := fun ds w => ∃ rest found t s, w = ⟨[.val (.ref fd), .val (rdD (l, m)), .val (nD l), .val (tN m), .cell (lN rest), .cell (lN found), t], s⟩ ∧ Fd fd s ∧ (found ++ rest).Perm m ∧ found.length + ds.length ≤ min l m.length)
    · apply evI_r1
      · apply ev_call
        · apply evs_cons
          · (repeat' (first | decreasing_trivial_pre_omega))
          · apply evs_cons
            · (repeat' (first | decreasing_trivial_pre_omega))
            · (repeat' (first | decreasing_trivial_pre_omega))
        · rw [show ([D.ref fd, D.int (1 + min (l : Int) (m.length : Nat))] : List D) = [.ref fd, nD (1 + min l m.length)] by rw [e0]]
          exact c1
      · omega
    · exact ⟨m, [], .no, s1, rfl, h1, .refl _, by rw [List.length_map, List.length_range]; simp; omega⟩
    · rintro d r w ⟨rest, found, t, s2, rfl, h2, hp, hc⟩
      have hlen := hp.length_eq
      rw [List.length_append] at hlen
      rw [List.length_cons] at hc
      obtain ⟨j, s3, hj, h3, c3⟩ := c__law_take (n := n) (m := rest.length) h2 (by omega) (by omega)
      refine ⟨_, by (repeat' (first | (apply asg_nm; (focus exact rfl); (focus (simp only [List.set_cons_zero, List.set_cons_succ, hideE, List.map_cons, List.map_nil, List.cons_append, List.nil_append] <;> exact rfl))) | (apply asg_t2; (focus exact rfl)) | (apply asg_t2l; (focus exact rfl)) | (apply asg_t3; (focus exact rfl)))), ?_⟩
      apply sat_app
      · exact rfl
      · apply ev_pop
        · exact rfl
        · apply ev_call
          · (repeat' (first | decreasing_trivial_pre_omega))
          · exact c3
        · exact rfl
        · rw [List.getElem?_map, List.getElem?_eq_getElem hj]; rfl
        · omega
      · exact rfl
      · rw [List.length_map]; unfold lim; omega
      apply sat_nil
      have ep := erase_perm (List.getElem?_eq_getElem hj)
      refine ⟨rest.eraseIdx j, found ++ [rest[j]], .val d, s3, ?_, h3, ?_, ?_⟩
      · simp only [List.set_cons_zero, List.set_cons_succ, map_erase]
        rw [show (List.map nD found ++ [(nD rest[j], false).1]) = (found ++ [rest[j]]).map nD by rw [List.map_append]; rfl]
        rfl
      · rw [List.append_assoc]
        exact (List.Perm.append_left found ep).trans hp
      · rw [List.length_append]; simp; omega
    · rintro w ⟨rest, found, t, s2, rfl, h2, hp, hc⟩
      apply sat_ret
      · (repeat' (first | decreasing_trivial_pre_omega))
      · have nd : (found ++ rest).Nodup := hp.nodup_iff.mpr (asc_nodup hm)
        refine ⟨sortN found, rfl, rfl, asc_sortN (List.nodup_append.mp nd).1, fun x hx => ?_, ?_, h2⟩
        · exact hp.mem_iff.mp (List.mem_append_left _ ((sortN_perm found).mem_iff.mp hx))
        · rw [(sortN_perm found).length_eq]; simp at hc; omega)
  obtain ⟨d, fr, s', h1, r, rfl, rfl, h2, h3, h4, h5⟩ := this
  exact ⟨r, s', h2, h3, h4, h5, h1⟩
theorem inv_in (x : Nat) (l : List Nat) : cmpD .isin (nD x) (tN l) = some (decide (x ∈ l)) := cmp_in_tN
/-- what a reader may be given -/
def RdOk (w : Nat) (p : Nat × List Nat) : Prop := p.1 ≤ 6 ∧ Asc p.2 ∧ ∀ x ∈ p.2, x < w
theorem asc_len {m : List Nat} {w : Nat} (h : Asc m) (hm : ∀ x ∈ m, x < w) : m.length ≤ w := by
  have : ∀ (w : Nat) (l : List Nat), l.Nodup → (∀ x ∈ l, x < w) → l.length ≤ w := by
    intro w
    induction w with
    | zero => intro l _ h; cases l with | nil => simp | cons a l => exact absurd (h a List.mem_cons_self) (by omega)
    | succ w ih =>
      intro l n h
      have h2 := ih (l.erase w) (n.erase w) fun x hx => by
        have := h x (List.mem_of_mem_erase hx)
        have : x ≠ w := fun e => by subst e; exact (List.Nodup.not_mem_erase n) hx
        omega
      have h3 : l.length ≤ (l.erase w).length + 1 := by
        rw [List.length_erase]; split <;> omega
      omega
  exact this w m (asc_nodup h) hm
/-- a row of a reader -/
def RowOf (p : Nat × List Nat) (r : List Nat) : Prop := Asc r ∧ (∀ x ∈ r, x ∈ p.2) ∧ r.length ≤ p.1
theorem fm_rows {P : (Nat × List Nat) → List Nat → Prop} {ab : List Nat} : ∀ {L : List ((Nat × List Nat) × Nat)} {ds : List D}, FM (fun q o => ∃ r, o = some (tN r) ∧ P q.1 r ∧ (q.2 ∈ ab → r = [])) L ds → ∃ rows : List (List Nat), ds = rows.map tN ∧ rows.length = L.length ∧ ∀ i q, L[i]? = some q → P q.1 (rows.getD i []) ∧ (q.2 ∈ ab → rows.getD i [] = [])
  | _, _, .nil => ⟨[], rfl, rfl, fun i q h => by simp at h⟩
  | _, _, .no ⟨r, h, _⟩ _ => by cases h
  | _, _, .yes (x := q) ⟨r, h, h2, h3⟩ t => by
    cases h
    obtain ⟨rows, e, hl, hr⟩ := fm_rows t
    subst e
    refine ⟨r :: rows, rfl, by simp [hl], fun i q' hi => ?_⟩
    cases i with
    | zero => simp at hi; subst hi; simpa using ⟨h2, h3⟩
    | succ i => simpa using hr i q' (by simpa using hi)
theorem c__law_rows {fd n w : Nat} {rd : List (Nat × List Nat)} {ab : List Nat} {s : List Ob} (hs : Fd fd s) (hr : rd.length ≤ 6) (hw : w ≤ 6) (hok : ∀ p ∈ rd, RdOk w p) : ∃ rows s', rows.length = rd.length ∧ (∀ i, i < rd.length → RowOf (rd.getD i default) (rows.getD i []) ∧ (i ∈ ab → rows.getD i [] = [])) ∧ Fd fd s' ∧ Cal tab (n + 3) 22 [.ref fd, .lst (rd.map rdD), tN ab] s = .ok (lT rows) true s' := by
  have := @satC_ex (Cal tab (n + 3) 22 [.ref fd, .lst (rd.map rdD), tN ab] s) (fun d fr s' => fr = true ∧ Fd fd s' ∧ ∃ rows, d = lT rows ∧ rows.length = rd.length ∧ (∀ i, i < rd.length → RowOf (rd.getD i default) (rows.getD i []) ∧ (i ∈ ab → rows.getD i [] = []))) (by
    (refine call_sat rfl rfl ?_; show Sat (Runs (Cal tab _) il__law_rows ⟨[.val _, .val _, .val _, .no, .no], _⟩) _; unfold il__law_rows)
    obtain ⟨ds, s', h1, h2, h3⟩ := ev_compE (cf := Cal tab (n + 2)) (own := [3, 4]) (g := .t2 (.nm 3) (.nm 4)) (it := .enm (.var 1)) (oc := .no) (w := ⟨[.val (.ref fd), .val (.lst (rd.map rdD)), .val (tN ab), .no, .no], s⟩) (w1 := ⟨[.val (.ref fd), .val (.lst (rd.map rdD)), .val (tN ab), .no, .no], s⟩) (e := .ite (.inv .isin (.var 3) 2) (.tup .nil) (.call 21 (.cons (.var 0) (.cons (.var 4) .nil)))) (L := rd.zipIdx) (enc := fun p => .tup [nD p.2, rdD p.1]) (e0 := [.val (.ref fd), .val (.lst (rd.map rdD)), .val (tN ab), .no, .no]) (asg := fun p => [.val (.ref fd), .val (.lst (rd.map rdD)), .val (tN ab), .val (nD p.2), .val (rdD p.1)])
      (Fd fd) (fun q o => ∃ r, o = some (tN r) ∧ RowOf q.1 r ∧ (q.2 ∈ ab → r = [])) (by (repeat' (first | decreasing_trivial_pre_omega))) hs (by rw [List.length_zipIdx]; unfold lim; omega) rfl rfl (fun x m s => by (repeat' (first | (apply asg_nm; (focus exact rfl); (focus (simp only [List.set_cons_zero, List.set_cons_succ, hideE, List.map_cons, List.map_nil, List.cons_append, List.nil_append] <;> exact rfl))) | (apply asg_t2; (focus exact rfl)) | (apply asg_t2l; (focus exact rfl)) | (apply asg_t3; (focus exact rfl))))) (fun x m => rfl) (fun x m s hs => ⟨true, s, by (repeat' (first | decreasing_trivial_pre_omega)), (fun z => nomatch z), fun _ => by
        have hx : RdOk w x.1 := hok _ (by obtain ⟨a, b⟩ := x; exact List.fst_mem_of_mem_zipIdx m)
        by_cases hab : x.2 ∈ ab
        · refine ⟨tN [], false, s, ?_, hs, [], rfl, ⟨List.Pairwise.nil, fun _ z => (nomatch z), Nat.zero_le _⟩, fun _ => rfl⟩
          have := ev_ite (cf := Cal tab (n + 2)) (a := .tup .nil) (b := .call 21 (.cons (.var 0) (.cons (.var 4) .nil))) (t := .inv .isin (.var 3) 2) (w := ⟨[.val (.ref fd), .val (.lst (rd.map rdD)), .val (tN ab), .val (nD x.2), .val (rdD x.1)], s⟩) (k := decide (x.2 ∈ ab)) (fr := false) (d1 := tN []) (d2 := .non) (by (repeat' (first | decreasing_trivial_pre_omega))) (fun _ => by (repeat' (first | decreasing_trivial_pre_omega))) (fun z => absurd (decide_eq_true hab) (by rw [z]; decide))
          rw [this, decide_eq_true hab]; rfl
        · obtain ⟨r, s2, k1, k2, k3, k4, k5⟩ := c__law_row (n := n) (l := x.1.1) hs hx.2.1 (Nat.le_trans (asc_len hx.2.1 hx.2.2) hw)
          refine ⟨tN r, false, s2, ?_, k4, r, rfl, ⟨k1, k2, k3⟩, fun z => absurd z hab⟩
          have := ev_ite (cf := Cal tab (n + 2)) (a := .tup .nil) (b := .call 21 (.cons (.var 0) (.cons (.var 4) .nil))) (t := .inv .isin (.var 3) 2) (w := ⟨[.val (.ref fd), .val (.lst (rd.map rdD)), .val (tN ab), .val (nD x.2), .val (rdD x.1)], s⟩) (k := decide (x.2 ∈ ab)) (fr := false) (d1 := .non) (d2 := tN r) (by (repeat' (first | decreasing_trivial_pre_omega))) (fun z => absurd z (by rw [decide_eq_false hab]; decide)) (fun _ => by
            apply ev_call
            · (repeat' (first | decreasing_trivial_pre_omega))
            · exact k5)
          rw [this, decide_eq_false hab]; rfl⟩)
    obtain ⟨rows, rfl, hl, hrow⟩ := fm_rows h3
    apply sat_ret
    · exact h1
    · refine ⟨rfl, h2, rows, rfl, by rw [hl, List.length_zipIdx], fun i hi => ?_⟩
      have := hrow i (rd.getD i default, i) (by rw [List.getElem?_zipIdx, List.getD_eq_getElem?_getD, List.getElem?_eq_getElem hi]; simp)
      exact this)
  obtain ⟨d, fr, s', h1, rfl, h2, rows, rfl, h3, h4⟩ := this
  exact ⟨rows, s', h3, h4, h2, h1⟩
def timesL (rows : List (List Nat)) (w : Nat) : List Nat := (List.range w).map fun x => (rows.filter fun r => decide (x ∈ r)).length
theorem c__law_times {n w : Nat} {rows : List (List Nat)} {s : List Ob} (h1 : rows.length ≤ 1000) (h2 : w ≤ 1000) : Cal tab (n + 1) 23 [lT rows, nD w] s = .ok (lN (timesL rows w)) true s := by
  (refine call_eq rfl rfl ?_; show Sat (Runs (Cal tab _) il__law_times ⟨[.val _, .val _, .no, .no], _⟩) _; unfold il__law_times)
  apply sat_ret
  · (repeat' (first | decreasing_trivial_pre_omega))
  · exact ⟨by unfold lN timesL; rw [List.map_map]; rfl, rfl, rfl⟩
theorem fm_sub {L : List Nat} {ds : List D} (h : FM (fun x o => o = none ∨ o = some (nD x)) L ds) : ∃ M : List Nat, ds = M.map nD ∧ M.Sublist L := by
  induction h with
  | nil => exact ⟨[], rfl, .slnil⟩
  | no _ _ ih => obtain ⟨M, e, h⟩ := ih; exact ⟨M, e, h.cons _⟩
  | yes h _ ih =>
    obtain ⟨M, e, h2⟩ := ih
    rcases h with h | h
    · cases h
    · cases h; exact ⟨_ :: M, by rw [e]; rfl, h2.cons₂ _⟩
theorem asc_range (n : Nat) : Asc (List.range n) := List.pairwise_lt_range
/-- what a law draws as a book -/
structure BkOk (b : Bk) : Prop where
  d1 : 1 ≤ b.dem.length
  d6 : b.dem.length ≤ 6
  dv : ∀ x ∈ b.dem, x ≤ 6
  r6 : b.rd.length ≤ 6
  rv : ∀ p ∈ b.rd, RdOk b.dem.length p
theorem pick_lim {d : D} (h : d ∈ ([.int 0, .int 1, .int 1, .int 1, .int 2, .int 2, .int 3, .int 4, .int 5, .int 6] : List D)) : ∃ j : Nat, j ≤ 6 ∧ d = nD j := by
  simp only [List.mem_cons, List.not_mem_nil, or_false] at h
  rcases h with rfl | rfl | rfl | rfl | rfl | rfl | rfl | rfl | rfl | rfl
  · exact ⟨0, by omega, rfl⟩
  · exact ⟨1, by omega, rfl⟩
  · exact ⟨1, by omega, rfl⟩
  · exact ⟨1, by omega, rfl⟩
  · exact ⟨2, by omega, rfl⟩
  · exact ⟨2, by omega, rfl⟩
  · exact ⟨3, by omega, rfl⟩
  · exact ⟨4, by omega, rfl⟩
  · exact ⟨5, by omega, rfl⟩
  · exact ⟨6, by omega, rfl⟩
theorem pick_six {d : D} (h : d ∈ ([.int 0, .int 0, .int 1, .int 1, .int 2, .int 6] : List D)) : ∃ j : Nat, j ≤ 6 ∧ d = nD j := by
  simp only [List.mem_cons, List.not_mem_nil, or_false] at h
  rcases h with rfl | rfl | rfl | rfl | rfl | rfl
  · exact ⟨0, by omega, rfl⟩
  · exact ⟨0, by omega, rfl⟩
  · exact ⟨1, by omega, rfl⟩
  · exact ⟨1, by omega, rfl⟩
  · exact ⟨2, by omega, rfl⟩
  · exact ⟨6, by omega, rfl⟩
theorem pick_dem {d : D} (h : d ∈ ([.int 0, .int 1, .int 1, .int 2, .int 3, .int 6] : List D)) : ∃ j : Nat, j ≤ 6 ∧ d = nD j := by
  simp only [List.mem_cons, List.not_mem_nil, or_false] at h
  rcases h with rfl | rfl | rfl | rfl | rfl | rfl
  · exact ⟨0, by omega, rfl⟩
  · exact ⟨1, by omega, rfl⟩
  · exact ⟨1, by omega, rfl⟩
  · exact ⟨2, by omega, rfl⟩
  · exact ⟨3, by omega, rfl⟩
  · exact ⟨6, by omega, rfl⟩
theorem c__law_book {fd n mw mr : Nat} {s : List Ob} (hs : Fd fd s) (h1 : 1 ≤ mw) (h6 : mw ≤ 6) (h7 : mr ≤ 6) : ∃ (b : Bk) (s' : List Ob), BkOk b ∧ b.dem.length ≤ mw ∧ b.rd.length ≤ mr ∧ Fd fd s' ∧ Cal tab (n + 4) 24 [.ref fd, nD mw, nD mr] s = .ok (.lst [lN b.dem, .lst (b.rd.map rdD)]) true s' := by
  obtain ⟨k, s1, hk, hs1, c1⟩ := c__law_take (n := n + 2) (m := mw) hs (by omega) (by omega)
  obtain ⟨wd, s2, hwd, hs2, c2⟩ := c__law_take (n := n + 2) (m := 3) hs1 (by omega) (by omega)
  obtain ⟨tn, s3, htn, hs3, c3⟩ := c__law_take (n := n + 2) (m := mr + 1) hs2 (by omega) (by omega)
  have := @satC_ex (Cal tab (n + 4) 24 [.ref fd, nD mw, nD mr] s) (fun d fr s' => fr = true ∧ Fd fd s' ∧ ∃ b : Bk, d = .lst [lN b.dem, .lst (b.rd.map rdD)] ∧ BkOk b ∧ b.dem.length ≤ mw ∧ b.rd.length ≤ mr) (by
    (refine call_sat rfl rfl ?_; show Sat (Runs (Cal tab _) il__law_book ⟨[.val _, .val _, .val _, .no, .no, .no, .no, .no, .no, .no], _⟩) _; unfold il__law_book)
    have ew : (D.int (1 + (k : Int))) = nD (1 + k) := by show D.int _ = D.int _; congr 1
    apply sat_par2 (x := (nD (1 + k), false))
    · rw [← ew]
      apply ev_bin
      · (repeat' (first | decreasing_trivial_pre_omega))
      · apply ev_call
        · (repeat' (first | decreasing_trivial_pre_omega))
        · exact c1
      · (repeat' (first | decreasing_trivial_pre_omega))
    · (repeat' (first | decreasing_trivial_pre_omega))
    · exact rfl
    · (first | (apply putF_v; (focus exact rfl); (simp only [List.set_cons_zero, List.set_cons_succ, hideE, List.map_cons, List.map_nil, List.cons_append, List.nil_append] <;> exact rfl)) | (apply putF_c; (focus exact rfl); (simp only [List.set_cons_zero, List.set_cons_succ, hideE, List.map_cons, List.map_nil, List.cons_append, List.nil_append] <;> exact rfl)))
    · (first | (apply putF_v; (focus exact rfl); (simp only [List.set_cons_zero, List.set_cons_succ, hideE, List.map_cons, List.map_nil, List.cons_append, List.nil_append] <;> exact rfl)) | (apply putF_c; (focus exact rfl); (simp only [List.set_cons_zero, List.set_cons_succ, hideE, List.map_cons, List.map_nil, List.cons_append, List.nil_append] <;> exact rfl)))
    apply sat_set
    · apply ev_call
      · (repeat' (first | decreasing_trivial_pre_omega))
      · exact c2
    · exact rfl
    · (first | (apply putF_v; (focus exact rfl); (simp only [List.set_cons_zero, List.set_cons_succ, hideE, List.map_cons, List.map_nil, List.cons_append, List.nil_append] <;> exact rfl)) | (apply putF_c; (focus exact rfl); (simp only [List.set_cons_zero, List.set_cons_succ, hideE, List.map_cons, List.map_nil, List.cons_append, List.nil_append] <;> exact rfl)))
    apply sat_for (I := fun ds w => ∃ (rd : List (Nat × List Nat)) (t6 t7 : Sl) (s : List Ob), w = ⟨[.val (.ref fd), .val (nD mw), .val (nD mr), .val (nD (1 + k)), .cell (.lst (rd.map rdD)), .val (nD wd), t6, t7, .no, .no], s⟩ ∧ Fd fd s ∧ (∀ p ∈ rd, RdOk (1 + k) p) ∧ rd.length + ds.length ≤ mr)
    · apply evI_r1
      · apply ev_call
        · (repeat' (first | decreasing_trivial_pre_omega))
        · exact c3
      · omega
    · exact ⟨[], .no, .no, s3, rfl, hs3, fun _ z => (nomatch z), by rw [List.length_map, List.length_range]; simp; omega⟩
    · rintro d r w ⟨rd, t6, t7, s4, rfl, hs4, hrd, hlen⟩
      rw [List.length_cons] at hlen
      refine ⟨_, by (repeat' (first | (apply asg_nm; (focus exact rfl); (focus (simp only [List.set_cons_zero, List.set_cons_succ, hideE, List.map_cons, List.map_nil, List.cons_append, List.nil_append] <;> exact rfl))) | (apply asg_t2; (focus exact rfl)) | (apply asg_t2l; (focus exact rfl)) | (apply asg_t3; (focus exact rfl)))), ?_⟩
      apply ss_set
      apply se_comp (Fd fd) (fun x o => o = none ∨ o = some (nD x))
      · apply evI_r1
        · (repeat' (first | decreasing_trivial_pre_omega))
        · omega
      · exact hs4
      · rw [List.length_range]; unfold lim; omega
      · exact rfl
      · (simp only [List.set_cons_zero, List.set_cons_succ, hideE, List.map_cons, List.map_nil, List.cons_append, List.nil_append] <;> exact rfl)
      · intro x m s; (repeat' (first | (apply asg_nm; (focus exact rfl); (focus (simp only [List.set_cons_zero, List.set_cons_succ, hideE, List.map_cons, List.map_nil, List.cons_append, List.nil_append] <;> exact rfl))) | (apply asg_t2; (focus exact rfl)) | (apply asg_t2l; (focus exact rfl)) | (apply asg_t3; (focus exact rfl))))
      · intro x m; exact rfl
      · intro x m s hs
        obtain ⟨j, s5, hj, hs5, c5⟩ := c__law_take (n := n + 2) (m := 3) hs (by omega) (by omega)
        refine ⟨decide ((j : Int) < 1 + (wd : Int)), s5, ?_, fun _ => ⟨hs5, .inl rfl⟩, fun _ => ⟨nD x, false, s5, by (repeat' (first | decreasing_trivial_pre_omega)), hs5, .inr rfl⟩⟩
        apply evC_yes
        apply evT_cmp
        · apply ev_call
          · (repeat' (first | decreasing_trivial_pre_omega))
          · exact c5
        · (repeat' (first | decreasing_trivial_pre_omega))
        · (repeat' (first | decreasing_trivial_pre_omega))
      · intro ds s5 hs5 fm
        refine ⟨rfl, ?_⟩
        obtain ⟨M, rfl, sub⟩ := fm_sub fm
        obtain ⟨d2, s6, hd2, hs6, c6⟩ := c__law_pick (n := n + 1) (ds := [.int 0, .int 1, .int 1, .int 1, .int 2, .int 2, .int 3, .int 4, .int 5, .int 6]) hs5 (by simp) (by simp)
        obtain ⟨j, hj, rfl⟩ := pick_lim hd2
        rw [putF_c rfl rfl]
        simp only [List.set_cons_zero, List.set_cons_succ]
        apply sat_app
        · exact rfl
        · apply ev_tup
          · apply evs_cons
            · apply ev_call
              · (repeat' (first | decreasing_trivial_pre_omega))
              · exact c6
            · apply evs_cons
              · apply ev_b1
                · (repeat' (first | decreasing_trivial_pre_omega))
                · exact tup_map
              · (repeat' (first | decreasing_trivial_pre_omega))
          · exact rfl
        · exact rfl
        · rw [List.length_map]; unfold lim; omega
        apply sat_nil
        refine ⟨rd ++ [(j, M)], .val d, .val (.lst (M.map nD)), s6, ?_, hs6, ?_, ?_⟩
        · simp only [List.set_cons_zero, List.set_cons_succ, Wd.put, List.map_append]
          rfl
        · intro p hp
          rcases List.mem_append.mp hp with hp | hp
          · exact hrd p hp
          · rw [List.mem_singleton.mp hp]
            exact ⟨hj, (asc_range _).sublist sub, fun x hx => List.mem_range.mp (sub.subset hx)⟩
        · rw [List.length_append]; simp; omega
    · rintro w ⟨rd, t6, t7, s4, rfl, hs4, hrd, hlen⟩
      simp only [List.length_nil, Nat.add_zero] at hlen
      obtain ⟨rows, s5, hl5, hr5, hs5, c5⟩ := c__law_rows (n := n) (w := 1 + k) (ab := []) hs4 (by omega) (by omega) hrd
      have ht := c__law_times (n := n + 2) (w := 1 + k) (rows := rows) (s := s5) (by omega) (by omega)
      obtain ⟨d2, s6, hd2, hs6, c6⟩ := c__law_pick (n := n + 1) (ds := [.int 0, .int 0, .int 1, .int 1, .int 2, .int 6]) hs5 (by simp) (by simp)
      obtain ⟨tm, htm, rfl⟩ := pick_six hd2
      apply sat_set
      · apply ev_call
        · apply evs_cons
          · apply ev_call
            · (repeat' (first | decreasing_trivial_pre_omega))
            · exact c5
          · (repeat' (first | decreasing_trivial_pre_omega))
        · exact ht
      · exact rfl
      · simp only [Wd.put, List.set_cons_zero, List.set_cons_succ]; (first | (apply putF_v; (focus exact rfl); (simp only [List.set_cons_zero, List.set_cons_succ, hideE, List.map_cons, List.map_nil, List.cons_append, List.nil_append] <;> exact rfl)) | (apply putF_c; (focus exact rfl); (simp only [List.set_cons_zero, List.set_cons_succ, hideE, List.map_cons, List.map_nil, List.cons_append, List.nil_append] <;> exact rfl)))
      apply sat_for (I := fun ds w => ∃ (dem : List Nat) (t6 t7 : Sl) (s : List Ob), w = ⟨[.val (.ref fd), .val (nD mw), .val (nD mr), .val (nD (1 + k)), .val (.lst (rd.map rdD)), .val (nD wd), t6, t7, .cell (lN dem), .no], s⟩ ∧ Fd fd s ∧ dem.length = 1 + k ∧ ∀ x ∈ dem, x ≤ 6)
      · apply evI_r1
        · apply ev_call
          · (repeat' (first | decreasing_trivial_pre_omega))
          · exact c6
        · omega
      · refine ⟨timesL rows (1 + k), t6, t7, s6, rfl, hs6, by unfold timesL; rw [List.length_map, List.length_range], fun x hx => ?_⟩
        obtain ⟨y, _, rfl⟩ := List.mem_map.mp hx
        exact Nat.le_trans (List.length_filter_le _ _) (by omega)
      · rintro d r w ⟨dem, t6, t7, s7, rfl, hs7, hd7, hv7⟩
        obtain ⟨d3, s8, hd3, hs8, c8⟩ := c__law_pick (n := n + 1) (ds := [.int 0, .int 1, .int 1, .int 2, .int 3, .int 6]) hs7 (by simp) (by simp)
        obtain ⟨v, hv, rfl⟩ := pick_dem hd3
        obtain ⟨j, s9, hj, hs9, c9⟩ := c__law_take (n := n + 2) (m := 1 + k) hs8 (by omega) (by omega)
        refine ⟨_, by (repeat' (first | (apply asg_nm; (focus exact rfl); (focus (simp only [List.set_cons_zero, List.set_cons_succ, hideE, List.map_cons, List.map_nil, List.cons_append, List.nil_append] <;> exact rfl))) | (apply asg_t2; (focus exact rfl)) | (apply asg_t2l; (focus exact rfl)) | (apply asg_t3; (focus exact rfl)))), ?_⟩
        apply sat_setiL
        · apply ev_call
          · (repeat' (first | decreasing_trivial_pre_omega))
          · exact c8
        · exact rfl
        · apply ev_call
          · (repeat' (first | decreasing_trivial_pre_omega))
          · exact c9
        · exact rfl
        · exact rfl
        · rw [List.length_map]; omega
        apply sat_nil
        refine ⟨dem.set j v, .val d, t7, s9, ?_, hs9, by rw [List.length_set]; exact hd7, fun x hx => ?_⟩
        · simp only [List.set_cons_zero, List.set_cons_succ, lN, List.map_set]
        · rcases List.mem_or_eq_of_mem_set hx with h | h
          · exact hv7 x h
          · omega
      · rintro w ⟨dem, t6, t7, s7, rfl, hs7, hd7, hv7⟩
        apply sat_ret
        · (repeat' (first | decreasing_trivial_pre_omega))
        · exact ⟨rfl, hs7, ⟨dem, rd⟩, rfl, ⟨by show 1 ≤ dem.length; omega, by show dem.length ≤ 6; omega, hv7, by show rd.length ≤ 6; omega, by show ∀ p ∈ rd, RdOk dem.length p; rw [hd7]; exact hrd⟩, by show dem.length ≤ mw; omega, by show rd.length ≤ mr; omega⟩)
  obtain ⟨d, fr, s', h1, rfl, h2, b, rfl, h3, h4, h5⟩ := this
  exact ⟨b, s', h3, h4, h5, h2, h1⟩
theorem c__law_gone {fd n : Nat} {rs : List D} {s : List Ob} (hs : Fd fd s) (hr : rs.length ≤ 6) : ∃ ab s', Asc ab ∧ (∀ x ∈ ab, x < rs.length) ∧ Fd fd s' ∧ Cal tab (n + 2) 25 [.ref fd, .lst rs] s = .ok (tN ab) false s' := by
  have := @satC_ex (Cal tab (n + 2) 25 [.ref fd, .lst rs] s) (fun d fr s' => fr = false ∧ Fd fd s' ∧ ∃ ab, d = tN ab ∧ Asc ab ∧ ∀ x ∈ ab, x < rs.length) (by
    (refine call_sat rfl rfl ?_; show Sat (Runs (Cal tab _) il__law_gone ⟨[.val _, .val _, .no], _⟩) _; unfold il__law_gone)
    apply ss_ret
    apply se_b1
    apply se_comp (Fd fd) (fun x o => o = none ∨ o = some (nD x))
    · apply evI_r1
      · apply ev_lenv
        · exact rfl
        · exact rfl
      · omega
    · exact hs
    · rw [List.length_range]; unfold lim; omega
    · exact rfl
    · (simp only [List.set_cons_zero, List.set_cons_succ, hideE, List.map_cons, List.map_nil, List.cons_append, List.nil_append] <;> exact rfl)
    · intro x m s; (repeat' (first | (apply asg_nm; (focus exact rfl); (focus (simp only [List.set_cons_zero, List.set_cons_succ, hideE, List.map_cons, List.map_nil, List.cons_append, List.nil_append] <;> exact rfl))) | (apply asg_t2; (focus exact rfl)) | (apply asg_t2l; (focus exact rfl)) | (apply asg_t3; (focus exact rfl))))
    · intro x m; exact rfl
    · intro x m s hs
      obtain ⟨j, s5, hj, hs5, c5⟩ := c__law_take (n := n) (m := 5) hs (by omega) (by omega)
      refine ⟨decide ((j : Int) = 0), s5, ?_, fun _ => ⟨hs5, .inl rfl⟩, fun _ => ⟨nD x, false, s5, by (repeat' (first | decreasing_trivial_pre_omega)), hs5, .inr rfl⟩⟩
      apply evC_yes
      apply evT_cmp
      · apply ev_call
        · (repeat' (first | decreasing_trivial_pre_omega))
        · exact c5
      · (repeat' (first | decreasing_trivial_pre_omega))
      · (repeat' (first | decreasing_trivial_pre_omega))
    · intro ds s5 hs5 fm
      obtain ⟨M, rfl, sub⟩ := fm_sub fm
      exact ⟨tN M, rfl, rfl, hs5, M, rfl, (asc_range _).sublist sub, fun x hx => List.mem_range.mp (sub.subset hx)⟩)
  obtain ⟨d, fr, s', h1, rfl, h2, ab, rfl, h3, h4⟩ := this
  exact ⟨ab, s', h3, h4, h2, h1⟩
def presL (n : Nat) (ab : List Nat) : List Nat := (List.range n).filter fun r => !decide (r ∈ ab)
theorem c__law_present {n : Nat} {rs : List D} {ab : List Nat} {s : List Ob} (hr : rs.length ≤ 6) : Cal tab (n + 1) 26 [.lst rs, tN ab] s = .ok (lN (presL rs.length ab)) true s := by
  (refine call_eq rfl rfl ?_; show Sat (Runs (Cal tab _) il__law_present ⟨[.val _, .val _, .no], _⟩) _; unfold il__law_present)
  apply sat_ret
  · apply ev_comp
    · apply evI_r1
      · apply ev_lenv
        · exact rfl
        · exact rfl
      · omega
    · rw [List.length_range]; unfold lim; omega
    · exact rfl
    · (simp only [List.set_cons_zero, List.set_cons_succ, hideE, List.map_cons, List.map_nil, List.cons_append, List.nil_append] <;> exact rfl)
    · intro x m; (repeat' (first | (apply asg_nm; (focus exact rfl); (focus (simp only [List.set_cons_zero, List.set_cons_succ, hideE, List.map_cons, List.map_nil, List.cons_append, List.nil_append] <;> exact rfl))) | (apply asg_t2; (focus exact rfl)) | (apply asg_t2l; (focus exact rfl)) | (apply asg_t3; (focus exact rfl))))
    · intro x m; (repeat' (first | decreasing_trivial_pre_omega))
    · intro x m _; (repeat' (first | decreasing_trivial_pre_omega))
    · intro x m; exact rfl
  · exact ⟨rfl, rfl, rfl⟩
theorem c__law_sets {n : Nat} {L : List Nat} {s : List Ob} (h6 : L.length ≤ 6) : Cal tab (n + 1) 27 [lN L] s = .ok (lT (setsL L)) false s := by
  have hb : ∀ k, k ≤ 6 → 6 ^ k ≤ 46656 := fun k hk => Nat.le_trans (Nat.pow_le_pow_right (by omega) hk) (by decide)
  (refine call_eq rfl rfl ?_; show Sat (Runs (Cal tab _) il__law_sets ⟨[.val _, .no, .no, .no, .no, .no, .no], _⟩) _; unfold il__law_sets)
  (apply sat_par2; (focus (repeat' (first | decreasing_trivial_pre_omega))); (focus (repeat' (first | decreasing_trivial_pre_omega))); (focus exact rfl); (focus (first | (apply putF_v; (focus exact rfl); (simp only [List.set_cons_zero, List.set_cons_succ, hideE, List.map_cons, List.map_nil, List.cons_append, List.nil_append] <;> exact rfl)) | (apply putF_c; (focus exact rfl); (simp only [List.set_cons_zero, List.set_cons_succ, hideE, List.map_cons, List.map_nil, List.cons_append, List.nil_append] <;> exact rfl)))); (focus (first | (apply putF_v; (focus exact rfl); (simp only [List.set_cons_zero, List.set_cons_succ, hideE, List.map_cons, List.map_nil, List.cons_append, List.nil_append] <;> exact rfl)) | (apply putF_c; (focus exact rfl); (simp only [List.set_cons_zero, List.set_cons_succ, hideE, List.map_cons, List.map_nil, List.cons_append, List.nil_append] <;> exact rfl)))))
  apply sat_for (I := fun ds w => ∃ (k : Nat) (t2 t3 t4 t5 : Sl), w = ⟨[.val (lN L), .cell (lT (upL L k)), t2, t3, t4, t5, .no], s⟩ ∧ (t2 = .cell (lT (lvlL L k)) ∨ t2 = .val (lT (lvlL L k))) ∧ k + ds.length = L.length)
  · apply evI_r1
    · apply ev_lenv
      · exact rfl
      · exact len_lN
    · omega
  · exact ⟨0, _, _, _, _, rfl, .inl rfl, by rw [List.length_map, List.length_range]; omega⟩
  · rintro d r w ⟨k, t2, t3, t4, t5, rfl, h2, hk⟩
    rw [List.length_cons] at hk
    refine ⟨_, by (repeat' (first | (apply asg_nm; (focus exact rfl); (focus (simp only [List.set_cons_zero, List.set_cons_succ, hideE, List.map_cons, List.map_nil, List.cons_append, List.nil_append] <;> exact rfl))) | (apply asg_t2; (focus exact rfl)) | (apply asg_t2l; (focus exact rfl)) | (apply asg_t3; (focus exact rfl)))), ?_⟩
    (apply sat_set; (focus (repeat' (first | decreasing_trivial_pre_omega))); (focus exact rfl); (focus (first | (apply putF_v; (focus exact rfl); (simp only [List.set_cons_zero, List.set_cons_succ, hideE, List.map_cons, List.map_nil, List.cons_append, List.nil_append] <;> exact rfl)) | (apply putF_c; (focus exact rfl); (simp only [List.set_cons_zero, List.set_cons_succ, hideE, List.map_cons, List.map_nil, List.cons_append, List.nil_append] <;> exact rfl)))))
    apply sat_for (I := fun ds w => ∃ (done rest : List (List Nat)) (t5 : Sl), w = ⟨[.val (lN L), .cell (lT (upL L k)), .val (lT (lvlL L k)), .val d, .cell (lT (nextL L done)), t5, .no], s⟩ ∧ ds = rest.map tN ∧ done ++ rest = lvlL L k)
    · apply evI_seq
      · exact ev_varS (d := lT (lvlL L k)) (h2.elim (fun h => .inl (by rw [h]; rfl)) fun h => .inr (by rw [h]; rfl))
      · exact rfl
    · exact ⟨[], lvlL L k, t5, rfl, rfl, rfl⟩
    · rintro d2 r2 w ⟨done, rest, t5, rfl, hr, hdr⟩
      cases rest with
      | nil => cases hr
      | cons one rest =>
        rw [List.map_cons] at hr
        obtain ⟨rfl, rfl⟩ := List.cons.inj hr
        have hl1 := nextL_len L (done ++ [one])
        have hl2 := lvlL_len h6 k
        have hl3 := hb k (by omega)
        have hl4 : (done ++ [one]).length ≤ (lvlL L k).length := by rw [← hdr, List.length_append, List.length_append, List.length_cons]; simp
        have hl5 : L.length * (done ++ [one]).length ≤ 6 * (done ++ [one]).length := Nat.mul_le_mul_right _ h6
        have hn : nextL L (done ++ [one]) = nextL L done ++ (L.filter fun t => decide (one = []) || decide ((one.getLast?.getD 0) < t)).map fun t => one ++ [t] := by
          unfold nextL; rw [List.flatMap_append]; simp
        have hl8 : (nextL L (done ++ [one])).length ≤ 46656 := by
          have a1 : nextL L (lvlL L k) = nextL L (done ++ [one]) ++ nextL L rest := by
            rw [← hdr]; unfold nextL; rw [← List.flatMap_append, List.append_assoc]; rfl
          have a2 := lvlL_len h6 (k + 1)
          have a3 := hb (k + 1) (by omega)
          have a4 : (lvlL L (k + 1)).length = (nextL L (done ++ [one])).length + (nextL L rest).length := by
            show (nextL L (lvlL L k)).length = _
            rw [a1, List.length_append]
          omega
        have hl6 : one.length ≤ 6 := by
          have : one ∈ lvlL L k := by rw [← hdr]; simp
          rw [(lvlL_mem this).2.2]; omega
        refine ⟨_, by (repeat' (first | (apply asg_nm; (focus exact rfl); (focus (simp only [List.set_cons_zero, List.set_cons_succ, hideE, List.map_cons, List.map_nil, List.cons_append, List.nil_append] <;> exact rfl))) | (apply asg_t2; (focus exact rfl)) | (apply asg_t2l; (focus exact rfl)) | (apply asg_t3; (focus exact rfl)))), ?_⟩
        apply sat_set
        · apply ev_bin
          · (repeat' (first | decreasing_trivial_pre_omega))
          · apply ev_comp
            · (repeat' (first | decreasing_trivial_pre_omega))
            · unfold lim; omega
            · exact rfl
            · (simp only [List.set_cons_zero, List.set_cons_succ, hideE, List.map_cons, List.map_nil, List.cons_append, List.nil_append] <;> exact rfl)
            · intro x m; (repeat' (first | (apply asg_nm; (focus exact rfl); (focus (simp only [List.set_cons_zero, List.set_cons_succ, hideE, List.map_cons, List.map_nil, List.cons_append, List.nil_append] <;> exact rfl))) | (apply asg_t2; (focus exact rfl)) | (apply asg_t2l; (focus exact rfl)) | (apply asg_t3; (focus exact rfl))))
            · intro x m
              apply evC_yes
              apply evT_or
              · apply evT_cmpv
                · exact rfl
                · (repeat' (first | decreasing_trivial_pre_omega))
                · exact rfl
                · exact cmp_eq_tN (b := [])
              · intro h
                have hne : one ≠ [] := of_decide_eq_false h
                apply evT_cmpv (k := decide (((one.getLast?.getD 0 : Nat) : Int) < (x : Int)))
                · exact rfl
                · apply ev_ixv
                  · exact rfl
                  · (repeat' (first | decreasing_trivial_pre_omega))
                  · exact rfl
                  · exact ix_last hne
                · exact rfl
                · rw [List.getLast?_eq_some_getLast hne]; exact rfl
            · intro x m _
              apply ev_bin
              · (repeat' (first | decreasing_trivial_pre_omega))
              · (repeat' (first | decreasing_trivial_pre_omega))
              · exact bin_addtN (ys := [x]) (by unfold lim; simp; omega)
            · intro x m; exact rfl
          · refine bin_addL ?_
            rw [hn, List.length_append, List.length_map] at hl8
            rw [List.length_map, List.length_map]
            have ef : (fun x : Nat => decide (one = []) || decide (((one.getLast?.getD 0 : Nat) : Int) < (x : Int))) = fun t => decide (one = []) || decide ((one.getLast?.getD 0) < t) := by
              funext x; congr 1; exact decide_eq_decide.mpr (by omega)
            rw [ef]
            unfold lim; omega
        · exact rfl
        · simp only [Wd.put, List.set_cons_zero, List.set_cons_succ]; (first | (apply putF_v; (focus exact rfl); (simp only [List.set_cons_zero, List.set_cons_succ, hideE, List.map_cons, List.map_nil, List.cons_append, List.nil_append] <;> exact rfl)) | (apply putF_c; (focus exact rfl); (simp only [List.set_cons_zero, List.set_cons_succ, hideE, List.map_cons, List.map_nil, List.cons_append, List.nil_append] <;> exact rfl)))
        apply sat_nil
        refine ⟨done ++ [one], rest, .val (tN one), ?_, rfl, by rw [List.append_assoc]; exact hdr⟩
        rw [hn]
        show (⟨_, s⟩ : Wd) = ⟨[_, _, _, _, .cell (.lst ((nextL L done ++ _).map tN)), _, _], s⟩
        rw [List.map_append, List.map_map]
        congr 7
        refine congrArg _ (congrArg _ ?_)
        congr 1
        have ef : (fun x : Nat => decide (one = []) || decide (((one.getLast?.getD 0 : Nat) : Int) < (x : Int))) = fun t => decide (one = []) || decide ((one.getLast?.getD 0) < t) := by
          funext x; congr 1; exact decide_eq_decide.mpr (by omega)
        rw [ef]
    · rintro w ⟨done, rest, t5, rfl, hr, hdr⟩
      have : rest = [] := by cases rest with | nil => rfl | cons a b => cases hr
      subst this
      rw [List.append_nil] at hdr
      subst hdr
      have hl1 := upL_len h6 k
      have hl2 := lvlL_len h6 (k + 1)
      have hl3 := hb (k + 1) (by omega)
      have hl4 : 6 ^ (k + 1) = 6 * 6 ^ k := by rw [Nat.pow_succ, Nat.mul_comm]
      have hl5 : (nextL L (lvlL L k)).length = (lvlL L (k + 1)).length := rfl
      apply sat_par2
      · apply ev_bin
        · exact ev_varc rfl
        · exact ev_varc rfl
        · exact bin_addL (by rw [List.length_map, List.length_map]; unfold lim; omega)
      · simp only [Wd.put, List.set_cons_zero, List.set_cons_succ]
        (repeat' (first | decreasing_trivial_pre_omega))
      · exact rfl
      · (first | (apply putF_v; (focus exact rfl); (simp only [List.set_cons_zero, List.set_cons_succ, hideE, List.map_cons, List.map_nil, List.cons_append, List.nil_append] <;> exact rfl)) | (apply putF_c; (focus exact rfl); (simp only [List.set_cons_zero, List.set_cons_succ, hideE, List.map_cons, List.map_nil, List.cons_append, List.nil_append] <;> exact rfl)))
      · (first | (apply putF_v; (focus exact rfl); (simp only [List.set_cons_zero, List.set_cons_succ, hideE, List.map_cons, List.map_nil, List.cons_append, List.nil_append] <;> exact rfl)) | (apply putF_c; (focus exact rfl); (simp only [List.set_cons_zero, List.set_cons_succ, hideE, List.map_cons, List.map_nil, List.cons_append, List.nil_append] <;> exact rfl)))
      apply sat_nil
      refine ⟨k + 1, .val (lT (lvlL L (k + 1))), .val d, .val (lT (nextL L (lvlL L k))), t5, ?_, .inr rfl, by omega⟩
      rw [show lT (upL L (k + 1)) = .lst ((upL L k).map tN ++ (nextL L (lvlL L k)).map tN) by show D.lst ((upL L k ++ lvlL L (k + 1)).map tN) = _; rw [List.map_append]; rfl]
      rfl
  · rintro w ⟨k, t2, t3, t4, t5, rfl, h2, hk⟩
    simp only [List.length_nil, Nat.add_zero] at hk
    subst hk
    apply sat_ret
    · exact ev_varc rfl
    · exact ⟨rfl, rfl, rfl⟩
theorem c__law_count {n r : Nat} {rd : List (Nat × List Nat)} {rows : List (List Nat)} {W : List Nat} {s : List Ob} (h1 : r < rd.length) (h2 : r < rows.length) (h3 : (rows.getD r []).length ≤ 1000) (h4 : (rd.getD r default).2.length ≤ 1000) : Cal tab (n + 1) 28 [.lst (rd.map rdD), lT rows, nD r, tN W] s = .ok (.int (cntL rd rows r W)) false s := by
  (refine call_eq rfl rfl ?_; show Sat (Runs (Cal tab _) il__law_count ⟨[.val _, .val _, .val _, .val _, .no, .no, .no, .no, .no], _⟩) _; unfold il__law_count)
  (apply sat_setT; (focus (repeat' (first | decreasing_trivial_pre_omega))); (focus (repeat' (first | (apply asg_nm; (focus exact rfl); (focus (simp only [List.set_cons_zero, List.set_cons_succ, hideE, List.map_cons, List.map_nil, List.cons_append, List.nil_append] <;> exact rfl))) | (apply asg_t2; (focus exact rfl)) | (apply asg_t2l; (focus exact rfl)) | (apply asg_t3; (focus exact rfl))))))
  (apply sat_set; (focus (first | (apply ev_comp0; (focus (first | (apply evI_r1; (focus (repeat' (first | decreasing_trivial_pre_omega))); (focus omega)) | (repeat' (first | decreasing_trivial_pre_omega)))); (focus ((try simp only [List.length_range, List.length_map, List.length_zip, List.length_zipIdx]); (try unfold lim); omega)); (focus exact rfl); (focus (simp only [List.set_cons_zero, List.set_cons_succ, hideE, List.map_cons, List.map_nil, List.cons_append, List.nil_append] <;> exact rfl)); (focus (intro x m; (repeat' (first | (apply asg_nm; (focus exact rfl); (focus (simp only [List.set_cons_zero, List.set_cons_succ, hideE, List.map_cons, List.map_nil, List.cons_append, List.nil_append] <;> exact rfl))) | (apply asg_t2; (focus exact rfl)) | (apply asg_t2l; (focus exact rfl)) | (apply asg_t3; (focus exact rfl)))))); (focus (intro x m; (repeat' (first | decreasing_trivial_pre_omega)))); (focus (intro x m; exact rfl))) | (apply ev_comp; (focus (first | (apply evI_r1; (focus (repeat' (first | decreasing_trivial_pre_omega))); (focus omega)) | (repeat' (first | decreasing_trivial_pre_omega)))); (focus ((try simp only [List.length_range, List.length_map, List.length_zip, List.length_zipIdx]); (try unfold lim); omega)); (focus exact rfl); (focus (simp only [List.set_cons_zero, List.set_cons_succ, hideE, List.map_cons, List.map_nil, List.cons_append, List.nil_append] <;> exact rfl)); (focus (intro x m; (repeat' (first | (apply asg_nm; (focus exact rfl); (focus (simp only [List.set_cons_zero, List.set_cons_succ, hideE, List.map_cons, List.map_nil, List.cons_append, List.nil_append] <;> exact rfl))) | (apply asg_t2; (focus exact rfl)) | (apply asg_t2l; (focus exact rfl)) | (apply asg_t3; (focus exact rfl)))))); (focus (intro x m; (repeat' (first | decreasing_trivial_pre_omega)))); (focus (intro x m _; (repeat' (first | decreasing_trivial_pre_omega)))); (focus (intro x m; exact rfl))))); (focus exact rfl); (focus (first | (apply putF_v; (focus exact rfl); (simp only [List.set_cons_zero, List.set_cons_succ, hideE, List.map_cons, List.map_nil, List.cons_append, List.nil_append] <;> exact rfl)) | (apply putF_c; (focus exact rfl); (simp only [List.set_cons_zero, List.set_cons_succ, hideE, List.map_cons, List.map_nil, List.cons_append, List.nil_append] <;> exact rfl)))))
  apply sat_set
  · apply ev_comp
    · (repeat' (first | decreasing_trivial_pre_omega))
    · unfold lim; omega
    · exact rfl
    · (simp only [List.set_cons_zero, List.set_cons_succ, hideE, List.map_cons, List.map_nil, List.cons_append, List.nil_append] <;> exact rfl)
    · intro x m; (repeat' (first | (apply asg_nm; (focus exact rfl); (focus (simp only [List.set_cons_zero, List.set_cons_succ, hideE, List.map_cons, List.map_nil, List.cons_append, List.nil_append] <;> exact rfl))) | (apply asg_t2; (focus exact rfl)) | (apply asg_t2l; (focus exact rfl)) | (apply asg_t3; (focus exact rfl))))
    · intro x m
      apply evC_yes
      apply evT_and
      · (repeat' (first | decreasing_trivial_pre_omega))
      · intro _
        apply evT_inv
        · (repeat' (first | decreasing_trivial_pre_omega))
        · exact rfl
        · exact cmp_notin_lN
    · intro x m _; (repeat' (first | decreasing_trivial_pre_omega))
    · intro x m; exact rfl
  · exact rfl
  · (first | (apply putF_v; (focus exact rfl); (simp only [List.set_cons_zero, List.set_cons_succ, hideE, List.map_cons, List.map_nil, List.cons_append, List.nil_append] <;> exact rfl)) | (apply putF_c; (focus exact rfl); (simp only [List.set_cons_zero, List.set_cons_succ, hideE, List.map_cons, List.map_nil, List.cons_append, List.nil_append] <;> exact rfl)))
  apply sat_ret
  · (repeat' (first | decreasing_trivial_pre_omega))
  · exact ⟨by simp only [List.map_id', List.length_map]; rfl, rfl, rfl⟩
def demL (dem : List Nat) (W : List Nat) : Int := (W.map fun x => ((dem.getD x 0 : Nat) : Int)).sum
def lackL (dem : List Nat) (rd : List (Nat × List Nat)) (rows : List (List Nat)) (some W : List Nat) : Int := demL dem W - (some.map fun r => cntL rd rows r W).sum
theorem c__law_lack {n : Nat} {dem : List Nat} {rd : List (Nat × List Nat)} {rows : List (List Nat)} {some W : List Nat} {s : List Ob} (h1 : ∀ r ∈ some, r < rd.length) (h2 : rows.length = rd.length) (h3 : ∀ r, (rows.getD r []).length ≤ 1000) (h4 : ∀ r, (rd.getD r default).2.length ≤ 1000) (h5 : W.length ≤ 1000) (h6 : ∀ x ∈ W, x < dem.length) (h7 : some.length ≤ 1000) :
    Cal tab (n + 2) 29 [lN dem, .lst (rd.map rdD), lT rows, lN some, tN W] s = .ok (.int (lackL dem rd rows some W)) false s := by
  (refine call_eq rfl rfl ?_; show Sat (Runs (Cal tab _) il__law_lack ⟨[.val _, .val _, .val _, .val _, .val _, .no, .no, .no], _⟩) _; unfold il__law_lack)
  apply sat_set
  · apply ev_b1
    · apply ev_comp0
      · (repeat' (first | decreasing_trivial_pre_omega))
      · unfold lim; omega
      · exact rfl
      · (simp only [List.set_cons_zero, List.set_cons_succ, hideE, List.map_cons, List.map_nil, List.cons_append, List.nil_append] <;> exact rfl)
      · intro x m; (repeat' (first | (apply asg_nm; (focus exact rfl); (focus (simp only [List.set_cons_zero, List.set_cons_succ, hideE, List.map_cons, List.map_nil, List.cons_append, List.nil_append] <;> exact rfl))) | (apply asg_t2; (focus exact rfl)) | (apply asg_t2l; (focus exact rfl)) | (apply asg_t3; (focus exact rfl))))
      · intro x m
        have := h6 x m
        (repeat' (first | decreasing_trivial_pre_omega))
      · intro x m; exact rfl
    · exact sum_map (f := fun x => ((dem.getD x 0 : Nat) : Int))
  · exact rfl
  · (first | (apply putF_v; (focus exact rfl); (simp only [List.set_cons_zero, List.set_cons_succ, hideE, List.map_cons, List.map_nil, List.cons_append, List.nil_append] <;> exact rfl)) | (apply putF_c; (focus exact rfl); (simp only [List.set_cons_zero, List.set_cons_succ, hideE, List.map_cons, List.map_nil, List.cons_append, List.nil_append] <;> exact rfl)))
  apply sat_ret
  · apply ev_bin
    · (repeat' (first | decreasing_trivial_pre_omega))
    · apply ev_b1
      · apply ev_comp0
        · (repeat' (first | decreasing_trivial_pre_omega))
        · unfold lim; omega
        · exact rfl
        · (simp only [List.set_cons_zero, List.set_cons_succ, hideE, List.map_cons, List.map_nil, List.cons_append, List.nil_append] <;> exact rfl)
        · intro x m; (repeat' (first | (apply asg_nm; (focus exact rfl); (focus (simp only [List.set_cons_zero, List.set_cons_succ, hideE, List.map_cons, List.map_nil, List.cons_append, List.nil_append] <;> exact rfl))) | (apply asg_t2; (focus exact rfl)) | (apply asg_t2l; (focus exact rfl)) | (apply asg_t3; (focus exact rfl))))
        · intro x m
          apply ev_callP
          · (repeat' (first | decreasing_trivial_pre_omega))
          · exact c__law_count (h1 x m) (h2 ▸ h1 x m) (h3 x) (h4 x)
        · intro x m; exact rfl
      · exact sum_map
    · exact rfl
  · exact ⟨rfl, rfl, rfl⟩
theorem present_lt {b : Bk} {ab : List Nat} {r : Nat} (h : r ∈ present b ab) : r < b.rd.length := List.mem_range.mp (List.mem_filter.mp h).1
theorem present_len (b : Bk) (ab : List Nat) : (present b ab).length ≤ b.rd.length := by
  have := List.length_filter_le (fun r => !decide (r ∈ ab)) (List.range b.rd.length)
  rw [List.length_range] at this
  exact this
/-- all is small -/
structure Sm (b : Bk) (rows : List (List Nat)) : Prop where
  r6 : b.rd.length ≤ 6
  d6 : b.dem.length ≤ 6
  len : rows.length = b.rd.length
  row : ∀ r, (rows.getD r []).length ≤ 6
  may : ∀ r, (b.rd.getD r default).2.length ≤ 6
theorem c_is_number {n : Nat} {v lo hi : Int} {s : List Ob} : Cal tab (n + 1) 0 [.int v, .int lo, .int hi] s = .ok (.bl (decide (lo ≤ v) && decide (v ≤ hi))) false s := by
  (refine call_eq rfl rfl ?_; show Sat (Runs (Cal tab _) il_is_number ⟨[.val _, .val _, .val _], _⟩) _; unfold il_is_number)
  apply sat_ret
  · (repeat' (first | decreasing_trivial_pre_omega))
  · exact ⟨rfl, rfl, rfl⟩
def isAsc (l : List Nat) : Bool := (l.zip (l.drop 1)).all fun p => decide (p.1 < p.2)
theorem isAsc_iff : ∀ l : List Nat, isAsc l = true ↔ Asc l
  | [] => by simp [isAsc, Asc]
  | [x] => by simp [isAsc, Asc]
  | x :: y :: l => by
    have ih := isAsc_iff (y :: l)
    unfold isAsc at ih ⊢
    simp only [List.drop_succ_cons, List.drop_zero, List.zip_cons_cons, List.all_cons, Bool.and_eq_true, decide_eq_true_eq] at ih ⊢
    rw [ih]
    constructor
    · intro h
      refine List.pairwise_cons.mpr ⟨fun z hz => ?_, h.2⟩
      rcases List.mem_cons.mp hz with e | hz
      · have := h.1; omega
      · have := (List.pairwise_cons.mp h.2).1 z hz; have := h.1; omega
    · intro h
      have h := List.pairwise_cons.mp h
      exact ⟨h.1 y List.mem_cons_self, h.2⟩
def ascB (l : List Nat) (m : Nat) : Bool := (l.all fun x => decide ((0 : Int) ≤ x) && decide ((x : Int) ≤ (m : Int) - 1)) && isAsc l
theorem ascB_iff {l : List Nat} {m : Nat} : ascB l m = true ↔ Asc l ∧ ∀ x ∈ l, x < m := by
  unfold ascB
  rw [Bool.and_eq_true, isAsc_iff, List.all_eq_true, and_comm]
  refine and_congr_right fun _ => ⟨fun h x hx => ?_, fun h x hx => ?_⟩
  · have := h x hx; simp at this; omega
  · have := h x hx; simp; omega
theorem cut1 {l : List Nat} : slD (tN l) (some 1) none = some (tN (l.drop 1)) := by
  show some (D.tup (cut (l.map nD) (some ((1 : Nat) : Int)) none)) = _
  unfold cut
  rw [HT.sIx_nat, HT.sIx_none, List.length_map]
  congr 2
  rw [List.take_of_length_le (by simp), ← List.map_drop]
  rcases Nat.le_total 1 l.length with h | h
  · rw [Nat.min_eq_left h]
  · rw [Nat.min_eq_right h, List.drop_of_length_le (Nat.le_refl _), List.drop_of_length_le h]
theorem zip_tN {a b : List Nat} : zipD (tN a) (tN b) = some ((a.zip b).map fun p => .tup [nD p.1, nD p.2]) := by
  show some (zipL _ _) = _
  rw [zipL_map]
theorem c_are_ascending {n : Nat} {l : List Nat} {m : Nat} {s : List Ob} (hl : l.length ≤ 1000) : Cal tab (n + 2) 1 [tN l, nD m] s = .ok (.bl (ascB l m)) false s := by
  (refine call_eq rfl rfl ?_; show Sat (Runs (Cal tab _) il_are_ascending ⟨[.val _, .val _, .no, .no], _⟩) _; unfold il_are_ascending)
  apply sat_ite (k := !(l.all fun x => decide ((0 : Int) ≤ x) && decide ((x : Int) ≤ (m : Int) - 1)))
  · have : ∀ k : Bool, (!true || !k) = !k := fun k => by cases k <;> rfl
    rw [← this]
    apply evT_or
    · (repeat' (first | decreasing_trivial_pre_omega))
    · intro _
      apply evT_not
      apply evT_ev
      · apply ev_b1
        · (first | (apply ev_comp0; (focus (first | (apply evI_r1; (focus (repeat' (first | exact c_is_number | decreasing_trivial_pre_omega))); (focus omega)) | (repeat' (first | exact c_is_number | decreasing_trivial_pre_omega)))); (focus ((try simp only [List.length_range, List.length_map, List.length_zip, List.length_zipIdx]); (try unfold lim); omega)); (focus exact rfl); (focus (simp only [List.set_cons_zero, List.set_cons_succ, hideE, List.map_cons, List.map_nil, List.cons_append, List.nil_append] <;> exact rfl)); (focus (intro x m; (repeat' (first | (apply asg_nm; (focus exact rfl); (focus (simp only [List.set_cons_zero, List.set_cons_succ, hideE, List.map_cons, List.map_nil, List.cons_append, List.nil_append] <;> exact rfl))) | (apply asg_t2; (focus exact rfl)) | (apply asg_t2l; (focus exact rfl)) | (apply asg_t3; (focus exact rfl)))))); (focus (intro x m; (repeat' (first | exact c_is_number | decreasing_trivial_pre_omega)))); (focus (intro x m; exact rfl))) | (apply ev_comp; (focus (first | (apply evI_r1; (focus (repeat' (first | exact c_is_number | decreasing_trivial_pre_omega))); (focus omega)) | (repeat' (first | exact c_is_number | decreasing_trivial_pre_omega)))); (focus ((try simp only [List.length_range, List.length_map, List.length_zip, List.length_zipIdx]); (try unfold lim); omega)); (focus exact rfl); (focus (simp only [List.set_cons_zero, List.set_cons_succ, hideE, List.map_cons, List.map_nil, List.cons_append, List.nil_append] <;> exact rfl)); (focus (intro x m; (repeat' (first | (apply asg_nm; (focus exact rfl); (focus (simp only [List.set_cons_zero, List.set_cons_succ, hideE, List.map_cons, List.map_nil, List.cons_append, List.nil_append] <;> exact rfl))) | (apply asg_t2; (focus exact rfl)) | (apply asg_t2l; (focus exact rfl)) | (apply asg_t3; (focus exact rfl)))))); (focus (intro x m; (repeat' (first | exact c_is_number | decreasing_trivial_pre_omega)))); (focus (intro x m _; (repeat' (first | exact c_is_number | decreasing_trivial_pre_omega)))); (focus (intro x m; exact rfl))))
        · exact all_map
      · exact rfl
  · intro h
    apply sat_ret
    · (repeat' (first | decreasing_trivial_pre_omega))
    · refine ⟨?_, rfl, rfl⟩
      unfold ascB
      rw [Bool.not_eq_true'] at h
      rw [h]; rfl
  · intro h
    rw [Bool.not_eq_false'] at h
    apply sat_nil
    apply nx_of'
    apply sat_ret
    · apply ev_b1
      · apply ev_comp0
        · apply evI_zip
          · (repeat' (first | decreasing_trivial_pre_omega))
          · apply ev_sl
            · (repeat' (first | decreasing_trivial_pre_omega))
            · (repeat' (first | decreasing_trivial_pre_omega))
            · (repeat' (first | decreasing_trivial_pre_omega))
            · exact cut1
          · exact zip_tN
        · rw [List.length_zip]; unfold lim; omega
        · exact rfl
        · (simp only [List.set_cons_zero, List.set_cons_succ, hideE, List.map_cons, List.map_nil, List.cons_append, List.nil_append] <;> exact rfl)
        · intro x m; (repeat' (first | (apply asg_nm; (focus exact rfl); (focus (simp only [List.set_cons_zero, List.set_cons_succ, hideE, List.map_cons, List.map_nil, List.cons_append, List.nil_append] <;> exact rfl))) | (apply asg_t2; (focus exact rfl)) | (apply asg_t2l; (focus exact rfl)) | (apply asg_t3; (focus exact rfl))))
        · intro x m; (repeat' (first | decreasing_trivial_pre_omega))
        · intro x m; exact rfl
      · exact all_map
    · refine ⟨?_, rfl, rfl⟩
      show D.bl _ = D.bl _
      unfold ascB isAsc
      rw [h]
      congr 1
      rw [Bool.true_and]
      congr 1
      funext p
      exact decide_eq_decide.mpr (by omega)
theorem c_is_reader {n : Nat} {p : Nat × List Nat} {m : Nat} {s : List Ob} (h : RdOk m p) (hm : m ≤ 6) : Cal tab (n + 3) 2 [rdD p, nD m] s = .ok (.bl true) false s := by
  have hl : p.2.length ≤ 6 := Nat.le_trans (asc_len h.2.1 h.2.2) hm
  have ha : ascB p.2 m = true := ascB_iff.mpr h.2
  have c2 := c_are_ascending (n := n) (l := p.2) (m := m) (s := s) (by omega)
  rw [ha] at c2
  have c1 := c_is_number (n := n + 1) (v := (p.1 : Int)) (lo := 0) (hi := 6) (s := s)
  rw [show (decide ((0 : Int) ≤ p.1) && decide ((p.1 : Int) ≤ 6)) = true by have := h.1; simp; omega] at c1
  (refine call_eq rfl rfl ?_; show Sat (Runs (Cal tab _) il_is_reader ⟨[.val _, .val _], _⟩) _; unfold il_is_reader)
  apply sat_ite (k := false)
  · have : (!true || (!decide ((2 : Int) = 2))) = false := by decide
    rw [← this]
    apply evT_or
    · apply evT_not
      apply evT_ev
      · apply ev_isi
        · (repeat' (first | decreasing_trivial_pre_omega))
        · exact rfl
      · exact rfl
    · intro _
      apply evT_cmp
      · apply ev_lenv
        · exact rfl
        · exact rfl
      · (repeat' (first | decreasing_trivial_pre_omega))
      · exact cmp_ne_int
  · intro z; cases z
  · intro _
    apply sat_nil
    apply nx_of'
    apply sat_ret
    · apply ev_and
      · apply ev_callP
        · apply evs_cons
          · apply ev_ixv
            · exact rfl
            · (repeat' (first | decreasing_trivial_pre_omega))
            · exact rfl
            · exact rfl
          · (repeat' (first | decreasing_trivial_pre_omega))
        · exact c1
      · intro _
        apply ev_callP
        · apply evs_cons
          · apply ev_ixv
            · exact rfl
            · (repeat' (first | decreasing_trivial_pre_omega))
            · exact rfl
            · exact rfl
          · (repeat' (first | decreasing_trivial_pre_omega))
        · exact c2
    · exact ⟨rfl, rfl, rfl⟩
theorem fixD_nD (n : Nat) : fixD (nD n) = true := rfl
theorem fixDs_map {α : Type} {f : α → D} (h : ∀ x, fixD (f x) = true) : ∀ L : List α, fixDs (L.map f) = true
  | [] => rfl
  | x :: L => by rw [List.map_cons]; simp only [fixDs, h, fixDs_map h L]; rfl
theorem noMes_map {α : Type} {f : α → D} (h : ∀ x, noMe (f x) = true) : ∀ L : List α, noMes (L.map f) = true
  | [] => rfl
  | x :: L => by rw [List.map_cons]; simp only [noMes, h, noMes_map h L]; rfl
theorem fix_tN (l : List Nat) : fixD (tN l) = true := by show fixDs (l.map nD) = true; exact fixDs_map fixD_nD l
theorem fix_rdD (p : Nat × List Nat) : fixD (rdD p) = true := by show fixDs [nD p.1, tN p.2] = true; simp only [fixDs, fix_tN]; rfl
theorem nome_tN (l : List Nat) : noMe (tN l) = true := by show noMes (l.map nD) = true; exact noMes_map (fun _ => rfl) l
theorem nome_rdD (p : Nat × List Nat) : noMe (rdD p) = true := by show noMes [nD p.1, tN p.2] = true; simp only [noMes, nome_tN]; rfl
theorem c_init {n : Nat} {b : Bk} {s : List Ob} (h : BkOk b) : Cal tab (n + 4) 33 [.me, lN b.dem, .lst (b.rd.map rdD)] s = .exn 7 (some (.tup [lN b.dem, .lst (b.rd.map rdD)])) s := by
  have hd1 := h.d1
  have hd6 := h.d6
  have hr6 := h.r6
  have ea : (b.dem.all fun x => decide ((0 : Int) ≤ x) && decide ((x : Int) ≤ 6)) = true := List.all_eq_true.mpr fun x hx => by have := h.dv x hx; simp; omega
  have main : ∃ w : Wd, Runs (Cal tab (n + 3)) il_init ⟨[.val .me, .val (lN b.dem), .val (.lst (b.rd.map rdD)), .no, .no, .no], s⟩ = .exn 7 (some (.tup [lN b.dem, .lst (b.rd.map rdD)])) w ∧ w.s = s := by
    unfold il_init
    rw [runs_ite0 (w1 := ⟨[.val .me, .val (lN b.dem), .val (.lst (b.rd.map rdD)), .no, .no, .no], s⟩)]
    rw [runs_ite0 (w1 := ⟨[.val .me, .val (lN b.dem), .val (.lst (b.rd.map rdD)), .no, .no, .no], s⟩)]
    rw [runs_ite0 (w1 := ⟨[.val .me, .val (lN b.dem), .val (.lst (b.rd.map rdD)), .no, .no, .no], s⟩)]
    obtain ⟨w2, ⟨t3, t4, rfl, -⟩, e⟩ := runs_for (cf := Cal tab (n + 3)) (w := ⟨[.val .me, .val (lN b.dem), .val (.lst (b.rd.map rdD)), .no, .no, .no], s⟩) (g := .t2 (.nm 3) (.nm 4)) (it := .enm (.var 2)) (t := .cons (.ite (.not (.ev (.call 2 (.cons (.var 4) (.cons (.lenv 1) .nil))))) (.cons .never .nil) .nil) .nil) (ss := .cons (.done (.b1 .list (.var 1)) (.b1 .list (.var 2))) .nil) (I := fun ds w => ∃ t3 t4 : Sl, w = ⟨[.val .me, .val (lN b.dem), .val (.lst (b.rd.map rdD)), t3, t4, .no], s⟩ ∧ ∀ d ∈ ds, ∃ (i : Nat) (p : Nat × List Nat), d = .tup [nD i, rdD p] ∧ RdOk b.dem.length p) (ds := b.rd.zipIdx.map fun p => .tup [nD p.2, rdD p.1]) (by (repeat' (first | decreasing_trivial_pre_omega))) ⟨.no, .no, rfl, fun d hd => by
        obtain ⟨q, hq, rfl⟩ := List.mem_map.mp hd
        exact ⟨q.2, q.1, rfl, h.rv _ (List.fst_mem_of_mem_zipIdx hq)⟩⟩ (by
        rintro d r w ⟨t3, t4, rfl, hd⟩
        obtain ⟨i, p, rfl, hp⟩ := hd d List.mem_cons_self
        refine ⟨_, _, by (repeat' (first | (apply asg_nm; (focus exact rfl); (focus (simp only [List.set_cons_zero, List.set_cons_succ, hideE, List.map_cons, List.map_nil, List.cons_append, List.nil_append] <;> exact rfl))) | (apply asg_t2; (focus exact rfl)) | (apply asg_t2l; (focus exact rfl)) | (apply asg_t3; (focus exact rfl)))), ?_, .val (nD i), .val (rdD p), rfl, fun d hd' => hd d (List.mem_cons_of_mem _ hd')⟩
        rw [runs_ite0 (w1 := ⟨[.val .me, .val (lN b.dem), .val (.lst (b.rd.map rdD)), .val (nD i), .val (rdD p), .no], s⟩)]
        · rw [Runs_def]; rfl
        · have : (!true) = false := rfl
          rw [← this]
          apply evT_not
          apply evT_ev
          · apply ev_callP
            · (repeat' (first | decreasing_trivial_pre_omega))
            · exact c_is_reader (n := n) hp hd6
          · exact rfl)
    refine ⟨_, e.trans (runs_done (x := (lN b.dem, true)) (y := (.lst (b.rd.map rdD), true)) (w1 := ⟨[.val .me, .val (lN b.dem), .val (.lst (b.rd.map rdD)), t3, t4, .no], s⟩) (w2 := ⟨[.val .me, .val (lN b.dem), .val (.lst (b.rd.map rdD)), t3, t4, .no], s⟩) ?_ ?_ rfl rfl), rfl⟩
    · apply ev_b1
      · (repeat' (first | decreasing_trivial_pre_omega))
      · exact rfl
    · apply ev_b1
      · (repeat' (first | decreasing_trivial_pre_omega))
      · exact rfl
    · have : (!true || decide (((b.rd.length : Nat) : Int) > 6)) = false := by simp; omega
      rw [← this]
      apply evT_or
      · (repeat' (first | decreasing_trivial_pre_omega))
      · intro _
        (repeat' (first | decreasing_trivial_pre_omega))
    · have : (!true) = false := rfl
      rw [← this, ← ea]
      apply evT_not
      apply evT_ev
      · apply ev_b1
        · (first | (apply ev_comp0; (focus (first | (apply evI_r1; (focus (repeat' (first | exact c_is_number | decreasing_trivial_pre_omega))); (focus omega)) | (repeat' (first | exact c_is_number | decreasing_trivial_pre_omega)))); (focus ((try simp only [List.length_range, List.length_map, List.length_zip, List.length_zipIdx]); (try unfold lim); omega)); (focus exact rfl); (focus (simp only [List.set_cons_zero, List.set_cons_succ, hideE, List.map_cons, List.map_nil, List.cons_append, List.nil_append] <;> exact rfl)); (focus (intro x m; (repeat' (first | (apply asg_nm; (focus exact rfl); (focus (simp only [List.set_cons_zero, List.set_cons_succ, hideE, List.map_cons, List.map_nil, List.cons_append, List.nil_append] <;> exact rfl))) | (apply asg_t2; (focus exact rfl)) | (apply asg_t2l; (focus exact rfl)) | (apply asg_t3; (focus exact rfl)))))); (focus (intro x m; (repeat' (first | exact c_is_number | decreasing_trivial_pre_omega)))); (focus (intro x m; exact rfl))) | (apply ev_comp; (focus (first | (apply evI_r1; (focus (repeat' (first | exact c_is_number | decreasing_trivial_pre_omega))); (focus omega)) | (repeat' (first | exact c_is_number | decreasing_trivial_pre_omega)))); (focus ((try simp only [List.length_range, List.length_map, List.length_zip, List.length_zipIdx]); (try unfold lim); omega)); (focus exact rfl); (focus (simp only [List.set_cons_zero, List.set_cons_succ, hideE, List.map_cons, List.map_nil, List.cons_append, List.nil_append] <;> exact rfl)); (focus (intro x m; (repeat' (first | (apply asg_nm; (focus exact rfl); (focus (simp only [List.set_cons_zero, List.set_cons_succ, hideE, List.map_cons, List.map_nil, List.cons_append, List.nil_append] <;> exact rfl))) | (apply asg_t2; (focus exact rfl)) | (apply asg_t2l; (focus exact rfl)) | (apply asg_t3; (focus exact rfl)))))); (focus (intro x m; (repeat' (first | exact c_is_number | decreasing_trivial_pre_omega)))); (focus (intro x m _; (repeat' (first | exact c_is_number | decreasing_trivial_pre_omega)))); (focus (intro x m; exact rfl))))
        · exact all_map
      · exact rfl
    · have : (!true || !(decide ((1 : Int) ≤ (b.dem.length : Nat)) && decide (((b.dem.length : Nat) : Int) ≤ 6))) = false := by simp; omega
      rw [← this]
      apply evT_or
      · (repeat' (first | decreasing_trivial_pre_omega))
      · intro _
        (repeat' (first | decreasing_trivial_pre_omega))
  obtain ⟨w, h1, h2⟩ := main
  rw [← h2]
  exact call_exn rfl rfl (by rw [h2]; exact h1)
/-- Book(demands, readers) -/
theorem ev_Book {n : Nat} {a c : E} {f1 f2 : Bool} {b : Bk} {w w1 w2 : Wd} (h : BkOk b) (ha : Ev (Cal tab (n + 4)) a w = .ok (lN b.dem, f1) w1) (hb : Ev (Cal tab (n + 4)) c w1 = .ok (.lst (b.rd.map rdD), f2) w2) (hk : w2.s.all noMeO = true) : Ev (Cal tab (n + 4)) (.mk 33 a c) w = .ok (bkD b, false) w2 := by
  refine ev_mk (s := w2.s) ha hb (c_init h) ?_
  rw [fixDs_map fixD_nD, fixDs_map fix_rdD, hk]
  show (true && true && noMes (b.dem.map nD) && noMes (b.rd.map rdD) && true && true) = true
  rw [noMes_map (fun _ => rfl), noMes_map nome_rdD]; rfl
theorem c_present_ones {n : Nat} {b : Bk} {ab : List Nat} {s : List Ob} (h : b.rd.length ≤ 6) : Cal tab (n + 1) 3 [bkD b, tN ab] s = .ok (lN (present b ab)) true s := by
  (refine call_eq rfl rfl ?_; show Sat (Runs (Cal tab _) il_present_ones ⟨[.val _, .val _, .no], _⟩) _; unfold il_present_ones)
  apply sat_ret
  · (repeat' (first | decreasing_trivial_pre_omega))
  · exact ⟨rfl, rfl, rfl⟩
theorem notin01 {i : Int} (h : i = 0 ∨ i = 1) : cmpD .notin (.int i) (.tup [.int 0, .int 1]) = some false := by
  rcases h with rfl | rfl <;> rfl
theorem ite_tN {c : Bool} {a b : List Nat} : (if c then tN a else tN b) = tN (if c then a else b) := by cases c <;> rfl
theorem mem_zipIdx_rd {rd : List (Nat × List Nat)} {q : (Nat × List Nat) × Nat} (h : q ∈ rd.zipIdx) : q.2 < rd.length ∧ q.1 = rd.getD q.2 default := by
  obtain ⟨a, i⟩ := q
  have h' := List.mem_zipIdx h
  refine ⟨by simpa using h'.2.1, ?_⟩
  have := h'.2.2
  simp at this
  rw [this, List.getD_eq_getElem?_getD, List.getElem?_eq_getElem (by simpa using h'.2.1)]; rfl
/-- rows of a book, all of them -/
structure RowsOk (b : Bk) (rows : List (List Nat)) : Prop where
  len : rows.length = b.rd.length
  row : ∀ i, i < b.rd.length → RowOf (b.rd.getD i default) (rows.getD i [])
theorem getD_mem {α : Type} {l : List α} {i : Nat} {d : α} (h : i < l.length) : l.getD i d ∈ l := by
  rw [List.getD_eq_getElem?_getD, List.getElem?_eq_getElem h]; exact List.getElem_mem h
theorem getD_out {α : Type} {l : List α} {i : Nat} {d : α} (h : l.length ≤ i) : l.getD i d = d := by
  rw [List.getD_eq_getElem?_getD, List.getElem?_eq_none h]; rfl
theorem may_ok {b : Bk} (h : BkOk b) (r : Nat) : Asc (b.rd.getD r default).2 ∧ (∀ x ∈ (b.rd.getD r default).2, x < b.dem.length) ∧ (b.rd.getD r default).2.length ≤ 6 ∧ (b.rd.getD r default).1 ≤ 6 := by
  rcases Nat.lt_or_ge r b.rd.length with hr | hr
  · have := h.rv _ (getD_mem (d := default) hr)
    exact ⟨this.2.1, this.2.2, Nat.le_trans (asc_len this.2.1 this.2.2) h.d6, this.1⟩
  · rw [getD_out hr]
    exact ⟨List.Pairwise.nil, fun _ z => (nomatch z), Nat.zero_le _, Nat.zero_le _⟩
theorem row_ok {b : Bk} {rows : List (List Nat)} (h : BkOk b) (hr : RowsOk b rows) (r : Nat) : Asc (rows.getD r []) ∧ (∀ x ∈ rows.getD r [], x ∈ (b.rd.getD r default).2) ∧ (rows.getD r []).length ≤ 6 ∧ ∀ x ∈ rows.getD r [], x < b.dem.length := by
  rcases Nat.lt_or_ge r b.rd.length with h1 | h1
  · have h2 := hr.row r h1
    have h3 := may_ok h r
    exact ⟨h2.1, h2.2.1, Nat.le_trans h2.2.2 h3.2.2.2, fun x hx => h3.2.1 x (h2.2.1 x hx)⟩
  · rw [getD_out (by rw [hr.len]; exact h1)]
    exact ⟨List.Pairwise.nil, fun _ z => (nomatch z), Nat.zero_le _, fun _ z => (nomatch z)⟩
theorem sm_ok {b : Bk} {rows : List (List Nat)} (h : BkOk b) (hr : RowsOk b rows) : Sm b rows := ⟨h.r6, h.d6, hr.len, fun r => (row_ok h hr r).2.2.1, fun r => (may_ok h r).2.2.1⟩
theorem rsm_ok {b : Bk} {rows : List (List Nat)} (h : BkOk b) (hr : RowsOk b rows) : Rsm rows := by
  refine ⟨by rw [hr.len]; have := h.r6; omega, fun r hm => ?_⟩
  obtain ⟨i, hi, rfl⟩ := List.getElem_of_mem hm
  have e : rows[i] = rows.getD i [] := by rw [List.getD_eq_getElem?_getD, List.getElem?_eq_getElem hi]; rfl
  rw [e]
  have := row_ok h hr i
  have := h.d6
  exact ⟨by have := (row_ok h hr i).2.2.1; omega, fun x hx => by have := (row_ok h hr i).2.2.2 x hx; omega⟩
theorem cntL_small {b : Bk} {rows : List (List Nat)} {r : Nat} {W : List Nat} (h : BkOk b) (hr : RowsOk b rows) : -200 ≤ cntL b.rd rows r W ∧ cntL b.rd rows r W ≤ 200 := by
  have h1 := (row_ok h hr r).2.2.1
  have h2 := (may_ok h r).2.2
  unfold cntL
  have h3 := List.length_filter_le (fun x => decide (x ∈ W)) (rows.getD r [])
  have h4 := List.length_filter_le (fun x => decide (x ∈ W) && !decide (x ∈ (rows.getD r []).filter fun x => decide (x ∈ W))) (b.rd.getD r default).2
  omega
/-- a set of works -/
def SetOf (n : Nat) (W : List Nat) : Prop := Asc W ∧ (∀ x ∈ W, x < n) ∧ W ≠ []
theorem set_len {n : Nat} {W : List Nat} (h : SetOf n W) : W.length ≤ n := asc_len h.1 h.2.1
theorem present_eq (b : Bk) (ab : List Nat) : presL b.rd.length ab = present b ab := rfl
theorem slD_lT {S : List (List Nat)} : slD (lT S) (some 1) none = some (lT (S.drop 1)) := by
  show some (D.lst (cut (S.map tN) (some ((1 : Nat) : Int)) none)) = _
  unfold cut
  rw [HT.sIx_nat, HT.sIx_none, List.length_map]
  congr 2
  rw [List.take_of_length_le (by simp), ← List.map_drop]
  rcases Nat.le_total 1 S.length with h | h
  · rw [Nat.min_eq_left h]
  · rw [Nat.min_eq_right h, List.drop_of_length_le (Nat.le_refl _), List.drop_of_length_le h]
theorem sets_drop {n : Nat} {W : List Nat} (h : W ∈ (setsL (List.range n)).drop 1) : SetOf n W := by
  obtain ⟨r, h1, h2⟩ := upL_head (L := List.range n) (List.range n).length
  have e : (setsL (List.range n)).drop 1 = r := by unfold setsL; rw [h1]; rfl
  rw [e] at h
  have hm : W ∈ setsL (List.range n) := by unfold setsL; rw [h1]; exact List.mem_cons_of_mem _ h
  have := (setsL_mem List.nodup_range).mp hm
  exact ⟨this.1, fun x hx => List.mem_range.mp (this.2 x hx), h2 W h⟩
theorem is_short_law {b : Bk} {rows : List (List Nat)} {ab W : List Nat} (h : BkOk b) (hr : RowsOk b rows) (hW : SetOf b.dem.length W) : decide (0 < lackL b.dem b.rd rows (presL b.rd.length ab) W) = isShort b rows ab W := by
  unfold lackL isShort countsOf
  rw [present_eq]
  have e : (present b ab).map (fun r => cntL b.rd rows r W) = (present b ab).map fun r => count b rows r W := List.map_congr_left fun r _ => (count_law (asc_nodup (row_ok h hr r).1) (row_ok h hr r).2.1 (asc_nodup (may_ok h r).1) (asc_nodup hW.1)).symm
  rw [e]
  have : demL b.dem W = demOf b W := rfl
  rw [this]
  exact decide_eq_decide.mpr (by omega)

def timesB (b : Bk) (rows : List (List Nat)) (ab : List Nat) : List Nat := (List.range b.dem.length).map (cntR b rows ab)
theorem c_times_read {n : Nat} {b : Bk} {rows : List (List Nat)} {ab : List Nat} {s : List Ob} (h : Sm b rows) : Cal tab (n + 2) 4 [bkD b, lT rows, tN ab] s = .ok (lN (timesB b rows ab)) true s := by
  have l := present_len b ab
  have l6 := h.r6
  have d6 := h.d6
  have key := @ev_comp0F (Cal tab (n + 1)) ⟨[.val (bkD b), .val (lT rows), .val (tN ab), .cell (lN (present b ab)), .no, .no], s⟩ ⟨[.val (bkD b), .val (lT rows), .val (tN ab), .cell (lN (present b ab)), .no, .no], s⟩ (.b1 .len (.comp [5] (.nm 5) (.seq (.var 3)) (.yes (.cmp .isin (.var 4) (.ixv 1 (.var 5)))) (.var 5))) Nat [4] (.nm 4) (.r1 (.lenv 0)) nD (List.range b.dem.length) (fun x => .int (cntR b rows ab x : Nat)) (fun x => [.val (bkD b), .val (lT rows), .val (tN ab), .cell (lN (present b ab)), .val (nD x), .no]) (fun x => [.val (bkD b), .val (lT rows), .val (tN ab), .val (lN (present b ab)), .val (nD x), .no]) (fun _ => false) (fun _ => false) _ [.val (bkD b), .val (lT rows), .val (tN ab), .val (lN (present b ab)), .no, .no] (by
      apply evI_r1
      · (repeat' (first | decreasing_trivial_pre_omega))
      · omega) (by rw [List.length_range]; unfold lim; omega) rfl rfl (fun x m => by (repeat' (first | (apply asg_nm; (focus exact rfl); (focus (simp only [List.set_cons_zero, List.set_cons_succ, hideE, List.map_cons, List.map_nil, List.cons_append, List.nil_append] <;> exact rfl))) | (apply asg_t2; (focus exact rfl)) | (apply asg_t2l; (focus exact rfl)) | (apply asg_t3; (focus exact rfl))))) (fun x m => by
      apply ev_b1
      · apply ev_comp
        · apply evI_seq
          · exact ev_varc rfl
          · exact rfl
        · unfold lim; omega
        · exact rfl
        · (simp only [List.set_cons_zero, List.set_cons_succ, hideE, List.map_cons, List.map_nil, List.cons_append, List.nil_append] <;> exact rfl)
        · intro y m; (repeat' (first | (apply asg_nm; (focus exact rfl); (focus (simp only [List.set_cons_zero, List.set_cons_succ, hideE, List.map_cons, List.map_nil, List.cons_append, List.nil_append] <;> exact rfl))) | (apply asg_t2; (focus exact rfl)) | (apply asg_t2l; (focus exact rfl)) | (apply asg_t3; (focus exact rfl))))
        · intro y m
          have : y < rows.length := h.len ▸ present_lt m
          (repeat' (first | decreasing_trivial_pre_omega))
        · intro y m _; (repeat' (first | decreasing_trivial_pre_omega))
        · intro y m; exact rfl
      · exact len_map) (fun x m => by (repeat' (first | (apply asg_nm; (focus exact rfl); (focus (simp only [List.set_cons_zero, List.set_cons_succ, hideE, List.map_cons, List.map_nil, List.cons_append, List.nil_append] <;> exact rfl))) | (apply asg_t2; (focus exact rfl)) | (apply asg_t2l; (focus exact rfl)) | (apply asg_t3; (focus exact rfl))))) (fun x m => by
      apply ev_b1
      · apply ev_comp
        · apply evI_seq
          · exact ev_var rfl
          · exact rfl
        · unfold lim; omega
        · exact rfl
        · (simp only [List.set_cons_zero, List.set_cons_succ, hideE, List.map_cons, List.map_nil, List.cons_append, List.nil_append] <;> exact rfl)
        · intro y m; (repeat' (first | (apply asg_nm; (focus exact rfl); (focus (simp only [List.set_cons_zero, List.set_cons_succ, hideE, List.map_cons, List.map_nil, List.cons_append, List.nil_append] <;> exact rfl))) | (apply asg_t2; (focus exact rfl)) | (apply asg_t2l; (focus exact rfl)) | (apply asg_t3; (focus exact rfl))))
        · intro y m
          have : y < rows.length := h.len ▸ present_lt m
          (repeat' (first | decreasing_trivial_pre_omega))
        · intro y m _; (repeat' (first | decreasing_trivial_pre_omega))
        · intro y m; exact rfl
      · exact len_map) (fun x m => rfl)
  obtain ⟨e', key⟩ := key
  (refine call_eq rfl rfl ?_; show Sat (Runs (Cal tab _) il_times_read ⟨[.val _, .val _, .val _, .no, .no, .no], _⟩) _; unfold il_times_read)
  (apply sat_set; (focus (repeat' (first | exact c_present_ones h.r6 | decreasing_trivial_pre_omega))); (focus exact rfl); (focus (first | (apply putF_v; (focus exact rfl); (simp only [List.set_cons_zero, List.set_cons_succ, hideE, List.map_cons, List.map_nil, List.cons_append, List.nil_append] <;> exact rfl)) | (apply putF_c; (focus exact rfl); (simp only [List.set_cons_zero, List.set_cons_succ, hideE, List.map_cons, List.map_nil, List.cons_append, List.nil_append] <;> exact rfl)))))
  apply sat_ret
  · exact key
  · refine ⟨?_, rfl, rfl⟩
    show D.lst _ = _
    unfold timesB lN
    rw [List.map_map]
    rfl
theorem zip_range (f : Nat → Nat) (d : List Nat) : ((List.range d.length).map f).zip d = (List.range d.length).map fun x => (f x, d.getD x 0) := by
  refine List.ext_getElem (by simp) fun i h1 h2 => ?_
  have hi : i < d.length := by simpa using h2
  simp [List.getElem_zip, List.getD_eq_getElem?_getD, List.getElem?_eq_getElem hi]
def dueB (b : Bk) (rows : List (List Nat)) (ab : List Nat) : List Nat := (List.range b.dem.length).map (dueAt b rows ab)
theorem c_due_times {n : Nat} {b : Bk} {rows : List (List Nat)} {ab : List Nat} {s : List Ob} (h : Sm b rows) : Cal tab (n + 3) 5 [bkD b, lT rows, tN ab] s = .ok (lN (dueB b rows ab)) true s := by
  have d6 := h.d6
  have hl : (timesB b rows ab).length = b.dem.length := by unfold timesB; rw [List.length_map, List.length_range]
  (refine call_eq rfl rfl ?_; show Sat (Runs (Cal tab _) il_due_times ⟨[.val _, .val _, .val _, .no, .no], _⟩) _; unfold il_due_times)
  apply sat_ret
  · (first | (apply ev_comp0; (focus (first | (apply evI_r1; (focus (repeat' (first | exact c_times_read h | decreasing_trivial_pre_omega))); (focus omega)) | (repeat' (first | exact c_times_read h | decreasing_trivial_pre_omega)))); (focus ((try simp only [List.length_range, List.length_map, List.length_zip, List.length_zipIdx]); (try unfold lim); omega)); (focus exact rfl); (focus (simp only [List.set_cons_zero, List.set_cons_succ, hideE, List.map_cons, List.map_nil, List.cons_append, List.nil_append] <;> exact rfl)); (focus (intro x m; (repeat' (first | (apply asg_nm; (focus exact rfl); (focus (simp only [List.set_cons_zero, List.set_cons_succ, hideE, List.map_cons, List.map_nil, List.cons_append, List.nil_append] <;> exact rfl))) | (apply asg_t2; (focus exact rfl)) | (apply asg_t2l; (focus exact rfl)) | (apply asg_t3; (focus exact rfl)))))); (focus (intro x m; (repeat' (first | exact c_times_read h | decreasing_trivial_pre_omega)))); (focus (intro x m; exact rfl))) | (apply ev_comp; (focus (first | (apply evI_r1; (focus (repeat' (first | exact c_times_read h | decreasing_trivial_pre_omega))); (focus omega)) | (repeat' (first | exact c_times_read h | decreasing_trivial_pre_omega)))); (focus ((try simp only [List.length_range, List.length_map, List.length_zip, List.length_zipIdx]); (try unfold lim); omega)); (focus exact rfl); (focus (simp only [List.set_cons_zero, List.set_cons_succ, hideE, List.map_cons, List.map_nil, List.cons_append, List.nil_append] <;> exact rfl)); (focus (intro x m; (repeat' (first | (apply asg_nm; (focus exact rfl); (focus (simp only [List.set_cons_zero, List.set_cons_succ, hideE, List.map_cons, List.map_nil, List.cons_append, List.nil_append] <;> exact rfl))) | (apply asg_t2; (focus exact rfl)) | (apply asg_t2l; (focus exact rfl)) | (apply asg_t3; (focus exact rfl)))))); (focus (intro x m; (repeat' (first | exact c_times_read h | decreasing_trivial_pre_omega)))); (focus (intro x m _; (repeat' (first | exact c_times_read h | decreasing_trivial_pre_omega)))); (focus (intro x m; exact rfl))))
  · refine ⟨?_, rfl, rfl⟩
    show D.lst (((timesB b rows ab).zip b.dem).map _) = _
    unfold timesB
    rw [zip_range, List.map_map]
    unfold dueB lN
    rw [List.map_map]
    congr 1
    refine List.map_congr_left fun x _ => ?_
    show D.int (max ((cntR b rows ab x : Nat) : Int) ((b.dem.getD x 0 : Nat) : Int)) = D.int ((max (cntR b rows ab x) (demAt b x) : Nat) : Int)
    congr 1
    show _ = ((max (cntR b rows ab x) (b.dem.getD x 0) : Nat) : Int)
    omega
theorem c_has_room {n r : Nat} {b : Bk} {rows : List (List Nat)} {s : List Ob} (h1 : r < b.rd.length) (h2 : r < rows.length) : Cal tab (n + 1) 7 [bkD b, lT rows, nD r] s = .ok (.bl (roomB b rows r)) false s := by
  (refine call_eq rfl rfl ?_; show Sat (Runs (Cal tab _) il_has_room ⟨[.val _, .val _, .val _], _⟩) _; unfold il_has_room)
  apply sat_ret
  · apply ev_cmp
    · (repeat' (first | decreasing_trivial_pre_omega))
    · apply ev_ix
      · (repeat' (first | decreasing_trivial_pre_omega))
      · (repeat' (first | decreasing_trivial_pre_omega))
      · exact rfl
    · exact rfl
  · refine ⟨?_, rfl, rfl⟩
    show D.bl _ = D.bl _
    congr 1
    exact decide_eq_decide.mpr Int.ofNat_lt
theorem c_free_takers {n x : Nat} {b : Bk} {rows : List (List Nat)} {ab : List Nat} {s : List Ob} (h : Sm b rows) : Cal tab (n + 2) 8 [bkD b, lT rows, tN ab, nD x] s = .ok (lN (takers b rows ab x)) true s := by
  have l := present_len b ab
  have l6 := h.r6
  (refine call_eq rfl rfl ?_; show Sat (Runs (Cal tab _) il_free_takers ⟨[.val _, .val _, .val _, .val _, .no, .no], _⟩) _; unfold il_free_takers)
  (apply sat_set; (focus (repeat' (first | decreasing_trivial_pre_omega))); (focus exact rfl); (focus (first | (apply putF_v; (focus exact rfl); (simp only [List.set_cons_zero, List.set_cons_succ, hideE, List.map_cons, List.map_nil, List.cons_append, List.nil_append] <;> exact rfl)) | (apply putF_c; (focus exact rfl); (simp only [List.set_cons_zero, List.set_cons_succ, hideE, List.map_cons, List.map_nil, List.cons_append, List.nil_append] <;> exact rfl)))))
  apply sat_ret
  · apply ev_comp
    · (repeat' (first | exact c_present_ones h.r6 | decreasing_trivial_pre_omega))
    · unfold lim; omega
    · exact rfl
    · (simp only [List.set_cons_zero, List.set_cons_succ, hideE, List.map_cons, List.map_nil, List.cons_append, List.nil_append] <;> exact rfl)
    · intro y m; (repeat' (first | (apply asg_nm; (focus exact rfl); (focus (simp only [List.set_cons_zero, List.set_cons_succ, hideE, List.map_cons, List.map_nil, List.cons_append, List.nil_append] <;> exact rfl))) | (apply asg_t2; (focus exact rfl)) | (apply asg_t2l; (focus exact rfl)) | (apply asg_t3; (focus exact rfl))))
    · intro y m
      have h1 := present_lt m
      have : y < rows.length := h.len ▸ h1
      apply evC_yes
      apply evT_and
      · apply evT_cmp
        · (repeat' (first | decreasing_trivial_pre_omega))
        · apply ev_ix
          · apply ev_ixv
            · exact rfl
            · (repeat' (first | decreasing_trivial_pre_omega))
            · exact rfl
            · exact ix_map h1
          · (repeat' (first | decreasing_trivial_pre_omega))
          · exact rfl
        · exact cmp_in_tN
      · intro _; (repeat' (first | decreasing_trivial_pre_omega))
    · intro y m _; (repeat' (first | decreasing_trivial_pre_omega))
    · intro y m; exact rfl
  · exact ⟨rfl, rfl, rfl⟩
theorem cmp_isnot_way {o : Option (Nat × Nat)} : cmpD .isnot (wayD o) .non = some o.isSome := by
  cases o with
  | none => rfl
  | some p => obtain ⟨a, c⟩ := p; rfl
theorem chback_len {w : Ways} : ∀ (n x : Nat) (found : List Link), (chainBack w n x found).length ≤ found.length + n
  | 0, x, found => Nat.le_refl _
  | n + 1, x, found => by
    unfold chainBack
    split
    · exact Nat.le_trans (chback_len n _ _) (by simp; omega)
    · omega
theorem c_chain_back {n : Nat} {b : Bk} {kept rows : List (List Nat)} {ab : List Nat} {work i x r : Nat} {w : Ways} {s : List Ob} (I : WInv b kept rows ab work w i) (hx : x ∈ keysW w) (hl : w.length ≤ 1000) :
    Cal tab (n + 1) 9 [wD w, nD x, nD r] s = .ok (.lst ((chainBack w w.length x [(r, x, none)]).map linkD)) false s := by
  obtain ⟨k, hk⟩ := List.getElem?_of_mem hx
  have hkl : k < w.length := by
    have := (List.getElem?_eq_some_iff.mp hk).1
    unfold keysW at this
    rwa [List.length_map] at this
  (refine call_eq rfl rfl ?_; show Sat (Runs (Cal tab _) il_chain_back ⟨[.val _, .val _, .val _, .no, .no, .no], _⟩) _; unfold il_chain_back)
  (apply sat_set; (focus (repeat' (first | decreasing_trivial_pre_omega))); (focus exact rfl); (focus (first | (apply putF_v; (focus exact rfl); (simp only [List.set_cons_zero, List.set_cons_succ, hideE, List.map_cons, List.map_nil, List.cons_append, List.nil_append] <;> exact rfl)) | (apply putF_c; (focus exact rfl); (simp only [List.set_cons_zero, List.set_cons_succ, hideE, List.map_cons, List.map_nil, List.cons_append, List.nil_append] <;> exact rfl)))))
  apply sat_whN (I := fun m st => ∃ (x' nn : Nat) (found : List Link) (t4 t5 : Sl), st = ⟨[.val (wD w), .val (nD x'), .val (nD r), .cell (.lst (found.map linkD)), t4, t5], s⟩ ∧ (keysW w)[m]? = some x' ∧ m < nn ∧ chainBack w nn x' found = chainBack w w.length x [(r, x, none)] ∧ found.length + nn = w.length + 1) (m0 := k)
  · exact ⟨x, w.length, [(r, x, none)], _, _, rfl, hk, hkl, rfl, by simp; omega⟩
  · omega
  · rintro m st ⟨x', nn, found, t4, t5, rfl, hm, hnn, hc, hfl⟩
    have hx' : x' ∈ keysW w := List.mem_of_getElem? hm
    obtain ⟨o, ho⟩ := keys_get.mp hm
    have hw := wayAt_of I.nd ho
    refine ⟨(wayAt w x').isSome, ⟨[.val (wD w), .val (nD x'), .val (nD r), .cell (.lst (found.map linkD)), t4, t5], s⟩, ?_, fun hs => ?_, fun hs => ?_⟩
    rotate_left 1
    · rw [hw] at hs
      cases o with
      | none => cases hs
      | some pr =>
        have hp : 0 < m := by
          rcases Nat.eq_zero_or_pos m with e | e
          · subst e; rw [I.hd] at ho; cases ho
          · exact e
        obtain ⟨p, r', j, e, h1, h2, h3, _⟩ := I.way m x' _ ho hp
        cases e
        cases nn with
        | zero => omega
        | succ nn =>
          have e1 : chainBack w (nn + 1) x' found = chainBack w nn p ((r', p, some x') :: found) := by
            show (match wayAt w x' with | some (p, r) => chainBack w nn p ((r, p, some x') :: found) | none => found) = _
            rw [hw]
          rw [e1] at hc
          apply sat_setT (x := (.tup [nD p, nD r'], false))
          · have e : (D.tup [nD p, nD r']) = wayD (wayAt w x') := by rw [hw]; rfl
            rw [e]
            apply ev_ixv
            · exact rfl
            · (repeat' (first | decreasing_trivial_pre_omega))
            · exact rfl
            · exact ix_wD hx'
          · (repeat' (first | (apply asg_nm; (focus exact rfl); (focus (simp only [List.set_cons_zero, List.set_cons_succ, hideE, List.map_cons, List.map_nil, List.cons_append, List.nil_append] <;> exact rfl))) | (apply asg_t2; (focus exact rfl)) | (apply asg_t2l; (focus exact rfl)) | (apply asg_t3; (focus exact rfl))))
          apply sat_set
          · apply ev_bin
            · (repeat' (first | decreasing_trivial_pre_omega))
            · exact ev_varc rfl
            · exact bin_addL (by rw [List.length_map]; unfold lim; simp; omega)
          · exact rfl
          · simp only [Wd.put, List.set_cons_zero, List.set_cons_succ]; (first | (apply putF_v; (focus exact rfl); (simp only [List.set_cons_zero, List.set_cons_succ, hideE, List.map_cons, List.map_nil, List.cons_append, List.nil_append] <;> exact rfl)) | (apply putF_c; (focus exact rfl); (simp only [List.set_cons_zero, List.set_cons_succ, hideE, List.map_cons, List.map_nil, List.cons_append, List.nil_append] <;> exact rfl)))
          (apply sat_set; (focus (repeat' (first | decreasing_trivial_pre_omega))); (focus exact rfl); (focus (first | (apply putF_v; (focus exact rfl); (simp only [List.set_cons_zero, List.set_cons_succ, hideE, List.map_cons, List.map_nil, List.cons_append, List.nil_append] <;> exact rfl)) | (apply putF_c; (focus exact rfl); (simp only [List.set_cons_zero, List.set_cons_succ, hideE, List.map_cons, List.map_nil, List.cons_append, List.nil_append] <;> exact rfl)))))
          apply sat_nil
          exact ⟨j, h2, p, nn, (r', p, some x') :: found, .val (nD p), .val (nD r'), rfl, h3, by omega, hc, by rw [List.length_cons]; omega⟩
    · rw [hw] at hs
      cases o with
      | some pr => cases hs
      | none =>
        apply sat_ret
        · exact ev_varc rfl
        · refine ⟨?_, rfl, rfl⟩
          show D.lst _ = D.lst _
          rw [← hc]
          cases nn with
          | zero => omega
          | succ nn => unfold chainBack; rw [hw]
    · apply evT_cmp
      · apply ev_ixv
        · exact rfl
        · (repeat' (first | decreasing_trivial_pre_omega))
        · exact rfl
        · exact ix_wD hx'
      · (repeat' (first | decreasing_trivial_pre_omega))
      · exact cmp_isnot_way
def stepD : StepR → D
  | .chain l => .tup [.str (Str.ofString "chain"), .lst (l.map linkD)]
  | .closed S => .tup [.str (Str.ofString "closed"), tN (srt S)]
theorem exp_keys_len {b : Bk} {kept rows : List (List Nat)} {ab : List Nat} {work i : Nat} {w : Ways} (I : WInv b kept rows ab work w i) (h6 : b.dem.length ≤ 6) : w.length ≤ 6 := Nat.le_trans (wkeys_len I) h6
/-- the ways grow by what is new; a bound of their number -/
def Gr (m : Nat) (st : Ways × List Nat) : Prop := (keysW st.1).Nodup ∧ (∀ x ∈ keysW st.1, x < m) ∧ st.2.length ≤ st.1.length
theorem gr_len {m : Nat} {st : Ways × List Nat} (h : Gr m st) : st.1.length ≤ m := by
  have := nodup_sub_len (b := List.range m) h.1 fun x hx => List.mem_range.mpr (h.2.1 x hx)
  rw [List.length_range] at this
  unfold keysW at this
  rwa [List.length_map] at this
theorem gr_one {kept : List (List Nat)} {here r o m : Nat} {st : Ways × List Nat} (h : Gr m st) (ho : o < m) : Gr m (addOne kept here r st o) := by
  unfold addOne
  split
  · rename_i hc
    rw [Bool.and_eq_true, Bool.not_eq_true', decide_eq_false_iff_not, Bool.not_eq_true', decide_eq_false_iff_not] at hc
    refine ⟨?_, fun x hx => ?_, by rw [List.length_append, List.length_append]; have := h.2.2; simp; omega⟩
    · show (keysW (st.1 ++ [_])).Nodup
      rw [keys_app]
      exact List.nodup_append.mpr ⟨h.1, nodup_one _, fun a ha c hc' z => by rw [List.mem_singleton.mp (show c ∈ [o] from hc')] at z; subst z; exact hc.2 ha⟩
    · have hx : x ∈ keysW (st.1 ++ [(o, some (here, r))]) := hx
      rw [keys_app] at hx
      rcases List.mem_append.mp hx with hx | hx
      · exact h.2.1 x hx
      · rw [List.mem_singleton.mp (show x ∈ [o] from hx)]; exact ho
  · exact h
theorem c_step {n work : Nat} {b : Bk} {kept rows : List (List Nat)} {ab : List Nat} {s : List Ob} (V : BkV b) (R : RowsV b rows) (h : Sm b rows) (hk : kept.length = rows.length) (hw : work < b.dem.length) :
    Cal tab (n + 3) 10 [bkD b, lT kept, lT rows, tN ab, nD work] s = .ok (stepD (stepF b kept rows ab work)) false s := by
  have d6 := h.d6
  have r6 := h.r6
  have I0 : WInv b kept rows ab work [(work, none)] 0 := ⟨nodup_one _, rfl, Nat.zero_le _, fun x hx => by rw [List.mem_singleton.mp (show x ∈ [work] from hx)]; exact hw, fun k x o hk hp => by cases k with | zero => omega | succ k => simp at hk, fun j y r hj => absurd hj (Nat.not_lt_zero _)⟩
  (refine call_eq rfl rfl ?_; show Sat (Runs (Cal tab _) il_step ⟨[.val _, .val _, .val _, .val _, .val _, .no, .no, .no, .no, .no, .no], _⟩) _; unfold il_step)
  apply sat_par2
  · have : Ev (Cal tab (n + 2)) (.dct1 (.var 4) .non) ⟨[.val (bkD b), .val (lT kept), .val (lT rows), .val (tN ab), .val (nD work), .no, .no, .no, .no, .no, .no], s⟩ = .ok (wD [(work, none)], true) ⟨[.val (bkD b), .val (lT kept), .val (lT rows), .val (tN ab), .val (nD work), .no, .no, .no, .no, .no, .no], s⟩ := by rw [Ev_def]; rfl
    exact this
  · (repeat' (first | decreasing_trivial_pre_omega))
  · exact rfl
  · (first | (apply putF_v; (focus exact rfl); (simp only [List.set_cons_zero, List.set_cons_succ, hideE, List.map_cons, List.map_nil, List.cons_append, List.nil_append] <;> exact rfl)) | (apply putF_c; (focus exact rfl); (simp only [List.set_cons_zero, List.set_cons_succ, hideE, List.map_cons, List.map_nil, List.cons_append, List.nil_append] <;> exact rfl)))
  · (first | (apply putF_v; (focus exact rfl); (simp only [List.set_cons_zero, List.set_cons_succ, hideE, List.map_cons, List.map_nil, List.cons_append, List.nil_append] <;> exact rfl)) | (apply putF_c; (focus exact rfl); (simp only [List.set_cons_zero, List.set_cons_succ, hideE, List.map_cons, List.map_nil, List.cons_append, List.nil_append] <;> exact rfl)))
  apply sat_whN (I := fun m st => ∃ (w : Ways) (i : Nat) (t7 t8 t9 t10 : Sl), st = ⟨[.val (bkD b), .val (lT kept), .val (lT rows), .val (tN ab), .val (nD work), .cell (wD w), .cell (lN ((keysW w).drop i)), t7, t8, t9, t10], s⟩ ∧ WInv b kept rows ab work w i ∧ b.dem.length < m + i ∧ bfs b kept rows ab m w ((keysW w).drop i) = stepF b kept rows ab work) (m0 := b.dem.length + 1)
  · exact ⟨[(work, none)], 0, _, _, _, _, rfl, I0, by omega, rfl⟩
  · omega
  · rintro m st ⟨w, i, t7, t8, t9, t10, rfl, I, hm, hb⟩
    have wl := exp_keys_len I d6
    have kl : (keysW w).length = w.length := by unfold keysW; rw [List.length_map]
    refine ⟨!decide ((keysW w).drop i = []), ⟨[.val (bkD b), .val (lT kept), .val (lT rows), .val (tN ab), .val (nD work), .cell (wD w), .cell (lN ((keysW w).drop i)), t7, t8, t9, t10], s⟩, ?_, fun hs => ?_, fun hs => ?_⟩
    rotate_left 1
    · rw [Bool.not_eq_true', decide_eq_false_iff_not] at hs
      obtain ⟨here, q, hq⟩ : ∃ here q, (keysW w).drop i = here :: q := by
        cases e : (keysW w).drop i with
        | nil => exact absurd e hs
        | cons x y => exact ⟨x, y, rfl⟩
      have hh : (keysW w)[i]? = some here := by
        have : ((keysW w).drop i)[0]? = some here := by rw [hq]; rfl
        rw [List.getElem?_drop] at this
        simpa using this
      have hi : i < w.length := by rw [← kl]; exact (List.getElem?_eq_some_iff.mp hh).1
      have hq' : q = (keysW w).drop (i + 1) := by rw [← List.tail_drop, hq]; rfl
      have hm0 : m ≠ 0 := by have := wkeys_len I; omega
      obtain ⟨m', rfl⟩ := Nat.exists_eq_succ_of_ne_zero hm0
      have hhk : here ∈ keysW w := List.mem_of_getElem? hh
      rw [hq] at hb ⊢
      have hT : ∀ r ∈ takers b rows ab here, r < b.rd.length := fun r hr => present_lt (mem_takers.mp hr).1
      have hTl : (takers b rows ab here).length ≤ 6 := Nat.le_trans (List.length_filter_le _ _) (Nat.le_trans (present_len b ab) r6)
      have hql : q.length ≤ w.length := by rw [hq', List.length_drop]; omega
      apply sat_set
      · apply ev_pop (k := 0)
        · exact rfl
        · exact ev_int
        · exact rfl
        · exact rfl
        · omega
      · exact rfl
      · simp only [List.set_cons_zero, List.set_cons_succ, List.map_cons, List.eraseIdx_cons_zero]; (first | (apply putF_v; (focus exact rfl); (simp only [List.set_cons_zero, List.set_cons_succ, hideE, List.map_cons, List.map_nil, List.cons_append, List.nil_append] <;> exact rfl)) | (apply putF_c; (focus exact rfl); (simp only [List.set_cons_zero, List.set_cons_succ, hideE, List.map_cons, List.map_nil, List.cons_append, List.nil_append] <;> exact rfl)))
      (apply sat_set; (focus (repeat' (first | exact c_free_takers h | decreasing_trivial_pre_omega))); (focus exact rfl); (focus (first | (apply putF_v; (focus exact rfl); (simp only [List.set_cons_zero, List.set_cons_succ, hideE, List.map_cons, List.map_nil, List.cons_append, List.nil_append] <;> exact rfl)) | (apply putF_c; (focus exact rfl); (simp only [List.set_cons_zero, List.set_cons_succ, hideE, List.map_cons, List.map_nil, List.cons_append, List.nil_append] <;> exact rfl)))))
      apply sat_for (I := fun ds st => ∃ (rest : List Nat) (t9 : Sl), st = ⟨[.val (bkD b), .val (lT kept), .val (lT rows), .val (tN ab), .val (nD work), .cell (wD w), .cell (lN q), .val (nD here), .val (lN (takers b rows ab here)), t9, t10], s⟩ ∧ ds = rest.map nD ∧ (∀ r ∈ rest, r < b.rd.length) ∧ (takers b rows ab here).find? (roomB b rows) = rest.find? (roomB b rows))
      · apply evI_seq
        · exact ev_varc rfl
        · exact rfl
      · exact ⟨takers b rows ab here, t9, rfl, rfl, hT, rfl⟩
      · rintro d r2 st ⟨rest, t9, rfl, hd, hr, hf⟩
        cases rest with
        | nil => cases hd
        | cons r rest =>
          rw [List.map_cons] at hd
          obtain ⟨rfl, rfl⟩ := List.cons.inj hd
          have h1 := hr r List.mem_cons_self
          have h2 : r < rows.length := h.len ▸ h1
          refine ⟨_, by (repeat' (first | (apply asg_nm; (focus exact rfl); (focus (simp only [List.set_cons_zero, List.set_cons_succ, hideE, List.map_cons, List.map_nil, List.cons_append, List.nil_append] <;> exact rfl))) | (apply asg_t2; (focus exact rfl)) | (apply asg_t2l; (focus exact rfl)) | (apply asg_t3; (focus exact rfl)))), ?_⟩
          apply sat_ite
          · apply evT_ev
            · (repeat' (first | exact c_has_room h1 h2 | decreasing_trivial_pre_omega))
            · exact rfl
          · intro hroom
            apply sat_ret
            · apply ev_tup
              · apply evs_cons
                · (repeat' (first | decreasing_trivial_pre_omega))
                · apply evs_cons
                  · apply ev_callP
                    · apply evs_cons
                      · exact ev_varc rfl
                      · simp only [Wd.put, List.set_cons_zero, List.set_cons_succ]
                        (repeat' (first | decreasing_trivial_pre_omega))
                    · exact c_chain_back (kept := kept) I hhk (by omega)
                  · exact evs_nil
              · exact rfl
            · refine ⟨?_, rfl, rfl⟩
              rw [← hb]
              show _ = stepD (match (takers b rows ab here).find? (roomB b rows) with
                | some r => StepR.chain (chainBack w w.length here [(r, here, none)])
                | none => _)
              rw [hf, List.find?_cons_of_pos hroom]; rfl
          · intro hroom
            apply sat_nil
            apply nx_of'
            apply sat_nil
            exact ⟨rest, .val (nD r), rfl, rfl, fun r' hr' => hr r' (List.mem_cons_of_mem _ hr'), by rw [hf, List.find?_cons_of_neg (by rw [hroom]; exact Bool.false_ne_true)]⟩
      · rintro st ⟨rest, t9, rfl, hd, hr, hf⟩
        have : rest = [] := by cases rest with | nil => rfl | cons a c => cases hd
        subst this
        have hno : ∀ r ∈ takers b rows ab here, roomB b rows r = false := fun r hr => by
          have := List.find?_eq_none.mp hf r hr
          simpa using this
        have hb2 : bfs b kept rows ab m' (expand kept rows here (takers b rows ab here) (w, q)).1 (expand kept rows here (takers b rows ab here) (w, q)).2 = stepF b kept rows ab work := by
          rw [← hb]
          show _ = (match (takers b rows ab here).find? (roomB b rows) with
                | some r => StepR.chain (chainBack w w.length here [(r, here, none)])
                | none => _)
          rw [hf]; rfl
        obtain ⟨I2, hq2⟩ := winv_next (kept := kept) V R I hh hi hq' hno
        apply sat_for (I := fun ds st => ∃ (rest : List Nat) (z : Ways × List Nat) (t9 t10 : Sl), st = ⟨[.val (bkD b), .val (lT kept), .val (lT rows), .val (tN ab), .val (nD work), .cell (wD z.1), .cell (lN z.2), .val (nD here), .val (lN (takers b rows ab here)), t9, t10], s⟩ ∧ ds = rest.map nD ∧ (∀ r ∈ rest, r < b.rd.length) ∧ Gr b.dem.length z ∧ expand kept rows here rest z = expand kept rows here (takers b rows ab here) (w, q))
        · apply evI_seq
          · (repeat' (first | decreasing_trivial_pre_omega))
          · exact rfl
        · exact ⟨takers b rows ab here, (w, q), t9, t10, rfl, rfl, hT, ⟨I.nd, I.lt, hql⟩, rfl⟩
        · rintro d r2 st ⟨rest, z, t9, t10, rfl, hd, hr, hg, he⟩
          cases rest with
          | nil => cases hd
          | cons r rest =>
            rw [List.map_cons] at hd
            obtain ⟨rfl, rfl⟩ := List.cons.inj hd
            have h1 := hr r List.mem_cons_self
            have h2 : r < rows.length := h.len ▸ h1
            have h3 : r < kept.length := by rw [hk]; exact h2
            have hrl := h.row r
            refine ⟨_, by (repeat' (first | (apply asg_nm; (focus exact rfl); (focus (simp only [List.set_cons_zero, List.set_cons_succ, hideE, List.map_cons, List.map_nil, List.cons_append, List.nil_append] <;> exact rfl))) | (apply asg_t2; (focus exact rfl)) | (apply asg_t2l; (focus exact rfl)) | (apply asg_t3; (focus exact rfl)))), ?_⟩
            apply sat_for (I := fun ds st => ∃ (os : List Nat) (z2 : Ways × List Nat) (t10 : Sl), st = ⟨[.val (bkD b), .val (lT kept), .val (lT rows), .val (tN ab), .val (nD work), .cell (wD z2.1), .cell (lN z2.2), .val (nD here), .val (lN (takers b rows ab here)), .val (nD r), t10], s⟩ ∧ ds = os.map nD ∧ (∀ o ∈ os, o < b.dem.length) ∧ Gr b.dem.length z2 ∧ os.foldl (addOne kept here r) z2 = addReader kept rows here z r)
            · (repeat' (first | decreasing_trivial_pre_omega))
            · exact ⟨rowAt rows r, z, t10, rfl, rfl, fun o ho => V.lt r o (R.sub r o ho), hg, rfl⟩
            · rintro d r3 st ⟨os, z2, t10, rfl, hd, ho, hg2, he2⟩
              cases os with
              | nil => cases hd
              | cons o os =>
                rw [List.map_cons] at hd
                obtain ⟨rfl, rfl⟩ := List.cons.inj hd
                have hom := ho o List.mem_cons_self
                have hg3 := gr_one (kept := kept) (here := here) (r := r) hg2 hom
                have hzl := gr_len hg2
                refine ⟨_, by (repeat' (first | (apply asg_nm; (focus exact rfl); (focus (simp only [List.set_cons_zero, List.set_cons_succ, hideE, List.map_cons, List.map_nil, List.cons_append, List.nil_append] <;> exact rfl))) | (apply asg_t2; (focus exact rfl)) | (apply asg_t2l; (focus exact rfl)) | (apply asg_t3; (focus exact rfl)))), ?_⟩
                apply sat_ite (k := !decide (o ∈ rowAt kept r) && !decide (o ∈ keysW z2.1))
                · apply evT_and
                  · (repeat' (first | decreasing_trivial_pre_omega))
                  · intro _
                    apply evT_inv
                    · (repeat' (first | decreasing_trivial_pre_omega))
                    · exact rfl
                    · exact cmp_notin_wD
                · intro hc
                  have hnk : o ∉ keysW z2.1 := by
                    rw [Bool.and_eq_true, Bool.not_eq_true', decide_eq_false_iff_not, Bool.not_eq_true', decide_eq_false_iff_not] at hc
                    exact hc.2
                  have ea : addOne kept here r z2 o = (z2.1 ++ [(o, some (here, r))], z2.2 ++ [o]) := by unfold addOne; rw [if_pos hc]
                  apply sat_setiD
                  · apply ev_tup
                    · (repeat' (first | decreasing_trivial_pre_omega))
                    · exact rfl
                  · exact rfl
                  · (repeat' (first | decreasing_trivial_pre_omega))
                  · exact rfl
                  · exact rfl
                  · rw [List.length_map]; unfold lim; omega
                  simp only [List.set_cons_zero, List.set_cons_succ]
                  have ep := put_wD (w := z2.1) (o := o) (v := some (here, r)) hnk
                  apply sat_app
                  · exact rfl
                  · (repeat' (first | decreasing_trivial_pre_omega))
                  · exact rfl
                  · rw [List.length_map]; have := hg2.2.2; unfold lim; omega
                  apply sat_nil
                  apply nx_of'
                  apply sat_nil
                  refine ⟨os, addOne kept here r z2 o, .val (nD o), ?_, rfl, fun x hx => ho x (List.mem_cons_of_mem _ hx), hg3, he2⟩
                  rw [ea]
                  simp only [List.set_cons_zero, List.set_cons_succ]
                  rw [show lN (z2.2 ++ [o]) = .lst (z2.2.map nD ++ [nD o]) by unfold lN; rw [List.map_append]; rfl]
                  rw [show wD (z2.1 ++ [(o, some (here, r))]) = .dct (dctPut (z2.1.map fun p => (Sum.inl (p.1 : Int) : L2.Key)) (z2.1.map fun p => wayD p.2) (Sum.inl (o : Int)) (wayD (some (here, r)))).1 (dctPut (z2.1.map fun p => (Sum.inl (p.1 : Int) : L2.Key)) (z2.1.map fun p => wayD p.2) (Sum.inl (o : Int)) (wayD (some (here, r)))).2 by rw [ep]; rfl]
                  rfl
                · intro hc
                  have ea : addOne kept here r z2 o = z2 := by unfold addOne; rw [if_neg (by rw [hc]; exact Bool.false_ne_true)]
                  apply sat_nil
                  apply nx_of'
                  apply sat_nil
                  exact ⟨os, z2, .val (nD o), rfl, rfl, fun x hx => ho x (List.mem_cons_of_mem _ hx), hg2, by rw [← he2, List.foldl_cons, ea]⟩
            · rintro st ⟨os, z2, t10, rfl, hd, ho, hg2, he2⟩
              have : os = [] := by cases os with | nil => rfl | cons a c => cases hd
              subst this
              apply sat_nil
              exact ⟨rest, z2, .val (nD r), t10, rfl, rfl, fun x hx => hr x (List.mem_cons_of_mem _ hx), hg2, by rw [← he]; show expand kept rows here rest z2 = expand kept rows here rest (addReader kept rows here z r); rw [← he2]; rfl⟩
        · rintro st ⟨rest, z, t9, t10, rfl, hd, hr, hg, he⟩
          have : rest = [] := by cases rest with | nil => rfl | cons a c => cases hd
          subst this
          apply sat_nil
          have he : z = expand kept rows here (takers b rows ab here) (w, q) := he
          refine ⟨m', Nat.lt_succ_self _, z.1, i + 1, .val (nD here), .val (lN (takers b rows ab here)), t9, t10, ?_, by rw [he]; exact I2, by omega, by rw [he, ← hq2]; exact hb2⟩
          rw [he, ← hq2]
    · rw [Bool.not_eq_false', decide_eq_true_eq] at hs
      rw [hs] at hb
      apply sat_ret
      · apply ev_tup
        · apply evs_cons
          · (repeat' (first | decreasing_trivial_pre_omega))
          · apply evs_cons
            · apply ev_b1
              · apply ev_b1
                · apply ev_b1
                  · exact ev_varc rfl
                  · exact list_wD
                · exact sorted_lN
              · exact tup_map
            · exact evs_nil
        · exact rfl
      · refine ⟨?_, rfl, rfl⟩
        rw [← hb]
        have : m ≠ 0 := by have := wkeys_len I; have := I.le; omega
        obtain ⟨m', rfl⟩ := Nat.exists_eq_succ_of_ne_zero this
        show D.tup [_, tN (sortN (keysW w))] = stepD (bfs b kept rows ab (m' + 1) w [])
        rw [sortN_srt]; rfl
    · apply evT_cmpv
      · exact rfl
      · (repeat' (first | decreasing_trivial_pre_omega))
      · exact rfl
      · exact cmp_ne_lN (b := [])
theorem c_after_chain {n : Nat} {rows : List (List Nat)} {l : List Link} {s : List Ob} (hl : l.length ≤ 1000) (hr : ∀ k ∈ l, k.1 < rows.length) (h6 : ∀ r, (rows.getD r []).length ≤ 100) : Cal tab (n + 1) 11 [lT rows, .lst (l.map linkD)] s = .ok (lT (afterL rows l)) false s := by
  (refine call_eq rfl rfl ?_; show Sat (Runs (Cal tab _) il_after_chain ⟨[.val _, .val _, .no, .no, .no, .no, .no], _⟩) _; unfold il_after_chain)
  apply sat_set
  · apply ev_b1
    · (repeat' (first | decreasing_trivial_pre_omega))
    · exact rfl
  · exact rfl
  · (first | (apply putF_v; (focus exact rfl); (simp only [List.set_cons_zero, List.set_cons_succ, hideE, List.map_cons, List.map_nil, List.cons_append, List.nil_append] <;> exact rfl)) | (apply putF_c; (focus exact rfl); (simp only [List.set_cons_zero, List.set_cons_succ, hideE, List.map_cons, List.map_nil, List.cons_append, List.nil_append] <;> exact rfl)))
  apply sat_for (I := fun ds w => ∃ (rest : List Link) (f : List (List Nat)) (t3 t4 t5 : Sl), w = ⟨[.val (lT rows), .val (.lst (l.map linkD)), .cell (lT f), t3, t4, t5, .no], s⟩ ∧ ds = rest.map linkD ∧ afterL f rest = afterL rows l ∧ f.length = rows.length ∧ (∀ k ∈ rest, k.1 < rows.length) ∧ ∀ r, (rowAt f r).length + rest.length ≤ 100 + l.length)
  · (repeat' (first | decreasing_trivial_pre_omega))
  · exact ⟨l, rows, _, _, _, rfl, rfl, rfl, rfl, hr, fun r => by have := h6 r; show (rows.getD r []).length + _ ≤ _; omega⟩
  · rintro d rd w ⟨rest, f, t3, t4, t5, rfl, hd, ha, hfl, hk, hb⟩
    cases rest with
    | nil => cases hd
    | cons k rest =>
      rw [List.map_cons] at hd
      obtain ⟨rfl, rfl⟩ := List.cons.inj hd
      have h1 : k.1 < f.length := by rw [hfl]; exact hk k List.mem_cons_self
      have hbk := hb k.1
      rw [List.length_cons] at hbk
      refine ⟨_, by (repeat' (first | (apply asg_nm; (focus exact rfl); (focus (simp only [List.set_cons_zero, List.set_cons_succ, hideE, List.map_cons, List.map_nil, List.cons_append, List.nil_append] <;> exact rfl))) | (apply asg_t2; (focus exact rfl)) | (apply asg_t2l; (focus exact rfl)) | (apply asg_t3; (focus exact rfl)))), ?_⟩
      apply sat_setiL
      · apply ev_b1
        · apply ev_b1
          · apply ev_bin
            · apply ev_comp (L := rowAt f k.1) (enc := nD)
              · apply evI_seq
                · apply ev_ixv
                  · exact rfl
                  · (repeat' (first | decreasing_trivial_pre_omega))
                  · exact rfl
                  · exact ix_lT h1
                · exact rfl
              · unfold lim; omega
              · exact rfl
              · (simp only [List.set_cons_zero, List.set_cons_succ, hideE, List.map_cons, List.map_nil, List.cons_append, List.nil_append] <;> exact rfl)
              · intro x m; (repeat' (first | (apply asg_nm; (focus exact rfl); (focus (simp only [List.set_cons_zero, List.set_cons_succ, hideE, List.map_cons, List.map_nil, List.cons_append, List.nil_append] <;> exact rfl))) | (apply asg_t2; (focus exact rfl)) | (apply asg_t2l; (focus exact rfl)) | (apply asg_t3; (focus exact rfl))))
              · intro x m
                apply evC_yes
                apply evT_cmpv
                · exact rfl
                · (repeat' (first | decreasing_trivial_pre_omega))
                · exact rfl
                · exact cmp_ne_g
              · intro x m _; (repeat' (first | decreasing_trivial_pre_omega))
              · intro x m; exact rfl
            · (repeat' (first | decreasing_trivial_pre_omega))
            · exact bin_addlN (ys := [k.2.1]) (by have := List.length_filter_le (fun x => !decide (some x = k.2.2)) (rowAt f k.1); unfold lim; rw [show [k.2.1].length = 1 from rfl]; omega)
          · exact sorted_lN
        · exact tup_map
      · exact rfl
      · (repeat' (first | decreasing_trivial_pre_omega))
      · exact rfl
      · exact rfl
      · rw [List.length_map]; exact h1
      apply sat_nil
      refine ⟨rest, f.set k.1 (newRow (rowAt f k.1) k.2.1 k.2.2), .val (nD k.1), .val (nD k.2.1), .val (gD k.2.2), ?_, rfl, ha, by rw [List.length_set]; exact hfl, fun x hx => hk x (List.mem_cons_of_mem _ hx), fun r => ?_⟩
      · simp only [List.set_cons_zero, List.set_cons_succ]
        rw [show lT (f.set k.1 (newRow (rowAt f k.1) k.2.1 k.2.2)) = .lst ((f.map tN).set k.1 (tN (newRow (rowAt f k.1) k.2.1 k.2.2))) by unfold lT; rw [List.map_set]]
        unfold newRow
        rw [← sortN_srt]
        rfl
      · rw [rowAt_set h1]
        have := hb r
        rw [List.length_cons] at this
        split
        · rename_i e
          subst e
          unfold newRow
          rw [(srt_perm _).length_eq, List.length_append]
          have := List.length_filter_le (fun o => !decide (some o = k.2.2)) (rowAt f k.1)
          rw [show [k.2.1].length = 1 from rfl]; omega
        · omega
  · rintro w ⟨rest, f, t3, t4, t5, rfl, hd, ha, hfl, hk, hb⟩
    have : rest = [] := by cases rest with | nil => rfl | cons a c => cases hd
    subst this
    apply sat_ret
    · exact ev_varc rfl
    · exact ⟨by rw [← ha]; rfl, rfl, rfl⟩
theorem c_kept_rows {n : Nat} {rows : List (List Nat)} {ab : List Nat} {s : List Ob} (hl : rows.length ≤ 1000) : Cal tab (n + 1) 12 [lT rows, tN ab] s = .ok (lT (keptRows rows ab)) true s := by
  (refine call_eq rfl rfl ?_; show Sat (Runs (Cal tab _) il_kept_rows ⟨[.val _, .val _, .no, .no], _⟩) _; unfold il_kept_rows)
  apply sat_ret
  · (first | (apply ev_comp0; (focus (first | (apply evI_r1; (focus (repeat' (first | decreasing_trivial_pre_omega))); (focus omega)) | (repeat' (first | decreasing_trivial_pre_omega)))); (focus ((try simp only [List.length_range, List.length_map, List.length_zip, List.length_zipIdx]); (try unfold lim); omega)); (focus exact rfl); (focus (simp only [List.set_cons_zero, List.set_cons_succ, hideE, List.map_cons, List.map_nil, List.cons_append, List.nil_append] <;> exact rfl)); (focus (intro x m; (repeat' (first | (apply asg_nm; (focus exact rfl); (focus (simp only [List.set_cons_zero, List.set_cons_succ, hideE, List.map_cons, List.map_nil, List.cons_append, List.nil_append] <;> exact rfl))) | (apply asg_t2; (focus exact rfl)) | (apply asg_t2l; (focus exact rfl)) | (apply asg_t3; (focus exact rfl)))))); (focus (intro x m; (repeat' (first | decreasing_trivial_pre_omega)))); (focus (intro x m; exact rfl))) | (apply ev_comp; (focus (first | (apply evI_r1; (focus (repeat' (first | decreasing_trivial_pre_omega))); (focus omega)) | (repeat' (first | decreasing_trivial_pre_omega)))); (focus ((try simp only [List.length_range, List.length_map, List.length_zip, List.length_zipIdx]); (try unfold lim); omega)); (focus exact rfl); (focus (simp only [List.set_cons_zero, List.set_cons_succ, hideE, List.map_cons, List.map_nil, List.cons_append, List.nil_append] <;> exact rfl)); (focus (intro x m; (repeat' (first | (apply asg_nm; (focus exact rfl); (focus (simp only [List.set_cons_zero, List.set_cons_succ, hideE, List.map_cons, List.map_nil, List.cons_append, List.nil_append] <;> exact rfl))) | (apply asg_t2; (focus exact rfl)) | (apply asg_t2l; (focus exact rfl)) | (apply asg_t3; (focus exact rfl)))))); (focus (intro x m; (repeat' (first | decreasing_trivial_pre_omega)))); (focus (intro x m _; (repeat' (first | decreasing_trivial_pre_omega)))); (focus (intro x m; exact rfl))))
  · refine ⟨?_, rfl, rfl⟩
    show D.lst _ = _
    unfold keptRows lT
    rw [List.map_map]
    congr 1
    refine List.map_congr_left fun p _ => ?_
    show (if decide (p.2 ∈ ab) = true then D.tup [] else tN p.1) = tN (if p.2 ∈ ab then [] else p.1)
    by_cases h : p.2 ∈ ab
    · rw [if_pos h, if_pos (decide_eq_true h)]; rfl
    · rw [if_neg h, if_neg (by rw [decide_eq_false h]; exact Bool.false_ne_true)]
theorem sm_of {b : Bk} {rows : List (List Nat)} (h6 : b.rd.length ≤ 6) (d6 : b.dem.length ≤ 6) (V : BkV b) (R : RowsV b rows) : Sm b rows :=
  ⟨h6, d6, R.len, fun r => Nat.le_trans (asc_len (R.asc r) fun x hx => V.lt r x (R.sub r x hx)) d6, fun r => Nat.le_trans (asc_len (V.asc r) (V.lt r)) d6⟩
theorem chain_rdrs {b : Bk} {kept rows : List (List Nat)} {ab : List Nat} : ∀ {l : List Link} {x : Nat}, Linked b kept rows ab x l → ∀ k ∈ l, k.1 ∈ present b ab
  | [], _, h, _, _ => h.elim
  | (r, t, g) :: rest, x, h, k, hk => by
    rcases List.mem_cons.mp hk with e | hk'
    · subst e; exact h.1.1
    · cases g with
      | none =>
        have h2 : rest = [] ∧ _ := h.2
        rw [h2.1] at hk'; cases hk'
      | some y =>
        have h2 : _ ∧ _ ∧ Linked b kept rows ab y rest := h.2
        exact chain_rdrs h2.2.2 k hk'
theorem chain_len {b : Bk} {kept rows : List (List Nat)} {ab : List Nat} {l : List Link} {x : Nat} (h : ChainOk b kept rows ab x l) : l.length ≤ b.rd.length := by
  have := nodup_sub_len (b := List.range b.rd.length) h.2 fun r hr => by
    obtain ⟨k, hk, rfl⟩ := List.mem_map.mp hr
    exact List.mem_range.mpr (present_lt (chain_rdrs h.1 k hk))
  rw [List.length_range] at this
  unfold rdrs at this
  rwa [List.length_map] at this
theorem str_chain : cmpD .eq (.str (Str.ofString "chain")) (.str (Str.ofString "chain")) = some true := by rw [cmp_eq_str, beq_self_eq_true]
theorem str_closed : cmpD .eq (.str (Str.ofString "closed")) (.str (Str.ofString "chain")) = some false := by decide +kernel
theorem c_filled {n : Nat} {b : Bk} {rows : List (List Nat)} {ab : List Nat} {s : List Ob} (V : BkV b) (R : RowsV b rows) (r6 : b.rd.length ≤ 6) (d6 : b.dem.length ≤ 6) (hd : ∀ x, demAt b x ≤ 6) :
    Cal tab (n + 4) 13 [bkD b, lT rows, tN ab] s = .ok (.tup [lT (fillAll b rows ab).1, tN (fillAll b rows ab).2]) false s := by
  have h := sm_of r6 d6 V R
  have hrl : rows.length ≤ 1000 := by rw [R.len]; omega
  have hdue : ∀ x, dueAt b rows ab x < 8 := fun x => by have := hd x; have := cnt_le (b := b) (rows := rows) (ab := ab) x; unfold dueAt; omega
  have hI0 : FInv b (keptRows rows ab) (dueAt b rows ab) ab (keptRows rows ab, []) :=
    ⟨kept_rv R, fun r _ x hx => hx, kept_out R, fun y => by show cntR b (keptRows rows ab) ab y ≤ _; rw [kept_cnt]; exact Nat.le_max_left _ _, fun r _ => .inl fun x _ z => (nomatch z), List.Pairwise.nil, fun _ z => (nomatch z), .inl rfl⟩
  have hkl : (keptRows rows ab).length = b.rd.length := (kept_rv R).len
  (refine call_eq rfl rfl ?_; show Sat (Runs (Cal tab _) il_filled ⟨[.val _, .val _, .val _, .no, .no, .no, .no, .no, .no, .no, .no], _⟩) _; unfold il_filled)
  (apply sat_par2; (focus (repeat' (first | exact c_kept_rows hrl | decreasing_trivial_pre_omega))); (focus (repeat' (first | exact c_kept_rows hrl | decreasing_trivial_pre_omega))); (focus exact rfl); (focus (first | (apply putF_v; (focus exact rfl); (simp only [List.set_cons_zero, List.set_cons_succ, hideE, List.map_cons, List.map_nil, List.cons_append, List.nil_append] <;> exact rfl)) | (apply putF_c; (focus exact rfl); (simp only [List.set_cons_zero, List.set_cons_succ, hideE, List.map_cons, List.map_nil, List.cons_append, List.nil_append] <;> exact rfl)))); (focus (first | (apply putF_v; (focus exact rfl); (simp only [List.set_cons_zero, List.set_cons_succ, hideE, List.map_cons, List.map_nil, List.cons_append, List.nil_append] <;> exact rfl)) | (apply putF_c; (focus exact rfl); (simp only [List.set_cons_zero, List.set_cons_succ, hideE, List.map_cons, List.map_nil, List.cons_append, List.nil_append] <;> exact rfl)))))
  (apply sat_par2; (focus (repeat' (first | exact c_due_times h | decreasing_trivial_pre_omega))); (focus (repeat' (first | exact c_due_times h | decreasing_trivial_pre_omega))); (focus exact rfl); (focus (first | (apply putF_v; (focus exact rfl); (simp only [List.set_cons_zero, List.set_cons_succ, hideE, List.map_cons, List.map_nil, List.cons_append, List.nil_append] <;> exact rfl)) | (apply putF_c; (focus exact rfl); (simp only [List.set_cons_zero, List.set_cons_succ, hideE, List.map_cons, List.map_nil, List.cons_append, List.nil_append] <;> exact rfl)))); (focus (first | (apply putF_v; (focus exact rfl); (simp only [List.set_cons_zero, List.set_cons_succ, hideE, List.map_cons, List.map_nil, List.cons_append, List.nil_append] <;> exact rfl)) | (apply putF_c; (focus exact rfl); (simp only [List.set_cons_zero, List.set_cons_succ, hideE, List.map_cons, List.map_nil, List.cons_append, List.nil_append] <;> exact rfl)))))
  apply sat_for (I := fun ds w => ∃ (xs : List Nat) (st : FSt) (t3 t4 t7 t8 t9 : Sl), w = ⟨[.val (bkD b), .val (lT rows), .val (tN ab), t3, t4, .cell (lN (dueB b rows ab)), .val (tN st.2), t7, t8, t9, .no], s⟩ ∧ (t3 = .cell (lT (keptRows rows ab)) ∨ t3 = .val (lT (keptRows rows ab))) ∧ (t4 = .cell (lT st.1) ∨ t4 = .val (lT st.1)) ∧ ds = xs.map nD ∧ (∀ x ∈ xs, x < b.dem.length) ∧ FInv b (keptRows rows ab) (dueAt b rows ab) ab st ∧ xs.foldl (fun st x => fillW b (keptRows rows ab) (dueAt b rows ab) ab x 8 st) st = fillAll b rows ab)
  · apply evI_r1
    · (repeat' (first | decreasing_trivial_pre_omega))
    · omega
  · exact ⟨List.range b.dem.length, (keptRows rows ab, []), _, _, _, _, _, rfl, .inl rfl, .inl rfl, rfl, fun x hx => List.mem_range.mp hx, hI0, rfl⟩
  · rintro d rd w ⟨xs, st, t3, t4, t7, t8, t9, rfl, h3, h4, hds, hx, hI, he⟩
    cases xs with
    | nil => cases hds
    | cons x xs =>
      rw [List.map_cons] at hds
      obtain ⟨rfl, rfl⟩ := List.cons.inj hds
      have hxl := hx x List.mem_cons_self
      refine ⟨_, by (repeat' (first | (apply asg_nm; (focus exact rfl); (focus (simp only [List.set_cons_zero, List.set_cons_succ, hideE, List.map_cons, List.map_nil, List.cons_append, List.nil_append] <;> exact rfl))) | (apply asg_t2; (focus exact rfl)) | (apply asg_t2l; (focus exact rfl)) | (apply asg_t3; (focus exact rfl)))), ?_⟩
      apply sat_whN (I := fun m w => ∃ (z : FSt) (t3 t4 t8 t9 : Sl), w = ⟨[.val (bkD b), .val (lT rows), .val (tN ab), t3, t4, .cell (lN (dueB b rows ab)), .val (tN z.2), .val (nD x), t8, t9, .no], s⟩ ∧ (t3 = .cell (lT (keptRows rows ab)) ∨ t3 = .val (lT (keptRows rows ab))) ∧ (t4 = .cell (lT z.1) ∨ t4 = .val (lT z.1)) ∧ FInv b (keptRows rows ab) (dueAt b rows ab) ab z ∧ (dueAt b rows ab x - cntR b z.1 ab x < m ∨ x ∈ z.2) ∧ fillW b (keptRows rows ab) (dueAt b rows ab) ab x m z = fillW b (keptRows rows ab) (dueAt b rows ab) ab x 8 st) (m0 := 8)
      · exact ⟨st, t3, t4, t8, t9, rfl, h3, h4, hI, .inl (by have := hdue x; omega), rfl⟩
      · omega
      · rintro m w ⟨z, t3, t4, t8, t9, rfl, h3, h4, hI, hm, hz⟩
        have hs := sm_of r6 d6 V hI.rv
        have ht := c_times_read (n := n + 1) (b := b) (rows := z.1) (ab := ab) (s := s) hs
        have htl : x < (timesB b z.1 ab).length := by unfold timesB; rw [List.length_map, List.length_range]; exact hxl
        have hdl : x < (dueB b rows ab).length := by unfold dueB; rw [List.length_map, List.length_range]; exact hxl
        have et : (timesB b z.1 ab).getD x 0 = cntR b z.1 ab x := by
          unfold timesB
          rw [List.getD_eq_getElem?_getD, List.getElem?_map, List.getElem?_range hxl]; rfl
        have ed : (dueB b rows ab).getD x 0 = dueAt b rows ab x := by
          unfold dueB
          rw [List.getD_eq_getElem?_getD, List.getElem?_map, List.getElem?_range hxl]; rfl
        have hzl : z.2.length ≤ 6 := Nat.le_trans (asc_len hI.asc hI.lt) d6
        refine ⟨decide (cntR b z.1 ab x < dueAt b rows ab x) && !decide (x ∈ z.2), ⟨[.val (bkD b), .val (lT rows), .val (tN ab), t3, .val (lT z.1), .cell (lN (dueB b rows ab)), .val (tN z.2), .val (nD x), t8, t9, .no], s⟩, ?_, fun hc => ?_, fun hc => ?_⟩
        · apply evT_and
          · apply evT_cmp (x := (.int (cntR b z.1 ab x : Nat), false)) (y := (.int (dueAt b rows ab x : Nat), false))
            · rw [← et]
              apply ev_ix
              · apply ev_callP
                · apply evs_cons
                  · (repeat' (first | decreasing_trivial_pre_omega))
                  · apply evs_cons
                    · exact ev_varS (d := lT z.1) (h4.elim (fun h => .inl (by rw [h]; rfl)) fun h => .inr (by rw [h]; rfl))
                    · simp only [List.set_cons_zero, List.set_cons_succ]
                      (repeat' (first | decreasing_trivial_pre_omega))
                · exact ht
              · (repeat' (first | decreasing_trivial_pre_omega))
              · exact ix_lN htl
            · rw [← ed]
              apply ev_ixv
              · exact rfl
              · (repeat' (first | decreasing_trivial_pre_omega))
              · exact rfl
              · exact ix_lN hdl
            · show some (decide (((cntR b z.1 ab x : Nat) : Int) < ((dueAt b rows ab x : Nat) : Int))) = _
              congr 1
              exact decide_eq_decide.mpr Int.ofNat_lt
          · intro _; (repeat' (first | decreasing_trivial_pre_omega))
        · have hc1 : cntR b z.1 ab x < dueAt b rows ab x := by rw [Bool.and_eq_true] at hc; exact of_decide_eq_true hc.1
          have hc2 : x ∉ z.2 := by rw [Bool.and_eq_true] at hc; simpa using hc.2
          have hm' := hm.resolve_right hc2
          obtain ⟨m', rfl⟩ := Nat.exists_eq_succ_of_ne_zero (show m ≠ 0 by omega)
          have hst := c_step (n := n) (kept := keptRows rows ab) (ab := ab) (s := s) V hI.rv hs (by rw [hkl, hI.rv.len]) hxl
          have hok := step_ok (kept := keptRows rows ab) (ab := ab) V hI.rv hxl
          have hfw : fillW b (keptRows rows ab) (dueAt b rows ab) ab x (m' + 1) z = match stepF b (keptRows rows ab) z.1 ab x with
            | .chain l => fillW b (keptRows rows ab) (dueAt b rows ab) ab x m' (afterL z.1 l, z.2)
            | .closed S => fillW b (keptRows rows ab) (dueAt b rows ab) ab x m' (z.1, srt (z.2 ++ (srt S).filter fun y => !decide (y ∈ z.2))) := by
            show (if (decide (cntR b z.1 ab x < dueAt b rows ab x) && !decide (x ∈ z.2)) = true then _ else _) = _
            first
              | (rw [if_pos hc]; done)
              | (rw [if_pos hc]; cases stepF b (keptRows rows ab) z.1 ab x <;> rfl)
          rw [hfw] at hz
          have hcall : Evs (Cal tab (n + 3)) (.cons (.var 0) (.cons (.var 3) (.cons (.var 4) (.cons (.var 2) (.cons (.var 7) .nil))))) ⟨[.val (bkD b), .val (lT rows), .val (tN ab), t3, .val (lT z.1), .cell (lN (dueB b rows ab)), .val (tN z.2), .val (nD x), t8, t9, .no], s⟩ = .ok [bkD b, lT (keptRows rows ab), lT z.1, tN ab, nD x] ⟨[.val (bkD b), .val (lT rows), .val (tN ab), .val (lT (keptRows rows ab)), .val (lT z.1), .cell (lN (dueB b rows ab)), .val (tN z.2), .val (nD x), t8, t9, .no], s⟩ := by
            refine evs_cons (x := (bkD b, false)) (by (repeat' (first | decreasing_trivial_pre_omega))) (evs_cons (x := (lT (keptRows rows ab), false)) (ev_varS (d := lT (keptRows rows ab)) (h3.elim (fun h => .inl (by rw [h]; rfl)) fun h => .inr (by rw [h]; rfl))) ?_)
            simp only [List.set_cons_zero, List.set_cons_succ]
            exact evs_cons (x := (lT z.1, false)) (by (repeat' (first | decreasing_trivial_pre_omega))) (evs_cons (x := (tN ab, false)) (by (repeat' (first | decreasing_trivial_pre_omega))) (evs_cons (x := (nD x, false)) (by (repeat' (first | decreasing_trivial_pre_omega))) (by (repeat' (first | decreasing_trivial_pre_omega)))))
          cases e : stepF b (keptRows rows ab) z.1 ab x with
          | chain l =>
            rw [e] at hok hz hst
            have hok : ChainOk b (keptRows rows ab) z.1 ab x l := hok
            obtain ⟨a1, a2, a3, a4⟩ := after_ok hI.rv hI.ki hok
            have hll := chain_len hok
            have hac := c_after_chain (n := n + 2) (rows := z.1) (l := l) (s := s) (by omega) (fun k hk => by rw [hI.rv.len]; exact present_lt (chain_rdrs hok.1 k hk)) (fun r => by have := hs.row r; omega)
            apply sat_setT
            · apply ev_callP
              · exact hcall
              · exact hst
            · (repeat' (first | (apply asg_nm; (focus exact rfl); (focus (simp only [List.set_cons_zero, List.set_cons_succ, hideE, List.map_cons, List.map_nil, List.cons_append, List.nil_append] <;> exact rfl))) | (apply asg_t2; (focus exact rfl)) | (apply asg_t2l; (focus exact rfl)) | (apply asg_t3; (focus exact rfl))))
            apply sat_ite (k := true)
            · apply evT_cmpv
              · exact rfl
              · (repeat' (first | decreasing_trivial_pre_omega))
              · exact rfl
              · exact str_chain
            · intro _
              apply sat_set
              · apply ev_callP
                · (repeat' (first | decreasing_trivial_pre_omega))
                · exact hac
              · exact rfl
              · (first | (apply putF_v; (focus exact rfl); (simp only [List.set_cons_zero, List.set_cons_succ, hideE, List.map_cons, List.map_nil, List.cons_append, List.nil_append] <;> exact rfl)) | (apply putF_c; (focus exact rfl); (simp only [List.set_cons_zero, List.set_cons_succ, hideE, List.map_cons, List.map_nil, List.cons_append, List.nil_append] <;> exact rfl)))
              apply sat_nil
              apply nx_of'
              apply sat_nil
              have I' : FInv b (keptRows rows ab) (dueAt b rows ab) ab (afterL z.1 l, z.2) := by
                refine ⟨a1, a2, fun r hr => (a3 r hr).trans (hI.out r hr), fun y => ?_, closed_after hI.rv hI.cl hc2 hok, hI.asc, hI.lt, hI.sh.imp id fun ⟨y, hy, hy2⟩ => ⟨y, hy, ?_⟩⟩
                · show cntR b (afterL z.1 l) ab y ≤ _
                  rw [a4 y]
                  have := hI.le y
                  split
                  · rename_i z; subst z; omega
                  · omega
                · show cntR b (afterL z.1 l) ab y < _
                  rw [a4 y, if_neg (fun e => hc2 (by rw [← e]; exact hy))]; exact hy2
              have c := a4 x
              rw [if_pos rfl] at c
              exact ⟨m', Nat.lt_succ_self _, (afterL z.1 l, z.2), _, _, _, _, rfl, .inr rfl, .inr rfl, I', .inl (by show _ - cntR b (afterL z.1 l) ab x < m'; omega), hz⟩
            · intro z; cases z
          | closed S =>
            rw [e] at hok hz hst
            obtain ⟨s1, s2, s3, s4⟩ : x ∈ S ∧ ClosedS b (keptRows rows ab) z.1 ab S ∧ S.Nodup ∧ ∀ x ∈ S, x < b.dem.length := hok
            have hSl : (srt S).length ≤ 6 := by
              rw [(srt_perm S).length_eq]
              have := nodup_sub_len (b := List.range b.dem.length) s3 fun y hy => List.mem_range.mpr (s4 y hy)
              rw [List.length_range] at this; omega
            have nj' : (z.2 ++ (srt S).filter fun y => !decide (y ∈ z.2)).Nodup := by
              refine List.nodup_append.mpr ⟨asc_nodup hI.asc, ((srt_perm S).nodup_iff.mpr s3).sublist List.filter_sublist, fun a ha c hc z => ?_⟩
              subst z
              have := (List.mem_filter.mp hc).2
              simp [ha] at this
            have hxj : x ∈ srt (z.2 ++ (srt S).filter fun y => !decide (y ∈ z.2)) := mem_join.mpr (.inr s1)
            have I' : FInv b (keptRows rows ab) (dueAt b rows ab) ab (z.1, srt (z.2 ++ (srt S).filter fun y => !decide (y ∈ z.2))) :=
              ⟨hI.rv, hI.ki, hI.out, hI.le, closed_union hI.cl s2 fun y => mem_join, asc_srt nj', fun y hy => (mem_join.mp hy).elim (hI.lt y) (s4 y), .inr ⟨x, hxj, hc1⟩⟩
            apply sat_setT
            · apply ev_callP
              · exact hcall
              · exact hst
            · (repeat' (first | (apply asg_nm; (focus exact rfl); (focus (simp only [List.set_cons_zero, List.set_cons_succ, hideE, List.map_cons, List.map_nil, List.cons_append, List.nil_append] <;> exact rfl))) | (apply asg_t2; (focus exact rfl)) | (apply asg_t2l; (focus exact rfl)) | (apply asg_t3; (focus exact rfl))))
            apply sat_ite (k := false)
            · apply evT_cmpv
              · exact rfl
              · (repeat' (first | decreasing_trivial_pre_omega))
              · exact rfl
              · exact str_closed
            · intro z; cases z
            · intro _
              apply sat_set
              · apply ev_b1
                · apply ev_b1
                  · apply ev_bin
                    · (repeat' (first | decreasing_trivial_pre_omega))
                    · apply ev_b1
                      · (repeat' (first | decreasing_trivial_pre_omega))
                      · exact tup_map
                    · exact bin_addtN (by have := List.length_filter_le (fun y => !decide (y ∈ z.2)) (srt S); unfold lim; omega)
                  · exact sorted_tN
                · exact tup_map
              · exact rfl
              · (first | (apply putF_v; (focus exact rfl); (simp only [List.set_cons_zero, List.set_cons_succ, hideE, List.map_cons, List.map_nil, List.cons_append, List.nil_append] <;> exact rfl)) | (apply putF_c; (focus exact rfl); (simp only [List.set_cons_zero, List.set_cons_succ, hideE, List.map_cons, List.map_nil, List.cons_append, List.nil_append] <;> exact rfl)))
              apply sat_nil
              apply nx_of'
              apply sat_nil
              refine ⟨m', Nat.lt_succ_self _, (z.1, srt (z.2 ++ (srt S).filter fun y => !decide (y ∈ z.2))), .val (lT (keptRows rows ab)), .val (lT z.1), .val (.str (Str.ofString "closed")), .val (tN (srt S)), ?_, .inr rfl, .inr rfl, I', .inr hxj, hz⟩
              simp only [← sortN_srt]
              rfl
        · apply sat_nil
          have hz2 : z = fillW b (keptRows rows ab) (dueAt b rows ab) ab x 8 st := by
            rw [← hz]
            cases m with
            | zero => rfl
            | succ m =>
              show _ = (if (decide (cntR b z.1 ab x < dueAt b rows ab x) && !decide (x ∈ z.2)) = true then _ else z)
              rw [if_neg (by rw [hc]; exact Bool.false_ne_true)]
          exact ⟨xs, z, t3, _, _, t8, t9, rfl, h3, .inr rfl, rfl, fun y hy => hx y (List.mem_cons_of_mem _ hy), hI, by rw [hz2]; exact he⟩
  · rintro w ⟨xs, st, t3, t4, t7, t8, t9, rfl, h3, h4, hds, hx, hI, he⟩
    have : xs = [] := by cases xs with | nil => rfl | cons a c => cases hds
    subst this
    have he : st = fillAll b rows ab := he
    subst he
    apply sat_ret
    · apply ev_tup
      · apply evs_cons
        · exact ev_varS (d := lT (fillAll b rows ab).1) (h4.elim (fun h => .inl (by rw [h]; rfl)) fun h => .inr (by rw [h]; rfl))
        · simp only [List.set_cons_zero, List.set_cons_succ]
          (repeat' (first | decreasing_trivial_pre_omega))
      · exact rfl
    · exact ⟨rfl, rfl, rfl⟩

def extD : ExtR → D
  | .yes X => .tup [.str (Str.ofString "yes"), lT X]
  | .no T => .tup [.str (Str.ofString "no"), tN T]
theorem c_extension {n : Nat} {b : Bk} {rows : List (List Nat)} {ab : List Nat} {s : List Ob} (V : BkV b) (R : RowsV b rows) (r6 : b.rd.length ≤ 6) (d6 : b.dem.length ≤ 6) (hd : ∀ x, demAt b x ≤ 6) :
    Cal tab (n + 5) 14 [bkD b, lT rows, tN ab] s = .ok (extD (extF b rows ab)) false s := by
  have h := sm_of r6 d6 V R
  have hf := c_filled (n := n) (ab := ab) (s := s) V R r6 d6 hd
  obtain ⟨I, hx⟩ := fillAll_ok (ab := ab) V R r6 hd
  have hcl : (fillAll b rows ab).2.length ≤ 6 := Nat.le_trans (asc_len I.asc I.lt) d6
  (refine call_eq rfl rfl ?_; show Sat (Runs (Cal tab _) il_extension ⟨[.val _, .val _, .val _, .no, .no, .no, .no, .no], _⟩) _; unfold il_extension)
  apply sat_setT (x := (.tup [lT (fillAll b rows ab).1, tN (fillAll b rows ab).2], false))
  · apply ev_callP
    · (repeat' (first | decreasing_trivial_pre_omega))
    · exact hf
  · (repeat' (first | (apply asg_nm; (focus exact rfl); (focus (simp only [List.set_cons_zero, List.set_cons_succ, hideE, List.map_cons, List.map_nil, List.cons_append, List.nil_append] <;> exact rfl))) | (apply asg_t2; (focus exact rfl)) | (apply asg_t2l; (focus exact rfl)) | (apply asg_t3; (focus exact rfl))))
  apply sat_ite (k := decide ((fillAll b rows ab).2 = []))
  · apply evT_cmpv
    · exact rfl
    · (repeat' (first | decreasing_trivial_pre_omega))
    · exact rfl
    · exact cmp_eq_tN (b := [])
  · intro hk
    apply sat_ret
    · (repeat' (first | decreasing_trivial_pre_omega))
    · refine ⟨?_, rfl, rfl⟩
      unfold extF
      rw [if_pos (of_decide_eq_true hk)]; rfl
  · intro hk
    apply sat_nil
    apply nx_of'
    (apply sat_par2; (focus (repeat' (first | exact c_times_read h | decreasing_trivial_pre_omega))); (focus (repeat' (first | exact c_times_read h | decreasing_trivial_pre_omega))); (focus exact rfl); (focus (first | (apply putF_v; (focus exact rfl); (simp only [List.set_cons_zero, List.set_cons_succ, hideE, List.map_cons, List.map_nil, List.cons_append, List.nil_append] <;> exact rfl)) | (apply putF_c; (focus exact rfl); (simp only [List.set_cons_zero, List.set_cons_succ, hideE, List.map_cons, List.map_nil, List.cons_append, List.nil_append] <;> exact rfl)))); (focus (first | (apply putF_v; (focus exact rfl); (simp only [List.set_cons_zero, List.set_cons_succ, hideE, List.map_cons, List.map_nil, List.cons_append, List.nil_append] <;> exact rfl)) | (apply putF_c; (focus exact rfl); (simp only [List.set_cons_zero, List.set_cons_succ, hideE, List.map_cons, List.map_nil, List.cons_append, List.nil_append] <;> exact rfl)))))
    have tl : (timesB b rows ab).length = b.dem.length := by unfold timesB; rw [List.length_map, List.length_range]
    apply sat_ret (x := (.tup [.str (Str.ofString "no"), tN ((fillAll b rows ab).2.filter fun x => decide (((timesB b rows ab).getD x 0 : Nat) ≤ ((b.dem.getD x 0 : Nat) : Int)))], false))
    · apply ev_tup
      · apply evs_cons (x := (.str (Str.ofString "no"), false))
        · exact ev_str
        · apply evs_cons (x := (tN ((fillAll b rows ab).2.filter fun x => decide (((timesB b rows ab).getD x 0 : Nat) ≤ ((b.dem.getD x 0 : Nat) : Int))), false))
          · skip
            apply ev_b1
            · apply ev_comp (L := (fillAll b rows ab).2) (enc := nD) (q := nD) (p := fun x => decide (((timesB b rows ab).getD x 0 : Nat) ≤ ((b.dem.getD x 0 : Nat) : Int)))
              · (repeat' (first | decreasing_trivial_pre_omega))
              · unfold lim; omega
              · exact rfl
              · (simp only [List.set_cons_zero, List.set_cons_succ, hideE, List.map_cons, List.map_nil, List.cons_append, List.nil_append] <;> exact rfl)
              · intro x m; (repeat' (first | (apply asg_nm; (focus exact rfl); (focus (simp only [List.set_cons_zero, List.set_cons_succ, hideE, List.map_cons, List.map_nil, List.cons_append, List.nil_append] <;> exact rfl))) | (apply asg_t2; (focus exact rfl)) | (apply asg_t2l; (focus exact rfl)) | (apply asg_t3; (focus exact rfl))))
              · intro x m
                have hxl := I.lt x m
                apply evC_yes
                apply evT_cmp
                · apply ev_ixv
                  · exact rfl
                  · (repeat' (first | decreasing_trivial_pre_omega))
                  · exact rfl
                  · exact ix_lN (by rw [tl]; exact hxl)
                · apply ev_ixv
                  · exact rfl
                  · (repeat' (first | decreasing_trivial_pre_omega))
                  · exact rfl
                  · exact ix_lN hxl
                · exact rfl
              · intro x m _; (repeat' (first | decreasing_trivial_pre_omega))
              · intro x m; exact rfl
            · exact tup_map
          · exact evs_nil
      · exact rfl
    · refine ⟨?_, rfl, rfl⟩
      unfold extF
      rw [if_neg (of_decide_eq_false hk)]
      show D.tup [.str (Str.ofString "no"), tN _] = D.tup [.str (Str.ofString "no"), tN _]
      refine congrArg (fun l => D.tup [.str (Str.ofString "no"), tN l]) (List.filter_congr fun x hx => ?_)
      have : (timesB b rows ab).getD x 0 = cntR b rows ab x := by
        unfold timesB
        rw [List.getD_eq_getElem?_getD, List.getElem?_map, List.getElem?_range (I.lt x hx)]; rfl
      rw [this]
      exact decide_eq_decide.mpr Int.ofNat_le
def emptyR (b : Bk) : List (List Nat) := b.rd.map fun _ => ([] : List Nat)
theorem emptyR_at (b : Bk) (r : Nat) : (emptyR b).getD r [] = [] := by
  unfold emptyR
  rw [List.getD_eq_getElem?_getD, List.getElem?_map]
  cases b.rd[r]? <;> rfl
theorem emptyR_v (b : Bk) : RowsV b (emptyR b) := by
  refine ⟨by unfold emptyR; rw [List.length_map], fun r => ?_, fun r x hx => ?_, fun r => ?_⟩
  · show Asc ((emptyR b).getD r []); rw [emptyR_at]; exact List.Pairwise.nil
  · have hx : x ∈ (emptyR b).getD r [] := hx
    rw [emptyR_at] at hx; cases hx
  · show ((emptyR b).getD r []).length ≤ _; rw [emptyR_at]; exact Nat.zero_le _
theorem c_empty_rows {n : Nat} {b : Bk} {s : List Ob} (h : b.rd.length ≤ 6) : Cal tab (n + 1) 6 [bkD b] s = .ok (lT (emptyR b)) true s := by
  (refine call_eq rfl rfl ?_; show Sat (Runs (Cal tab _) il_empty_rows ⟨[.val _, .no], _⟩) _; unfold il_empty_rows)
  apply sat_ret
  · apply ev_comp0 (L := b.rd) (enc := rdD) (q := fun _ => tN [])
    · apply evI_seq
      · apply ev_rdrb
        (repeat' (first | decreasing_trivial_pre_omega))
      · exact rfl
    · unfold lim; omega
    · exact rfl
    · (simp only [List.set_cons_zero, List.set_cons_succ, hideE, List.map_cons, List.map_nil, List.cons_append, List.nil_append] <;> exact rfl)
    · intro x m; (repeat' (first | (apply asg_nm; (focus exact rfl); (focus (simp only [List.set_cons_zero, List.set_cons_succ, hideE, List.map_cons, List.map_nil, List.cons_append, List.nil_append] <;> exact rfl))) | (apply asg_t2; (focus exact rfl)) | (apply asg_t2l; (focus exact rfl)) | (apply asg_t3; (focus exact rfl))))
    · intro x m; (repeat' (first | decreasing_trivial_pre_omega))
    · intro x m; exact rfl
  · refine ⟨?_, rfl, rfl⟩
    unfold emptyR lT
    rw [List.map_map]; rfl
theorem c_good_rows {n : Nat} {b : Bk} {ab : List Nat} {s : List Ob} (V : BkV b) (r6 : b.rd.length ≤ 6) (d6 : b.dem.length ≤ 6) (hd : ∀ x, demAt b x ≤ 6) :
    Cal tab (n + 6) 15 [bkD b, tN ab] s = .ok (extD (extF b (emptyR b) ab)) false s := by
  (refine call_eq rfl rfl ?_; show Sat (Runs (Cal tab _) il_good_rows ⟨[.val _, .val _], _⟩) _; unfold il_good_rows)
  apply sat_ret
  · apply ev_callP
    · apply evs_cons (x := (bkD b, false))
      · (repeat' (first | decreasing_trivial_pre_omega))
      apply evs_cons (x := (lT (emptyR b), true))
      · apply ev_callP
        · (repeat' (first | decreasing_trivial_pre_omega))
        · exact c_empty_rows r6
      (repeat' (first | decreasing_trivial_pre_omega))
    · exact c_extension (n := n) V (emptyR_v b) r6 d6 hd
  · exact ⟨rfl, rfl, rfl⟩
theorem c_need_good_rows {n : Nat} {b : Bk} {ab : List Nat} {X : List (List Nat)} {s : List Ob} (V : BkV b) (r6 : b.rd.length ≤ 6) (d6 : b.dem.length ≤ 6) (hd : ∀ x, demAt b x ≤ 6) (hX : extF b (emptyR b) ab = .yes X) :
    Cal tab (n + 7) 16 [bkD b, tN ab] s = .ok (lT X) false s := by
  have cg := c_good_rows (n := n) (ab := ab) (s := s) V r6 d6 hd
  rw [hX] at cg
  (refine call_eq rfl rfl ?_; show Sat (Runs (Cal tab _) il_need_good_rows ⟨[.val _, .val _, .no, .no], _⟩) _; unfold il_need_good_rows)
  apply sat_setT (x := (.tup [.str (Str.ofString "yes"), lT X], false))
  · apply ev_callP
    · (repeat' (first | decreasing_trivial_pre_omega))
    · exact cg
  · (repeat' (first | (apply asg_nm; (focus exact rfl); (focus (simp only [List.set_cons_zero, List.set_cons_succ, hideE, List.map_cons, List.map_nil, List.cons_append, List.nil_append] <;> exact rfl))) | (apply asg_t2; (focus exact rfl)) | (apply asg_t2l; (focus exact rfl)) | (apply asg_t3; (focus exact rfl))))
  apply sat_ite (k := false)
  · apply evT_cmpv
    · exact rfl
    · (repeat' (first | decreasing_trivial_pre_omega))
    · exact rfl
    · exact (by decide +kernel : cmpD .eq (.str (Str.ofString "yes")) (.str (Str.ofString "no")) = some false)
  · intro z; cases z
  intro _
  apply sat_nil; apply nx_of'
  apply sat_ret
  · (repeat' (first | decreasing_trivial_pre_omega))
  · exact ⟨rfl, rfl, rfl⟩
theorem bkv_of {b : Bk} (h : BkOk b) : BkV b := ⟨fun r => (may_ok h r).1, fun r => (may_ok h r).2.1⟩
theorem rowsv_of {b : Bk} {rows : List (List Nat)} (h : BkOk b) (hr : RowsOk b rows) : RowsV b rows := by
  refine ⟨hr.len, fun r => (row_ok h hr r).1, fun r => (row_ok h hr r).2.1, fun r => ?_⟩
  rcases Nat.lt_or_ge r b.rd.length with h1 | h1
  · exact (hr.row r h1).2.2
  · show (rows.getD r []).length ≤ _
    rw [getD_out (by rw [hr.len]; exact h1)]; exact Nat.zero_le _
theorem dem6 {b : Bk} (h : BkOk b) (x : Nat) : demAt b x ≤ 6 := by
  unfold demAt
  rcases Nat.lt_or_ge x b.dem.length with h1 | h1
  · exact h.dv _ (getD_mem h1)
  · rw [getD_out h1]; exact Nat.zero_le _
theorem borne_small {b : Bk} {rows : List (List Nat)} {ab : List Nat} {S : List (List Nat)} (h : b.rd.length ≤ 6) : -1 ≤ borneF b rows ab S ∧ borneF b rows ab S ≤ 6 := by
  have l := present_len b ab
  unfold borneF
  refine ⟨(le_minL _ _ _ _).mpr ⟨by omega, fun W _ v hv => ?_⟩, ?_⟩
  · obtain ⟨D, _, rfl⟩ := Option.map_eq_some_iff.mp hv; omega
  · have := ((le_minL (fun W => (ldrop b rows ab W).map fun D => ((D.length : Nat) : Int) - 1) _ S ((present b ab).length : Nat)).mp (Int.le_refl _)).1
    omega

theorem cx_need_good_rows {n : Nat} {b : Bk} {ab T : List Nat} {s : List Ob} (V : BkV b) (r6 : b.rd.length ≤ 6) (d6 : b.dem.length ≤ 6) (hd : ∀ x, demAt b x ≤ 6) (hX : extF b (emptyR b) ab = .no T) :
    Cal tab (n + 7) 16 [bkD b, tN ab] s = .exn 8 (some (tN T)) s := by
  have cg := c_good_rows (n := n) (ab := ab) (s := s) V r6 d6 hd
  rw [hX] at cg
  refine call_exn' rfl rfl ⟨⟨[.val (bkD b), .val (tN ab), .val (.str (Str.ofString "no")), .val (tN T)], s⟩, ?_, rfl⟩
  show Runs (Cal tab _) il_need_good_rows ⟨[.val _, .val _, .no, .no], _⟩ = _
  unfold il_need_good_rows
  refine (rn_setT (x := (.tup [.str (Str.ofString "no"), tN T], false)) (w1 := ⟨[.val (bkD b), .val (tN ab), .no, .no], s⟩) (w2 := ⟨[.val (bkD b), .val (tN ab), .val (.str (Str.ofString "no")), .val (tN T)], s⟩) ?_ ?_).trans ?_
  · apply ev_callP
    · (repeat' (first | decreasing_trivial_pre_omega))
    · exact cg
  · (repeat' (first | (apply asg_nm; (focus exact rfl); (focus (simp only [List.set_cons_zero, List.set_cons_succ, hideE, List.map_cons, List.map_nil, List.cons_append, List.nil_append] <;> exact rfl))) | (apply asg_t2; (focus exact rfl)) | (apply asg_t2l; (focus exact rfl)) | (apply asg_t3; (focus exact rfl))))
  refine rx_iteT (w1 := ⟨[.val (bkD b), .val (tN ab), .val (.str (Str.ofString "no")), .val (tN T)], s⟩) ?_ ?_
  · apply evT_cmpv
    · exact rfl
    · (repeat' (first | decreasing_trivial_pre_omega))
    · exact rfl
    · exact (by decide +kernel : cmpD .eq (.str (Str.ofString "no")) (.str (Str.ofString "no")) = some true)
  · refine rx_raise (x := (tN T, false)) ?_
    (repeat' (first | decreasing_trivial_pre_omega))
def tightD : StepR → D
  | .chain _ => .non
  | .closed S => tN (srt S)
theorem good_X {b : Bk} {ab : List Nat} {X : List (List Nat)} (hb : BkOk b) (hX : extF b (emptyR b) ab = .yes X) : ExtOk b (emptyR b) ab X := by
  have := ext_ok (ab := ab) (bkv_of hb) (emptyR_v b) hb.r6 (dem6 hb)
  rw [hX] at this; exact this
theorem cnt_empty {b : Bk} {ab : List Nat} {x : Nat} : cntR b (emptyR b) ab x = 0 := by
  unfold cntR
  rw [List.length_eq_zero_iff, List.filter_eq_nil_iff]
  intro i _ z
  have z := of_decide_eq_true z
  have z : x ∈ (emptyR b).getD i [] := z
  rw [emptyR_at] at z; cases z
theorem good_cnt {b : Bk} {ab : List Nat} {X : List (List Nat)} (E : ExtOk b (emptyR b) ab X) {x : Nat} (hx : x < b.dem.length) : cntR b X ab x = demAt b x := by
  rw [E.due x hx]
  unfold dueAt
  rw [cnt_empty]; omega
theorem cmp_closed : cmpD .eq (.str (Str.ofString "closed")) (.str (Str.ofString "closed")) = some true := by decide +kernel
theorem cmp_chain : cmpD .eq (.str (Str.ofString "chain")) (.str (Str.ofString "closed")) = some false := by decide +kernel
theorem c_least_tight {n work : Nat} {b : Bk} {ab : List Nat} {X : List (List Nat)} {s : List Ob} (hb : BkOk b) (hw : work < b.dem.length) (hX : extF b (emptyR b) ab = .yes X) :
    Cal tab (n + 8) 17 [bkD b, tN ab, nD work] s = .ok (tightD (stepF b (emptyR b) X ab work)) false s := by
  have E := good_X hb hX
  have V := bkv_of hb
  have cn := c_need_good_rows (n := n) (ab := ab) (s := s) V hb.r6 hb.d6 (dem6 hb) hX
  have ce := c_empty_rows (n := n + 6) (b := b) (s := s) hb.r6
  have cs := c_step (n := n + 4) (work := work) (kept := emptyR b) (ab := ab) (s := s) V E.rv (sm_of hb.r6 hb.d6 V E.rv) (by rw [E.rv.len, (emptyR_v b).len]) hw
  (refine call_eq rfl rfl ?_; show Sat (Runs (Cal tab _) il_least_tight ⟨[.val _, .val _, .val _, .no, .no], _⟩) _; unfold il_least_tight)
  cases e : stepF b (emptyR b) X ab work with
  | chain l =>
    rw [e] at cs
    apply sat_setT (x := (.tup [.str (Str.ofString "chain"), .lst (l.map linkD)], false))
    · apply ev_callP
      · (repeat' (first | exact ce | exact cn | decreasing_trivial_pre_omega))
      · exact cs
    · (repeat' (first | (apply asg_nm; (focus exact rfl); (focus (simp only [List.set_cons_zero, List.set_cons_succ, hideE, List.map_cons, List.map_nil, List.cons_append, List.nil_append] <;> exact rfl))) | (apply asg_t2; (focus exact rfl)) | (apply asg_t2l; (focus exact rfl)) | (apply asg_t3; (focus exact rfl))))
    apply sat_ret (x := (.non, false))
    · apply ev_ite (k := false) (d1 := .non) (d2 := .non)
      · apply evT_cmpv
        · exact rfl
        · (repeat' (first | decreasing_trivial_pre_omega))
        · exact rfl
        · exact cmp_chain
      · intro z; cases z
      · intro _; (repeat' (first | decreasing_trivial_pre_omega))
    · exact ⟨rfl, rfl, rfl⟩
  | closed S =>
    rw [e] at cs
    apply sat_setT (x := (.tup [.str (Str.ofString "closed"), tN (srt S)], false))
    · apply ev_callP
      · (repeat' (first | exact ce | exact cn | decreasing_trivial_pre_omega))
      · exact cs
    · (repeat' (first | (apply asg_nm; (focus exact rfl); (focus (simp only [List.set_cons_zero, List.set_cons_succ, hideE, List.map_cons, List.map_nil, List.cons_append, List.nil_append] <;> exact rfl))) | (apply asg_t2; (focus exact rfl)) | (apply asg_t2l; (focus exact rfl)) | (apply asg_t3; (focus exact rfl))))
    apply sat_ret (x := (tN (srt S), false))
    · apply ev_ite (k := true) (d1 := tN (srt S)) (d2 := tN (srt S))
      · apply evT_cmpv
        · exact rfl
        · (repeat' (first | decreasing_trivial_pre_omega))
        · exact rfl
        · exact cmp_closed
      · intro _; (repeat' (first | decreasing_trivial_pre_omega))
      · intro z; cases z
    · exact ⟨rfl, rfl, rfl⟩
theorem cx_least_tight {n work : Nat} {b : Bk} {ab T : List Nat} {s : List Ob} (hb : BkOk b) (hX : extF b (emptyR b) ab = .no T) :
    Cal tab (n + 8) 17 [bkD b, tN ab, nD work] s = .exn 8 (some (tN T)) s := by
  have cn := cx_need_good_rows (n := n) (ab := ab) (s := s) (bkv_of hb) hb.r6 hb.d6 (dem6 hb) hX
  have ce := c_empty_rows (n := n + 6) (b := b) (s := s) hb.r6
  refine call_exn' rfl rfl ⟨⟨[.val (bkD b), .val (tN ab), .val (nD work), .no, .no], s⟩, ?_, rfl⟩
  show Runs (Cal tab _) il_least_tight ⟨[.val _, .val _, .val _, .no, .no], _⟩ = _
  unfold il_least_tight
  refine rx_setT (evx_call ?_)
  refine evsx_tl (x := (bkD b, false)) (w1 := ⟨[.val (bkD b), .val (tN ab), .val (nD work), .no, .no], s⟩) (by (repeat' (first | decreasing_trivial_pre_omega))) ?_
  refine evsx_tl (x := (lT (emptyR b), true)) (w1 := ⟨[.val (bkD b), .val (tN ab), .val (nD work), .no, .no], s⟩) (by (repeat' (first | exact ce | decreasing_trivial_pre_omega))) ?_
  refine evsx_hd (evx_callP (evs_cons (x := (bkD b, false)) (ev_var rfl) (evs_cons (x := (tN ab, false)) (ev_var rfl) evs_nil)) cn)

theorem sl_from {α : Type} {f : α → D} {L : List α} {k : Nat} : slD (.lst (L.map f)) (some (k : Int)) none = some (.lst ((L.drop k).map f)) := by
  show some (D.lst (cut (L.map f) (some ((k : Nat) : Int)) none)) = _
  unfold cut
  rw [HT.sIx_nat, HT.sIx_none, List.length_map]
  congr 2
  rw [List.take_of_length_le (by simp), ← List.map_drop]
  rcases Nat.le_total k L.length with h | h
  · rw [Nat.min_eq_left h]
  · rw [Nat.min_eq_right h, List.drop_of_length_le (Nat.le_refl _), List.drop_of_length_le h]
theorem sl_to {α : Type} {f : α → D} {L : List α} {k : Nat} : slD (.lst (L.map f)) none (some (k : Int)) = some (.lst ((L.take k).map f)) := by
  show some (D.lst (cut (L.map f) none (some ((k : Nat) : Int)))) = _
  unfold cut
  rw [HT.sIx_nat, HT.sIx_none, List.length_map, List.drop_zero, Nat.sub_zero]
  congr 2
  rw [← List.map_take]
  rcases Nat.le_total k L.length with h | h
  · rw [Nat.min_eq_left h]
  · rw [Nat.min_eq_right h, List.take_of_length_le (Nat.le_refl _), List.take_of_length_le h]
theorem sorted_map2 {α : Type} {g : α → Nat} {L : List α} : b1D .sorted (.lst (L.map fun p => nD (g p))) = some (lN (srt (L.map g))) := by
  have := sorted_lN (l := L.map g)
  unfold lN at this
  rw [List.map_map, sortN_srt] at this
  exact this
theorem c_told_yes {n work : Nat} {b : Bk} {ab : List Nat} {X : List (List Nat)} {s : List Ob} (hb : BkOk b) (hw : work < b.dem.length) (hX : extF b (emptyR b) ab = .yes X) :
    Cal tab (n + 9) 30 [bkD b, tN ab, nD work] s = .ok (tightD (stepF b (emptyR b) X ab work)) false s := by
  have cl := c_least_tight (n := n) (ab := ab) (s := s) hb hw hX
  (refine call_eq rfl rfl ?_; show Sat (Runs (Cal tab _) il__law_told ⟨[.val _, .val _, .val _, .no], _⟩) _; unfold il__law_told)
  apply sat_try
  apply sat_ret
  · apply ev_callP
    · (repeat' (first | decreasing_trivial_pre_omega))
    · exact cl
  · exact ⟨rfl, rfl, rfl⟩
theorem c_told_no {n work : Nat} {b : Bk} {ab T : List Nat} {s : List Ob} (hb : BkOk b) (hX : extF b (emptyR b) ab = .no T) :
    Cal tab (n + 9) 30 [bkD b, tN ab, nD work] s = .ok (.lst [.str (Str.ofString "short"), tN T]) true s := by
  have cl := cx_least_tight (n := n) (work := work) (ab := ab) (s := s) hb hX
  (refine call_eq rfl rfl ?_; show Sat (Runs (Cal tab _) il__law_told ⟨[.val _, .val _, .val _, .no], _⟩) _; unfold il__law_told)
  refine sat_tryX (o := some (tN T)) (w1 := ⟨[.val (bkD b), .val (tN ab), .val (nD work), .no], s⟩) (rx_ret (evx_callP (evs_cons (x := (bkD b, false)) (ev_var rfl) (evs_cons (x := (tN ab, false)) (ev_var rfl) (evs_cons (x := (nD work, false)) (ev_var rfl) evs_nil))) cl)) rfl rfl ?_
  show Sat (R.ok (Flow.rt (.lst [.str (Str.ofString "short"), tN T]) true) _) _
  exact ⟨rfl, rfl, rfl⟩
theorem sl_toN {L : List Nat} {k : Nat} : slD (lN L) none (some (k : Int)) = some (lN (L.take k)) := sl_to
theorem sl_fromN {L : List Nat} {k : Nat} : slD (lN L) (some ((k : Int) + 1)) none = some (lN (L.drop (k + 1))) := sl_from (k := k + 1)
theorem cmp_ones_nil {L : List (List Nat)} : cmpD .eq (.lst (L.map fun _ => D.int 1)) (.lst []) = some (decide (L = [])) := by
  have h := cmp_eq_lN (a := L.map fun _ => 1) (b := [])
  have e : lN (L.map fun _ => 1) = .lst (L.map fun _ => D.int 1) := by unfold lN; rw [List.map_map]; rfl
  rw [e] at h
  rw [show (D.lst [] : D) = lN [] from rfl, h]
  congr 1
  exact decide_eq_decide.mpr List.map_eq_nil_iff
theorem asc_eq {a c : List Nat} (ha : Asc a) (hc : Asc c) (h : ∀ x, x ∈ a ↔ x ∈ c) : a = c :=
  le_uniq ((List.perm_ext_iff_of_nodup (asc_nodup ha) (asc_nodup hc)).mpr h) (ha.imp fun h => by omega) (hc.imp fun h => by omega)
def everyL (b : Bk) : List (List Nat) := (setsL (List.range b.dem.length)).drop 1
def lackO (b : Bk) (ab W : List Nat) : Int := lackL b.dem b.rd (emptyR b) (present b ab) W
def tightL (b : Bk) (ab : List Nat) : List (List Nat) := (everyL b).filter fun W => decide (lackO b ab W = 0)
def shortL (b : Bk) (ab : List Nat) : List (List Nat) := (everyL b).filter fun W => decide (0 < lackO b ab W)
theorem every_mem {b : Bk} {W : List Nat} : W ∈ everyL b ↔ SetOf b.dem.length W := by
  constructor
  · exact sets_drop
  · rintro ⟨h1, h2, h3⟩
    obtain ⟨rest, hS, hne⟩ := upL_head (L := List.range b.dem.length) (List.range b.dem.length).length
    have hS : setsL (List.range b.dem.length) = [] :: rest := hS
    have hm : W ∈ setsL (List.range b.dem.length) := (setsL_mem List.nodup_range).mpr ⟨h1, fun x hx => List.mem_range.mpr (h2 x hx)⟩
    unfold everyL
    rw [hS] at hm ⊢
    rcases List.mem_cons.mp hm with e | hm
    · exact absurd e h3
    · exact hm
theorem lack_eq {b : Bk} {ab W : List Nat} (hb : BkOk b) (hW : Asc W) : lackO b ab W = demOf b W - (countsOf b (emptyR b) ab W).sum := by
  have hr : RowsOk b (emptyR b) := ⟨(emptyR_v b).len, fun i _ => ⟨(emptyR_v b).asc i, (emptyR_v b).sub i, (emptyR_v b).lim i⟩⟩
  unfold lackO lackL countsOf
  have e : (present b ab).map (fun r => cntL b.rd (emptyR b) r W) = (present b ab).map fun r => count b (emptyR b) r W := List.map_congr_left fun r _ => (count_law (asc_nodup (row_ok hb hr r).1) (row_ok hb hr r).2.1 (asc_nodup (may_ok hb r).1) (asc_nodup hW)).symm
  rw [e]; rfl
theorem short_mem {b : Bk} {ab W : List Nat} (hb : BkOk b) : W ∈ shortL b ab ↔ SetOf b.dem.length W ∧ isShort b (emptyR b) ab W = true := by
  unfold shortL
  rw [List.mem_filter, every_mem]
  refine and_congr_right fun h => ?_
  rw [lack_eq hb h.1]
  unfold isShort
  rw [decide_eq_true_eq, decide_eq_true_eq]
  omega
theorem tight_mem {b : Bk} {ab W : List Nat} {X : List (List Nat)} (hb : BkOk b) (E : ExtOk b (emptyR b) ab X) : W ∈ tightL b ab ↔ SetOf b.dem.length W ∧ ClosedS b (emptyR b) X ab W := by
  unfold tightL
  rw [List.mem_filter, every_mem]
  refine and_congr_right fun h => ?_
  rw [lack_eq hb h.1, decide_eq_true_eq, ← tight_closed (bkv_of hb) E.rv (emptyR_v b) (fun r => emptyR_at b r) (fun x hx => good_cnt E hx) (asc_nodup h.1) h.2.1]
  omega
theorem short_nil {b : Bk} {ab : List Nat} (hb : BkOk b) : shortL b ab = [] ↔ ∃ X, extF b (emptyR b) ab = .yes X := by
  have hi := ext_iff (D := []) (bkv_of hb) (emptyR_v b) hb.r6 (dem6 hb) ab
  constructor
  · intro h
    cases e : extF b (emptyR b) ab with
    | yes X => exact ⟨X, rfl⟩
    | no T =>
      rw [e] at hi
      obtain ⟨W, h1, h2, h3, h4⟩ := hi.mp rfl
      have : W ∈ shortL b ab := (short_mem hb).mpr ⟨⟨h2, h3, h1⟩, h4⟩
      rw [h] at this; cases this
  · rintro ⟨X, e⟩
    rw [e] at hi
    refine List.eq_nil_iff_forall_not_mem.mpr fun W hW => ?_
    obtain ⟨⟨h2, h3, h1⟩, h4⟩ := (short_mem hb).mp hW
    have := hi.mpr ⟨W, h1, h2, h3, h4⟩
    cases this
/-- one demand more -/
def moreL (b : Bk) (work : Nat) : List Nat := b.dem.take work ++ [demAt b work + 1] ++ b.dem.drop (work + 1)
theorem more_len {b : Bk} {work : Nat} (hw : work < b.dem.length) : (moreL b work).length = b.dem.length := by
  unfold moreL
  rw [List.length_append, List.length_append, List.length_take, List.length_drop, List.length_singleton]
  omega
theorem more_at {b : Bk} {work : Nat} (hw : work < b.dem.length) (x : Nat) : (moreL b work).getD x 0 = demAt b x + (if x = work then 1 else 0) := by
  unfold moreL demAt
  rw [List.getD_eq_getElem?_getD, List.getD_eq_getElem?_getD, List.append_assoc, List.getElem?_append]
  have hl : (b.dem.take work).length = work := by rw [List.length_take]; omega
  rw [hl]
  by_cases h1 : x < work
  · rw [if_pos h1, if_neg (by omega), List.getElem?_take, if_pos h1]; rfl
  · rw [if_neg h1]
    by_cases h2 : x = work
    · subst h2
      rw [Nat.sub_self, if_pos rfl]
      rw [List.getD_eq_getElem?_getD]; rfl
    · rw [if_neg h2, show x - work = (x - work - 1) + 1 by omega]
      show (List.drop (work + 1) b.dem)[x - work - 1]?.getD 0 = _
      rw [List.getElem?_drop, show work + 1 + (x - work - 1) = x by omega]; rfl
def moreB (b : Bk) (work : Nat) : Bk := ⟨moreL b work, b.rd⟩
theorem maxN : ∀ (l : List Nat) (m : Int), (∀ x ∈ l, (x : Int) ≤ maxI m (l.map fun (x : Nat) => (x : Int))) ∧ m ≤ maxI m (l.map fun (x : Nat) => (x : Int))
  | [], m => ⟨fun _ h => (nomatch h), Int.le_refl _⟩
  | x :: l, m => by
    show (∀ y ∈ x :: l, (y : Int) ≤ maxI (if (x : Int) > m then (x : Int) else m) (l.map fun (x : Nat) => (x : Int))) ∧ m ≤ maxI (if (x : Int) > m then (x : Int) else m) (l.map fun (x : Nat) => (x : Int))
    obtain ⟨h1, h2⟩ := maxN l (if (x : Int) > m then (x : Int) else m)
    refine ⟨fun y hy => ?_, by split at h2 <;> split <;> omega⟩
    rcases List.mem_cons.mp hy with e | hy
    · subst e; split at h2 <;> split <;> omega
    · exact h1 y hy
theorem max_natL {l : List Nat} (h : l ≠ []) : ∃ m : Int, b1D .max (lN l) = some (.int m) ∧ ∀ x ∈ l, (x : Int) ≤ m := by
  cases l with
  | nil => exact absurd rfl h
  | cons x l =>
    refine ⟨maxI (x : Int) (l.map fun (x : Nat) => (x : Int)), ?_, fun y hy => ?_⟩
    · show (match intsOf ((x :: l).map nD) with | some (n :: ns) => some (D.int (maxI n ns)) | _ => none) = _
      rw [ints_nat]; rfl
    · obtain ⟨h1, h2⟩ := maxN l (x : Int)
      rcases List.mem_cons.mp hy with e | hy
      · subst e; exact h2
      · exact h1 y hy
theorem more_yes {b : Bk} {ab : List Nat} {X : List (List Nat)} {work : Nat} {l : List Link} (hb : BkOk b) (hb' : BkOk (moreB b work)) (hw : work < b.dem.length) (E : ExtOk b (emptyR b) ab X) (hl : ChainOk b (emptyR b) X ab work l) : ∃ Y, extF (moreB b work) (emptyR (moreB b work)) ab = .yes Y := by
  have K : KeptIn b (emptyR b) X ab := fun r _ x hx => by
    have hx : x ∈ (emptyR b).getD r [] := hx
    rw [emptyR_at] at hx; cases hx
  obtain ⟨R, _, _, hc⟩ := after_ok E.rv K hl
  have hi := ext_iff (D := []) (bkv_of hb') (emptyR_v (moreB b work)) hb'.r6 (dem6 hb') ab
  cases e : extF (moreB b work) (emptyR (moreB b work)) ab with
  | yes Y => exact ⟨Y, rfl⟩
  | no T =>
    exfalso
    rw [e] at hi
    obtain ⟨W, h1, h2, h3, h4⟩ := hi.mp rfl
    have R' : RowsV (moreB b work) (afterL X l) := ⟨R.len, R.asc, R.sub, R.lim⟩
    have hc' : ∀ x, x < (moreB b work).dem.length → cntR (moreB b work) (afterL X l) ab x = demAt (moreB b work) x := fun x hx => by
      have hx : x < (moreL b work).length := hx
      rw [more_len hw] at hx
      show cntR b (afterL X l) ab x = (moreL b work).getD x 0
      rw [hc, good_cnt E hx, more_at hw]
    have := good_no_short (bkv_of hb') R' (fun r => emptyR_at (moreB b work) r) hc' (asc_nodup h2) h3
    rw [h4] at this; cases this
theorem c__law_is_right {n work : Nat} {b : Bk} {ab : List Nat} {X : List (List Nat)} {s : List Ob} (hb : BkOk b) (hw : work < b.dem.length) (hX : extF b (emptyR b) ab = .yes X) (hs : s.all noMeO = true) :
    Cal tab (n + 10) 31 [bkD b, lN b.dem, .lst (b.rd.map rdD), tN ab, nD work, lT (tightL b ab)] s = .ok (.bl true) false s := by
  have E := good_X hb hX
  have V := bkv_of hb
  have d6 := hb.d6
  have r6 := hb.r6
  have ct := c_told_yes (n := n) (ab := ab) (s := s) hb hw hX
  have hst := step_ok (kept := emptyR b) (ab := ab) V E.rv hw
  have hsl := upL_len (L := List.range b.dem.length) (by rw [List.length_range]; exact d6) (List.range b.dem.length).length
  have hpw : 6 ^ (List.range b.dem.length).length ≤ 6 ^ 6 := Nat.pow_le_pow_right (by omega) (by rw [List.length_range]; exact d6)
  have htl : (tightL b ab).length ≤ lim := by
    have h1 : (tightL b ab).length ≤ (everyL b).length := List.length_filter_le _ _
    have h2 : (everyL b).length ≤ (setsL (List.range b.dem.length)).length := by unfold everyL; rw [List.length_drop]; omega
    have h3 : (setsL (List.range b.dem.length)).length ≤ 2 * 6 ^ (List.range b.dem.length).length := hsl
    unfold lim; omega
  have hwl : ((tightL b ab).filter fun W => decide (work ∈ W)).length ≤ lim := Nat.le_trans (List.length_filter_le _ _) htl
  (refine call_eq rfl rfl ?_; show Sat (Runs (Cal tab _) il__law_is_right ⟨[.val _, .val _, .val _, .val _, .val _, .val _, .no, .no, .no, .no, .no, .no], _⟩) _; unfold il__law_is_right)
  apply sv_set
  · apply ev_callP
    · (repeat' (first | decreasing_trivial_pre_omega))
    · exact ct
  · exact rfl
  · (focus (apply keep_v; (simp only [List.set_cons_zero, List.set_cons_succ, hideE, List.map_cons, List.map_nil, List.cons_append, List.nil_append] <;> exact rfl)))
  apply sv_set
  · apply ev_comp (L := tightL b ab) (enc := tN) (q := tN) (p := fun W => decide (work ∈ W))
    · (repeat' (first | decreasing_trivial_pre_omega))
    · exact htl
    · exact rfl
    · (simp only [List.set_cons_zero, List.set_cons_succ, hideE, List.map_cons, List.map_nil, List.cons_append, List.nil_append] <;> exact rfl)
    · intro x m; (repeat' (first | (apply asg_nm; (focus exact rfl); (focus (simp only [List.set_cons_zero, List.set_cons_succ, hideE, List.map_cons, List.map_nil, List.cons_append, List.nil_append] <;> exact rfl))) | (apply asg_t2; (focus exact rfl)) | (apply asg_t2l; (focus exact rfl)) | (apply asg_t3; (focus exact rfl))))
    · intro x m; (repeat' (first | decreasing_trivial_pre_omega))
    · intro x m _; (repeat' (first | decreasing_trivial_pre_omega))
    · intro x m; exact rfl
  · exact rfl
  · (focus (apply keep_v; (simp only [List.set_cons_zero, List.set_cons_succ, hideE, List.map_cons, List.map_nil, List.cons_append, List.nil_append] <;> exact rfl)))
  cases e : stepF b (emptyR b) X ab work with
  | chain l =>
    rw [e] at hst
    have hst : ChainOk b (emptyR b) X ab work l := hst
    have hnil : ((tightL b ab).filter fun W => decide (work ∈ W)) = [] := by
      refine List.filter_eq_nil_iff.mpr fun W hW z => ?_
      have z := of_decide_eq_true z
      exact closed_none ((tight_mem hb E).mp hW).2 z hst.1
    apply sat_ite (k := true)
    · apply evT_cmpv
      · exact rfl
      · (repeat' (first | decreasing_trivial_pre_omega))
      · exact rfl
      · have := cmp_eq_lT (a := (tightL b ab).filter fun W => decide (work ∈ W)) (b := [])
        rw [hnil, decide_eq_true rfl] at this
        rw [hnil]; exact this
    · intro _
      apply sv_set (x := (lN (moreL b work), true))
      · unfold moreL
        apply ev_bin (x := (lN (b.dem.take work ++ [demAt b work + 1]), true)) (y := (lN (b.dem.drop (work + 1)), true))
        · apply ev_bin (x := (lN (b.dem.take work), true)) (y := (lN [demAt b work + 1], true))
          · apply ev_sl
            · (repeat' (first | decreasing_trivial_pre_omega))
            · exact evO_no
            · apply evO_yes
              · (repeat' (first | decreasing_trivial_pre_omega))
              · exact rfl
            · exact sl_toN
          · apply ev_lst (ds := [nD (demAt b work + 1)])
            · apply evs_cons (x := (nD (demAt b work + 1), false))
              · apply ev_bin (x := (nD (demAt b work), false)) (y := (.int 1, false))
                · apply ev_ixv
                  · exact rfl
                  · (repeat' (first | decreasing_trivial_pre_omega))
                  · exact rfl
                  · exact ix_lN hw
                · (repeat' (first | decreasing_trivial_pre_omega))
                · exact rfl
              · exact evs_nil
            · exact rfl
          · exact bin_addlN (by rw [List.length_take]; show _ + 1 ≤ _; unfold lim; omega)
        · apply ev_sl (l := some ((work : Int) + 1))
          · (repeat' (first | decreasing_trivial_pre_omega))
          · apply evO_yes
            · (repeat' (first | decreasing_trivial_pre_omega))
            · exact rfl
          · exact evO_no
          · exact sl_fromN
        · exact bin_addlN (by rw [List.length_append, List.length_take, List.length_drop]; show _ + 1 + _ ≤ _; unfold lim; omega)
      · exact rfl
      · (focus (apply keep_v; (simp only [List.set_cons_zero, List.set_cons_succ, hideE, List.map_cons, List.map_nil, List.cons_append, List.nil_append] <;> exact rfl)))
      apply sat_ite (k := false)
      · apply evT_cmpv
        · exact rfl
        · (repeat' (first | decreasing_trivial_pre_omega))
        · exact rfl
        · exact rfl
      · intro z; cases z
      intro _
      apply sat_nil; apply nx_of'
      obtain ⟨m, hm1, hm2⟩ := max_natL (l := moreL b work) (fun z => by have := more_len hw; rw [z] at this; simp at this; omega)
      apply sat_ite (k := decide (6 < m))
      · apply evT_cmp
        · apply ev_b1
          · (repeat' (first | decreasing_trivial_pre_omega))
          · exact hm1
        · (repeat' (first | decreasing_trivial_pre_omega))
        · exact rfl
      · intro _
        apply sat_ret
        · (repeat' (first | decreasing_trivial_pre_omega))
        · exact ⟨rfl, rfl, rfl⟩
      · intro z
        have z := of_decide_eq_false z
        have hb' : BkOk (moreB b work) := ⟨by show 1 ≤ (moreL b work).length; rw [more_len hw]; exact hb.d1, by show (moreL b work).length ≤ 6; rw [more_len hw]; exact hb.d6, fun x hx => by have := hm2 x hx; omega, hb.r6, fun p hp => by show RdOk (moreL b work).length p; rw [more_len hw]; exact hb.rv p hp⟩
        obtain ⟨Y, hY⟩ := more_yes hb hb' hw E hst
        have cg := c_good_rows (n := n + 3) (b := moreB b work) (ab := ab) (s := s) (bkv_of hb') hb'.r6 hb'.d6 (dem6 hb')
        rw [hY] at cg
        apply sat_nil; apply nx_of'
        apply sat_ret (x := (.bl true, false))
        · apply ev_cmp
          · apply ev_ix (x := (.tup [.str (Str.ofString "yes"), lT Y], false))
            · apply ev_callP
              · apply evs_cons (x := (bkD (moreB b work), false))
                · apply ev_Book (b := moreB b work) (n := n + 5) hb'
                  · (repeat' (first | decreasing_trivial_pre_omega))
                  · (repeat' (first | decreasing_trivial_pre_omega))
                  · exact hs
                apply evs_cons
                · (repeat' (first | decreasing_trivial_pre_omega))
                · exact evs_nil
              · exact cg
            · (repeat' (first | decreasing_trivial_pre_omega))
            · exact rfl
          · (repeat' (first | decreasing_trivial_pre_omega))
          · exact (by decide +kernel : cmpD .eq (.str (Str.ofString "yes")) (.str (Str.ofString "yes")) = some true)
        · exact ⟨rfl, rfl, rfl⟩
    · intro z; cases z
  | closed S =>
    rw [e] at hst
    have hst : work ∈ S ∧ ClosedS b (emptyR b) X ab S ∧ S.Nodup ∧ ∀ x ∈ S, x < b.dem.length := hst
    have ms : ∀ x, x ∈ srt S ↔ x ∈ S := fun x => (srt_perm S).mem_iff
    have hSt : srt S ∈ tightL b ab := (tight_mem hb E).mpr ⟨⟨asc_srt hst.2.2.1, fun x hx => hst.2.2.2 x ((ms x).mp hx), fun z => by have := (ms work).mpr hst.1; rw [z] at this; cases this⟩, fun r hr => by
      rcases hst.2.1 r hr with h | ⟨h1, h2⟩
      · exact .inl fun x hx hxS => h x hx ((ms x).mp hxS)
      · exact .inr ⟨h1, fun x hx hxS => h2 x hx fun z => hxS ((ms x).mpr z)⟩⟩
    have hSw : srt S ∈ (tightL b ab).filter fun W => decide (work ∈ W) := List.mem_filter.mpr ⟨hSt, decide_eq_true ((ms work).mpr hst.1)⟩
    have hdue : ((List.range b.dem.length).filter fun x => decide (((tightL b ab).filter fun W => decide (work ∈ W)).filter (fun W => !decide (x ∈ W)) = [])) = srt S := by
      refine asc_eq ((asc_range _).sublist List.filter_sublist) (asc_srt hst.2.2.1) fun x => ?_
      rw [List.mem_filter, List.mem_range, decide_eq_true_eq, List.filter_eq_nil_iff]
      constructor
      · rintro ⟨_, h⟩
        have := h _ hSw
        simpa using this
      · intro hx
        refine ⟨hst.2.2.2 x ((ms x).mp hx), fun W hW => ?_⟩
        obtain ⟨w1, w2⟩ := List.mem_filter.mp hW
        have := step_least V E.rv hw e ((tight_mem hb E).mp w1).2 (of_decide_eq_true w2) x ((ms x).mp hx)
        simp [this]
    apply sat_ite (k := false)
    · apply evT_cmpv
      · exact rfl
      · (repeat' (first | decreasing_trivial_pre_omega))
      · exact rfl
      · have := cmp_eq_lT (a := (tightL b ab).filter fun W => decide (work ∈ W)) (b := [])
        rw [decide_eq_false (fun z => by rw [z] at hSw; cases hSw)] at this
        exact this
    · intro z; cases z
    intro _
    apply sat_nil; apply nx_of'
    apply sv_set (x := (lN (srt S), true))
    · rw [← hdue]
      apply ev_comp (L := List.range b.dem.length) (enc := nD) (q := nD) (p := fun x => decide (((tightL b ab).filter fun W => decide (work ∈ W)).filter (fun W => !decide (x ∈ W)) = []))
      · apply evI_r1
        · (repeat' (first | decreasing_trivial_pre_omega))
        · omega
      · rw [List.length_range]; unfold lim; omega
      · exact rfl
      · (simp only [List.set_cons_zero, List.set_cons_succ, hideE, List.map_cons, List.map_nil, List.cons_append, List.nil_append] <;> exact rfl)
      · intro x m; (repeat' (first | (apply asg_nm; (focus exact rfl); (focus (simp only [List.set_cons_zero, List.set_cons_succ, hideE, List.map_cons, List.map_nil, List.cons_append, List.nil_append] <;> exact rfl))) | (apply asg_t2; (focus exact rfl)) | (apply asg_t2l; (focus exact rfl)) | (apply asg_t3; (focus exact rfl))))
      · intro x m
        apply evC_yes
        apply evT_cmp
        · apply ev_comp (L := (tightL b ab).filter fun W => decide (work ∈ W)) (enc := tN) (q := fun _ => .int 1) (p := fun W => !decide (x ∈ W))
          · (repeat' (first | decreasing_trivial_pre_omega))
          · exact hwl
          · exact rfl
          · (simp only [List.set_cons_zero, List.set_cons_succ, hideE, List.map_cons, List.map_nil, List.cons_append, List.nil_append] <;> exact rfl)
          · intro x m; (repeat' (first | (apply asg_nm; (focus exact rfl); (focus (simp only [List.set_cons_zero, List.set_cons_succ, hideE, List.map_cons, List.map_nil, List.cons_append, List.nil_append] <;> exact rfl))) | (apply asg_t2; (focus exact rfl)) | (apply asg_t2l; (focus exact rfl)) | (apply asg_t3; (focus exact rfl))))
          · intro x m; (repeat' (first | decreasing_trivial_pre_omega))
          · intro x m _; (repeat' (first | decreasing_trivial_pre_omega))
          · intro x m; exact rfl
        · (repeat' (first | decreasing_trivial_pre_omega))
        · exact cmp_ones_nil
      · intro x m _; (repeat' (first | decreasing_trivial_pre_omega))
      · intro x m; exact rfl
    · exact rfl
    · (focus (apply keep_v; (simp only [List.set_cons_zero, List.set_cons_succ, hideE, List.map_cons, List.map_nil, List.cons_append, List.nil_append] <;> exact rfl)))
    have hsm : ∀ x ∈ srt S, x ≤ 200 := fun x hx => by have := hst.2.2.2 x ((ms x).mp hx); omega
    have hsl : (srt S).length ≤ 20 := by
      have := asc_len (asc_srt hst.2.2.1) fun x hx => hst.2.2.2 x ((ms x).mp hx)
      omega
    apply sat_ret (x := (.bl (true && decide (srt S ∈ tightL b ab)), false))
    · apply ev_and (f1 := false) (f2 := false)
      · apply ev_cmp
        · apply ev_b1
          · (repeat' (first | decreasing_trivial_pre_omega))
          · exact rp_tN hsm hsl
        · apply ev_b1
          · apply ev_b1
            · (repeat' (first | decreasing_trivial_pre_omega))
            · exact tup_map
          · exact rp_tN hsm hsl
        · rw [cmp_eq_str, beq_self_eq_true]
      · intro _
        apply ev_inv
        · apply ev_b1
          · (repeat' (first | decreasing_trivial_pre_omega))
          · exact tup_map
        · exact rfl
        · exact cmp_in_lT
    · exact ⟨by rw [decide_eq_true hSt]; rfl, rfl, rfl⟩
theorem cmp_ne_lT {a c : List (List Nat)} : cmpD .ne (lT a) (lT c) = some (!decide (a = c)) := by
  have h : cmpD .eq (lT a) (lT c) = some (decide (a = c)) := cmp_eq_lT
  show (eqN (lT a) (lT c)).map not = _
  have h : eqN (lT a) (lT c) = some (decide (a = c)) := h
  rw [h]; rfl
theorem cmp_ne_lT0 : cmpD .ne (lT []) (.lst []) = some false := cmp_ne_lT (a := []) (c := [])
theorem cmp_ne_lT1 {T : List Nat} {L : List (List Nat)} (h : T ∈ L) : cmpD .ne (lT L) (.lst []) = some true := by
  have := cmp_ne_lT (a := L) (c := [])
  rw [decide_eq_false (fun z => by rw [z] at h; cases h)] at this
  exact this
theorem mul_rep {L : List (List Nat)} {k : Bool} (h : L.length ≤ 100) : binD .mul (lT L) (.int (if k then 1 else 0)) = some (.lst (List.replicate (if k then 1 else 0) (L.map tN)).flatten) := by
  have hl : (L.map tN).length ≤ 100 := by rw [List.length_map]; exact h
  cases k
  · show (if 0 ≤ (0 : Int) ∧ (0 : Int) ≤ 1000 ∧ (L.map tN).length ≤ 100 then some (D.lst (List.replicate (0 : Int).toNat (L.map tN)).flatten) else none) = _
    rw [if_pos ⟨by omega, by omega, hl⟩]; rfl
  · show (if 0 ≤ (1 : Int) ∧ (1 : Int) ≤ 1000 ∧ (L.map tN).length ≤ 100 then some (D.lst (List.replicate (1 : Int).toNat (L.map tN)).flatten) else none) = _
    rw [if_pos ⟨by omega, by omega, hl⟩]; rfl
theorem seq_rep1 {l : List D} : itemsOf (.lst (List.replicate (if true = true then 1 else 0) l).flatten) = some l := by
  show some (List.replicate 1 l).flatten = _
  simp
theorem seq_rep0 {l : List D} : itemsOf (.lst (List.replicate (if false = true then 1 else 0) l).flatten) = some [] := rfl
def lkD (p : Int × List Nat) : D := .tup [.int p.1, tN p.2]
def dedupN : List Nat → List Nat
  | [] => []
  | x :: l => if x ∈ l then dedupN l else x :: dedupN l
theorem dedup_cst : ∀ l : List Nat, dedup (cstN l) = cstN (dedupN l)
  | [] => rfl
  | x :: l => by
    show (if (x : Int) ∈ cstN l then dedup (cstN l) else (x : Int) :: dedup (cstN l)) = cstN (if x ∈ l then dedupN l else x :: dedupN l)
    have : (x : Int) ∈ cstN l ↔ x ∈ l := by
      unfold cstN
      rw [List.mem_map]
      exact ⟨fun ⟨y, hy, e⟩ => by have : y = x := by omega
                                  rw [← this]; exact hy, fun h => ⟨x, h, rfl⟩⟩
    rw [dedup_cst l]
    by_cases h : x ∈ l
    · rw [if_pos (this.mpr h), if_pos h]
    · rw [if_neg (fun z => h (this.mp z)), if_neg h]; rfl
theorem dedupN_ok : ∀ l : List Nat, (dedupN l).Nodup ∧ ∀ x, x ∈ dedupN l ↔ x ∈ l
  | [] => ⟨List.nodup_nil, fun x => Iff.rfl⟩
  | x :: l => by
    obtain ⟨h1, h2⟩ := dedupN_ok l
    unfold dedupN
    by_cases h : x ∈ l
    · rw [if_pos h]
      exact ⟨h1, fun y => (h2 y).trans ⟨List.mem_cons_of_mem _, fun z => (List.mem_cons.mp z).elim (fun e => e ▸ h) id⟩⟩
    · rw [if_neg h]
      exact ⟨List.nodup_cons.mpr ⟨fun z => h ((h2 x).mp z), h1⟩, fun y => by rw [List.mem_cons, List.mem_cons, h2 y]⟩
theorem ev_ssetN {cf : Nat → List D → List Ob → CR} {a : E} {w w1 : Wd} {l : List Nat} {f : Bool} (ha : Ev cf a w = .ok (tN l, f) w1) (hl : l.length ≤ 60) : Ev cf (.sset a) w = .ok (lN (sortN (dedupN l)), true) w1 := by
  have := ev_sset (ns := cstN l) ha (by show intsOf (l.map nD) = _; exact ints_nat l) (by unfold cstN; rw [List.length_map]; exact hl)
  rw [this, dedup_cst, ← sortN_cst, cst_map]; rfl
theorem setof_join {n : Nat} {S T : List Nat} (hS : SetOf n S) (hT : SetOf n T) : SetOf n (sortN (dedupN (S ++ T))) ∧ ∀ x, x ∈ sortN (dedupN (S ++ T)) ↔ x ∈ S ∨ x ∈ T := by
  have hm : ∀ x, x ∈ sortN (dedupN (S ++ T)) ↔ x ∈ S ∨ x ∈ T := fun x => ((sortN_perm _).mem_iff).trans (((dedupN_ok _).2 x).trans List.mem_append)
  refine ⟨⟨asc_sortN (dedupN_ok _).1, fun x hx => ((hm x).mp hx).elim (hS.2.1 x) (hT.2.1 x), fun z => ?_⟩, hm⟩
  cases S with
  | nil => exact hS.2.2 rfl
  | cons x S => have := (hm x).mpr (.inl List.mem_cons_self); rw [z] at this; cases this
theorem frz1 {e : List Sl} {i : Nat} {t : Sl} (ht : e[i]? = some t) (h : ∀ d, t ≠ .cell d) : freezeE [i] e = e := by
  show frzAt e i = e
  unfold frzAt
  rw [ht]
  cases t with
  | cell d => exact absurd rfl (h d)
  | no => rfl
  | val d => rfl
theorem law_tail {fd : Nat} {ns : List Int} {k : Nat} {b : Bk} {ab : List Nat} {s : List Ob} {t13 t14 t15 t16 t17 : Sl} {Q : Flow → Wd → Prop} [Clo Q] (hb : BkOk b) (hs : Fd fd s) (h13 : ∀ d, t13 ≠ .cell d)
    (hQ : ∀ {t13 t14 t15 t16 t17 : Sl}, (∀ d, t13 ≠ .cell d) → Sat (Runs (Cal tab 19) (.cons (.ite (.not (.cmpv .eq 5 (.mk 33 (.var 3) (.var 4)))) (.cons (.ret (.bl false)) .nil) .nil) .nil) ⟨[.val (.scr ns), .val (nD k), .val (.ref fd), .val (lN b.dem), .val (.lst (b.rd.map rdD)), .val (bkD b), .val (tN ab), .val (lT (emptyR b)), .val (lN (present b ab)), .val (lT (everyL b)), .val (.lst ((everyL b).map fun W => lkD (lackO b ab W, W))), .val (lT (shortL b ab)), .val (lT (tightL b ab)), t13, t14, t15, t16, t17, .no, .no, .no], s⟩) Q) :
    Sat (Runs (Cal tab 19) (.cons (.for_ (.nm 15) (.seq (.bin .mul (.sl (.var 12) .no (.yes (.int 8))) (.b1 .int (.cmpv .eq 11 (.lst .nil))))) (.cons (.for_ (.nm 16) (.seq (.sl (.var 12) .no (.yes (.int 8)))) (.cons (.set 17 (.b1 .tuple (.comp [13] (.nm 13) (.seq (.var 15)) (.yes (.inv .isin (.var 13) 16)) (.var 13)))) (.cons (.ite (.and (.cmpv .ne 17 (.tup .nil)) (.inv .notin (.var 17) 12)) (.cons (.ret (.bl false)) .nil) .nil) (.cons (.ite (.inv .notin (.b1 .tuple (.sset (.bin .add (.var 15) (.var 16)))) 12) (.cons (.ret (.bl false)) .nil) .nil) .nil)))) .nil)) (.cons (.ite (.not (.cmpv .eq 5 (.mk 33 (.var 3) (.var 4)))) (.cons (.ret (.bl false)) .nil) .nil) .nil)) ⟨[.val (.scr ns), .val (nD k), .val (.ref fd), .val (lN b.dem), .val (.lst (b.rd.map rdD)), .val (bkD b), .val (tN ab), .val (lT (emptyR b)), .val (lN (present b ab)), .val (lT (everyL b)), .val (.lst ((everyL b).map fun W => lkD (lackO b ab W, W))), .val (lT (shortL b ab)), .val (lT (tightL b ab)), t13, t14, t15, t16, t17, .no, .no, .no], s⟩) Q := by
  have d6 := hb.d6
  have hlen : ∀ {W : List Nat}, SetOf b.dem.length W → W.length ≤ 6 := fun h => Nat.le_trans (set_len h) d6
  apply sv_for (I := fun ds w => ∃ (rest : List (List Nat)) (t13 t14 t15 t16 t17 : Sl), w = ⟨[.val (.scr ns), .val (nD k), .val (.ref fd), .val (lN b.dem), .val (.lst (b.rd.map rdD)), .val (bkD b), .val (tN ab), .val (lT (emptyR b)), .val (lN (present b ab)), .val (lT (everyL b)), .val (.lst ((everyL b).map fun W => lkD (lackO b ab W, W))), .val (lT (shortL b ab)), .val (lT (tightL b ab)), t13, t14, t15, t16, t17, .no, .no, .no], s⟩ ∧ ds = rest.map tN ∧ (∀ d, t13 ≠ .cell d) ∧ ∀ W ∈ rest, W ∈ tightL b ab ∧ shortL b ab = [])
    (ds := (if shortL b ab = [] then (tightL b ab).take 8 else []).map tN)
  · apply evI_seq
    · apply ev_bin (x := (lT ((tightL b ab).take 8), true)) (y := (.int (if decide (shortL b ab = []) then 1 else 0), false))
      · apply ev_sl (h := some 8)
        · (repeat' (first | decreasing_trivial_pre_omega))
        · exact evO_no
        · apply evO_yes
          · (repeat' (first | decreasing_trivial_pre_omega))
          · exact rfl
        · exact sl_to (k := 8)
      · apply ev_b1
        · apply ev_cmpv
          · exact rfl
          · (repeat' (first | decreasing_trivial_pre_omega))
          · exact rfl
          · exact cmp_eq_lT (b := [])
        · exact rfl
      · exact mul_rep (by rw [List.length_take]; omega)
    · by_cases h : shortL b ab = []
      · rw [decide_eq_true h, if_pos rfl, if_pos h]; exact seq_rep1
      · rw [decide_eq_false h, if_neg h]; exact seq_rep0
  · refine ⟨_, _, _, _, _, _, rfl, rfl, h13, fun W hW => ?_⟩
    by_cases h : shortL b ab = []
    · rw [if_pos h] at hW; exact ⟨List.mem_of_mem_take hW, h⟩
    · rw [if_neg h] at hW; cases hW
  · rintro d rd w ⟨rest, t13, t14, t15, t16, t17, rfl, hd, h13, hr⟩
    cases rest with
    | nil => cases hd
    | cons S rest =>
      rw [List.map_cons] at hd
      obtain ⟨rfl, rfl⟩ := List.cons.inj hd
      obtain ⟨hS, hsh⟩ := hr S List.mem_cons_self
      obtain ⟨X, hX⟩ := (short_nil hb).mp hsh
      have E := good_X hb hX
      have hS2 := (tight_mem hb E).mp hS
      refine ⟨_, by (repeat' (first | (apply asg_nm; (focus exact rfl); (focus (simp only [List.set_cons_zero, List.set_cons_succ, hideE, List.map_cons, List.map_nil, List.cons_append, List.nil_append] <;> exact rfl))) | (apply asg_t2; (focus exact rfl)) | (apply asg_t2l; (focus exact rfl)) | (apply asg_t3; (focus exact rfl)))), ?_⟩
      apply sv_for (I := fun ds w => ∃ (rest : List (List Nat)) (t13 t14 t16 t17 : Sl), w = ⟨[.val (.scr ns), .val (nD k), .val (.ref fd), .val (lN b.dem), .val (.lst (b.rd.map rdD)), .val (bkD b), .val (tN ab), .val (lT (emptyR b)), .val (lN (present b ab)), .val (lT (everyL b)), .val (.lst ((everyL b).map fun W => lkD (lackO b ab W, W))), .val (lT (shortL b ab)), .val (lT (tightL b ab)), t13, t14, .val (tN S), t16, t17, .no, .no, .no], s⟩ ∧ ds = rest.map tN ∧ (∀ d, t13 ≠ .cell d) ∧ ∀ W ∈ rest, W ∈ tightL b ab) (ds := ((tightL b ab).take 8).map tN)
      · apply evI_seq
        · apply ev_sl (h := some 8)
          · (repeat' (first | decreasing_trivial_pre_omega))
          · exact evO_no
          · apply evO_yes
            · (repeat' (first | decreasing_trivial_pre_omega))
            · exact rfl
          · exact sl_to (k := 8)
        · exact rfl
      · exact ⟨_, _, _, _, _, rfl, rfl, h13, fun W hW => List.mem_of_mem_take hW⟩
      · rintro d rd w ⟨rest2, t13, t14, t16, t17, rfl, hd, h13, hr2⟩
        cases rest2 with
        | nil => cases hd
        | cons T rest2 =>
          rw [List.map_cons] at hd
          obtain ⟨rfl, rfl⟩ := List.cons.inj hd
          have hT2 := (tight_mem hb E).mp (hr2 T List.mem_cons_self)
          have lS := hlen hS2.1
          have lT' := hlen hT2.1
          refine ⟨_, by (repeat' (first | (apply asg_nm; (focus exact rfl); (focus (simp only [List.set_cons_zero, List.set_cons_succ, hideE, List.map_cons, List.map_nil, List.cons_append, List.nil_append] <;> exact rfl))) | (apply asg_t2; (focus exact rfl)) | (apply asg_t2l; (focus exact rfl)) | (apply asg_t3; (focus exact rfl)))), ?_⟩
          have hcut : (S.filter fun x => decide (x ∈ T)) ≠ [] → (S.filter fun x => decide (x ∈ T)) ∈ tightL b ab := fun hne => (tight_mem hb E).mpr ⟨⟨hS2.1.1.sublist List.filter_sublist, fun x hx => hS2.1.2.1 x (List.mem_filter.mp hx).1, hne⟩, closed_cut hS2.2 hT2.2 (fun r => emptyR_at b r) fun x => by rw [List.mem_filter, decide_eq_true_eq]⟩
          obtain ⟨hj1, hj2⟩ := setof_join hS2.1 hT2.1
          have hjoin : sortN (dedupN (S ++ T)) ∈ tightL b ab := (tight_mem hb E).mpr ⟨hj1, closed_union hS2.2 hT2.2 hj2⟩
          apply sv_set (x := (tN (S.filter fun x => decide (x ∈ T)), false))
          · apply ev_b1
            · apply ev_comp (L := S) (enc := nD) (q := nD) (p := fun x => decide (x ∈ T))
              · (repeat' (first | decreasing_trivial_pre_omega))
              · unfold lim; omega
              · exact frz1 rfl h13
              · (simp only [List.set_cons_zero, List.set_cons_succ, hideE, List.map_cons, List.map_nil, List.cons_append, List.nil_append] <;> exact rfl)
              · intro x m; (repeat' (first | (apply asg_nm; (focus exact rfl); (focus (simp only [List.set_cons_zero, List.set_cons_succ, hideE, List.map_cons, List.map_nil, List.cons_append, List.nil_append] <;> exact rfl))) | (apply asg_t2; (focus exact rfl)) | (apply asg_t2l; (focus exact rfl)) | (apply asg_t3; (focus exact rfl))))
              · intro x m; (repeat' (first | decreasing_trivial_pre_omega))
              · intro x m _; (repeat' (first | decreasing_trivial_pre_omega))
              · intro x m; exact rfl
            · exact tup_map
          · exact rfl
          · (focus (apply keep_v; (simp only [List.set_cons_zero, List.set_cons_succ, hideE, List.map_cons, List.map_nil, List.cons_append, List.nil_append] <;> exact rfl)))
          apply sat_ite (k := false)
          · by_cases hn : (S.filter fun x => decide (x ∈ T)) = []
            · apply evT_and (k := false) (k2 := false)
              · apply evT_cmpv
                · exact rfl
                · (repeat' (first | decreasing_trivial_pre_omega))
                · exact rfl
                · rw [hn]; exact cmp_ne_tN (a := []) (b := [])
              · intro z; cases z
            · apply evT_and (k := true) (k2 := false)
              · apply evT_cmpv
                · exact rfl
                · (repeat' (first | decreasing_trivial_pre_omega))
                · exact rfl
                · have := cmp_ne_tN (a := S.filter fun x => decide (x ∈ T)) (b := [])
                  rw [decide_eq_false hn] at this
                  exact this
              · intro _
                apply evT_inv
                · (repeat' (first | decreasing_trivial_pre_omega))
                · exact rfl
                · rw [cmp_notin_lT, decide_eq_true (hcut hn)]; rfl
          · intro z; cases z
          intro _
          apply sat_nil; apply nx_of'
          apply sat_ite (k := false)
          · apply evT_inv
            · apply ev_b1
              · apply ev_ssetN (l := S ++ T)
                · apply ev_bin
                  · (repeat' (first | decreasing_trivial_pre_omega))
                  · (repeat' (first | decreasing_trivial_pre_omega))
                  · exact bin_addtN (by unfold lim; omega)
                · rw [List.length_append]; omega
              · exact tup_map
            · exact rfl
            · have := cmp_notin_lT (a := sortN (dedupN (S ++ T))) (L := tightL b ab)
              rw [decide_eq_true hjoin] at this
              exact this
          · intro z; cases z
          intro _
          apply sat_nil; apply nx_of'
          apply sat_nil
          exact ut_of ⟨rest2, _, _, _, _, rfl, rfl, h13, fun W hW => hr2 W (List.mem_cons_of_mem _ hW)⟩
      · rintro w ⟨rest2, t13, t14, t16, t17, rfl, -, h13, -⟩
        apply sat_nil
        exact ut_of ⟨rest, _, _, _, _, _, rfl, rfl, h13, fun W hW => hr W (List.mem_cons_of_mem _ hW)⟩
  · rintro w ⟨rest, t13, t14, t15, t16, t17, rfl, -, h13, -⟩
    exact hQ h13
theorem law_runs : ∀ ns : List Int, ns.length ≤ 63 → ∃ fr s, callF tab 20 32 [.scr ns] [] = .ok (.bl true) fr s := fun ns hn => by
  have := @satC_ex (Cal tab 20 32 [.scr ns] []) (fun d fr s => d = .bl true) (by
    (refine call_sat rfl rfl ?_; show Sat (Runs (Cal tab _) il_law ⟨[.val _, .no, .no, .no, .no, .no, .no, .no, .no, .no, .no, .no, .no, .no, .no, .no, .no, .no, .no, .no, .no], _⟩) _; unfold il_law)
    apply sv_for (I := fun ds w => ∃ (rest : List Nat) (s : List Ob) (t1 t2 t3 t4 t5 t6 t7 t8 t9 t10 t11 t12 t13 t14 t15 t16 t17 : Sl), w = ⟨[.val (.scr ns), t1, t2, t3, t4, t5, t6, t7, t8, t9, t10, t11, t12, t13, t14, t15, t16, t17, .no, .no, .no], s⟩ ∧ ds = rest.map nD ∧ (∀ k ∈ rest, k ≤ 5) ∧ s.all noMeO = true ∧ ∀ d, t13 ≠ .cell d)
    · apply evI_r1 (n := max 1 (min 2 ns.length))
      · rw [show D.int ((max 1 (min 2 ns.length) : Nat) : Int) = D.int (max 1 (min 2 (ns.length : Int))) by congr 1; omega]
        (repeat' (first | decreasing_trivial_pre_omega))
      · omega
    · exact ⟨List.range (max 1 (min 2 ns.length)), [], _, _, _, _, _, _, _, _, _, _, _, _, _, _, _, _, _, rfl, rfl, fun k hk => by have := List.mem_range.mp hk; omega, rfl, fun d z => nomatch z⟩
    · rintro d r w ⟨rest, s, t1, t2, t3, t4, t5, t6, t7, t8, t9, t10, t11, t12, t13, t14, t15, t16, t17, rfl, hd, hk, hs, h13⟩
      cases rest with
      | nil => cases hd
      | cons k rest =>
        rw [List.map_cons] at hd
        obtain ⟨rfl, rfl⟩ := List.cons.inj hd
        have hk0 := hk k List.mem_cons_self
        obtain ⟨s1, h1, c1⟩ := c__law_feed (n := 18) (k := k) (ns := ns) hk0 hs
        obtain ⟨b, s2, hb, -, -, h2, c2⟩ := c__law_book (n := 15) (mw := 6) (mr := 6) h1 (by omega) (by omega) (by omega)
        obtain ⟨ab, s3, ha1, ha2, h3, c3⟩ := c__law_gone (n := 17) (rs := b.rd.map rdD) h2 (by rw [List.length_map]; exact hb.r6)
        have r6 := hb.r6
        have d6 := hb.d6
        have cp := c__law_present (n := 18) (rs := b.rd.map rdD) (ab := ab) (s := s3) (by rw [List.length_map]; exact hb.r6)
        rw [List.length_map] at cp
        have cp : Cal tab 19 26 [.lst (b.rd.map rdD), tN ab] s3 = .ok (lN (present b ab)) true s3 := cp
        have cs := c__law_sets (n := 18) (L := List.range b.dem.length) (s := s3) (by rw [List.length_range]; exact d6)
        have pl := present_len b ab
        have hsl := upL_len (L := List.range b.dem.length) (by rw [List.length_range]; exact d6) (List.range b.dem.length).length
        have hpw : 6 ^ (List.range b.dem.length).length ≤ 6 ^ 6 := Nat.pow_le_pow_right (by omega) (by rw [List.length_range]; exact d6)
        have hel : (everyL b).length ≤ lim := by
          have h2 : (everyL b).length ≤ (setsL (List.range b.dem.length)).length := by unfold everyL; rw [List.length_drop]; omega
          have h3 : (setsL (List.range b.dem.length)).length ≤ 2 * 6 ^ (List.range b.dem.length).length := hsl
          unfold lim; omega
        have hrk : RowsOk b (emptyR b) := ⟨(emptyR_v b).len, fun i _ => ⟨(emptyR_v b).asc i, (emptyR_v b).sub i, (emptyR_v b).lim i⟩⟩
        have hem : lT (emptyR b) = .lst (b.rd.map fun _ => tN []) := by unfold lT emptyR; rw [List.map_map]; rfl
        have hfm : ∀ p : Int → Bool, D.lst ((((everyL b).map fun W => (lackO b ab W, W)).filter fun q => p q.1).map fun q => tN q.2) = lT ((everyL b).filter fun W => p (lackO b ab W)) := fun p => by
          unfold lT
          rw [List.filter_map, List.map_map]; rfl
        refine ⟨_, by (repeat' (first | (apply asg_nm; (focus exact rfl); (focus (simp only [List.set_cons_zero, List.set_cons_succ, hideE, List.map_cons, List.map_nil, List.cons_append, List.nil_append] <;> exact rfl))) | (apply asg_t2; (focus exact rfl)) | (apply asg_t2l; (focus exact rfl)) | (apply asg_t3; (focus exact rfl)))), ?_⟩
        apply sv_set
        · apply ev_call
          · (repeat' (first | decreasing_trivial_pre_omega))
          · exact c1
        · exact rfl
        · (focus (apply keep_v; (simp only [List.set_cons_zero, List.set_cons_succ, hideE, List.map_cons, List.map_nil, List.cons_append, List.nil_append] <;> exact rfl)))
        apply sat_setT
        · apply ev_call
          · (repeat' (first | decreasing_trivial_pre_omega))
          · exact c2
        · (repeat' (first | (apply asg_nm; (focus exact rfl); (focus (simp only [List.set_cons_zero, List.set_cons_succ, hideE, List.map_cons, List.map_nil, List.cons_append, List.nil_append] <;> exact rfl))) | (apply asg_t2; (focus exact rfl)) | (apply asg_t2l; (focus exact rfl)) | (apply asg_t3; (focus exact rfl))))
        apply sv_par2
        · apply ev_Book (n := 15) hb
          · (repeat' (first | decreasing_trivial_pre_omega))
          · (repeat' (first | decreasing_trivial_pre_omega))
          · exact h2.2
        · apply ev_call
          · (repeat' (first | decreasing_trivial_pre_omega))
          · exact c3
        · exact rfl
        · (focus (apply keep_v; (simp only [List.set_cons_zero, List.set_cons_succ, hideE, List.map_cons, List.map_nil, List.cons_append, List.nil_append] <;> exact rfl)))
        · (focus (apply keep_v; (simp only [List.set_cons_zero, List.set_cons_succ, hideE, List.map_cons, List.map_nil, List.cons_append, List.nil_append] <;> exact rfl)))
        apply sv_par2 (x := (lT (emptyR b), true)) (y := (lN (present b ab), true))
        · rw [hem]
          apply ev_comp0 (L := b.rd) (enc := rdD) (q := fun _ => tN [])
          · (repeat' (first | decreasing_trivial_pre_omega))
          · unfold lim; omega
          · exact rfl
          · (simp only [List.set_cons_zero, List.set_cons_succ, hideE, List.map_cons, List.map_nil, List.cons_append, List.nil_append] <;> exact rfl)
          · intro x m; (repeat' (first | (apply asg_nm; (focus exact rfl); (focus (simp only [List.set_cons_zero, List.set_cons_succ, hideE, List.map_cons, List.map_nil, List.cons_append, List.nil_append] <;> exact rfl))) | (apply asg_t2; (focus exact rfl)) | (apply asg_t2l; (focus exact rfl)) | (apply asg_t3; (focus exact rfl))))
          · intro x m; (repeat' (first | decreasing_trivial_pre_omega))
          · intro x m; exact rfl
        · apply ev_callP
          · (repeat' (first | decreasing_trivial_pre_omega))
          · exact cp
        · exact rfl
        · (focus (apply keep_v; (simp only [List.set_cons_zero, List.set_cons_succ, hideE, List.map_cons, List.map_nil, List.cons_append, List.nil_append] <;> exact rfl)))
        · (focus (apply keep_v; (simp only [List.set_cons_zero, List.set_cons_succ, hideE, List.map_cons, List.map_nil, List.cons_append, List.nil_append] <;> exact rfl)))
        apply sv_set (x := (lT (everyL b), true))
        · apply ev_sl (x := (lT (setsL (List.range b.dem.length)), false)) (l := some 1)
          · apply ev_callP
            · apply evs_cons
              · apply ev_listR
                · (repeat' (first | decreasing_trivial_pre_omega))
                · omega
              · exact evs_nil
            · exact cs
          · apply evO_yes
            · (repeat' (first | decreasing_trivial_pre_omega))
            · exact rfl
          · exact evO_no
          · exact slD_lT
        · exact rfl
        · (focus (apply keep_v; (simp only [List.set_cons_zero, List.set_cons_succ, hideE, List.map_cons, List.map_nil, List.cons_append, List.nil_append] <;> exact rfl)))
        apply sv_set (x := (.lst ((everyL b).map fun W => lkD (lackO b ab W, W)), true))
        · apply ev_comp0 (L := everyL b) (enc := tN) (q := fun W => lkD (lackO b ab W, W))
          · (repeat' (first | decreasing_trivial_pre_omega))
          · exact hel
          · exact rfl
          · (simp only [List.set_cons_zero, List.set_cons_succ, hideE, List.map_cons, List.map_nil, List.cons_append, List.nil_append] <;> exact rfl)
          · intro x m; (repeat' (first | (apply asg_nm; (focus exact rfl); (focus (simp only [List.set_cons_zero, List.set_cons_succ, hideE, List.map_cons, List.map_nil, List.cons_append, List.nil_append] <;> exact rfl))) | (apply asg_t2; (focus exact rfl)) | (apply asg_t2l; (focus exact rfl)) | (apply asg_t3; (focus exact rfl))))
          · intro W m
            have hW := every_mem.mp m
            have hl := set_len hW
            apply ev_tup (ds := [.int (lackO b ab W), tN W])
            · apply evs_cons (x := (.int (lackO b ab W), false))
              · apply ev_callP
                · (repeat' (first | decreasing_trivial_pre_omega))
                · exact c__law_lack (fun r hr => present_lt hr) hrk.len (fun r => by have := (row_ok hb hrk r).2.2.1; omega) (fun r => by have := (may_ok hb r).2.2.1; omega) (by omega) (fun x hx => hW.2.1 x hx) (by omega)
              apply evs_cons (x := (tN W, false))
              · (repeat' (first | decreasing_trivial_pre_omega))
              · exact evs_nil
            · exact rfl
          · intro x m; exact rfl
        · exact rfl
        · (focus (apply keep_v; (simp only [List.set_cons_zero, List.set_cons_succ, hideE, List.map_cons, List.map_nil, List.cons_append, List.nil_append] <;> exact rfl)))
        apply sv_set (x := (lT (shortL b ab), true))
        · unfold shortL
          rw [← hfm fun z => decide (0 < z)]
          apply ev_comp (L := (everyL b).map fun W => (lackO b ab W, W)) (enc := lkD) (q := fun q => tN q.2) (p := fun q => decide (0 < q.1))
          · rw [List.map_map]; (repeat' (first | decreasing_trivial_pre_omega))
          · rw [List.length_map]; exact hel
          · exact rfl
          · (simp only [List.set_cons_zero, List.set_cons_succ, hideE, List.map_cons, List.map_nil, List.cons_append, List.nil_append] <;> exact rfl)
          · intro x m; (repeat' (first | (apply asg_nm; (focus exact rfl); (focus (simp only [List.set_cons_zero, List.set_cons_succ, hideE, List.map_cons, List.map_nil, List.cons_append, List.nil_append] <;> exact rfl))) | (apply asg_t2; (focus exact rfl)) | (apply asg_t2l; (focus exact rfl)) | (apply asg_t3; (focus exact rfl))))
          · intro x m; (repeat' (first | decreasing_trivial_pre_omega))
          · intro x m _; (repeat' (first | decreasing_trivial_pre_omega))
          · intro x m; exact rfl
        · exact rfl
        · (focus (apply keep_v; (simp only [List.set_cons_zero, List.set_cons_succ, hideE, List.map_cons, List.map_nil, List.cons_append, List.nil_append] <;> exact rfl)))
        apply sv_set (x := (lT (tightL b ab), true))
        · unfold tightL
          rw [← hfm fun z => decide (z = 0)]
          apply ev_comp (L := (everyL b).map fun W => (lackO b ab W, W)) (enc := lkD) (q := fun q => tN q.2) (p := fun q => decide (q.1 = 0))
          · rw [List.map_map]; (repeat' (first | decreasing_trivial_pre_omega))
          · rw [List.length_map]; exact hel
          · exact rfl
          · (simp only [List.set_cons_zero, List.set_cons_succ, hideE, List.map_cons, List.map_nil, List.cons_append, List.nil_append] <;> exact rfl)
          · intro x m; (repeat' (first | (apply asg_nm; (focus exact rfl); (focus (simp only [List.set_cons_zero, List.set_cons_succ, hideE, List.map_cons, List.map_nil, List.cons_append, List.nil_append] <;> exact rfl))) | (apply asg_t2; (focus exact rfl)) | (apply asg_t2l; (focus exact rfl)) | (apply asg_t3; (focus exact rfl))))
          · intro x m; (repeat' (first | exact cmp_eq_int | decreasing_trivial_pre_omega))
          · intro x m _; (repeat' (first | decreasing_trivial_pre_omega))
          · intro x m; exact rfl
        · exact rfl
        · (focus (apply keep_v; (simp only [List.set_cons_zero, List.set_cons_succ, hideE, List.map_cons, List.map_nil, List.cons_append, List.nil_append] <;> exact rfl)))
        apply sv_for (I := fun ds w => ∃ (rest : List Nat) (t13 t14 : Sl), w = ⟨[.val (.scr ns), .val (nD k), .val (.ref s.length), .val (lN b.dem), .val (.lst (b.rd.map rdD)), .val (bkD b), .val (tN ab), .val (lT (emptyR b)), .val (lN (present b ab)), .val (lT (everyL b)), .val (.lst ((everyL b).map fun W => lkD (lackO b ab W, W))), .val (lT (shortL b ab)), .val (lT (tightL b ab)), t13, t14, t15, t16, t17, .no, .no, .no], s3⟩ ∧ ds = rest.map nD ∧ (∀ x ∈ rest, x < b.dem.length) ∧ ∀ d, t13 ≠ .cell d)
        · apply evI_r1 (n := b.dem.length)
          · (repeat' (first | decreasing_trivial_pre_omega))
          · omega
        · exact ⟨List.range b.dem.length, _, _, rfl, rfl, fun x hx => List.mem_range.mp hx, h13⟩
        · rintro d rd w ⟨rest, t13, t14, rfl, hd, hx, h13⟩
          cases rest with
          | nil => cases hd
          | cons x rest =>
            rw [List.map_cons] at hd
            obtain ⟨rfl, rfl⟩ := List.cons.inj hd
            have hx0 := hx x List.mem_cons_self
            refine ⟨_, by (repeat' (first | (apply asg_nm; (focus exact rfl); (focus (simp only [List.set_cons_zero, List.set_cons_succ, hideE, List.map_cons, List.map_nil, List.cons_append, List.nil_append] <;> exact rfl))) | (apply asg_t2; (focus exact rfl)) | (apply asg_t2l; (focus exact rfl)) | (apply asg_t3; (focus exact rfl)))), ?_⟩
            cases e : extF b (emptyR b) ab with
            | yes X =>
              have hnil := (short_nil hb).mpr ⟨X, e⟩
              apply sat_ite (k := false)
              · apply evT_cmpv
                · exact rfl
                · (repeat' (first | decreasing_trivial_pre_omega))
                · exact rfl
                · rw [hnil]; exact cmp_ne_lT0
              · intro z; cases z
              intro _
              apply sat_ite (k := false)
              · apply evT_not (k := true)
                apply evT_ev
                · apply ev_callP
                  · (repeat' (first | decreasing_trivial_pre_omega))
                  · exact c__law_is_right (n := 9) hb hx0 e h3.2
                · exact rfl
              · intro z; cases z
              intro _
              apply sat_nil; apply nx_of'
              apply sat_nil; apply nx_of'
              apply sat_nil
              exact ut_of ⟨rest, _, _, rfl, rfl, fun y hy => hx y (List.mem_cons_of_mem _ hy), fun d z => nomatch z⟩
            | no T =>
              have hT : T ∈ shortL b ab := by
                have := ext_ok (ab := ab) (bkv_of hb) (emptyR_v b) hb.r6 (dem6 hb)
                rw [e] at this
                exact (short_mem hb).mpr ⟨⟨this.1, this.2.1, this.2.2.1⟩, this.2.2.2⟩
              apply sat_ite (k := true)
              · apply evT_cmpv
                · exact rfl
                · (repeat' (first | decreasing_trivial_pre_omega))
                · exact rfl
                · exact cmp_ne_lT1 hT
              · intro _
                apply sv_set
                · apply ev_callP
                  · (repeat' (first | decreasing_trivial_pre_omega))
                  · exact c_told_no (n := 10) hb e
                · exact rfl
                · (focus (apply keep_v; (simp only [List.set_cons_zero, List.set_cons_succ, hideE, List.map_cons, List.map_nil, List.cons_append, List.nil_append] <;> exact rfl)))
                apply sat_ite (k := false)
                · apply evT_or (k := false) (k2 := false)
                  · apply evT_not (k := true)
                    apply evT_ev
                    · apply ev_isi
                      · (repeat' (first | decreasing_trivial_pre_omega))
                      · exact rfl
                    · exact rfl
                  · intro _
                    apply evT_inv
                    · apply ev_ixv
                      · exact rfl
                      · (repeat' (first | decreasing_trivial_pre_omega))
                      · exact rfl
                      · exact (rfl : ixD (.lst [.str (Str.ofString "short"), tN T]) (.int 1) = some (tN T))
                    · exact rfl
                    · rw [cmp_notin_lT, decide_eq_true hT]; rfl
                · intro z; cases z
                intro _
                apply sat_nil; apply nx_of'
                apply sat_nil; apply nx_of'
                apply sat_nil
                exact ut_of ⟨rest, _, _, rfl, rfl, fun y hy => hx y (List.mem_cons_of_mem _ hy), fun d z => nomatch z⟩
              · intro z; cases z
        rintro w ⟨rest2, t13, t14, rfl, -, -, h13⟩
        refine law_tail hb h3 h13 fun {t13 t14 t15 t16 t17} h13 => ?_
        apply sat_ite (k := false)
        · have : (!(decide (b.dem = b.dem) && decide (b.rd = b.rd))) = false := by simp
          rw [← this]
          apply evT_not
          apply evT_cmpv
          · exact rfl
          · apply ev_Book (n := 15) hb
            · (repeat' (first | decreasing_trivial_pre_omega))
            · (repeat' (first | decreasing_trivial_pre_omega))
            · exact h3.2
          · exact rfl
          · exact cmp_eq_bk
        · intro z; cases z
        intro _
        apply sat_nil; apply nx_of'
        apply sat_nil
        exact ut_of ⟨rest, _, _, _, _, _, _, _, _, _, _, _, _, _, _, _, _, _, _, rfl, rfl, fun j hj => hk j (List.mem_cons_of_mem _ hj), h3.2, h13⟩
    · rintro w ⟨rest, s, t1, t2, t3, t4, t5, t6, t7, t8, t9, t10, t11, t12, t13, t14, t15, t16, t17, rfl, -, -, -⟩
      apply sat_ret
      · (repeat' (first | decreasing_trivial_pre_omega))
      · exact rfl)
  obtain ⟨d, fr, s, h1, rfl⟩ := this
  rw [Cal_def] at h1
  exact ⟨fr, s, h1⟩


end IL

namespace IL
open PySem L2
set_option maxHeartbeats 0
abbrev prog : Program := PySem.Challenge.pw_eachworkread_k30_whole_tight_sets
def top (i : Nat) : Stmt := PySem.Challenge.pw_eachworkread_k30_whole_tight_sets.main.body.getD i (.Pass ⟨0, 0, 0, 0⟩)
theorem ok_is_number : defOk nms df_is_number (top 6) = true := by decide +kernel
theorem ok_are_ascending : defOk nms df_are_ascending (top 7) = true := by decide +kernel
theorem ok_is_reader : defOk nms df_is_reader (top 8) = true := by decide +kernel
theorem ok_present_ones : defOk nms df_present_ones (top 11) = true := by decide +kernel
theorem ok_times_read : defOk nms df_times_read (top 12) = true := by decide +kernel
theorem ok_due_times : defOk nms df_due_times (top 13) = true := by decide +kernel
theorem ok_empty_rows : defOk nms df_empty_rows (top 14) = true := by decide +kernel
theorem ok_has_room : defOk nms df_has_room (top 16) = true := by decide +kernel
theorem ok_free_takers : defOk nms df_free_takers (top 17) = true := by decide +kernel
theorem ok_chain_back : defOk nms df_chain_back (top 18) = true := by decide +kernel
theorem ok_step : defOk nms df_step (top 19) = true := by decide +kernel
theorem ok_after_chain : defOk nms df_after_chain (top 20) = true := by decide +kernel
theorem ok_kept_rows : defOk nms df_kept_rows (top 22) = true := by decide +kernel
theorem ok_filled : defOk nms df_filled (top 23) = true := by decide +kernel
theorem ok_extension : defOk nms df_extension (top 24) = true := by decide +kernel
theorem ok_good_rows : defOk nms df_good_rows (top 26) = true := by decide +kernel
theorem ok_need_good_rows : defOk nms df_need_good_rows (top 27) = true := by decide +kernel
theorem ok_least_tight : defOk nms df_least_tight (top 28) = true := by decide +kernel
theorem ok__law_feed : defOk nms df__law_feed (top 30) = true := by decide +kernel
theorem ok__law_take : defOk nms df__law_take (top 31) = true := by decide +kernel
theorem ok__law_pick : defOk nms df__law_pick (top 32) = true := by decide +kernel
theorem ok__law_row : defOk nms df__law_row (top 33) = true := by decide +kernel
theorem ok__law_rows : defOk nms df__law_rows (top 34) = true := by decide +kernel
theorem ok__law_times : defOk nms df__law_times (top 35) = true := by decide +kernel
theorem ok__law_book : defOk nms df__law_book (top 36) = true := by decide +kernel
theorem ok__law_gone : defOk nms df__law_gone (top 37) = true := by decide +kernel
theorem ok__law_present : defOk nms df__law_present (top 38) = true := by decide +kernel
theorem ok__law_sets : defOk nms df__law_sets (top 39) = true := by decide +kernel
theorem ok__law_count : defOk nms df__law_count (top 40) = true := by decide +kernel
theorem ok__law_lack : defOk nms df__law_lack (top 41) = true := by decide +kernel
theorem ok__law_told : defOk nms df__law_told (top 42) = true := by decide +kernel
theorem ok__law_is_right : defOk nms df__law_is_right (top 43) = true := by decide +kernel
theorem ok_law : defOk nms df_law (top 44) = true := by decide +kernel
theorem ok_init : initOk nms df_init (inClass (top 9) 0) = true := by decide +kernel
theorem ok_len : getOk "len" "wanted" (inClass (top 9) 1) = true := by decide +kernel
theorem ok_dem : getOk "list" "wanted" (inClass (top 9) 3) = true := by decide +kernel
theorem ok_rdr : getOk "list" "hands" (inClass (top 9) 4) = true := by decide +kernel
theorem ok_eq : eqOk (inClass (top 9) 2) = true := by decide +kernel
def dss : List (Df × Stmt) := [(df_is_number, top 6), (df_are_ascending, top 7), (df_is_reader, top 8), (df_present_ones, top 11), (df_times_read, top 12), (df_due_times, top 13), (df_empty_rows, top 14), (df_has_room, top 16), (df_free_takers, top 17), (df_chain_back, top 18), (df_step, top 19), (df_after_chain, top 20), (df_kept_rows, top 22), (df_filled, top 23), (df_extension, top 24), (df_good_rows, top 26), (df_need_good_rows, top 27), (df_least_tight, top 28), (df__law_feed, top 30), (df__law_take, top 31), (df__law_pick, top 32), (df__law_row, top 33), (df__law_rows, top 34), (df__law_times, top 35), (df__law_book, top 36), (df__law_gone, top 37), (df__law_present, top 38), (df__law_sets, top 39), (df__law_count, top 40), (df__law_lack, top 41), (df__law_told, top 42), (df__law_is_right, top 43), (df_law, top 44)]
end IL
open PySem PySem.W PyProof.Rows
set_option maxRecDepth 100000 in
set_option maxHeartbeats 0 in
theorem PySem.Challenge.cw_eachworkread_k30_whole_tight_sets_holds : PySem.Challenge.rw_eachworkread_k30_whole_tight_sets.Holds := by
  w_on; o_law; k_head; (case hw => w_witness2)
  k_fill
  refine IL.walk_go (l := PySem.Challenge.rw_eachworkread_k30_whole_tight_sets) (n := 63) (j := 41) (x := "script") (tab := IL.tab) (m := 20) (li := 32) rfl (by decide) rfl ⟨rfl, by decide, by decide⟩ (fun w h Y => PySem.W.kIn_of Y) ?F IL.law_runs
  case F =>
    intro w mg fa h KX G hmg
    have d0 : IL.DefX KX IL.df_is_number (IL.top 6) := by
      refine' IL.defK_mk (nme := "is_number") rfl ?a ?l ?c ?k (fun _ _ _ _ _ _ us hl => by obtain ⟨_, _, _, rfl⟩ := IL.len3 hl; rfl)
      (case a => k_is); (case l => k_is); (case c => k_is); (case k => k_is)
    have d1 : IL.DefX KX IL.df_are_ascending (IL.top 7) := by
      refine' IL.defK_mk (nme := "are_ascending") rfl ?a ?l ?c ?k (fun _ _ _ _ _ _ us hl => by obtain ⟨_, _, rfl⟩ := IL.len2 hl; rfl)
      (case a => k_is); (case l => k_is); (case c => k_is); (case k => k_is)
    have d2 : IL.DefX KX IL.df_is_reader (IL.top 8) := by
      refine' IL.defK_mk (nme := "is_reader") rfl ?a ?l ?c ?k (fun _ _ _ _ _ _ us hl => by obtain ⟨_, _, rfl⟩ := IL.len2 hl; rfl)
      (case a => k_is); (case l => k_is); (case c => k_is); (case k => k_is)
    have d3 : IL.DefX KX IL.df_present_ones (IL.top 11) := by
      refine' IL.defK_mk (nme := "present_ones") rfl ?a ?l ?c ?k (fun _ _ _ _ _ _ us hl => by obtain ⟨_, _, rfl⟩ := IL.len2 hl; rfl)
      (case a => k_is); (case l => k_is); (case c => k_is); (case k => k_is)
    have d4 : IL.DefX KX IL.df_times_read (IL.top 12) := by
      refine' IL.defK_mk (nme := "times_read") rfl ?a ?l ?c ?k (fun _ _ _ _ _ _ us hl => by obtain ⟨_, _, _, rfl⟩ := IL.len3 hl; rfl)
      (case a => k_is); (case l => k_is); (case c => k_is); (case k => k_is)
    have d5 : IL.DefX KX IL.df_due_times (IL.top 13) := by
      refine' IL.defK_mk (nme := "due_times") rfl ?a ?l ?c ?k (fun _ _ _ _ _ _ us hl => by obtain ⟨_, _, _, rfl⟩ := IL.len3 hl; rfl)
      (case a => k_is); (case l => k_is); (case c => k_is); (case k => k_is)
    have d6 : IL.DefX KX IL.df_empty_rows (IL.top 14) := by
      refine' IL.defK_mk (nme := "empty_rows") rfl ?a ?l ?c ?k (fun _ _ _ _ _ _ us hl => by obtain ⟨_, rfl⟩ := IL.len1 hl; rfl)
      (case a => k_is); (case l => k_is); (case c => k_is); (case k => k_is)
    have d7 : IL.DefX KX IL.df_has_room (IL.top 16) := by
      refine' IL.defK_mk (nme := "has_room") rfl ?a ?l ?c ?k (fun _ _ _ _ _ _ us hl => by obtain ⟨_, _, _, rfl⟩ := IL.len3 hl; rfl)
      (case a => k_is); (case l => k_is); (case c => k_is); (case k => k_is)
    have d8 : IL.DefX KX IL.df_free_takers (IL.top 17) := by
      refine' IL.defK_mk (nme := "free_takers") rfl ?a ?l ?c ?k (fun _ _ _ _ _ _ us hl => by obtain ⟨_, _, _, _, rfl⟩ := IL.len4 hl; rfl)
      (case a => k_is); (case l => k_is); (case c => k_is); (case k => k_is)
    have d9 : IL.DefX KX IL.df_chain_back (IL.top 18) := by
      refine' IL.defK_mk (nme := "chain_back") rfl ?a ?l ?c ?k (fun _ _ _ _ _ _ us hl => by obtain ⟨_, _, _, rfl⟩ := IL.len3 hl; rfl)
      (case a => k_is); (case l => k_is); (case c => k_is); (case k => k_is)
    have d10 : IL.DefX KX IL.df_step (IL.top 19) := by
      refine' IL.defK_mk (nme := "step") rfl ?a ?l ?c ?k (fun _ _ _ _ _ _ us hl => by obtain ⟨_, _, _, _, _, rfl⟩ := IL.len5 hl; rfl)
      (case a => k_is); (case l => k_is); (case c => k_is); (case k => k_is)
    have d11 : IL.DefX KX IL.df_after_chain (IL.top 20) := by
      refine' IL.defK_mk (nme := "after_chain") rfl ?a ?l ?c ?k (fun _ _ _ _ _ _ us hl => by obtain ⟨_, _, rfl⟩ := IL.len2 hl; rfl)
      (case a => k_is); (case l => k_is); (case c => k_is); (case k => k_is)
    have d12 : IL.DefX KX IL.df_kept_rows (IL.top 22) := by
      refine' IL.defK_mk (nme := "kept_rows") rfl ?a ?l ?c ?k (fun _ _ _ _ _ _ us hl => by obtain ⟨_, _, rfl⟩ := IL.len2 hl; rfl)
      (case a => k_is); (case l => k_is); (case c => k_is); (case k => k_is)
    have d13 : IL.DefX KX IL.df_filled (IL.top 23) := by
      refine' IL.defK_mk (nme := "filled") rfl ?a ?l ?c ?k (fun _ _ _ _ _ _ us hl => by obtain ⟨_, _, _, rfl⟩ := IL.len3 hl; rfl)
      (case a => k_is); (case l => k_is); (case c => k_is); (case k => k_is)
    have d14 : IL.DefX KX IL.df_extension (IL.top 24) := by
      refine' IL.defK_mk (nme := "extension") rfl ?a ?l ?c ?k (fun _ _ _ _ _ _ us hl => by obtain ⟨_, _, _, rfl⟩ := IL.len3 hl; rfl)
      (case a => k_is); (case l => k_is); (case c => k_is); (case k => k_is)
    have d15 : IL.DefX KX IL.df_good_rows (IL.top 26) := by
      refine' IL.defK_mk (nme := "good_rows") rfl ?a ?l ?c ?k (fun _ _ _ _ _ _ us hl => by obtain ⟨_, _, rfl⟩ := IL.len2 hl; rfl)
      (case a => k_is); (case l => k_is); (case c => k_is); (case k => k_is)
    have d16 : IL.DefX KX IL.df_need_good_rows (IL.top 27) := by
      refine' IL.defK_mk (nme := "need_good_rows") rfl ?a ?l ?c ?k (fun _ _ _ _ _ _ us hl => by obtain ⟨_, _, rfl⟩ := IL.len2 hl; rfl)
      (case a => k_is); (case l => k_is); (case c => k_is); (case k => k_is)
    have d17 : IL.DefX KX IL.df_least_tight (IL.top 28) := by
      refine' IL.defK_mk (nme := "least_tight") rfl ?a ?l ?c ?k (fun _ _ _ _ _ _ us hl => by obtain ⟨_, _, _, rfl⟩ := IL.len3 hl; rfl)
      (case a => k_is); (case l => k_is); (case c => k_is); (case k => k_is)
    have d18 : IL.DefX KX IL.df__law_feed (IL.top 30) := by
      refine' IL.defK_mk (nme := "_law_feed") rfl ?a ?l ?c ?k (fun _ _ _ _ _ _ us hl => by obtain ⟨_, _, rfl⟩ := IL.len2 hl; rfl)
      (case a => k_is); (case l => k_is); (case c => k_is); (case k => k_is)
    have d19 : IL.DefX KX IL.df__law_take (IL.top 31) := by
      refine' IL.defK_mk (nme := "_law_take") rfl ?a ?l ?c ?k (fun _ _ _ _ _ _ us hl => by obtain ⟨_, _, rfl⟩ := IL.len2 hl; rfl)
      (case a => k_is); (case l => k_is); (case c => k_is); (case k => k_is)
    have d20 : IL.DefX KX IL.df__law_pick (IL.top 32) := by
      refine' IL.defK_mk (nme := "_law_pick") rfl ?a ?l ?c ?k (fun _ _ _ _ _ _ us hl => by obtain ⟨_, _, rfl⟩ := IL.len2 hl; rfl)
      (case a => k_is); (case l => k_is); (case c => k_is); (case k => k_is)
    have d21 : IL.DefX KX IL.df__law_row (IL.top 33) := by
      refine' IL.defK_mk (nme := "_law_row") rfl ?a ?l ?c ?k (fun _ _ _ _ _ _ us hl => by obtain ⟨_, _, rfl⟩ := IL.len2 hl; rfl)
      (case a => k_is); (case l => k_is); (case c => k_is); (case k => k_is)
    have d22 : IL.DefX KX IL.df__law_rows (IL.top 34) := by
      refine' IL.defK_mk (nme := "_law_rows") rfl ?a ?l ?c ?k (fun _ _ _ _ _ _ us hl => by obtain ⟨_, _, _, rfl⟩ := IL.len3 hl; rfl)
      (case a => k_is); (case l => k_is); (case c => k_is); (case k => k_is)
    have d23 : IL.DefX KX IL.df__law_times (IL.top 35) := by
      refine' IL.defK_mk (nme := "_law_times") rfl ?a ?l ?c ?k (fun _ _ _ _ _ _ us hl => by obtain ⟨_, _, rfl⟩ := IL.len2 hl; rfl)
      (case a => k_is); (case l => k_is); (case c => k_is); (case k => k_is)
    have d24 : IL.DefX KX IL.df__law_book (IL.top 36) := by
      refine' IL.defK_mk (nme := "_law_book") rfl ?a ?l ?c ?k (fun _ _ _ _ _ _ us hl => by obtain ⟨_, _, _, rfl⟩ := IL.len3 hl; rfl)
      (case a => k_is); (case l => k_is); (case c => k_is); (case k => k_is)
    have d25 : IL.DefX KX IL.df__law_gone (IL.top 37) := by
      refine' IL.defK_mk (nme := "_law_gone") rfl ?a ?l ?c ?k (fun _ _ _ _ _ _ us hl => by obtain ⟨_, _, rfl⟩ := IL.len2 hl; rfl)
      (case a => k_is); (case l => k_is); (case c => k_is); (case k => k_is)
    have d26 : IL.DefX KX IL.df__law_present (IL.top 38) := by
      refine' IL.defK_mk (nme := "_law_present") rfl ?a ?l ?c ?k (fun _ _ _ _ _ _ us hl => by obtain ⟨_, _, rfl⟩ := IL.len2 hl; rfl)
      (case a => k_is); (case l => k_is); (case c => k_is); (case k => k_is)
    have d27 : IL.DefX KX IL.df__law_sets (IL.top 39) := by
      refine' IL.defK_mk (nme := "_law_sets") rfl ?a ?l ?c ?k (fun _ _ _ _ _ _ us hl => by obtain ⟨_, rfl⟩ := IL.len1 hl; rfl)
      (case a => k_is); (case l => k_is); (case c => k_is); (case k => k_is)
    have d28 : IL.DefX KX IL.df__law_count (IL.top 40) := by
      refine' IL.defK_mk (nme := "_law_count") rfl ?a ?l ?c ?k (fun _ _ _ _ _ _ us hl => by obtain ⟨_, _, _, _, rfl⟩ := IL.len4 hl; rfl)
      (case a => k_is); (case l => k_is); (case c => k_is); (case k => k_is)
    have d29 : IL.DefX KX IL.df__law_lack (IL.top 41) := by
      refine' IL.defK_mk (nme := "_law_lack") rfl ?a ?l ?c ?k (fun _ _ _ _ _ _ us hl => by obtain ⟨_, _, _, _, _, rfl⟩ := IL.len5 hl; rfl)
      (case a => k_is); (case l => k_is); (case c => k_is); (case k => k_is)
    have d30 : IL.DefX KX IL.df__law_told (IL.top 42) := by
      refine' IL.defK_mk (nme := "_law_told") rfl ?a ?l ?c ?k (fun _ _ _ _ _ _ us hl => by obtain ⟨_, _, _, rfl⟩ := IL.len3 hl; rfl)
      (case a => k_is); (case l => k_is); (case c => k_is); (case k => k_is)
    have d31 : IL.DefX KX IL.df__law_is_right (IL.top 43) := by
      refine' IL.defK_mk (nme := "_law_is_right") rfl ?a ?l ?c ?k (fun _ _ _ _ _ _ us hl => by obtain ⟨_, _, _, _, _, _, rfl⟩ := IL.len6 hl; rfl)
      (case a => k_is); (case l => k_is); (case c => k_is); (case k => k_is)
    have d32 : IL.DefX KX IL.df_law (IL.top 44) := by
      refine' IL.defK_mk (nme := "law") rfl ?a ?l ?c ?k (fun _ _ _ _ _ _ us hl => by obtain ⟨_, rfl⟩ := IL.len1 hl; rfl)
      (case a => k_is); (case l => k_is); (case c => k_is); (case k => k_is)
    have bk : ∃ C, IL.BookX KX C IL.nms IL.df_init (L2.inClass (IL.top 9) 0) (L2.inClass (IL.top 9) 1) (L2.inClass (IL.top 9) 3) (L2.inClass (IL.top 9) 4) (L2.inClass (IL.top 9) 2) := by
      refine' ⟨_, IL.bookK_mk ?ns ?pg ?hd ?po ?sa ?mk ?kp ?nW ?nH ?a1 ?i1 ?l1 ?c1 ?k1 ?a2 ?i2 ?l2 ?c2 ?k2 ?a3 ?i3 ?l3 ?c3 ?k3 ?a4 ?i4 ?l4 ?c4 ?k4 (fun _ _ _ _ _ _ us hl => match us, hl with | [_, _, _], _ => rfl) (fun _ _ _ _ _ _ us hl => match us, hl with | [_], _ => rfl) (fun _ _ _ _ _ _ us hl => match us, hl with | [_], _ => rfl) (fun _ _ _ _ _ _ us hl => match us, hl with | [_], _ => rfl) IL.ok_init IL.ok_len IL.ok_dem IL.ok_rdr (IL.methK_mk ?a5 ?i5 ?l5 ?c5 ?k5 (fun _ _ _ _ _ _ us hl => match us, hl with | [_, _], _ => rfl)) IL.ok_eq (fun cl => IL.tyK_mk cl ?t1 ?t2 ?t3 ?t4 ?t5 ?t6 ?t7 ?t8 ?t9 ?u1)⟩
      (case ns => k_is); (case pg => k_is); (case hd => k_is); (case po => k_is); (case sa => k_is); (case mk => k_is); (case kp => k_is); (case nW => k_is); (case nH => k_is); (case a1 => k_is); (case i1 => k_is); (case l1 => k_is); (case c1 => k_is); (case k1 => k_is); (case a2 => k_is); (case i2 => k_is); (case l2 => k_is); (case c2 => k_is); (case k2 => k_is); (case a3 => k_is); (case i3 => k_is); (case l3 => k_is); (case c3 => k_is); (case k3 => k_is); (case a4 => k_is); (case i4 => k_is); (case l4 => k_is); (case c4 => k_is); (case k4 => k_is); (case a5 => k_is); (case i5 => k_is); (case l5 => k_is); (case c5 => k_is); (case k5 => k_is); (case t1 => k_is); (case t2 => k_is); (case t3 => k_is); (case t4 => k_is); (case t5 => k_is); (case t6 => k_is); (case t7 => k_is); (case t8 => k_is); (case t9 => k_is); (case u1 => k_is)
    have nn : IL.AllNX KX IL.bnames := by
      refine' ⟨?z0, ?z1, ?z2, ?z3, ?z4, ?z5, ?z6, ?z7, ?z8, ?z9, ?z10, ?z11, ?z12, ?z13, ?z14, ?z15, ?z16, trivial⟩
      (case z0 => (show PySem.W.nsIn _ mainGlobals "len" = some none); k_is); (case z1 => (show PySem.W.nsIn _ mainGlobals "list" = some none); k_is); (case z2 => (show PySem.W.nsIn _ mainGlobals "tuple" = some none); k_is); (case z3 => (show PySem.W.nsIn _ mainGlobals "sorted" = some none); k_is); (case z4 => (show PySem.W.nsIn _ mainGlobals "sum" = some none); k_is); (case z5 => (show PySem.W.nsIn _ mainGlobals "all" = some none); k_is); (case z6 => (show PySem.W.nsIn _ mainGlobals "abs" = some none); k_is); (case z7 => (show PySem.W.nsIn _ mainGlobals "int" = some none); k_is); (case z8 => (show PySem.W.nsIn _ mainGlobals "repr" = some none); k_is); (case z9 => (show PySem.W.nsIn _ mainGlobals "max" = some none); k_is); (case z10 => (show PySem.W.nsIn _ mainGlobals "min" = some none); k_is); (case z11 => (show PySem.W.nsIn _ mainGlobals "range" = some none); k_is); (case z12 => (show PySem.W.nsIn _ mainGlobals "enumerate" = some none); k_is); (case z13 => (show PySem.W.nsIn _ mainGlobals "zip" = some none); k_is); (case z14 => (show PySem.W.nsIn _ mainGlobals "isinstance" = some none); k_is); (case z15 => (show PySem.W.nsIn _ mainGlobals "set" = some none); k_is); (case z16 => (show PySem.W.nsIn _ mainGlobals "bool" = some none); k_is)
    have cc : IL.AllCX KX IL.nms.cs := by
      refine' ⟨IL.cs_int (y := "MOST") (i := 6) ?z0, trivial⟩
      (case z0 => k_is)
    have ee : ∃ Cs : List IL.Addr1, IL.AllEX (PySem.Challenge.rw_eachworkread_k30_whole_tight_sets).prog KX IL.nms.xs Cs ∧ IL.AllMX KX Cs := by
      refine' ⟨[_], ⟨IL.exK_mk (x := "Short") (fld := "works") (arg := "works") (q := "Short.__init__") (st := L2.inClass (IL.top 3) 0) ?ns0 ?lc0 ?sa0 ?ex0 ?ty0 ?kC0 ?ga0 ?gg0 ?hd0 ?fn0 ?ini0 ?tf0 ?lf0 ?co0 ?lo0 ?lcc0 ?cls0 ?mro0 ?sup0 ?sv0 ?an0 ?bm0 ?vf0 ?ff0 ?top0 ?xo0 ?b0, trivial⟩, ⟨⟨?m0_0, trivial⟩, trivial⟩⟩
      (case ns0 => k_is); (case lc0 => k_is); (case sa0 => k_is); (case ex0 => k_is); (case ty0 => k_is); (case kC0 => k_is); (case ga0 => k_is); (case gg0 => k_is); (case hd0 => k_is); (case fn0 => k_is); (case ini0 => k_is); (case tf0 => k_is); (case lf0 => k_is); (case co0 => k_is); (case lo0 => k_is); (case lcc0 => k_is); (case cls0 => k_is); (case mro0 => k_is); (case sup0 => ks_is); (case sv0 => k_is); (case an0 => k_is)
      (case bm0 => decide +kernel); (case vf0 => rfl); (case ff0 => decide +kernel); (case top0 => decide +kernel); (case xo0 => decide +kernel); (case b0 => intro us hl; exact (match us, hl with | [_, _], _ => rfl))
      (case m0_0 => (show PySem.W.subIn _ _ _ = some true); k_is)
    have sp : IL.nms.xs ≠ [] → IL.SupX KX := by
      intro _
      (show PySem.W.nsIn _ mainGlobals "super" = some none); k_is
    obtain ⟨Cs, eE, eM⟩ := ee
    obtain ⟨C, bk⟩ := bk
    exact IL.prom_go (n := 19) (ds := IL.dss) (dl := (IL.df_law, IL.top 44)) KX G hmg ⟨⟨d0, IL.ok_is_number⟩, ⟨d1, IL.ok_are_ascending⟩, ⟨d2, IL.ok_is_reader⟩, ⟨d3, IL.ok_present_ones⟩, ⟨d4, IL.ok_times_read⟩, ⟨d5, IL.ok_due_times⟩, ⟨d6, IL.ok_empty_rows⟩, ⟨d7, IL.ok_has_room⟩, ⟨d8, IL.ok_free_takers⟩, ⟨d9, IL.ok_chain_back⟩, ⟨d10, IL.ok_step⟩, ⟨d11, IL.ok_after_chain⟩, ⟨d12, IL.ok_kept_rows⟩, ⟨d13, IL.ok_filled⟩, ⟨d14, IL.ok_extension⟩, ⟨d15, IL.ok_good_rows⟩, ⟨d16, IL.ok_need_good_rows⟩, ⟨d17, IL.ok_least_tight⟩, ⟨d18, IL.ok__law_feed⟩, ⟨d19, IL.ok__law_take⟩, ⟨d20, IL.ok__law_pick⟩, ⟨d21, IL.ok__law_row⟩, ⟨d22, IL.ok__law_rows⟩, ⟨d23, IL.ok__law_times⟩, ⟨d24, IL.ok__law_book⟩, ⟨d25, IL.ok__law_gone⟩, ⟨d26, IL.ok__law_present⟩, ⟨d27, IL.ok__law_sets⟩, ⟨d28, IL.ok__law_count⟩, ⟨d29, IL.ok__law_lack⟩, ⟨d30, IL.ok__law_told⟩, ⟨d31, IL.ok__law_is_right⟩, ⟨d32, IL.ok_law⟩, trivial⟩ bk (IL.allN_get nn) (IL.allC_get cc) eE eM sp rfl rfl rfl rfl rfl rfl (IL.bind_law fun _ _ _ _ _ _ _ => rfl)

