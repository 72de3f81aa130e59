import PyProof.Rows.All
import Wide.All
import OpenK.AllK
import Wide.FinOn
import HandS.ForMost
import HandS.Exc
import HandS.TryOnly
import HandS.ExcOwn
import HandS.Wide
import HandS.Deep
import HandS.TupAny
import HandS.TupMul
import HandS.StrMore
import HandS.IsInst
import HandS.Flow
import HandS.Style
import HandS.Zip
import HandS.SetFor
import HandS.Lambda
import HandS.EndTab
import HandS.HotCalls
import KE.SortData
import KE.DataFind
import PyProof.Rows.IntBool
import KE.KeyNested
import KE.KDictKeyed
import HandS.HeadHook1
import HandS.ExcInit
import HandS.ExcValue
import HandS.ExcIs
import HandS.ExcField
import KE.DataCmp
import KE.KDictDisplayH
import HandS.Dict
import HandS.Iter
import HandS.DictComp
import HandS.TupSets
import HandS.RaiseMore
import KE.DataMinMax
import KE.DataEq
import HandS.Set
import HandS.ExcCtx
import KE.KExcSuper
import HandS.ExcSuper
import KE.GoesMore
import PyProof.EnumMake
import KE.KExcStr
import KE.KExcIs
import PyProof.ExcBaseAll.ValueError
import HandS.HeadWalk
import HandS.HeadHook4
import PyProof.P3Eq
import HandS.Head0
import HandS.Head1
import HandS.Head2
import HandS.HeadEnd
import HandS.HeadHook2
import PySem.Challenge.RW_stripwalks_k12_classes_of_errors
section
set_option Elab.async false
set_option linter.all false
set_option autoImplicit false
set_option maxRecDepth 100000
set_option maxHeartbeats 4000000
/-! # The little language: values, stores, expressions, statements, and what they come to -/
namespace Ev
open PySem

/-- a value: frozen data, or a box of the store -/
inductive U where
  | d (p : PyData)
  | ref (i : Nat)
  /-- the script -/
  | scr (ns : List Int)
  /-- an object of which nothing is told -/
  | obj (a : Nat)
  /-- an item that zip or enumerate makes: a tuple that goes to targets at once -/
  | it (ps : List PyData)
inductive Box where
  | lst (xs : List PyData)
  /-- a dict; walked already (it stays as it is) -/
  | dct (lk : Bool) (kvs : List (PyData × U))
  /-- an instance of the class c: its attributes by name -/
  | ins (c : Str) (fs : List (Str × U))
  /-- a list of values of any kind -/
  | bl (us : List U)
  /-- an error of the class c, held as a value: its text; or the attribute that its own maker keeps -/
  | exc (c z : Str) (lim : Option (Str × PyData))
abbrev Store := List Box
abbrev Rho := List (Option U)
inductive R (α : Type) where
  | ok (a : α) (S : Store)
  | exc (c : Nat) (S : Store)
  | bad
def R.bind {α β : Type} (r : R α) (f : α → Store → R β) : R β :=
  match r with
  | .ok a S => f a S
  | .exc c S => .exc c S
  | .bad => .bad
def R.of {α : Type} (S : Store) : Option α → R α
  | some a => .ok a S
  | none => .bad

/-! ### operations upon data -/
abbrev line : Nat := 16777216
def b2i (b : Bool) : Int := if b then 1 else 0
/-- a dict's value read: data, or a list of the store -/
def derefV (S : Store) : U → Option PyData
  | .d p => some p
  | .ref i => match S[i]? with
    | some (.lst xs) => some (.list xs)
    | _ => none
  | _ => none
def derefKV (S : Store) : List (PyData × U) → Option (List (PyData × PyData))
  | [] => some []
  | q :: r => (derefV S q.2).bind fun p => (derefKV S r).map ((q.1, p) :: ·)
/-- a box read -/
def deref (S : Store) : U → Option PyData
  | .d p => some p
  | .ref i => match S[i]? with
    | some (.lst xs) => some (.list xs)
    | some (.dct _ kvs) => (derefKV S kvs).map .dict
    | _ => none
  | .scr _ => none
  | .obj _ => none
  | .it _ => none
def smallI (i : Int) : Bool := decide (-(2 ^ 64) < i) && decide (i < 2 ^ 64)
def mulOk (i j : Int) : Bool := smallI i || smallI j || decide (i.natAbs.log2 + j.natAbs.log2 < 1000000)
def reps {α : Type} (k : Int) (xs : List α) : List α := (List.replicate k.toNat xs).flatten
def binD (o : Operator) (x y : PyData) : Option PyData :=
  match o, x, y with
  | .Add, .int i, .int j => some (.int (i + j))
  | .Sub, .int i, .int j => some (.int (i - j))
  | .Mult, .int i, .int j => if mulOk i j = true then some (.int (i * j)) else none
  | .FloorDiv, .int i, .int j => if 0 < j ∧ j.natAbs.log2 < 9000 then some (.int (i / j)) else if j ≠ 0 ∧ j.natAbs.log2 < 9000 then some (.int (i.fdiv j)) else none
  | .Mod, .int i, .int j => if 0 < j then some (.int (i % j)) else none
  | .Pow, .int i, .int j => if 0 ≤ j ∧ j ≤ 1000000 ∧ i.natAbs < 2 ^ 64 then some (.int (i ^ j.toNat)) else none
  | .Add, .str a, .str b => if a.length + b.length ≤ line then some (.str (a ++ b)) else none
  | .Add, .list a, .list b => if a.length + b.length ≤ line then some (.list (a ++ b)) else none
  | .Add, .tuple a, .tuple b => if a.length + b.length ≤ line then some (.tuple (a ++ b)) else none
  | .Mult, .list a, .int k => if 0 ≤ k ∧ k ≤ 1000 ∧ a.length ≤ 1000 then some (.list (reps k a)) else none
  | .Mult, .tuple a, .int k => if 1 ≤ k ∧ k ≤ 1000 ∧ a.length ≤ 1000 ∧ a.isEmpty = false then some (.tuple (reps k a)) else none
  | .Mult, .str a, .int k => if 0 ≤ k ∧ k ≤ 1000 ∧ a.length ≤ 1000 then some (.str ⟨(reps k a.cps.toList).toArray⟩) else none
  | .Add, .bool a, .int k => some (.int (b2i a + k))
  | .Sub, .bool a, .int k => some (.int (b2i a - k))
  | _, _, _ => none
def hasSub (a b : Str) : Bool := !(Builtin.Str.occurrences b a 0 b.length 1).isEmpty
mutual
/-- may be a member of a set: a whole number, a text, None, a tuple of such -/
def keyB : PyData → Bool
  | .none => true
  | .bool _ => true
  | .int _ => true
  | .str _ => true
  | .tuple ks => keysB ks
  | .list _ => false
  | .dict _ => false
def keysB : List PyData → Bool
  | [] => true
  | p :: r => keyB p && keysB r
end
def tupKey : PyData → Bool
  | .tuple ks => keysB ks && decide (PyData.depthAll ks < 8)
  | _ => false
mutual
/-- no dict, however deep -/
def noD : PyData → Bool
  | .none => true
  | .bool _ => true
  | .int _ => true
  | .str _ => true
  | .tuple ks => noDs ks
  | .list ks => noDs ks
  | .dict _ => false
def noDs : List PyData → Bool
  | [] => true
  | p :: r => noD p && noDs r
end
mutual
/-- data as a key -/
def nkD : PyData → NestedKey
  | .none => .none
  | .bool b => .num (if b = true then 1 else 0)
  | .int i => .num i
  | .str z => .text z
  | .tuple ks => .tup (nksD ks)
  | .list _ => .none
  | .dict _ => .none
def nksD : List PyData → List NestedKey
  | [] => []
  | p :: r => nkD p :: nksD r
end
mutual
/-- a whole number, a truth value, None, a tuple of such -/
def nmB : PyData → Bool
  | .none => true
  | .bool _ => true
  | .int _ => true
  | .str _ => false
  | .tuple ks => nmsB ks
  | .list _ => false
  | .dict _ => false
def nmsB : List PyData → Bool
  | [] => true
  | p :: r => nmB p && nmsB r
end
/-- may be a key of a dict: a tuple of numbers; a text -/
def dKey : PyData → Bool
  | .tuple ks => nmsB ks && decide (PyData.depthAll ks < 8)
  | _ => false
def sKey : PyData → Bool
  | .str _ => true
  | _ => false
/-- a dict's keys are of one kind, and so is the key that is asked for -/
def dKind {α : Type} (kvs : List (PyData × α)) (k : PyData) : Bool := (dKey k && kvs.all fun q => dKey q.1) || (sKey k && (kvs.all fun q => sKey q.1) && !kvs.isEmpty)
def dFind {α : Type} : List (PyData × α) → PyData → Option α
  | [], _ => none
  | q :: r, k => if PyData.eqv q.1 k = true then some q.2 else dFind r k
def dRepl {α : Type} (kvs : List (PyData × α)) (k : PyData) (v : α) : List (PyData × α) := kvs.map fun q => if PyData.eqv q.1 k = true then (q.1, v) else q
def dPut {α : Type} (kvs : List (PyData × α)) (k : PyData) (v : α) : List (PyData × α) := if (dFind kvs k).isSome = true then dRepl kvs k v else kvs ++ [(k, v)]
def dPuts {α : Type} : List (PyData × α) → List (PyData × α) → List (PyData × α)
  | kvs, [] => kvs
  | kvs, q :: r => dPuts (dPut kvs q.1 q.2) r
def eqD (x y : PyData) : Option Bool := if (SeqAt.shaped x && SeqAt.shaped y) = true then some (PyData.eqv x y) else none
def inD (x y : PyData) : Option Bool :=
  match y with
  | .list ys => if (SeqAt.shaped x && SeqAt.shaped (.list ys)) = true then some (ys.any fun z => PyData.eqv z x) else none
  | .tuple ys => if (SeqAt.shaped x && SeqAt.shaped (.tuple ys)) = true then some (ys.any fun z => PyData.eqv z x) else none
  | .str b => match x with
    | .str a => some (hasSub a b)
    | _ => none
  | .dict kvs => if dKind kvs x = true then some (dFind kvs x).isSome else none
  | _ => none
def ltD (x y : PyData) : Option Bool :=
  match x, y with
  | .int i, .int j => some (decide (i < j))
  | .str a, .str b => some (decide (a.cps.toList < b.cps.toList))
  | .tuple a, .tuple b => if (W.alikeAll a b && SeqAt.shaped (.tuple a) && SeqAt.shaped (.tuple b)) = true then some (W.dataLt (.tuple a) (.tuple b)) else none
  | _, _ => none
def leD (x y : PyData) : Option Bool :=
  match x, y with
  | .int i, .int j => some (decide (i ≤ j))
  | .tuple a, .tuple b => if (W.alikeAll a b && SeqAt.shaped (.tuple a) && SeqAt.shaped (.tuple b)) = true then some (!W.dataLt (.tuple b) (.tuple a)) else none
  | _, _ => none
def isNone : PyData → Bool
  | .none => true
  | _ => false
def isD (x y : PyData) : Option Bool :=
  match y with
  | .none => some (isNone x)
  | .bool b => match x with
    | .bool a => some (decide (a = b))
    | _ => none
  | _ => none
def gtD (x y : PyData) : Option Bool :=
  match x, y with
  | .int i, .int j => some (decide (j < i))
  | _, _ => none
def geD (x y : PyData) : Option Bool :=
  match x, y with
  | .int i, .int j => some (decide (j ≤ i))
  | _, _ => none
def cmpD (o : CmpOp) (x y : PyData) : Option Bool :=
  match o with
  | .Eq => eqD x y
  | .NotEq => (eqD x y).map (!·)
  | .In => inD x y
  | .NotIn => (inD x y).map (!·)
  | .Lt => ltD x y
  | .Gt => gtD x y
  | .LtE => leD x y
  | .GtE => geD x y
  | .Is => isD x y
  | .IsNot => (isD x y).map (!·)
/-- truth -/
def truD : PyData → Option Bool
  | .none => some false
  | .bool b => some b
  | .int i => some (i != 0)
  | .list xs => some (!xs.isEmpty)
  | .tuple xs => some (!xs.isEmpty)
  | _ => none
def idxD (x i : PyData) : Option PyData :=
  match x, i with
  | .list xs, .int i => L2.atI xs i
  | .tuple xs, .int i => L2.atI xs i
  | .str z, .int i => if z.length ≤ line then (L2.atI z.cps.toList i).map fun c => .str ⟨#[c]⟩ else none
  | _, _ => none
def cutD {α : Type} (xs : List α) (lo hi : Option Int) : List α := (xs.drop (HT.sIx xs.length 0 lo)).take (HT.sIx xs.length xs.length hi - HT.sIx xs.length 0 lo)
def slcD (x : PyData) (lo hi : Option Int) : Option PyData :=
  match x with
  | .list xs => some (.list (cutD xs lo hi))
  | .tuple xs => some (.tuple (cutD xs lo hi))
  | .str z => if z.length ≤ line then some (.str (L2.cutS z lo hi)) else none
  | _ => none
def revD : PyData → Option PyData
  | .list xs => some (.list xs.reverse)
  | .tuple xs => if xs.length ≤ line then some (.tuple xs.reverse) else none
  | .str z => if z.length ≤ line then some (.str ⟨z.cps.toList.reverse.toArray⟩) else none
  | _ => none
/-- the built-in functions -/
inductive Blt where
  | len | isi (T : String) | all | sum | max | min | int | bool | str | abs | tuple | list | sorted | lenset | sortset
  deriving DecidableEq
def tyN : PyData → String
  | .none => "NoneType"
  | .bool _ => "bool"
  | .int _ => "int"
  | .str _ => "str"
  | .list _ => "list"
  | .tuple _ => "tuple"
  | .dict _ => "dict"
def isiD (T : String) (x : PyData) : Bool := tyN x == T || (T == "int" && tyN x == "bool")
def boolsD : List PyData → Option (List Bool)
  | [] => some []
  | .bool b :: r => (boolsD r).map (b :: ·)
  | _ :: _ => none
def intsD : List PyData → Option (List Int)
  | [] => some []
  | .int i :: r => (intsD r).map (i :: ·)
  | _ :: _ => none
def strsD : List PyData → Option (List Str)
  | [] => some []
  | .str s :: r => (strsD r).map (s :: ·)
  | _ :: _ => none
def leastI : Int → List Int → Int
  | m, [] => m
  | m, x :: r => leastI (if x < m then x else m) r
def mostI : Int → List Int → Int
  | m, [] => m
  | m, x :: r => mostI (if m < x then x else m) r
def seqD : PyData → Option (List PyData)
  | .list xs => some xs
  | .tuple xs => some xs
  | _ => none
/-- may be sorted: alike, with nothing that is not ordered -/
def sortOk (xs : List PyData) : Bool := decide (xs.length ≤ line) && (xs.all fun d => xs.all fun e => PySem.W.alike d e) && (xs.all fun d => SeqAt.shaped d) &&
  ((xs.all fun d => match d with | .tuple (_ :: _) => true | _ => false) || xs.all fun d => match d with | .none => false | .tuple _ => false | _ => true)
/-- put in ahead of the first one that is not less -/
def insD (x : PyData) : List PyData → List PyData
  | [] => [x]
  | y :: r => if PySem.W.dataLt y x = true then y :: insD x r else x :: y :: r
def sortD : List PyData → List PyData
  | [] => []
  | x :: r => insD x (sortD r)
mutual
/-- of one shape: if they are equal they are the same -/
def shpB : PyData → PyData → Bool
  | .none, .none => true
  | .bool _, .bool _ => true
  | .int _, .int _ => true
  | .str _, .str _ => true
  | .tuple xs, .tuple ys => shpsB xs ys
  | _, _ => false
def shpsB : List PyData → List PyData → Bool
  | [], [] => true
  | x :: xs, y :: ys => shpB x y && shpsB xs ys
  | _, _ => false
end
def shpAll : List PyData → Bool
  | [] => true
  | x :: r => (x :: r).all (shpB x)
/-- each one once, the first of those that are equal -/
def distD (seen : List PyData) : List PyData → List PyData
  | [] => []
  | x :: r => if (seen.any fun y => PyData.eqv y x) = true then distD seen r else x :: distD (x :: seen) r
def keysD (kvs : List (PyData × PyData)) : List PyData := kvs.map fun q => q.1
/-- the least, the greatest one: the first of those that are equal -/
def leastD : PyData → List PyData → PyData
  | m, [] => m
  | m, x :: r => leastD (if PySem.W.dataLt x m = true then x else m) r
def mostD : PyData → List PyData → PyData
  | m, [] => m
  | m, x :: r => mostD (if PySem.W.dataLt m x = true then x else m) r
def minOk (xs : List PyData) : Bool := (xs.all fun d => xs.all fun e => PySem.W.alike d e) && (xs.all fun d => SeqAt.shaped d) &&
  ((xs.all fun d => match d with | .tuple (_ :: _) => true | _ => false) || xs.all fun d => match d with | .none => false | .tuple _ => false | _ => true)
def minD (xs : List PyData) : Option PyData :=
  match xs with
  | [] => none
  | x :: r => if minOk (x :: r) = true then some (leastD x r) else none
def maxD (xs : List PyData) : Option PyData :=
  match xs with
  | [] => none
  | x :: r => if minOk (x :: r) = true then some (mostD x r) else none
def sortsetD (xs : List PyData) : Option PyData :=
  if (decide (xs.length < 64) && xs.all tupKey && shpAll xs && sortOk (distD [] xs)) = true then some (.list (sortD (distD [] xs))) else none
def isIntD : PyData → Bool
  | .int _ => true
  | _ => false
def isLstD : PyData → Bool
  | .list _ => true
  | _ => false
def lensetD (x : PyData) : Option PyData :=
  match seqD x with
  | some xs => if (decide (xs.length < 64) && xs.all tupKey) = true then some (.int (distD [] xs).length) else if (decide (xs.length < 64) && isLstD x && xs.all isIntD) = true then some (.int (distD [] xs).length) else none
  | none => none
def bltD (b : Blt) (x : PyData) : Option PyData :=
  match b with
  | .str => match x with
    | .int i => if i.natAbs.log2 < 1920 then some (.str (toString i)) else none
    | .bool b => some (.str (if b = true then "True" else "False"))
    | .str z => some (.str z)
    | _ => none
  | .lenset => lensetD x
  | .len => match x with
    | .list xs => some (.int xs.length)
    | .tuple xs => some (.int xs.length)
    | .str z => if z.length ≤ line then some (.int z.length) else none
    | .dict kvs => some (.int kvs.length)
    | _ => none
  | .isi T => some (.bool (isiD T x))
  | .all => match x with
    | .list xs => (boolsD xs).map fun bs => .bool (bs.all id)
    | _ => none
  | .sum => match x with
    | .list xs => (intsD xs).map fun ns => .int ns.sum
    | _ => none
  | .int => match x with
    | .int i => some (.int i)
    | .bool b => some (.int (b2i b))
    | _ => none
  | .bool => match x with
    | .bool b => some (.bool b)
    | _ => none
  | .abs => match x with
    | .int i => some (.int (if i < 0 then -i else i))
    | _ => none
  | .tuple => (seqD x).map .tuple
  | .list => (seqD x).map .list
  | .sorted => match x with
    | .list xs => if sortOk xs = true then some (.list (sortD xs)) else none
    | .dict kvs => if (sortOk (keysD kvs) && (keysD kvs).all dKey) = true then some (.list (sortD (keysD kvs))) else none
    | _ => none
  | .sortset => (seqD x).bind sortsetD
  | .min => (seqD x).bind minD
  | .max => (seqD x).bind maxD
/-- the methods of texts, lists, tuples -/
inductive Mth where
  | join | split | strip | count | index
  deriving DecidableEq
def joinFit (z : Str) (ys : List Str) : Bool := decide ((ys.map (·.length)).sum + ys.length * z.length ≤ line)
def strsOf : PyData → Option (List Str)
  | .list ys => strsD ys
  | .tuple ys => strsD ys
  | _ => none
def joinD (x y : PyData) : Option PyData :=
  match x with
  | .str z => (strsOf y).bind fun ss => if joinFit z ss = true then some (.str (Txt.join z ss)) else none
  | _ => none
def splitD (x y : PyData) : Option PyData :=
  match x, y with
  | .str a, .str b => if (b.length == 0) = false ∧ a.length + 2 ≤ line then some (.list ((Txt.split a b).map .str)) else none
  | _, _ => none
def stripD (x y : PyData) : Option PyData :=
  match x, y with
  | .str a, .str b => if a.length ≤ line then some (.str (Txt.stripChars a b)) else none
  | _, _ => none
def countD (x y : PyData) : Option PyData :=
  match x with
  | .list ys => if (SeqAt.shaped y && SeqAt.shaped (.list ys)) = true then some (.int (ys.countP fun z => PyData.eqv z y)) else none
  | .tuple ys => if (SeqAt.shaped y && SeqAt.shaped (.tuple ys)) = true then some (.int (ys.countP fun z => PyData.eqv z y)) else none
  | .str a => match y with
    | .str b => some (.int (Txt.count a b))
    | _ => none
  | _ => none
def indexD (x y : PyData) : Option PyData :=
  match x with
  | .list ys => if (SeqAt.shaped y && SeqAt.shaped (.list ys)) = true then (ys.findIdx? fun z => PyData.eqv z y).map fun (j : Nat) => .int j else none
  | _ => none
def mthD (m : Mth) (x : PyData) (as : List PyData) : Option PyData :=
  match as with
  | [y] => match m with
    | .join => joinD x y
    | .split => splitD x y
    | .strip => stripD x y
    | .count => countD x y
    | .index => indexD x y
  | _ => none
/-- a method of a list or of a tuple -/
def seqM (m : Mth) (x : PyData) : Bool :=
  match m, x with
  | .count, .list _ => true
  | .count, .tuple _ => true
  | .index, .list _ => true
  | _, _ => false

/-- how a method is called -/
inductive Dn where
  | meth (m : Str) | prop (p : Str) | item | has | hasnt | len | bool | eq | ne | op (o : Operator) | inv | call | str
  deriving DecidableEq
/-! ### expressions -/
/-- the target of an assignment: a slot, a tuple of targets -/
inductive Tg where
  | nm (i : Nat)
  | nil
  | cons (a r : Tg)
mutual
inductive X where
  | loc (i : Nat)
  | con (p : PyData)
  | bin (o : Operator) (a b : X)
  | neg (a : X)
  | not (a : X)
  | cmp (o : CmpOp) (a b : X)
  | chn (o p : CmpOp) (a b c : X)
  | and (a b : X)
  | or (a b : X)
  | ife (c a b : X)
  | call (f : Nat) (as : Xs)
  | blt (b : Blt) (a : X)
  | mth (m : Mth) (a : X) (as : Xs)
  | idx (a i : X)
  | slc (a : X) (lo hi : Xs)
  | rev (a : X)
  | lst (as : Xs)
  | box (as : Xs)
  | tup (as : Xs)
  | lc (own : List Nat) (t : Tg) (it : It) (c : Xs) (e : X)
  | err (e : X)
  | isE (i a : Nat) (b : Bool)
  /-- a.get(k, d) -/
  | get (a k d : X)
  /-- x.pop() -/
  | pop (i : Nat)
  /-- a + b, a new list that is changed in place later -/
  | badd (a b : X)
  | max2 (a b : X)
  /-- a dict: keys and values by turns; changed in place later, or not -/
  | dnew (as : Xs)
  | dlit (as : Xs)
  | dc (own : List Nat) (t : Tg) (it : It) (c : Xs) (k v : X)
  /-- [e for t in it for t2 in z], z a text -/
  | lc2 (own : List Nat) (t : Tg) (it : It) (own2 : List Nat) (t2 : Tg) (z : Str) (e : X)
  /-- a.x, an attribute of an instance of the class c -/
  | fld (a : X) (c x : Str)
  /-- C(..), f its __init__ -/
  | new (c : Str) (f : Nat) (as : Xs)
  /-- a method f of the class c, called in one way or another -/
  | dun (k : Dn) (c : Str) (f : Nat) (a : X) (as : Xs)
  /-- isinstance(a, C), C a class of instances -/
  | isC (c : Str) (a : X)
  /-- an error as a value: C("m"); C(e) of a class with an own maker that keeps e under f -/
  | mkx (c : Str) (e : X)
  | mkt (c f : Str) (e : X)
  /-- isinstance(a, D), a an error: told by the class -/
  | isX (tb : List (Str × Bool)) (a : X)
  /-- str(a), a an error; its attribute f -/
  | strx (cs : List Str) (a : X)
  | limx (c f : Str) (a : X)
  /-- lists of values of any kind: a new one, an item, the length -/
  | bls (as : Xs)
  | bix (a i : X)
  | bln (a : X)
inductive Xs where
  | nil
  | cons (a : X) (r : Xs)
inductive It where
  | val (a : X)
  | rng (as : Xs)
  | enm (a : X)
  | zip (a b : X)
  | zipL (a b : X)
  | itm (a : X)
end
mutual
inductive St where
  | set (i : Nat) (e : X)
  | sett (t : Tg) (e : X)
  | par (is : List Nat) (es : Xs)
  | seti (i : Nat) (k e : X)
  | app (i : Nat) (e : X)
  | appx (a e : X)
  /-- a.x = e, a an instance of the class c -/
  | setf (a : X) (c x : Str) (e : X)
  | exp (e : X)
  | ret (e : X)
  | retN
  | iff (c : X) (a b : Sts)
  | forr (t : Tg) (it : It) (b : Sts)
  | whil (c : X) (b : Sts)
  | rais (c : Nat) (as : Xs)
  | pass
inductive Sts where
  | nil
  | cons (a : St) (r : Sts)
end

abbrev CF := Nat → List U → Store → R U
/-- the calls; those that a function handed over may make; the word for an error of a class -/
structure Cn where
  call : CF
  low : Option CF
  nm : Nat → Option Str

def asB : U → Option Bool
  | .d (.bool b) => some b
  | _ => none
def wipe (ρ : Rho) : List Nat → Rho
  | [] => ρ
  | v :: vs => (wipe ρ vs).set v none
/-- the items at the places of a target -/
def bindT : Tg → U → Rho → Option Rho
  | .nm i, u, ρ => some (ρ.set i (some u))
  | .nil, u, ρ => match u with
    | .d (.tuple []) => some ρ
    | .it [] => some ρ
    | _ => none
  | .cons a r, u, ρ => match u with
    | .d (.tuple (x :: xs)) => (bindT a (.d x) ρ).bind fun ρ' => bindT r (.d (.tuple xs)) ρ'
    | .it (x :: xs) => (bindT a (.d x) ρ).bind fun ρ' => bindT r (.it xs) ρ'
    | _ => none
def binU (o : Operator) (x y : U) (S : Store) : R U :=
  match o, y with
  | .Add, .scr ns => R.of S (((deref S x).bind fun p => match p with
    | .list a => if a.length + ns.length ≤ line then some (.list (a ++ ns.map .int)) else none
    | _ => none).map .d)
  | _, _ => R.of S (((deref S x).bind fun p => (deref S y).bind fun q => binD o p q).map .d)
def cmpU (o : CmpOp) (x y : U) (S : Store) : Option Bool := (deref S x).bind fun p => (deref S y).bind fun q => cmpD o p q
def datas (S : Store) : List U → Option (List PyData)
  | [] => some []
  | .d p :: r => (datas S r).map (p :: ·)
  | _ :: _ => none
def derefs (S : Store) : List U → Option (List PyData)
  | [] => some []
  | u :: r => (deref S u).bind fun p => (derefs S r).map (p :: ·)
def strP (z : Str) : List PyData := z.cps.toList.map fun c => .str ⟨#[c]⟩
def strItems (z : Str) : List U := z.cps.toList.map fun c => .d (.str ⟨#[c]⟩)
/-- what a loop walks: items that stand, or a list of the store as it stands -/
inductive Src where
  | fix (us : List U)
  | live (i : Nat)
def srcU (S : Store) : U → Option Src
  | .d (.list xs) => some (.fix (xs.map .d))
  | .d (.tuple xs) => some (.fix (xs.map .d))
  | .d (.str z) => some (.fix (strItems z))
  | .scr ns => some (.fix (ns.map fun n => .d (.int n)))
  | .ref i => match S[i]? with
    | some (.lst _) => some (.live i)
    | some (.bl _) => some (.live i)
    | _ => none
  | _ => none
/-- a dict, its values as they stand -/
def dctOf (S : Store) : U → Option (List (PyData × U))
  | .d (.dict kvs) => some (kvs.map fun q => (q.1, .d q.2))
  | .ref i => match S[i]? with
    | some (.dct _ kvs) => some kvs
    | _ => none
  | _ => none
/-- a dict that is walked stays as it is from then on -/
def lockD (S : Store) : U → Store
  | .ref i => match S[i]? with
    | some (.dct _ kvs) => S.set i (.dct true kvs)
    | _ => S
  | _ => S
def keyItems {α : Type} (kvs : List (PyData × α)) : List U := kvs.map fun q => .d q.1
def prItems : List (PyData × U) → Option (List U)
  | [] => some []
  | (k, .d v) :: r => (prItems r).map (.it [k, v] :: ·)
  | _ :: _ => none
def dKeys {α : Type} (kvs : List (PyData × α)) : Bool := kvs.all fun q => dKey q.1
/-- keys and values by turns -/
def pairsU : List U → Option (List (PyData × U))
  | [] => some []
  | .d k :: v :: r => (pairsU r).map ((k, v) :: ·)
  | _ => none
def goodV : U → Bool
  | .d _ => true
  | .ref _ => true
  | _ => false
def dispOk (kvs : List (PyData × U)) : Bool := decide (kvs.length ≤ 15) && kvs.all fun q => goodV q.2
def dispKind (kvs : List (PyData × U)) : Bool := (dKeys kvs && decide (kvs.length ≤ 1)) || ((kvs.all fun q => sKey q.1) && !kvs.isEmpty)
def allD : List (PyData × U) → Option (List (PyData × PyData))
  | [] => some []
  | (k, .d v) :: r => (allD r).map ((k, v) :: ·)
  | _ :: _ => none
def rngItems (lo : Int) (n : Nat) : List U := (List.range n).map fun i => .d (.int (lo + (i : Nat)))
def smallR (i : Int) : Bool := decide (-(2 ^ 62) ≤ i) && decide (i < 2 ^ 62)
def rngD : List PyData → Option (List U)
  | [.int j] => if smallR j = true then some (rngItems 0 j.toNat) else none
  | [.int i, .int j] => if (smallR i && smallR j) = true then some (rngItems i (j - i).toNat) else none
  | [.int i, .int j, .int c] => if c = -1 ∧ (smallR i && smallR j) = true then some ((List.range (i - j).toNat).map fun k => .d (.int (i - (k : Nat)))) else none
  | _ => none
def enmItems (k : Nat) : List PyData → List U
  | [] => []
  | x :: r => .it [.int k, x] :: enmItems (k + 1) r
def zipItems : List PyData → List PyData → List U
  | x :: xs, y :: ys => .it [x, y] :: zipItems xs ys
  | _, _ => []
inductive F where
  | nx (ρ : Rho)
  | rt (u : U)
/-- a loop over items -/
def loopL (t : Tg) (body : Rho → Store → R F) : List U → Rho → Store → R F
  | [], ρ, S => .ok (.nx ρ) S
  | u :: us, ρ, S => match bindT t u ρ with
    | none => .bad
    | some ρ1 => (body ρ1 S).bind fun f S1 => match f with
      | .nx ρ2 => loopL t body us ρ2 S1
      | .rt v => .ok (.rt v) S1
/-- a loop over a list of the store -/
def loopB (t : Tg) (body : Rho → Store → R F) (b : Nat) : Nat → Nat → Rho → Store → R F
  | 0, _, _, _ => .bad
  | n + 1, j, ρ, S => match S[b]? with
    | some (.lst xs) => match xs[j]? with
      | none => .ok (.nx ρ) S
      | some x => match bindT t (.d x) ρ with
        | none => .bad
        | some ρ1 => (body ρ1 S).bind fun f S1 => match f with
          | .nx ρ2 => loopB t body b n (j + 1) ρ2 S1
          | .rt v => .ok (.rt v) S1
    | _ => .bad
def loopW (c : Rho → Store → R Bool) (body : Rho → Store → R F) : Nat → Rho → Store → R F
  | 0, _, _ => .bad
  | n + 1, ρ, S => (c ρ S).bind fun b S1 => if b = true then (body ρ S1).bind fun f S2 => match f with
      | .nx ρ2 => loopW c body n ρ2 S2
      | .rt v => .ok (.rt v) S2
    else .ok (.nx ρ) S1
/-- a comprehension's loop: what it makes -/
def compL (t : Tg) (c : Rho → Store → R Bool) (e : Rho → Store → R PyData) (ρ : Rho) : List U → Store → R (List PyData)
  | [], S => .ok [] S
  | u :: us, S => match bindT t u ρ with
    | none => .bad
    | some ρ1 => (c ρ1 S).bind fun b S1 => if b = true then (e ρ1 S1).bind fun y S2 => (compL t c e ρ us S2).bind fun ys S3 => .ok (y :: ys) S3
      else compL t c e ρ us S1
/-- .. over a list of the store -/
def compB (t : Tg) (c : Rho → Store → R Bool) (e : Rho → Store → R PyData) (ρ : Rho) (b : Nat) : Nat → Nat → Store → R (List PyData)
  | 0, _, _ => .bad
  | n + 1, j, S => match S[b]? with
    | some (.lst xs) => match xs[j]? with
      | none => .ok [] S
      | some x => match bindT t (.d x) ρ with
        | none => .bad
        | some ρ1 => (c ρ1 S).bind fun k S1 => if k = true then (e ρ1 S1).bind fun y S2 => (compB t c e ρ b n (j + 1) S2).bind fun ys S3 => .ok (y :: ys) S3
          else compB t c e ρ b n (j + 1) S1
    | some (.bl us) => match us[j]? with
      | none => .ok [] S
      | some x => match bindT t x ρ with
        | none => .bad
        | some ρ1 => (c ρ1 S).bind fun k S1 => if k = true then (e ρ1 S1).bind fun y S2 => (compB t c e ρ b n (j + 1) S2).bind fun ys S3 => .ok (y :: ys) S3
          else compB t c e ρ b n (j + 1) S1
    | _ => .bad
/-- a dict comprehension's loop: what stands in the dict then -/
def compD (t : Tg) (c : Rho → Store → R Bool) (k v : Rho → Store → R PyData) (ρ : Rho) : List U → List (PyData × PyData) → Store → R (List (PyData × PyData))
  | [], acc, S => .ok acc S
  | u :: us, acc, S => match bindT t u ρ with
    | none => .bad
    | some ρ1 => (c ρ1 S).bind fun b S1 => if b = true then (k ρ1 S1).bind fun x S2 => (v ρ1 S2).bind fun y S3 => if dKey x = true then compD t c k v ρ us (dPut acc x y) S3 else .bad
      else compD t c k v ρ us acc S1
/-- a comprehension with two loops: the inner one's items, one behind another -/
def comp2 (t : Tg) (f : Rho → Store → R (List PyData)) (ρ : Rho) : List U → Store → R (List PyData)
  | [], S => .ok [] S
  | u :: us, S => match bindT t u ρ with
    | none => .bad
    | some ρ1 => (f ρ1 S).bind fun ys S1 => (comp2 t f ρ us S1).bind fun zs S2 => .ok (ys ++ zs) S2
/-- nothing is raised within a comprehension -/
def noexc {α : Type} : R α → R α
  | .exc _ _ => .bad
  | r => r
def dataR (r : R U) : R PyData := r.bind fun u S => match u with
  | .d p => .ok p S
  | _ => .bad
def boolR (r : R U) : R Bool := r.bind fun u S => R.of S (asB u)
def truR (r : R U) : R Bool := r.bind fun u S => R.of S ((deref S u).bind truD)
def optI : List U → Option (Option Int)
  | [] => some none
  | [.d (.int i)] => some (some i)
  | _ => none
/-- d[k]; d.get(k, z) -/
def getK (kvs : List (PyData × U)) : U → Option U
  | .d k => if dKind kvs k = true then dFind kvs k else none
  | _ => none
def getOr (kvs : List (PyData × U)) (y z : U) : Option U :=
  match y with
  | .d k => if (dKind kvs k && goodV z) = true then some ((dFind kvs k).getD z) else none
  | _ => none
/-- a list of values of any kind -/
def blOf (S : Store) : U → Option (List U)
  | .ref i => match S[i]? with
    | some (.bl us) => some us
    | _ => none
  | _ => none
def catB (S : Store) (x y : U) : R U :=
  match deref S x, deref S y with
  | some (.list as), some (.list bs) => if as.length + bs.length ≤ line then .ok (.ref S.length) (S ++ [.lst (as ++ bs)]) else .bad
  | _, _ => match blOf S x, blOf S y with
    | some us, some vs => if us.length + vs.length ≤ line then .ok (.ref S.length) (S ++ [.bl (us ++ vs)]) else .bad
    | _, _ => .bad
def popB (b : Nat) (S : Store) : R U :=
  match S[b]? with
  | some (.lst xs) => match xs.getLast? with
    | some p => .ok (.d p) (S.set b (.lst xs.dropLast))
    | none => .bad
  | _ => .bad
/-- an instance of the class c -/
def insC (S : Store) (c : Str) : U → Option (Nat × List (Str × U))
  | .ref i => match S[i]? with
    | some (.ins d fs) => if d = c then some (i, fs) else none
    | _ => none
  | _ => none
/-- an attribute stored -/
def putA (x : Str) (u : U) : List (Str × U) → List (Str × U)
  | [] => [(x, u)]
  | q :: r => if q.1 = x then (q.1, u) :: r else q :: putA x u r
/-- what a special method's answer comes to -/
def post (k : Dn) (u : U) (S : Store) : R U :=
  match k, u with
  | .len, .d (.int n) => if 0 ≤ n ∧ n < 2 ^ 62 then .ok (.d (.int n)) S else .bad
  | .len, _ => .bad
  | .bool, .d (.bool b) => .ok (.d (.bool b)) S
  | .bool, _ => .bad
  | .str, .d (.str z) => .ok (.d (.str z)) S
  | .str, _ => .bad
  | .has, .d (.bool b) => .ok (.d (.bool b)) S
  | .has, _ => .bad
  | .hasnt, .d (.bool b) => .ok (.d (.bool (!b))) S
  | .hasnt, _ => .bad
  | .eq, .d (.bool b) => .ok (.d (.bool b)) S
  | .eq, _ => .bad
  | .ne, .d (.bool b) => .ok (.d (.bool (!b))) S
  | .ne, _ => .bad
  | _, v => .ok v S
/-- no attribute hides the method -/
def dunOk (k : Dn) (fs : List (Str × U)) : Bool :=
  match k with
  | .meth m => (fs.lookup m).isNone
  | _ => true
def isHas : Dn → Bool
  | .has => true
  | .hasnt => true
  | _ => false
/-- is it of the class? -/
def isCd (S : Store) (c : Str) (u : U) : Option Bool :=
  match u with
  | .ref i => match S[i]? with
    | some (.ins d _) => some (decide (d = c))
    | some (.lst _) => some false
    | _ => none
  | .d (.dict _) => none
  | .d _ => some false
  | _ => none
/-- an error held as a value -/
def excAt (S : Store) : U → Option (Str × Str × Option (Str × PyData))
  | .ref i => match S[i]? with
    | some (.exc c z l) => some (c, z, l)
    | _ => none
  | _ => none
mutual
def evX (g : Cn) : X → Rho → Store → R U
  | .loc i, ρ, S => match ρ[i]? with
    | some (some u) => .ok u S
    | _ => .bad
  | .con p, _, S => .ok (.d p) S
  | .bin o a b, ρ, S => (evX g a ρ S).bind fun x S1 => (evX g b ρ S1).bind fun y S2 => binU o x y S2
  | .neg a, ρ, S => (evX g a ρ S).bind fun x S1 => match x with
    | .d (.int i) => .ok (.d (.int (-i))) S1
    | _ => .bad
  | .not a, ρ, S => (truR (evX g a ρ S)).bind fun b S1 => .ok (.d (.bool (!b))) S1
  | .cmp o a b, ρ, S => (evX g a ρ S).bind fun x S1 => (evX g b ρ S1).bind fun y S2 => R.of S2 ((cmpU o x y S2).map fun b => .d (.bool b))
  | .chn o p a b c, ρ, S => (evX g a ρ S).bind fun x S1 => (evX g b ρ S1).bind fun y S2 => (R.of S2 (cmpU o x y S2)).bind fun k S3 =>
      if k = true then (evX g c ρ S3).bind fun z S4 => R.of S4 ((cmpU p y z S4).map fun b => .d (.bool b)) else .ok (.d (.bool false)) S3
  | .and a b, ρ, S => (boolR (evX g a ρ S)).bind fun k S1 => if k = true then evX g b ρ S1 else .ok (.d (.bool false)) S1
  | .or a b, ρ, S => (boolR (evX g a ρ S)).bind fun k S1 => if k = true then .ok (.d (.bool true)) S1 else evX g b ρ S1
  | .ife c a b, ρ, S => (truR (evX g c ρ S)).bind fun k S1 => if k = true then evX g a ρ S1 else evX g b ρ S1
  | .call f as, ρ, S => (evXs g as ρ S).bind fun us S1 => g.call f us S1
  | .blt b a, ρ, S => (evX g a ρ S).bind fun x S1 => R.of S1 (((deref S1 x).bind fun p => bltD b p).map .d)
  | .mth m a as, ρ, S => (evX g a ρ S).bind fun x S1 => match x with
    | .d (.str z) => (evXs g as ρ S1).bind fun us S2 => R.of S2 (((derefs S2 us).bind fun ps => mthD m (.str z) ps).map .d)
    | y => if ((deref S1 y).map (seqM m)) = some true then (evXs g as ρ S1).bind fun us S2 => R.of S2 (((deref S2 y).bind fun p => (derefs S2 us).bind fun ps => mthD m p ps).map .d) else .bad
  | .idx a i, ρ, S => (evX g a ρ S).bind fun x S1 => (evX g i ρ S1).bind fun y S2 => match dctOf S2 x with
      | some kvs => R.of S2 (getK kvs y)
      | none => R.of S2 (((deref S2 x).bind fun p => (deref S2 y).bind fun q => idxD p q).map .d)
  | .slc a lo hi, ρ, S => (evX g a ρ S).bind fun x S1 => ((evXs g lo ρ S1).bind fun us S2 => R.of S2 (optI us)).bind fun l S3 => ((evXs g hi ρ S3).bind fun us S4 => R.of S4 (optI us)).bind fun h S5 =>
      R.of S5 (((deref S5 x).bind fun p => slcD p l h).map .d)
  | .rev a, ρ, S => (evX g a ρ S).bind fun x S1 => R.of S1 (((deref S1 x).bind revD).map .d)
  | .lst as, ρ, S => (evXs g as ρ S).bind fun us S1 => R.of S1 ((datas S1 us).bind fun ps => if ps.length ≤ line then some (.d (.list ps)) else none)
  | .box as, ρ, S => (evXs g as ρ S).bind fun us S1 => match datas S1 us with
    | some ps => if ps.length ≤ line then .ok (.ref S1.length) (S1 ++ [.lst ps]) else .bad
    | none => if (decide (us.length ≤ line) && us.all goodV) = true then .ok (.ref S1.length) (S1 ++ [.bl us]) else .bad
  | .tup as, ρ, S => (evXs g as ρ S).bind fun us S1 => R.of S1 ((datas S1 us).bind fun ps => if ps.length ≤ line then some (.d (.tuple ps)) else none)
  | .lc own t it c e, ρ, S => (noexc (evIt g it ρ S)).bind fun s S1 => match s with
    | .fix us => if us.length ≤ line then (noexc (compL t (fun ρ S => evC g c ρ S) (fun ρ S => dataR (evX g e ρ S)) (wipe ρ own) us S1)).bind fun ys S2 => .ok (.d (.list ys)) S2 else .bad
    | .live b => (noexc (compB t (fun ρ S => evC g c ρ S) (fun ρ S => dataR (evX g e ρ S)) (wipe ρ own) b 100000 0 S1)).bind fun ys S2 => .ok (.d (.list ys)) S2
  | .err e, ρ, S => match g.low with
    | none => .bad
    | some lf => match evX ⟨lf, none, g.nm⟩ e ρ S with
      | .ok _ S1 => .ok (.d (.str ⟨#[]⟩)) S1
      | .exc c S1 => R.of S1 ((g.nm c).map fun z => .d (.str z))
      | .bad => .bad
  | .isE i a b, ρ, S => match ρ[i]? with
    | some (some (.obj a')) => if a' = a then .ok (.d (.bool b)) S else .bad
    | _ => .bad
  | .get a k d, ρ, S => (evX g a ρ S).bind fun x S1 => if (dctOf S1 x).isSome = true then (evX g k ρ S1).bind fun y S2 => (evX g d ρ S2).bind fun z S3 => R.of S3 ((dctOf S3 x).bind fun kvs => getOr kvs y z) else .bad
  | .pop i, ρ, S => match ρ[i]? with
    | some (some (.ref b)) => popB b S
    | _ => .bad
  | .max2 a b, ρ, S => (evX g a ρ S).bind fun x S1 => (evX g b ρ S1).bind fun y S2 => match x, y with
    | .d (.int i), .d (.int j) => .ok (.d (.int (if i < j then j else i))) S2
    | _, _ => .bad
  | .badd a b, ρ, S => (evX g a ρ S).bind fun x S1 => (evX g b ρ S1).bind fun y S2 => catB S2 x y
  | .dnew as, ρ, S => (evXs g as ρ S).bind fun us S1 => match pairsU us with
    | some kvs => if (dispOk kvs && dispKind kvs) = true then .ok (.ref S1.length) (S1 ++ [.dct false (dPuts [] kvs)]) else .bad
    | none => .bad
  | .dlit as, ρ, S => (evXs g as ρ S).bind fun us S1 => match (pairsU us).bind allD with
    | some kvs => if (decide (kvs.length ≤ 15) && dKeys kvs) = true then .ok (.d (.dict (dPuts [] kvs))) S1 else .bad
    | none => .bad
  | .dc own t it c k v, ρ, S => (noexc (evIt g it ρ S)).bind fun s S1 => match s with
    | .fix us => if us.length ≤ line then (noexc (compD t (fun ρ S => evC g c ρ S) (fun ρ S => dataR (evX g k ρ S)) (fun ρ S => dataR (evX g v ρ S)) (wipe ρ own) us [] S1)).bind fun kvs S2 => .ok (.d (.dict kvs)) S2 else .bad
    | .live _ => .bad
  | .lc2 own t it own2 t2 z e, ρ, S => (noexc (evIt g it ρ S)).bind fun s S1 => match s with
    | .fix us => if us.length ≤ 4096 ∧ z.length ≤ 4096 then (noexc (comp2 t (fun ρ1 S1 => compL t2 (fun _ S => .ok true S) (fun ρ S => dataR (evX g e ρ S)) (wipe ρ1 own2) (strItems z) S1) (wipe ρ own) us S1)).bind fun ys S2 => .ok (.d (.list ys)) S2 else .bad
    | .live _ => .bad
  | .fld a c x, ρ, S => (evX g a ρ S).bind fun u S1 => match insC S1 c u with
    | some (_, fs) => R.of S1 (fs.lookup x)
    | none => .bad
  | .new c f as, ρ, S => (evXs g as ρ S).bind fun us S1 => (g.call f (.ref S1.length :: us) (S1 ++ [.ins c []])).bind fun v S2 => match v with
    | .d .none => .ok (.ref S1.length) S2
    | _ => .bad
  | .dun k c f a as, ρ, S => if isHas k = true then (evXs g as ρ S).bind fun us S1 => (evX g a ρ S1).bind fun x S2 => if (insC S2 c x).isSome = true then (g.call f (x :: us) S2).bind (post k) else .bad
    else (evX g a ρ S).bind fun x S1 => match insC S1 c x with
      | some (_, fs) => if dunOk k fs = true then (evXs g as ρ S1).bind fun us S2 => (g.call f (x :: us) S2).bind (post k) else .bad
      | none => .bad
  | .isC c a, ρ, S => (evX g a ρ S).bind fun u S1 => R.of S1 ((isCd S1 c u).map fun b => .d (.bool b))
  | .mkx c e, ρ, S => (evX g e ρ S).bind fun u S1 => match u with
    | .d (.str z) => .ok (.ref S1.length) (S1 ++ [.exc c z none])
    | _ => .bad
  | .mkt c f e, ρ, S => (evX g e ρ S).bind fun u S1 => match u with
    | .d p => .ok (.ref S1.length) (S1 ++ [.exc c ⟨#[]⟩ (some (f, p))])
    | _ => .bad
  | .isX tb a, ρ, S => (evX g a ρ S).bind fun u S1 => R.of S1 ((excAt S1 u).bind fun q => (tb.lookup q.1).map fun b => .d (.bool b))
  | .strx cs a, ρ, S => (evX g a ρ S).bind fun u S1 => match excAt S1 u with
    | some (c, z, none) => if c ∈ cs then .ok (.d (.str z)) S1 else .bad
    | _ => .bad
  | .limx c f a, ρ, S => (evX g a ρ S).bind fun u S1 => match excAt S1 u with
    | some (c', _, some (f', p)) => if c' = c ∧ f' = f then .ok (.d p) S1 else .bad
    | _ => .bad
  | .bls as, ρ, S => (evXs g as ρ S).bind fun us S1 => if (decide (us.length ≤ line) && us.all goodV) = true then .ok (.ref S1.length) (S1 ++ [.bl us]) else .bad
  | .bix a i, ρ, S => (evX g a ρ S).bind fun x S1 => (evX g i ρ S1).bind fun y S2 => match blOf S2 x, y with
    | some us, .d (.int j) => R.of S2 (L2.atI us j)
    | _, _ => .bad
  | .bln a, ρ, S => (evX g a ρ S).bind fun x S1 => match blOf S1 x with
    | some us => .ok (.d (.int us.length)) S1
    | none => .bad
def evXs (g : Cn) : Xs → Rho → Store → R (List U)
  | .nil, _, S => .ok [] S
  | .cons a r, ρ, S => (evX g a ρ S).bind fun x S1 => (evXs g r ρ S1).bind fun xs S2 => .ok (x :: xs) S2
/-- a comprehension's tests -/
def evC (g : Cn) : Xs → Rho → Store → R Bool
  | .nil, _, S => .ok true S
  | .cons a _, ρ, S => truR (evX g a ρ S)
def evIt (g : Cn) : It → Rho → Store → R Src
  | .val a, ρ, S => (evX g a ρ S).bind fun x S1 => match dctOf S1 x with
    | some kvs => if dKeys kvs = true then .ok (.fix (keyItems kvs)) (lockD S1 x) else .bad
    | none => R.of S1 (srcU S1 x)
  | .itm a, ρ, S => (evX g a ρ S).bind fun x S1 => match dctOf S1 x with
    | some kvs => match prItems kvs with
      | some us => if dKeys kvs = true then .ok (.fix us) (lockD S1 x) else .bad
      | none => .bad
    | none => .bad
  | .rng as, ρ, S => (evXs g as ρ S).bind fun us S1 => R.of S1 (((datas S1 us).bind rngD).map .fix)
  | .enm a, ρ, S => (evX g a ρ S).bind fun x S1 => match x with
    | .d (.list xs) => .ok (.fix (enmItems 0 xs)) S1
    | .d (.tuple xs) => .ok (.fix (enmItems 0 xs)) S1
    | .d (.str z) => .ok (.fix (enmItems 0 (strP z))) S1
    | _ => .bad
  | .zip a b, ρ, S => (evX g a ρ S).bind fun x S1 => (evX g b ρ S1).bind fun y S2 => match x, y with
    | .d (.list xs), .d (.list ys) => .ok (.fix (zipItems xs ys)) S2
    | .d (.tuple xs), .d (.tuple ys) => .ok (.fix (zipItems xs ys)) S2
    | _, _ => .bad
  | .zipL a b, ρ, S => (evX g a ρ S).bind fun x S1 => (evX g b ρ S1).bind fun y S2 => match x, y with
    | .d (.list xs), .d (.list ys) => .ok (.fix (zipItems xs ys)) S2
    | _, _ => .bad
end
def setSlots : List Nat → List U → Rho → Option Rho
  | [], [], ρ => some ρ
  | i :: is, u :: us, ρ => setSlots is us (ρ.set i (some u))
  | _, _, _ => none
/-- a place of a list, or the next one, is written -/
def putL (b : Nat) (u q : U) (ρ : Rho) (S : Store) : R F :=
  match u, q with
  | .d p, .d k => match S[b]? with
    | some (.lst xs) => match k with
      | .int j => match L2.ixN xs.length j with
        | some m => .ok (.nx ρ) (S.set b (.lst (xs.set m p)))
        | none => .bad
      | _ => .bad
    | some (.dct false kvs) => if (dKind kvs k && decide (kvs.length < line)) = true then .ok (.nx ρ) (S.set b (.dct false (dPut kvs k (.d p)))) else .bad
    | _ => .bad
  | _, _ => .bad
def appL (b : Nat) (u : U) (ρ : Rho) (S : Store) : R F :=
  match u with
  | .d p => match S[b]? with
    | some (.lst xs) => if xs.length < line then .ok (.nx ρ) (S.set b (.lst (xs ++ [p]))) else .bad
    | _ => .bad
  | _ => .bad
def isLst (S : Store) (b : Nat) : Bool :=
  match S[b]? with
  | some (.lst _) => true
  | _ => false
mutual
def evS (g : Cn) : St → Rho → Store → R F
  | .set i e, ρ, S => (evX g e ρ S).bind fun u S1 => .ok (.nx (ρ.set i (some u))) S1
  | .sett t e, ρ, S => (evX g e ρ S).bind fun u S1 => R.of S1 ((bindT t u ρ).map .nx)
  | .par is es, ρ, S => (evXs g es ρ S).bind fun us S1 => R.of S1 ((setSlots is us ρ).map .nx)
  | .seti i k e, ρ, S => match ρ[i]? with
    | some (some (.ref b)) => (evX g e ρ S).bind fun u S1 => (evX g k ρ S1).bind fun q S2 => putL b u q ρ S2
    | _ => .bad
  | .app i e, ρ, S => match ρ[i]? with
    | some (some (.ref b)) => if isLst S b = true then (evX g e ρ S).bind fun u S1 => appL b u ρ S1 else .bad
    | _ => .bad
  | .appx a e, ρ, S => (evX g a ρ S).bind fun x S1 => match x with
    | .ref b => if isLst S1 b = true then (evX g e ρ S1).bind fun u S2 => appL b u ρ S2 else .bad
    | _ => .bad
  | .setf a c x e, ρ, S => (evX g e ρ S).bind fun u S1 => (evX g a ρ S1).bind fun v S2 => match insC S2 c v with
    | some (i, fs) => if (decide (fs.length < 1000) && (match u with | .d _ => true | .ref j => decide (j < i) | _ => false)) = true then .ok (.nx ρ) (S2.set i (.ins c (putA x u fs))) else .bad
    | none => .bad
  | .exp e, ρ, S => (evX g e ρ S).bind fun _ S1 => .ok (.nx ρ) S1
  | .ret e, ρ, S => (evX g e ρ S).bind fun u S1 => .ok (.rt u) S1
  | .retN, _, S => .ok (.rt (.d .none)) S
  | .iff c a b, ρ, S => (truR (evX g c ρ S)).bind fun k S1 => if k = true then evSs g a ρ S1 else evSs g b ρ S1
  | .forr t it b, ρ, S => (evIt g it ρ S).bind fun s S1 => match s with
    | .fix us => loopL t (fun ρ S => evSs g b ρ S) us ρ S1
    | .live i => loopB t (fun ρ S => evSs g b ρ S) i 1000000 0 ρ S1
  | .whil c b, ρ, S => loopW (fun ρ S => truR (evX g c ρ S)) (fun ρ S => evSs g b ρ S) 1000000 ρ S
  | .rais c as, ρ, S => (evXs g as ρ S).bind fun _ S1 => .exc c S1
  | .pass, ρ, S => .ok (.nx ρ) S
def evSs (g : Cn) : Sts → Rho → Store → R F
  | .nil, ρ, S => .ok (.nx ρ) S
  | .cons a r, ρ, S => (evS g a ρ S).bind fun f S1 => match f with
    | .nx ρ1 => evSs g r ρ1 S1
    | .rt u => .ok (.rt u) S1
end
/-- a def: how many parameters, how many names, whether it hands on a box that it made -/
structure Fn where
  np : Nat
  nn : Nat
  keep : Bool
  body : Sts
structure Tab where
  fns : List Fn
  nm : Nat → Option Str
/-- the lists in a dict were made within the call, too -/
def newOnly (n0 : Nat) (S : Store) (i : Nat) : Bool :=
  match S[i]? with
  | some (.dct _ kvs) => kvs.all fun q => match q.2 with
    | .ref j => decide (n0 ≤ j)
    | _ => true
  | _ => true
/-- the end of a call: boxes made within go, a list that is handed back is frozen -/
def finish (mk : Bool) (n0 : Nat) : R F → R U
  | .ok (.nx _) S => .ok (.d .none) (S.take n0)
  | .ok (.rt (.d p)) S => .ok (.d p) (if mk = true then S else S.take n0)
  | .ok (.rt (.ref i)) S => if mk = true then .ok (.ref i) S else if i < n0 then .ok (.ref i) (S.take n0) else match deref S (.ref i) with
    | some p => if newOnly n0 S i = true then .ok (.d p) (S.take n0) else .bad
    | none => .bad
  | .ok (.rt (.scr _)) _ => .bad
  | .ok (.rt (.obj _)) _ => .bad
  | .ok (.rt (.it _)) _ => .bad
  | .exc c S => .exc c (S.take n0)
  | .bad => .bad
def start (nn : Nat) (us : List U) : Rho := us.map some ++ List.replicate (nn - us.length) none
def runF (T : Tab) (g : Cn) (f : Nat) (us : List U) (S : Store) : R U :=
  match T.fns[f]? with
  | none => .bad
  | some fn => if us.length = fn.np then finish fn.keep S.length (evSs g fn.body (start fn.nn us) S) else .bad
/-- the calls to a depth, and to lesser ones -/
structure C3 where
  a : CF
  b : CF
  c : CF
def callP (T : Tab) : Nat → C3
  | 0 => ⟨fun _ _ _ => .bad, fun _ _ _ => .bad, fun _ _ _ => .bad⟩
  | n + 1 => ⟨runF T ⟨(callP T n).a, some (callP T n).c, T.nm⟩, (callP T n).a, (callP T n).b⟩
def callN (T : Tab) (n : Nat) : CF := (callP T n).a
def cnN (T : Tab) (n : Nat) : Cn := ⟨(callP T n).a, some (callP T n).c, T.nm⟩
theorem callN_succ (T : Tab) (n : Nat) : callN T (n + 1) = runF T (cnN T n) := rfl
theorem low_eq (T : Tab) (n : Nat) : (cnN T (n + 2)).low = some (callN T n) := rfl
end Ev
end

section
set_option Elab.async false
set_option linter.all false
set_option autoImplicit false
set_option maxRecDepth 100000
set_option maxHeartbeats 4000000
/-! # How the little language's values stand in the abstract heap -/
namespace Ev
open PySem PySem.Spec PyProof.Rows L2

/-- the boxes, in order; and other objects that nobody may hand out (a list that a comprehension is making) -/
structure Ms where
  b : List Addr
  x : List Addr
instance : Membership Addr Ms := ⟨fun M a => a ∈ M.b ∨ a ∈ M.x⟩
theorem Ms.mem_b {M : Ms} {a : Addr} (h : a ∈ M.b) : a ∈ M := .inl h
theorem Ms.mem_x {M : Ms} {a : Addr} (h : a ∈ M.x) : a ∈ M := .inr h
theorem Ms.not_b {M : Ms} {a : Addr} (h : a ∉ M) : a ∉ M.b := fun z => h (.inl z)
/-- one box more; one more that nobody may hand out -/
def Ms.add (M : Ms) (p : Addr) : Ms := ⟨M.b ++ [p], M.x⟩
def Ms.hide (M : Ms) (p : Addr) : Ms := ⟨M.b, p :: M.x⟩

/-- a tuple at a: tracked, its object without a dict, not a box; or an object of the module -/
def TupAt (K : W.Frag) (M : Ms) (H : Hp) (a : Addr) (xs : List V) : Prop :=
  (a ∉ M ∧ ∃ o : Obj, o.dict = none ∧ H a = some (.frz o (.tup xs))) ∨
    ∃ (o : Obj) (its : Array Value) (n : Nat), K.lookup a = some o ∧ o.cls = .type "tuple" ∧ o.dict = none ∧ o.data = .seq its n ∧ its.size ≤ sizeLine ∧ Vals xs its.toList
theorem TupAt.sq {K : W.Frag} {M : Ms} {H : Hp} {a : Addr} {xs : List V} (h : TupAt K M H a xs) : SqT K H a xs := h.imp (fun ⟨_, o, _, e⟩ => .inr ⟨o, e⟩) fun ⟨o, its, n, h1, h2, _, h3⟩ => ⟨o, its, n, h1, h2, h3⟩

/-- a dict, its one object -/
def DX (a : Addr) (o : Obj) : HO := .ext fun h => h.get? a = some o
/-- a dict's entries, each with its key's hash -/
inductive EntOk : List DictEntry → List (V × V) → List PyData → Prop
  | nil : EntOk [] [] []
  | cons {b : Addr} {hs : Int} {y : V} {z : Value} {k : PyData} {es : List DictEntry} {vs : List (V × V)} {ks : List PyData} : RelV y z → (∀ w, hs = (nkD k).hash w) → EntOk es vs ks → EntOk (⟨hs, .ref b, z⟩ :: es) ((.ref b, y) :: vs) (k :: ks)
/-- the object o is a dict with vs, under the keys ks -/
structure DObj (a : Addr) (o : Obj) (vs : List (V × V)) (ks : List PyData) : Prop where
  sys : (a == sysModules) = false
  ex : o.ExactDict
  key : ∀ k, k ∈ ks → dKey k = true
  nd : (ks.map nkD).Nodup
  le : ks.length ≤ sizeLine
  ent : ∃ es ep, o.data = .dict es ep ∧ EntOk es.toList vs ks
/-- the script's list -/
def ScrAt (K : W.Frag) (M : Ms) (H : Hp) (a : Addr) (xs : List V) : Prop :=
  (a ∉ M ∧ Rd H a (.lst xs)) ∨
    ∃ (o : Obj) (its : Array Value) (n : Nat), K.lookup a = some o ∧ o.cls = .type "list" ∧ o.dict = none ∧ o.data = .seq its n ∧ its.size ≤ sizeLine ∧ Vals xs its.toList
theorem ScrAt.sq {K : W.Frag} {M : Ms} {H : Hp} {a : Addr} {xs : List V} (h : ScrAt K M H a xs) : SqL K H a xs := h.imp (fun z => z.2) id
mutual
/-- the value v stands for the data, in the heap H; the lists of the data are none of the boxes M -/
inductive Rp (K : W.Frag) (M : Ms) (H : Hp) : V → PyData → Prop
  | non : Rp K M H .non .none
  | bl (b : Bool) : Rp K M H (.bl b) (.bool b)
  | int (i : Int) : Rp K M H (.int i) (.int i)
  | str (x : Str) : Rp K M H (.str x) (.str x)
  | lst {a : Addr} {xs : List V} {ds : List PyData} : a ∉ M → H a = some (.lst xs) → RpA K M H xs ds → Rp K M H (.ref a) (.list ds)
  | tup {a : Addr} {xs : List V} {ds : List PyData} : TupAt K M H a xs → RpA K M H xs ds → Rp K M H (.ref a) (.tuple ds)
  | dct {a : Addr} {o : Obj} {vs : List (V × V)} {ds : List (PyData × PyData)} : a ∉ M → Rd H a (DX a o) → DObj a o vs (ds.map Prod.fst) → RpA K M H (vs.map Prod.fst) (ds.map Prod.fst) → RpA K M H (vs.map Prod.snd) (ds.map Prod.snd) → Rp K M H (.ref a) (.dict ds)
  | dks {a : Addr} {ws : List (Key × V)} {ds : List (PyData × PyData)} : a ∉ M → H a = some (.dK ws) → ds ≠ [] → (∀ k, k ∈ ds.map Prod.fst → sKey k = true) → RpA K M H (ws.map fun q => kV q.1) (ds.map Prod.fst) → RpA K M H (ws.map Prod.snd) (ds.map Prod.snd) → Rp K M H (.ref a) (.dict ds)
inductive RpA (K : W.Frag) (M : Ms) (H : Hp) : List V → List PyData → Prop
  | nil : RpA K M H [] []
  | cons {v : V} {vs : List V} {d : PyData} {ds : List PyData} : Rp K M H v d → RpA K M H vs ds → RpA K M H (v :: vs) (d :: ds)
end
def RU (K : W.Frag) (M : Ms) (H : Hp) (v : V) : U → Prop
  | .d p => Rp K M H v p
  | .ref i => ∃ a, M.b[i]? = some a ∧ v = .ref a
  | .scr ns => ∃ a, v = .ref a ∧ ScrAt K M H a (ns.map V.int)
  | .obj a => v = .ref a
  | .it ds => ∃ a xs, v = .ref a ∧ a ∉ M ∧ H a = some (.tup xs) ∧ RpA K M H xs ds
inductive RUs (K : W.Frag) (M : Ms) (H : Hp) : List V → List U → Prop
  | nil : RUs K M H [] []
  | cons {v : V} {vs : List V} {u : U} {us : List U} : RU K M H v u → RUs K M H vs us → RUs K M H (v :: vs) (u :: us)
/-- an error that is held as a value: its object, the tuple of what it was made of at t -/
def ExT (a C t : Addr) : HO := .ext fun h => h.get? a = some (PySem.HandSPX.excO C t)
/-- what stands at a box -/
def BoxOk (K : W.Frag) (M : Ms) (H : Hp) (a : Addr) : Box → Prop
  | .lst ds => ∃ xs, H a = some (.lst xs) ∧ RpA K M H xs ds
  | .dct lk kvs => (∃ o vs, (if lk = true then ∃ od, H a = some (.frz od (DX a o)) else H a = some (DX a o)) ∧ DObj a o vs (kvs.map Prod.fst) ∧ RpA K M H (vs.map Prod.fst) (kvs.map Prod.fst) ∧ RUs K M H (vs.map Prod.snd) (kvs.map Prod.snd)) ∨
      (lk = false ∧ ∃ ws : List (Key × V), H a = some (.dK ws) ∧ kvs ≠ [] ∧ (∀ k, k ∈ kvs.map Prod.fst → sKey k = true) ∧ RpA K M H (ws.map fun q => kV q.1) (kvs.map Prod.fst) ∧ RUs K M H (ws.map Prod.snd) (kvs.map Prod.snd))
  | .ins c fs => ∃ dx vs, H a = some (.ins (He.ga K c) dx vs) ∧ vs.map Prod.fst = fs.map Prod.fst ∧ RUs K M H (vs.map Prod.snd) (fs.map Prod.snd)
  | .bl us => ∃ vs, H a = some (.lst vs) ∧ RUs K M H vs us
  | .exc c z none => ∃ t, H a = some (ExT a (He.ga K c) t) ∧ t ∉ M ∧ H t = some (.tup [.str z])
  | .exc c _ (some (f, p)) => ∃ dx v, H a = some (exo a (He.ga K c) (some dx)) ∧ dx ∉ M ∧ H dx = some (exd dx [(f, v)]) ∧ Rp K M H v p
/-- the lists in a dict are older than the dict -/
def Box.below (n : Nat) : Box → Prop
  | .dct _ kvs => ∀ q, q ∈ kvs → ∀ j, q.2 = .ref j → j < n
  | .ins _ fs => ∀ q, q ∈ fs → ∀ j, q.2 = .ref j → j < n
  | .bl us => ∀ u, u ∈ us → ∀ j, u = .ref j → j < n
  | _ => True
structure StOk (K : W.Frag) (T : List (Addr × Str)) (M : Ms) (S : Store) (H : Hp) : Prop where
  len : M.b.length = S.length
  nd : M.b.Nodup
  box : ∀ (i : Nat) a b, M.b[i]? = some a → S[i]? = some b → BoxOk K M H a b
  xt : ∀ a, a ∈ M.x → a ∉ M.b ∧ ∃ o, H a = some o ∧ ∀ ps, o ≠ .tbl ps
  tab : LamX.Tabs T H
  old : ∀ (i : Nat) b, S[i]? = some b → b.below i
/-- the slots -/
structure EnvOk (K : W.Frag) (ρ : Rho) (σ : L2.St) (M : Ms) (H : Hp) : Prop where
  len : ρ.length = σ.length
  at_ : ∀ (i : Nat) u, ρ[i]? = some (some u) → ∃ v, σ[i]? = some (some v) ∧ RU K M H v u
/-- nothing, or a table of code objects -/
def NoT (H : Hp) (a : Addr) : Prop := H a = none ∨ ∃ ps, H a = some (.tbl ps)
theorem NoT.ne {H : Hp} {a : Addr} {o : HO} (n : NoT H a) (h : H a = some o) (t : ∀ ps, o ≠ .tbl ps) : False := by
  rcases n with n | ⟨ps, n⟩
  · rw [h] at n; cases n
  · rw [h] at n; exact t ps (Option.some.inj n)
/-- what may have changed -/
structure Gr (M : Ms) (H : Hp) (M' : Ms) (H' : Hp) : Prop where
  pre : M.b <+: M'.b
  ext : ∀ a, a ∈ M.x → a ∈ M'.x
  keep : ∀ a o, H a = some o → a ∉ M.b → (∀ ps, o ≠ .tbl ps) → H' a = some o
  new : ∀ a, a ∈ M' → a ∈ M ∨ NoT H a
  newb : ∀ a, a ∈ M'.b → a ∈ M.b ∨ NoT H a
  dom : ∀ a, NoT H' a → NoT H a
  frz : ∀ a o u, H a = some (.frz o u) → H' a = some (.frz o u)

section
variable {K : W.Frag} {T : List (Addr × Str)} {M M' M'' : Ms} {H H' H'' : Hp} {S S' : Store} {ρ : Rho} {σ : L2.St}
theorem Gr.refl (M : Ms) (H : Hp) : Gr M H M H := ⟨List.prefix_refl _, fun _ h => h, fun _ _ h _ _ => h, fun _ h => .inl h, fun _ h => .inl h, fun _ h => h, fun _ _ _ h => h⟩
theorem Gr.neb {a : Addr} {o : HO} (g : Gr M H M' H') (h : H a = some o) (n : a ∉ M.b) (t : ∀ ps, o ≠ .tbl ps) : a ∉ M'.b := fun z => (g.newb a z).elim n fun q => q.ne h t
theorem Gr.trans (a : Gr M H M' H') (b : Gr M' H' M'' H'') : Gr M H M'' H'' where
  pre := a.pre.trans b.pre
  ext := fun x h => b.ext x (a.ext x h)
  keep := fun x o h n t => b.keep x o (a.keep x o h n t) (a.neb h n t) t
  new := fun x h => (b.new x h).elim (a.new x) fun q => .inr (a.dom x q)
  newb := fun x h => (b.newb x h).elim (a.newb x) fun q => .inr (a.dom x q)
  dom := fun x h => a.dom x (b.dom x h)
  frz := fun x o u h => b.frz x o u (a.frz x o u h)
theorem Gr.ne {a : Addr} {o : HO} (g : Gr M H M' H') (h : H a = some o) (n : a ∉ M) (t : ∀ ps, o ≠ .tbl ps) : a ∉ M' := fun z => (g.new a z).elim n fun q => q.ne h t
theorem Gr.get {i : Nat} {a : Addr} (g : Gr M H M' H') (h : M.b[i]? = some a) : M'.b[i]? = some a := by
  obtain ⟨r, e⟩ := g.pre
  rw [← e, List.getElem?_append_left (List.getElem?_eq_some_iff.mp h).1]
  exact h
theorem Gr.rd {a : Addr} {o : HO} (g : Gr M H M' H') (h : Rd H a o) (n : a ∉ M) (t : ∀ ps, o ≠ .tbl ps) : a ∉ M' ∧ Rd H' a o := by
  rcases h with h | ⟨ob, h⟩
  · exact ⟨g.ne h n t, .inl (g.keep a _ h (Ms.not_b n) t)⟩
  · exact ⟨g.ne h n fun ps z => (by cases z), .inr ⟨ob, g.keep a _ h (Ms.not_b n) fun ps z => by cases z⟩⟩
theorem Gr.at_ {a : Addr} {o : HO} (g : Gr M H M' H') (h : H a = some o) (n : a ∉ M) (t : ∀ ps, o ≠ .tbl ps) : a ∉ M' ∧ H' a = some o := ⟨g.ne h n t, g.keep a _ h (Ms.not_b n) t⟩
theorem TupAt.mono {a : Addr} {xs : List V} (g : Gr M H M' H') (h : TupAt K M H a xs) : TupAt K M' H' a xs := by
  rcases h with ⟨n, o, d, h⟩ | h
  · exact .inl ⟨(g.at_ h n fun ps z => by cases z).1, o, d, (g.at_ h n fun ps z => by cases z).2⟩
  · exact .inr h
mutual
theorem Rp.mono (g : Gr M H M' H') : ∀ {v : V} {d : PyData}, Rp K M H v d → Rp K M' H' v d
  | _, _, .non => .non
  | _, _, .bl b => .bl b
  | _, _, .int i => .int i
  | _, _, .str x => .str x
  | _, _, .lst n h r => .lst (g.at_ h n fun ps z => by cases z).1 (g.at_ h n fun ps z => by cases z).2 (RpA.mono g r)
  | _, _, .tup h r => .tup (h.mono g) (RpA.mono g r)
  | _, _, .dct n h d r q => .dct (g.rd h n fun ps z => by cases z).1 (g.rd h n fun ps z => by cases z).2 d (RpA.mono g r) (RpA.mono g q)
  | _, _, .dks n h e k r q => .dks (g.at_ h n fun ps z => by cases z).1 (g.at_ h n fun ps z => by cases z).2 e k (RpA.mono g r) (RpA.mono g q)
theorem RpA.mono (g : Gr M H M' H') : ∀ {vs : List V} {ds : List PyData}, RpA K M H vs ds → RpA K M' H' vs ds
  | _, _, .nil => .nil
  | _, _, .cons h r => .cons (Rp.mono g h) (RpA.mono g r)
end
theorem RU.mono {v : V} {u : U} (g : Gr M H M' H') (h : RU K M H v u) : RU K M' H' v u := by
  cases u with
  | d p => exact Rp.mono g h
  | ref i => obtain ⟨a, e, q⟩ := h; exact ⟨a, g.get e, q⟩
  | scr ns =>
    obtain ⟨a, e, q⟩ := h
    exact ⟨a, e, q.imp (fun z => g.rd z.2 z.1 fun ps z => by cases z) id⟩
  | obj a => exact h
  | it ds =>
    obtain ⟨a, xs, e, n, q, r⟩ := h
    exact ⟨a, xs, e, (g.at_ q n fun ps z => by cases z).1, (g.at_ q n fun ps z => by cases z).2, r.mono g⟩
theorem RUs.mono (g : Gr M H M' H') : ∀ {vs : List V} {us : List U}, RUs K M H vs us → RUs K M' H' vs us
  | _, _, .nil => .nil
  | _, _, .cons h r => .cons (h.mono g) (RUs.mono g r)
theorem RUs.length : ∀ {vs : List V} {us : List U}, RUs K M H vs us → vs.length = us.length
  | _, _, .nil => rfl
  | _, _, .cons _ r => congrArg (· + 1) (RUs.length r)
theorem RpA.length : ∀ {vs : List V} {us : List PyData}, RpA K M H vs us → vs.length = us.length
  | _, _, .nil => rfl
  | _, _, .cons _ r => congrArg (· + 1) (RpA.length r)
theorem RpA.get : ∀ {vs : List V} {us : List PyData} {i : Nat} {d : PyData}, RpA K M H vs us → us[i]? = some d → ∃ v, vs[i]? = some v ∧ Rp K M H v d
  | _, _, i, d, .nil, e => by simp at e
  | _, _, 0, d, .cons h r, e => by simp at e; subst e; exact ⟨_, rfl, h⟩
  | _, _, i + 1, d, .cons h r, e => by
    obtain ⟨v, h1, h2⟩ := RpA.get (i := i) r (by simpa using e)
    exact ⟨v, by simpa using h1, h2⟩
theorem RpA.getV : ∀ {vs : List V} {us : List PyData} {i : Nat} {v : V}, RpA K M H vs us → vs[i]? = some v → ∃ d, us[i]? = some d ∧ Rp K M H v d
  | _, _, i, d, .nil, e => by simp at e
  | _, _, 0, d, .cons h r, e => by simp at e; subst e; exact ⟨_, rfl, h⟩
  | _, _, i + 1, d, .cons h r, e => by
    obtain ⟨v, h1, h2⟩ := RpA.getV (i := i) r (by simpa using e)
    exact ⟨v, by simpa using h1, h2⟩
theorem RpA.append : ∀ {vs ws : List V} {us ts : List PyData}, RpA K M H vs us → RpA K M H ws ts → RpA K M H (vs ++ ws) (us ++ ts)
  | _, _, _, _, .nil, h => h
  | _, _, _, _, .cons a r, h => .cons a (RpA.append r h)
theorem RpA.take : ∀ {vs : List V} {us : List PyData} (n : Nat), RpA K M H vs us → RpA K M H (vs.take n) (us.take n)
  | _, _, 0, _ => .nil
  | _, _, _ + 1, .nil => .nil
  | _, _, n + 1, .cons a r => .cons a (RpA.take n r)
theorem RpA.drop : ∀ {vs : List V} {us : List PyData} (n : Nat), RpA K M H vs us → RpA K M H (vs.drop n) (us.drop n)
  | _, _, 0, h => h
  | _, _, _ + 1, .nil => .nil
  | _, _, n + 1, .cons a r => RpA.drop n r
theorem RpA.set {v : V} {d : PyData} (h : Rp K M H v d) : ∀ {vs : List V} {us : List PyData} (n : Nat), RpA K M H vs us → RpA K M H (vs.set n v) (us.set n d)
  | _, _, _, .nil => .nil
  | _, _, 0, .cons _ r => .cons h r
  | _, _, n + 1, .cons a r => .cons a (RpA.set h n r)
theorem RpA.rev : ∀ {vs : List V} {us : List PyData}, RpA K M H vs us → RpA K M H vs.reverse us.reverse
  | _, _, .nil => .nil
  | _, _, .cons a r => by
    rw [List.reverse_cons, List.reverse_cons]
    exact (RpA.rev r).append (.cons a .nil)
theorem RpA.flat {vs : List V} {us : List PyData} (h : RpA K M H vs us) : ∀ n : Nat, RpA K M H (List.replicate n vs).flatten (List.replicate n us).flatten
  | 0 => .nil
  | n + 1 => by
    rw [List.replicate_succ, List.replicate_succ, List.flatten_cons, List.flatten_cons]
    exact h.append (RpA.flat h n)
mutual
theorem noD_lay : ∀ d : PyData, d.canLay0 = true → noD d = true
  | .none, _ => rfl
  | .bool _, _ => rfl
  | .int _, _ => rfl
  | .str _, _ => rfl
  | .list xs, h => noDs_lay xs (by simpa [PyData.canLay0] using h)
  | .tuple xs, h => noDs_lay xs (by simpa [PyData.canLay0] using h)
  | .dict _, h => nomatch h
theorem noDs_lay : ∀ ds : List PyData, PyData.canLayAll0 ds = true → noDs ds = true
  | [], _ => rfl
  | x :: xs, h => by
    have h' : x.canLay0 = true ∧ PyData.canLayAll0 xs = true := by simpa [PyData.canLayAll0] using h
    show (noD x && noDs xs) = true
    rw [noD_lay x h'.1, noDs_lay xs h'.2, Bool.and_self]
end
theorem noD_shaped {d : PyData} (h : SeqAt.shaped d = true) : noD d = true := noD_lay d (SeqAt.canLay_of_shaped h)
mutual
theorem noD_key : ∀ d : PyData, keyB d = true → noD d = true
  | .none, _ => rfl
  | .bool _, _ => rfl
  | .int _, _ => rfl
  | .str _, _ => rfl
  | .list xs, h => nomatch h
  | .tuple xs, h => noDs_key xs h
  | .dict _, h => nomatch h
theorem noDs_key : ∀ ds : List PyData, keysB ds = true → noDs ds = true
  | [], _ => rfl
  | x :: xs, h => by
    have h' : (keyB x && keysB xs) = true := h
    rw [Bool.and_eq_true] at h'
    show (noD x && noDs xs) = true
    rw [noD_key x h'.1, noDs_key xs h'.2, Bool.and_self]
end
mutual
theorem nm_key : ∀ d : PyData, nmB d = true → keyB d = true
  | .none, _ => rfl
  | .bool _, _ => rfl
  | .int _, _ => rfl
  | .str _, _ => rfl
  | .list xs, h => nomatch h
  | .tuple xs, h => nms_key xs h
  | .dict _, h => nomatch h
theorem nms_key : ∀ ds : List PyData, nmsB ds = true → keysB ds = true
  | [], _ => rfl
  | x :: xs, h => by
    have h' : (nmB x && nmsB xs) = true := h
    rw [Bool.and_eq_true] at h'
    show (keyB x && keysB xs) = true
    rw [nm_key x h'.1, nms_key xs h'.2, Bool.and_self]
end
/-- a key of a dict: a tuple, no text in it -/
theorem dKey_of {k : PyData} (h : dKey k = true) : tupKey k = true ∧ nmB k = true ∧ ∃ ks, k = .tuple ks := by
  cases k with
  | tuple ks =>
    have h : (nmsB ks && decide (PyData.depthAll ks < 8)) = true := h
    rw [Bool.and_eq_true] at h
    exact ⟨by show (keysB ks && decide (PyData.depthAll ks < 8)) = true; rw [nms_key ks h.1, h.2, Bool.and_self], h.1, ks, rfl⟩
  | _ => cases h
mutual
/-- data without dicts, as the library's relation says it -/
theorem Rp.dp : ∀ {v : V} {d : PyData}, Rp K M H v d → noD d = true → Dp K H v d
  | _, _, .non, _ => .non
  | _, _, .bl b, _ => .bl b
  | _, _, .int i, _ => .int i
  | _, _, .str x, _ => .str x
  | _, _, .lst n h r, e => .lst (.inl (.inl h)) (RpA.dp r e)
  | _, _, .tup h r, e => .tup h.sq (RpA.dp r e)
  | _, _, .dct _ _ _ _ _, e => nomatch e
  | _, _, .dks _ _ _ _ _ _, e => nomatch e
theorem RpA.dp : ∀ {vs : List V} {ds : List PyData}, RpA K M H vs ds → noDs ds = true → DpAll K H vs ds
  | _, _, .nil, _ => .nil
  | _, _, .cons h r, e => .cons (Rp.dp h ((Bool.and_eq_true _ _).mp e).1) (RpA.dp r ((Bool.and_eq_true _ _).mp e).2)
end
/-- a dict's object is no code object -/
theorem DX_code {a : Addr} {o : Obj} {q : Str} (h : ∃ es ep, o.data = .dict es ep) : DX a o ≠ LamX.CodeO a q := by
  intro z
  obtain ⟨es, ep, hd⟩ := h
  have e := HO.ext.inj z
  have e1 := congrFun e ⟨Array.replicate (a + 1) o, {}⟩
  have e2 : Heap.get? ⟨Array.replicate (a + 1) o, {}⟩ a = some o := by
    unfold Heap.get?
    rw [show ({ objs := Array.replicate (a + 1) o, life := {} } : Heap).objs[a]? = some o from by simp]
    obtain ⟨c, d, dt, sl⟩ := o
    simp only at hd
    subst hd
    rfl
  rw [e2] at e1
  obtain ⟨oc, vs, tk, h1, h2, _⟩ := e1.mp rfl
  cases h1
  rw [hd] at h2
  cases h2
theorem DX_ne {a : Addr} {o : Obj} : ∀ ps, DX a o ≠ .tbl ps := fun ps z => by cases z
theorem DX_frz {a : Addr} {o od : Obj} {u : HO} : DX a o ≠ .frz od u := fun z => by cases z
theorem EntOk.len {es : List DictEntry} {vs : List (V × V)} {ks : List PyData} (h : EntOk es vs ks) : es.length = ks.length ∧ vs.length = ks.length := by
  induction h with
  | nil => exact ⟨rfl, rfl⟩
  | cons _ _ _ ih => exact ⟨congrArg (· + 1) ih.1, congrArg (· + 1) ih.2⟩
theorem ext_code {a : Addr} {φ : Heap → Prop} {q : Str} {vs : Array Value} (o : Obj) (h : φ ⟨Array.replicate (a + 1) o, {}⟩) (hd : o.data = .fields vs) (h1 : vs[1]? = some .none) : HO.ext φ ≠ LamX.CodeO a q := by
  intro z
  have e1 := congrFun (HO.ext.inj z) ⟨Array.replicate (a + 1) o, {}⟩
  have e2 : Heap.get? ⟨Array.replicate (a + 1) o, {}⟩ a = some o := by
    unfold Heap.get?
    rw [show ({ objs := Array.replicate (a + 1) o, life := {} } : Heap).objs[a]? = some o from by simp]
    obtain ⟨c, d, dt, sl⟩ := o
    simp only at hd
    subst hd
    rfl
  obtain ⟨oc, ws, tk, q1, q2, q3⟩ := e1.mp h
  rw [e2] at q1
  cases q1
  rw [hd] at q2
  cases q2
  rw [h1] at q3
  cases q3
theorem rep_get {a : Addr} {o : Obj} {vs : Array Value} (hd : o.data = .fields vs) : Heap.get? ⟨Array.replicate (a + 1) o, {}⟩ a = some o := by
  unfold Heap.get?
  rw [show ({ objs := Array.replicate (a + 1) o, life := {} } : Heap).objs[a]? = some o from by simp]
  obtain ⟨c, d, dt, sl⟩ := o
  simp only at hd
  subst hd
  rfl
theorem exT_code {a C t : Addr} {q : Str} : ExT a C t ≠ LamX.CodeO a q := ext_code (PySem.HandSPX.excO C t) (rep_get rfl) rfl rfl
theorem exo_code {a C : Addr} {d : Option Addr} {q : Str} : exo a C d ≠ LamX.CodeO a q := ext_code { cls := .ref C, dict := d, data := .fields #[.ref 0, .none, .none, .none, .bool false, .none] } ⟨0, rep_get rfl⟩ rfl rfl
/-- what stands at a box -/
theorem BoxOk.held {a : Addr} {b : Box} (h : BoxOk K M H a b) : ∃ o, H a = some o ∧ (∀ ps, o ≠ .tbl ps) ∧ ∀ q, o ≠ LamX.CodeO a q := by
  cases b with
  | lst ds =>
    obtain ⟨xs, h1, _⟩ := h
    exact ⟨_, h1, fun ps z => (by cases z), fun q z => by unfold LamX.CodeO at z; cases z⟩
  | dct lk kvs =>
    rcases h with ⟨o, vs, h1, d, _⟩ | ⟨_, ws, h1, _⟩
    · split at h1
      · obtain ⟨od, h1⟩ := h1
        exact ⟨_, h1, fun ps z => (by cases z), fun q z => by unfold LamX.CodeO at z; cases z⟩
      · exact ⟨_, h1, DX_ne, fun q => DX_code (let ⟨es, ep, e, _⟩ := d.ent; ⟨es, ep, e⟩)⟩
    · exact ⟨_, h1, fun ps z => (by cases z), fun q z => by unfold LamX.CodeO at z; cases z⟩
  | ins c fs =>
    obtain ⟨dx, vs, h1, _⟩ := h
    exact ⟨_, h1, fun ps z => (by cases z), fun q z => by unfold LamX.CodeO at z; cases z⟩
  | bl us =>
    obtain ⟨vs, h1, _⟩ := h
    exact ⟨_, h1, fun ps z => (by cases z), fun q z => by unfold LamX.CodeO at z; cases z⟩
  | exc c z l =>
    rcases l with _ | ⟨f, p⟩
    · obtain ⟨t, h1, _⟩ := h
      exact ⟨_, h1, fun ps z => (by cases z), fun q => exT_code⟩
    · obtain ⟨dx, v, h1, _⟩ := h
      exact ⟨_, h1, fun ps z => (by cases z), fun q => exo_code⟩
/-- a box holds an object that is no table -/
theorem StOk.heldb {a : Addr} (s : StOk K T M S H) (h : a ∈ M.b) : ∃ o, H a = some o ∧ ∀ ps, o ≠ .tbl ps := by
  obtain ⟨i, hi⟩ := List.getElem?_of_mem h
  have hl : i < S.length := by rw [← s.len]; exact (List.getElem?_eq_some_iff.mp hi).1
  have hb := s.box i a S[i] hi (by simp [hl])
  obtain ⟨o, h1, h2, _⟩ := hb.held
  exact ⟨o, h1, h2⟩
theorem StOk.held {a : Addr} (s : StOk K T M S H) (h : a ∈ M) : ∃ o, H a = some o ∧ ∀ ps, o ≠ .tbl ps := by
  rcases h with h | h
  · exact s.heldb h
  · exact (s.xt a h).2
theorem StOk.free {p : Addr} (s : StOk K T M S H) (h : H p = none) : p ∉ M := fun z => by
  obtain ⟨o, e, _⟩ := s.held z
  rw [h] at e; cases e
theorem StOk.lt {i : Nat} {a : Addr} (s : StOk K T M S H) (h : M.b[i]? = some a) : ∃ b, S[i]? = some b ∧ BoxOk K M H a b := by
  have hl : i < S.length := by rw [← s.len]; exact (List.getElem?_eq_some_iff.mp h).1
  exact ⟨S[i], by simp [hl], s.box i a _ h (by simp [hl])⟩
/-- a list of data at a box is read -/
theorem StOk.lst {i : Nat} {a : Addr} {ds : List PyData} (s : StOk K T M S H) (h : M.b[i]? = some a) (e : S[i]? = some (.lst ds)) : ∃ xs, H a = some (.lst xs) ∧ RpA K M H xs ds :=
  s.box i a _ h e
theorem BoxOk.mono {a : Addr} {b : Box} (g : Gr M H M' H') (ha : H' a = H a) (h : BoxOk K M H a b) : BoxOk K M' H' a b := by
  cases b with
  | lst ds => obtain ⟨xs, e, r⟩ := h; exact ⟨xs, by rw [ha]; exact e, r.mono g⟩
  | dct lk kvs =>
    rcases h with ⟨o, vs, h1, d, r, q⟩ | ⟨l, ws, h1, e, k, r, q⟩
    · exact .inl ⟨o, vs, by rw [ha]; exact h1, d, r.mono g, q.mono g⟩
    · exact .inr ⟨l, ws, by rw [ha]; exact h1, e, k, r.mono g, q.mono g⟩
  | ins c fs =>
    obtain ⟨dx, vs, h1, e, r⟩ := h
    exact ⟨dx, vs, by rw [ha]; exact h1, e, r.mono g⟩
  | bl us => obtain ⟨vs, e, r⟩ := h; exact ⟨vs, by rw [ha]; exact e, r.mono g⟩
  | exc c z l =>
    rcases l with _ | ⟨f, p⟩
    · obtain ⟨t, h1, n, h2⟩ := h
      exact ⟨t, by rw [ha]; exact h1, (g.at_ h2 n fun ps z => by cases z).1, (g.at_ h2 n fun ps z => by cases z).2⟩
    · obtain ⟨dx, v, h1, n, h2, r⟩ := h
      exact ⟨dx, v, by rw [ha]; exact h1, (g.at_ h2 n fun ps z => by cases z).1, (g.at_ h2 n fun ps z => by cases z).2, r.mono g⟩
theorem upd_dom {p a : Addr} {o : HO} (h : (∀ ps, o ≠ .tbl ps) ∨ NoT H p) (z : NoT (upd H p o) a) : NoT H a := by
  by_cases q : a = p
  · subst q
    rcases h with h | h
    · exact (z.ne upd_same h).elim
    · exact h
  · unfold NoT at z ⊢
    rw [upd_ne q] at z
    exact z
/-- a new object is laid -/
theorem gr_new {p : Addr} {o : HO} (s : StOk K T M S H) (h : H p = none) : Gr M H M (upd H p o) where
  pre := List.prefix_refl _
  ext := fun _ z => z
  keep := fun a u e _ _ => by rw [upd_ne (ne_of_none e h)]; exact e
  new := fun a z => .inl z
  newb := fun a z => .inl z
  dom := fun a z => upd_dom (.inr (.inl h)) z
  frz := fun a o u e => by rw [upd_ne (ne_of_none e h)]; exact e
theorem xt_new {p : Addr} {o : HO} (s : StOk K T M S H) (h : H p = none) {a : Addr} (ha : a ∈ M.x) : ∃ u, upd H p o a = some u ∧ ∀ ps, u ≠ .tbl ps := by
  obtain ⟨_, u, e, t⟩ := s.xt a ha
  exact ⟨u, by rw [upd_ne (ne_of_none e h)]; exact e, t⟩
theorem st_new {p : Addr} {o : HO} (s : StOk K T M S H) (h : H p = none) : StOk K T M S (upd H p o) where
  len := s.len
  nd := s.nd
  box := fun i a b e1 e2 => (s.box i a b e1 e2).mono (gr_new s h) (by
    rw [upd_ne]
    rintro rfl
    exact s.free h (.inl (List.mem_of_getElem? e1)))
  xt := fun a ha => ⟨(s.xt a ha).1, xt_new s h ha⟩
  tab := s.tab.ext fun b u e => by rw [upd_ne (ne_of_none e h)]; exact e
  old := s.old
/-- .. and is a box from now on -/
theorem gr_box {p : Addr} {o : HO} (s : StOk K T M S H) (h : H p = none) : Gr M H (M.add p) (upd H p o) where
  pre := List.prefix_append _ _
  ext := fun _ z => z
  keep := (gr_new s h).keep
  new := fun a z => by
    rcases z with z | z
    · rcases List.mem_append.mp z with z | z
      · exact .inl (.inl z)
      · have e : a = p := by simpa using z
        subst e
        exact .inr (.inl h)
    · exact .inl (.inr z)
  newb := fun a z => by
    rcases List.mem_append.mp z with z | z
    · exact .inl z
    · have e : a = p := by simpa using z
      subst e
      exact .inr (.inl h)
  dom := (gr_new s h).dom
  frz := (gr_new s h).frz
/-- a new object that is a box: what it is stands already -/
theorem st_boxG {p : Addr} {o : HO} {bx : Box} (s : StOk K T M S H) (h : H p = none) (r : BoxOk K (M.add p) (upd H p o) p bx) (hb : bx.below S.length) : StOk K T (M.add p) (S ++ [bx]) (upd H p o) where
  len := by show (M.b ++ [p]).length = _; simp [s.len]
  nd := by
    show (M.b ++ [p]).Nodup
    rw [List.nodup_append]
    refine ⟨s.nd, by simp, fun a ha b hb => ?_⟩
    have e : b = p := by simpa using hb
    subst e
    rintro rfl
    exact s.free h (.inl ha)
  box := fun i a b e1 e2 => by
    have e3 : (M.b ++ [p])[i]? = some a := e1
    clear e1
    by_cases hi : i < M.b.length
    · rw [List.getElem?_append_left hi] at e3
      rw [List.getElem?_append_left (by rw [← s.len]; exact hi)] at e2
      exact (s.box i a b e3 e2).mono (gr_box s h) (by
        rw [upd_ne]
        rintro rfl
        exact s.free h (.inl (List.mem_of_getElem? e3)))
    · have hi' : i = M.b.length := by
        have := (List.getElem?_eq_some_iff.mp e3).1
        simp at this
        omega
      subst hi'
      rw [List.getElem?_append_right (Nat.le_refl _)] at e3
      rw [List.getElem?_append_right (by rw [s.len]; exact Nat.le_refl _)] at e2
      simp at e3
      rw [s.len] at e2
      simp at e2
      subst e3 e2
      exact r
  xt := fun a ha => ⟨fun z => by
    rcases List.mem_append.mp z with z | z
    · exact (s.xt a ha).1 z
    · have e : a = p := by simpa using z
      subst e
      exact s.free h (.inr ha), xt_new s h ha⟩
  tab := (st_new s h).tab
  old := fun i b e => by
    by_cases hi : i < S.length
    · rw [List.getElem?_append_left hi] at e
      exact s.old i b e
    · have hl := (List.getElem?_eq_some_iff.mp e).1
      rw [List.length_append] at hl
      have hi' : i = S.length := by simp at hl; omega
      subst hi'
      rw [List.getElem?_append_right (Nat.le_refl _)] at e
      simp at e
      subst e
      exact hb
theorem st_box {p : Addr} {xs : List V} {ds : List PyData} (s : StOk K T M S H) (h : H p = none) (r : RpA K M H xs ds) : StOk K T (M.add p) (S ++ [.lst ds]) (upd H p (.lst xs)) :=
  st_boxG s h ⟨xs, upd_same, r.mono (gr_box s h)⟩ True.intro
/-- a new list that is being made: nobody may hand it out -/
theorem gr_hide {p : Addr} {o : HO} (s : StOk K T M S H) (h : H p = none) : Gr M H (M.hide p) (upd H p o) where
  pre := List.prefix_refl _
  ext := fun _ z => List.mem_cons_of_mem _ z
  keep := (gr_new s h).keep
  new := fun a z => by
    rcases z with z | z
    · exact .inl (.inl z)
    · rcases List.mem_cons.mp z with e | z
      · subst e
        exact .inr (.inl h)
      · exact .inl (.inr z)
  newb := fun a z => .inl z
  dom := (gr_new s h).dom
  frz := (gr_new s h).frz
theorem st_hideG {p : Addr} {o : HO} (s : StOk K T M S H) (h : H p = none) (ho : ∀ ps, o ≠ .tbl ps) : StOk K T (M.hide p) S (upd H p o) where
  len := s.len
  nd := s.nd
  box := fun i a b e1 e2 => (s.box i a b e1 e2).mono (gr_hide s h) (by
    rw [upd_ne]
    rintro rfl
    exact s.free h (.inl (List.mem_of_getElem? e1)))
  xt := fun a ha => by
    rcases List.mem_cons.mp ha with e | ha
    · subst e
      exact ⟨fun z => s.free h (.inl z), _, upd_same, ho⟩
    · exact ⟨(s.xt a ha).1, xt_new s h ha⟩
  tab := (st_new s h).tab
  old := s.old
theorem st_hide {p : Addr} {xs : List V} (s : StOk K T M S H) (h : H p = none) : StOk K T (M.hide p) S (upd H p (.lst xs)) := st_hideG s h fun ps z => by cases z
theorem nd_ix {l : List Addr} {i j : Nat} {a : Addr} (nd : l.Nodup) (h1 : l[i]? = some a) (h2 : l[j]? = some a) : i = j := by
  obtain ⟨x, e1⟩ := List.getElem?_eq_some_iff.mp h1
  obtain ⟨y, e2⟩ := List.getElem?_eq_some_iff.mp h2
  exact (List.getElem_inj nd).mp (e1.trans e2.symm)
/-- an object that nobody hands out is written -/
theorem gr_wr {a : Addr} {o : HO} (m : Ms) (h : a ∈ m.b) (ht : ∀ ps, o ≠ .tbl ps) (hz : ∀ od u, H a ≠ some (.frz od u)) : Gr m H m (upd H a o) where
  pre := List.prefix_refl _
  ext := fun _ z => z
  keep := fun b u e n _ => by
    rw [upd_ne]
    · exact e
    · rintro rfl
      exact n h
  new := fun a z => .inl z
  newb := fun a z => .inl z
  dom := fun b z => upd_dom (.inl ht) z
  frz := fun b od u e => by
    rw [upd_ne]
    · exact e
    · rintro rfl
      exact hz od u e
theorem tab_wr {a : Addr} {o u : HO} (t : LamX.Tabs T H) (e : H a = some u) (n : ∀ ps, u ≠ .tbl ps) (nc : ∀ q, u ≠ LamX.CodeO a q) : LamX.Tabs T (upd H a o) := fun p hp => by
  obtain ⟨ps, t1, t2, t3⟩ := t p hp
  have na : ∀ b v, H b = some v → v ≠ u → b ≠ a := fun b v hb hv z => by
    subst z
    rw [e] at hb
    exact hv (Option.some.inj hb).symm
  refine ⟨ps, by rw [upd_ne (na _ _ t1 fun z => n ps z.symm)]; exact t1, t2, fun pos cv hc => ?_⟩
  obtain ⟨c, e1, e2⟩ := t3 pos cv hc
  refine ⟨c, e1, ?_⟩
  rw [upd_ne]
  · exact e2
  · rintro rfl
    rw [e] at e2
    exact nc _ (Option.some.inj e2)
theorem lst_code {xs : List V} {a : Addr} {q : Str} : HO.lst xs ≠ LamX.CodeO a q := fun z => by
  unfold LamX.CodeO at z
  cases z
/-- a box is written -/
theorem st_putG {i : Nat} {a : Addr} {o : HO} {bx : Box} (s : StOk K T M S H) (h : M.b[i]? = some a) (hz : ∀ od u, H a ≠ some (.frz od u)) (ho : ∀ ps, o ≠ .tbl ps) (r : BoxOk K M (upd H a o) a bx) (hbw : bx.below i) : StOk K T M (S.set i bx) (upd H a o) where
  len := by rw [List.length_set]; exact s.len
  nd := s.nd
  box := fun j b x e1 e2 => by
    have g : Gr M H M (upd H a o) := gr_wr M (List.mem_of_getElem? h) ho hz
    by_cases hj : i = j
    · subst hj
      rw [h] at e1; cases e1
      have hl : i < S.length := by rw [← s.len]; exact (List.getElem?_eq_some_iff.mp h).1
      rw [List.getElem?_set_self hl] at e2
      cases e2
      exact r
    · rw [List.getElem?_set_ne hj] at e2
      refine (s.box j b x e1 e2).mono g ?_
      rw [upd_ne]
      rintro rfl
      exact hj (nd_ix s.nd h e1)
  xt := fun b hb => ⟨(s.xt b hb).1, by
    obtain ⟨n, u, e, t⟩ := s.xt b hb
    exact ⟨u, by rw [upd_ne (fun z => n (by rw [z]; exact List.mem_of_getElem? h))]; exact e, t⟩⟩
  tab := by
    obtain ⟨b, _, hb⟩ := s.lt h
    obtain ⟨u, h1, h2, h3⟩ := hb.held
    exact tab_wr s.tab h1 h2 h3
  old := fun j b e => by
    by_cases hj : i = j
    · subst hj
      have hl : i < S.length := by rw [← s.len]; exact (List.getElem?_eq_some_iff.mp h).1
      rw [List.getElem?_set_self hl] at e
      cases e
      exact hbw
    · rw [List.getElem?_set_ne hj] at e
      exact s.old j b e
theorem lst_frz {a : Addr} {xs : List V} (h : H a = some (.lst xs)) : ∀ od u, H a ≠ some (.frz od u) := fun od u z => by
  rw [h] at z
  cases z
/-- a box of data is written -/
theorem st_put {i : Nat} {a : Addr} {xs ys : List V} {ds : List PyData} (s : StOk K T M S H) (h : M.b[i]? = some a) (hl : H a = some (.lst ys)) (r : RpA K M H xs ds) : StOk K T M (S.set i (.lst ds)) (upd H a (.lst xs)) :=
  st_putG s h (lst_frz hl) (fun ps z => by cases z) ⟨xs, upd_same, r.mono (gr_wr M (List.mem_of_getElem? h) (fun ps z => by cases z) (lst_frz hl))⟩ True.intro
/-- more objects, and tables that have grown -/
theorem gr_ext (e : LamX.ExtN H H') : Gr M H M H' where
  pre := List.prefix_refl _
  ext := fun _ z => z
  keep := fun a o h _ t => e a o h t
  new := fun a z => .inl z
  newb := fun a z => .inl z
  dom := fun a z => by
    cases h : H a with
    | none => exact .inl h
    | some o =>
      by_cases t : ∀ ps, o ≠ .tbl ps
      · exact (z.ne (e a o h t) t).elim
      · have : ∃ ps, o = .tbl ps := Classical.byContradiction fun q => t fun ps z => q ⟨ps, z⟩
        obtain ⟨ps, rfl⟩ := this
        exact .inr ⟨ps, h⟩
  frz := fun a o u h => e a _ h fun ps z => by cases z
theorem st_ext (s : StOk K T M S H) (e : LamX.ExtN H H') (t : LamX.Tabs T H') : StOk K T M S H' where
  len := s.len
  nd := s.nd
  box := fun i a b e1 e2 => (s.box i a b e1 e2).mono (gr_ext e) (by
    obtain ⟨o, h, q⟩ := s.heldb (List.mem_of_getElem? e1)
    rw [h, e a o h q])
  xt := fun a ha => by
    obtain ⟨n, o, h, q⟩ := s.xt a ha
    exact ⟨n, o, e a o h q, q⟩
  tab := t
  old := s.old
/-! ### less is kept from being handed out -/
mutual
theorem Rp.less (l : ∀ a, a ∈ M' → a ∈ M) : ∀ {v : V} {d : PyData}, Rp K M H v d → Rp K M' H v d
  | _, _, .non => .non
  | _, _, .bl b => .bl b
  | _, _, .int i => .int i
  | _, _, .str x => .str x
  | _, _, .lst n h r => .lst (fun z => n (l _ z)) h (RpA.less l r)
  | _, _, .tup h r => .tup (h.imp (fun z => ⟨fun y => z.1 (l _ y), z.2⟩) id) (RpA.less l r)
  | _, _, .dct n h d r q => .dct (fun z => n (l _ z)) h d (RpA.less l r) (RpA.less l q)
  | _, _, .dks n h e k r q => .dks (fun z => n (l _ z)) h e k (RpA.less l r) (RpA.less l q)
theorem RpA.less (l : ∀ a, a ∈ M' → a ∈ M) : ∀ {vs : List V} {ds : List PyData}, RpA K M H vs ds → RpA K M' H vs ds
  | _, _, .nil => .nil
  | _, _, .cons h r => .cons (Rp.less l h) (RpA.less l r)
end
theorem EnvOk.mono (g : Gr M H M' H') (e : EnvOk K ρ σ M H) : EnvOk K ρ σ M' H' := ⟨e.len, fun i u h => let ⟨v, h1, h2⟩ := e.at_ i u h; ⟨v, h1, h2.mono g⟩⟩
theorem EnvOk.set {i : Nat} {v : V} {u : U} (e : EnvOk K ρ σ M H) (h : RU K M H v u) : EnvOk K (ρ.set i (some u)) (σ.set i (some v)) M H := by
  refine ⟨by simp [e.len], fun j w hj => ?_⟩
  by_cases hji : i = j
  · subst hji
    have hl : i < ρ.length := by
      have := (List.getElem?_eq_some_iff.mp hj).1
      simpa using this
    rw [List.getElem?_set_self hl] at hj
    have e' : w = u := by
      have := Option.some.inj hj
      exact (Option.some.inj this).symm
    subst e'
    exact ⟨v, by rw [List.getElem?_set_self (by rw [← e.len]; exact hl)], h⟩
  · rw [List.getElem?_set_ne hji] at hj
    obtain ⟨x, h1, h2⟩ := e.at_ j w hj
    exact ⟨x, by rw [List.getElem?_set_ne hji]; exact h1, h2⟩
theorem EnvOk.unset {i : Nat} (e : EnvOk K ρ σ M H) : EnvOk K (ρ.set i none) (σ.set i none) M H := by
  refine ⟨by simp [e.len], fun j w hj => ?_⟩
  by_cases hji : i = j
  · subst hji
    have hl : i < ρ.length := by
      have := (List.getElem?_eq_some_iff.mp hj).1
      simpa using this
    rw [List.getElem?_set_self hl] at hj
    cases hj
  · rw [List.getElem?_set_ne hji] at hj
    obtain ⟨x, h1, h2⟩ := e.at_ j w hj
    exact ⟨x, by rw [List.getElem?_set_ne hji]; exact h1, h2⟩
theorem EnvOk.wipe (e : EnvOk K ρ σ M H) : ∀ vs : List Nat, EnvOk K (wipe ρ vs) (L2.wipe σ vs) M H
  | [] => e
  | v :: vs => by
    unfold Ev.wipe L2.wipe
    exact (EnvOk.wipe e vs).unset
/-- the error's own dict, if it has one, stands -/
def Dic (d : Option Addr) (H : Hp) : Prop := ∀ dd, d = some dd → ∃ fs, H dd = some (.xd fs)
theorem dic_none {H : Hp} : Dic none H := fun dd h => by cases h
/-- what an evaluation hands on -/
def Out {α β : Type} (K : W.Frag) (T : List (Addr × Str)) (cl : Nat → Option Addr) (E : XK) (M : Ms) (H : Hp) (r : R α) (rel : Ms → Hp → β → α → Prop) (Q : β → Hp → Prop) : Prop :=
  match r with
  | .ok a S => ∀ b M' H', Gr M H M' H' → StOk K T M' S H' → rel M' H' b a → Q b H'
  | .exc c S => ∃ C, cl c = some C ∧ ∀ d M' H', Dic d H' → Gr M H M' H' → StOk K T M' S H' → E (.ref C) d H'
  | .bad => False
theorem Out.ok {α β : Type} {cl : Nat → Option Addr} {E : XK} {a : α} {rel : Ms → Hp → β → α → Prop} {Q : β → Hp → Prop} {b : β} (h : Out K T cl E M H (.ok a S) rel Q) (g : Gr M H M' H') (s : StOk K T M' S H') (r : rel M' H' b a) : Q b H' := h b M' H' g s r
/-- an evaluation behind another one -/
theorem Out.bind {α α' β β' : Type} {cl : Nat → Option Addr} {E : XK} {r : R α} {f : α → Store → R α'} {rel : Ms → Hp → β → α → Prop} {rel' : Ms → Hp → β' → α' → Prop} {Q : β' → Hp → Prop}
    (h : Out K T cl E M H (r.bind f) rel' Q) : Out K T cl E M H r rel fun b H1 => ∃ M1 S1 a, Gr M H M1 H1 ∧ StOk K T M1 S1 H1 ∧ rel M1 H1 b a ∧ Out K T cl E M1 H1 (f a S1) rel' Q := by
  cases r with
  | ok a S => 
    intro b M1 H1 g s q
    refine ⟨M1, S, a, g, s, q, ?_⟩
    have h' : Out K T cl E M H (f a S) rel' Q := h
    cases e : f a S with
    | ok a2 S2 =>
      rw [e] at h'
      exact fun b2 M2 H2 g2 s2 q2 => h' b2 M2 H2 (g.trans g2) s2 q2
    | exc c S2 =>
      rw [e] at h'
      obtain ⟨C, hC, h'⟩ := h'
      exact ⟨C, hC, fun d M2 H2 hd g2 s2 => h' d M2 H2 hd (g.trans g2) s2⟩
    | bad =>
      rw [e] at h'
      exact h'
  | exc c S => exact h
  | bad => exact h
theorem Out.mono {α β : Type} {cl : Nat → Option Addr} {E : XK} {r : R α} {rel : Ms → Hp → β → α → Prop} {Q Q' : β → Hp → Prop} (h : Out K T cl E M H r rel Q) (q : ∀ b H', Q b H' → Q' b H') : Out K T cl E M H r rel Q' := by
  cases r with
  | ok a S => exact fun b M1 H1 g s r => q _ _ (h b M1 H1 g s r)
  | exc c S => exact h
  | bad => exact h
/-- from a later state -/
theorem Out.later {α β : Type} {cl : Nat → Option Addr} {E : XK} {r : R α} {rel : Ms → Hp → β → α → Prop} {Q : β → Hp → Prop} (h : Out K T cl E M H r rel Q) (g : Gr M H M' H') : Out K T cl E M' H' r rel Q := by
  cases r with
  | ok a S => exact fun b M1 H1 g1 s r => h b M1 H1 (g.trans g1) s r
  | exc c S =>
    obtain ⟨C, hC, h⟩ := h
    exact ⟨C, hC, fun d M1 H1 hd g1 s => h d M1 H1 hd (g.trans g1) s⟩
  | bad => exact h
end
end Ev
end

section
set_option Elab.async false
set_option linter.all false
set_option autoImplicit false
set_option maxRecDepth 100000
set_option maxHeartbeats 4000000
/-! # Operators, subscripts, built-ins, methods: by values -/
namespace Ev
open PySem PySem.Spec PyProof.Rows L2

/-- a dict's keys stand at a -/
def DKs (K : W.Frag) (M : Ms) (H : Hp) (a : Addr) (ks : List PyData) : Prop :=
  (∃ o vs, Rd H a (DX a o) ∧ DObj a o vs ks ∧ RpA K M H (vs.map Prod.fst) ks) ∨
    ∃ ws : List (Key × V), H a = some (.dK ws) ∧ ks ≠ [] ∧ (∀ k, k ∈ ks → sKey k = true) ∧ RpA K M H (ws.map fun q => kV q.1) ks
/-- a dict stands at a, its values as they are -/
def DAt (K : W.Frag) (M : Ms) (H : Hp) (a : Addr) (kvs : List (PyData × U)) : Prop :=
  (∃ o vs, Rd H a (DX a o) ∧ DObj a o vs (kvs.map Prod.fst) ∧ RpA K M H (vs.map Prod.fst) (kvs.map Prod.fst) ∧ RUs K M H (vs.map Prod.snd) (kvs.map Prod.snd)) ∨
    ∃ ws : List (Key × V), H a = some (.dK ws) ∧ kvs ≠ [] ∧ (∀ k, k ∈ kvs.map Prod.fst → sKey k = true) ∧ RpA K M H (ws.map fun q => kV q.1) (kvs.map Prod.fst) ∧ RUs K M H (ws.map Prod.snd) (kvs.map Prod.snd)
/-- read at a place of the heap, perhaps a box -/
def Rs (K : W.Frag) (M : Ms) (H : Hp) (v : V) : PyData → Prop
  | .list ds => ∃ a xs, v = .ref a ∧ H a = some (.lst xs) ∧ RpA K M H xs ds
  | .dict ds => ∃ a, v = .ref a ∧ DKs K M H a (ds.map Prod.fst)
  | p => Rp K M H v p
theorem derefKV_keys {S : Store} : ∀ {kvs : List (PyData × U)} {ds : List (PyData × PyData)}, derefKV S kvs = some ds → ds.map Prod.fst = kvs.map Prod.fst
  | [], _, h => by cases h; rfl
  | q :: r, ds, h => by
    unfold derefKV at h
    cases e : derefV S q.2 with
    | none => rw [e] at h; cases h
    | some p =>
      rw [e] at h
      have h : (derefKV S r).map ((q.1, p) :: ·) = some ds := h
      cases e2 : derefKV S r with
      | none => rw [e2] at h; cases h
      | some rs =>
        rw [e2] at h
        cases h
        show q.1 :: rs.map Prod.fst = _
        rw [derefKV_keys e2]
        rfl
section
variable {K : W.Frag} {T : List (Addr × Str)} {cl : Nat → Option Addr} {E : XK} {M : Ms} {S : Store} {H : Hp} {v : V} {u : U} {p : PyData}
theorem Rp.rs (h : Rp K M H v p) : Rs K M H v p := by
  cases h with
  | lst n r a => exact ⟨_, _, rfl, r, a⟩
  | tup t a => exact .tup t a
  | non => exact .non
  | bl b => exact .bl b
  | int i => exact .int i
  | str x => exact .str x
  | dct n h d r q => exact ⟨_, rfl, .inl ⟨_, _, h, d, r⟩⟩
  | dks n h e k r q => exact ⟨_, rfl, .inr ⟨_, h, fun z => e (List.map_eq_nil_iff.mp z), k, r⟩⟩
theorem rus_d : ∀ {vs : List V} {ds : List PyData}, RpA K M H vs ds → RUs K M H vs (ds.map .d)
  | _, _, .nil => .nil
  | _, _, .cons a r => .cons a (rus_d r)
theorem Rd_if {a : Addr} {o : Obj} {lk : Bool} (h : if lk = true then ∃ od, H a = some (.frz od (DX a o)) else H a = some (DX a o)) : Rd H a (DX a o) := by
  split at h
  · exact .inr h
  · exact .inl h
theorem map_nil {α β : Type} {f : α → β} {l : List α} (h : l.map f = []) : l = [] := List.map_eq_nil_iff.mp h
theorem BoxOk.dat {a : Addr} {lk : Bool} {kvs : List (PyData × U)} (h : BoxOk K M H a (.dct lk kvs)) : DAt K M H a kvs := by
  rcases h with ⟨o, vs, h1, d, r, q⟩ | ⟨_, ws, h1, e, k, r, q⟩
  · exact .inl ⟨o, vs, Rd_if h1, d, r, q⟩
  · exact .inr ⟨ws, h1, e, k, r, q⟩
theorem DAt.ks {a : Addr} {kvs : List (PyData × U)} (h : DAt K M H a kvs) : DKs K M H a (kvs.map Prod.fst) := by
  rcases h with ⟨o, vs, h1, d, r, q⟩ | ⟨ws, h1, e, k, r, q⟩
  · exact .inl ⟨o, vs, h1, d, r⟩
  · exact .inr ⟨ws, h1, fun z => e (map_nil z), k, r⟩
theorem dct_of {kvs : List (PyData × U)} (h : RU K M H v u) (s : StOk K T M S H) (e : dctOf S u = some kvs) : ∃ a, v = .ref a ∧ DAt K M H a kvs := by
  cases u with
  | d p =>
    cases p with
    | dict ds =>
      cases e
      have e1 : (ds.map fun q => (q.1, U.d q.2)).map Prod.fst = ds.map Prod.fst := by rw [List.map_map]; rfl
      have e2 : (ds.map fun q => (q.1, U.d q.2)).map Prod.snd = (ds.map Prod.snd).map U.d := by rw [List.map_map, List.map_map]; rfl
      cases (show Rp K M H v (.dict ds) from h) with
      | dct n h2 d r q => exact ⟨_, rfl, .inl ⟨_, _, h2, by rw [e1]; exact d, by rw [e1]; exact r, by rw [e2]; exact rus_d q⟩⟩
      | dks n h2 e k r q => exact ⟨_, rfl, .inr ⟨_, h2, fun z => e (map_nil z), by rw [e1]; exact k, by rw [e1]; exact r, by rw [e2]; exact rus_d q⟩⟩
    | _ => cases e
  | ref i =>
    obtain ⟨a, e1, rfl⟩ := h
    obtain ⟨b, e2, hb⟩ := s.lt e1
    simp only [dctOf, e2] at e
    cases b with
    | dct lk ks => cases e; exact ⟨a, rfl, hb.dat⟩
    | _ => cases e
  | _ => cases e
theorem rs_of (h : RU K M H v u) (s : StOk K T M S H) (e : deref S u = some p) : Rs K M H v p := by
  cases u with
  | d q => cases e; exact Rp.rs h
  | ref i =>
    obtain ⟨a, e1, rfl⟩ := h
    obtain ⟨b, e2, hb⟩ := s.lt e1
    simp only [deref, e2] at e
    cases b with
    | lst ds =>
      cases e
      obtain ⟨xs, e3, r⟩ := hb
      exact ⟨a, xs, rfl, e3, r⟩
    | dct lk kvs =>
      have e : (derefKV S kvs).map PyData.dict = some p := e
      cases e3 : derefKV S kvs with
      | none => rw [e3] at e; cases e
      | some ds =>
        rw [e3] at e
        cases e
        refine ⟨a, rfl, ?_⟩
        rw [derefKV_keys e3]
        exact hb.dat.ks
    | ins _ _ => cases e
    | bl _ => cases e
    | exc _ _ _ => cases e
  | scr ns => cases e
  | obj a => cases e
  | it ds => cases e
theorem Rs.dp (h : Rs K M H v p) (e : noD p = true) : Dp K H v p := by
  cases p with
  | list ds => obtain ⟨a, xs, rfl, r, q⟩ := h; exact .lst (.inl (.inl r)) (q.dp e)
  | none => exact Rp.dp h e
  | bool b => exact Rp.dp h e
  | int i => exact Rp.dp h e
  | str x => exact Rp.dp h e
  | tuple ds => exact Rp.dp h e
  | dict kvs => cases e
theorem Rs.int {i : Int} (h : Rs K M H v (.int i)) : v = .int i := by cases h; rfl
theorem Rs.bool {i : Bool} (h : Rs K M H v (.bool i)) : v = .bl i := by cases h; rfl
theorem Rs.str {i : Str} (h : Rs K M H v (.str i)) : v = .str i := by cases h; rfl
theorem Rs.none (h : Rs K M H v .none) : v = .non := by cases h; rfl
theorem Rs.tup {ds : List PyData} (h : Rs K M H v (.tuple ds)) : ∃ a xs, v = .ref a ∧ TupAt K M H a xs ∧ RpA K M H xs ds := by
  cases h with
  | tup t r => exact ⟨_, _, rfl, t, r⟩
/-- what is wanted of data that come out -/
def Wish (K : W.Frag) (T : List (Addr × Str)) (M : Ms) (S : Store) (H : Hp) (p : PyData) (Q : VK) : Prop := ∀ v M' H', Gr M H M' H' → StOk K T M' S H' → Rp K M' H' v p → Q v H'
theorem out_data {o : Option PyData} {Q : VK} (h : Out K T cl E M H (R.of S (o.map U.d)) (RU K) Q) : ∃ p, o = some p ∧ Wish K T M S H p Q := by
  cases o with
  | none => exact h.elim
  | some p => exact ⟨p, rfl, h⟩
theorem out_bool {o : Option Bool} {Q : VK} (h : Out K T cl E M H (R.of S (o.map fun b => U.d (.bool b))) (RU K) Q) : ∃ b, o = some b ∧ Wish K T M S H (.bool b) Q := by
  cases o with
  | none => exact h.elim
  | some p => exact ⟨p, rfl, h⟩
theorem bind2 {α β γ : Type} {o : Option α} {q : Option β} {f : α → β → Option γ} {r : γ} (h : (o.bind fun a => q.bind fun b => f a b) = some r) : ∃ a b, o = some a ∧ q = some b ∧ f a b = some r := by
  cases o with
  | none => cases h
  | some a => cases q with
    | none => cases h
    | some b => exact ⟨a, b, rfl, rfl, h⟩
theorem Wish.here {Q : VK} (w : Wish K T M S H p Q) (s : StOk K T M S H) (r : Rp K M H v p) : Q v H := w v M H (Gr.refl _ _) s r
theorem Wish.list {Q : VK} {xs : List V} {ds : List PyData} {q : Addr} (w : Wish K T M S H (.list ds) Q) (s : StOk K T M S H) (hq : H q = none) (r : RpA K M H xs ds) : Q (.ref q) (upd H q (.lst xs)) :=
  w _ M _ (gr_new s hq) (st_new s hq) (.lst (s.free hq) upd_same (r.mono (gr_new s hq)))
/-- a new tuple, its object known -/
abbrev NewT (xs : List V) (H : Hp) (Q : VK) : Prop := ∀ q (o : Obj), o.dict = none → H q = none → Q (.ref q) (upd H q (.frz o (.tup xs)))
theorem Wish.tuple {Q : VK} {xs : List V} {ds : List PyData} (w : Wish K T M S H (.tuple ds) Q) (s : StOk K T M S H) (r : RpA K M H xs ds) : NewT xs H Q := fun q o d hq =>
  w _ M _ (gr_new s hq) (st_new s hq) (.tup (.inl ⟨s.free hq, o, d, upd_same⟩) (r.mono (gr_new s hq)))
abbrev tupO (its : List Value) : Obj := { cls := .type "tuple", data := .seq its.toArray }
theorem new_tup {X : Cx} {pins : List (Addr × Obj)} {σ : L2.St} {H : Hp} {s : Shared} {xs : List V} {its : List Value} {Q : VK} (I : Inv X pins σ H s) (r : Vals xs its) (hz : xs.length ≤ sizeLine) (q : NewT xs H Q) :
    EP X pins σ Q (.ref s.heap.objs.size) { s with heap := s.heap.push (tupO its) } :=
  ⟨.ref s.heap.objs.size, _, I.laid (t' := s.toks) (o := .frz (tupO its) (.tup xs)) (fun b ob e => Heap.get?_push_of_some _ e) (Nat.le_refl _) ⟨Heap.get?_push_size _ rfl, hz, its, r, IsTup.new _ _⟩, rfl, q _ _ rfl (I.hok.fresh (Nat.le_refl _))⟩
end

/-- a two-place operation, by the little language's -/
def rOp (K : W.Frag) (T : List (Addr × Str)) (cl : Nat → Option Addr) (E : XK) (f : U → U → Store → R U) : R2 := fun x y H Q =>
  ∃ M S u w, RU K M H x u ∧ RU K M H y w ∧ StOk K T M S H ∧ Out K T cl E M H (f u w S) (RU K) Q

section
variable {X : Cx} {T : List (Addr × Str)} {cl : Nat → Option Addr} {E : XK} {pins : List (Addr × Obj)} {s : Shared} {σ : L2.St} {H : Hp}
theorem add_gen (l : Addr) (items : Array Value) (n : Nat) (b : Addr) (items2 : Array Value) (n2 : Nat) (dd : Option Addr) (sl : Array (Option Value)) (hsz : items.size + items2.size ≤ sizeLine) :
    Meets (Builtin.«list.__add__» ⟨[.ref l, .ref b], []⟩) (fun _ R s => s.heap.get? l = some { cls := .type "list", data := .seq items n } ∧ s.heap.get? b = some { cls := .type "list", dict := dd, data := .seq items2 n2, slots := sl } ∧
      R (.ok (.ret (Value.ref s.heap.objs.size))) { s with heap := s.heap.push { cls := Value.type "list", data := Data.seq (items ++ items2) } }) :=
  .of_wp fun prog w A R s h => by
    obtain ⟨hp, g, d, tk, os⟩ := s
    obtain ⟨hl, hb, q⟩ := h
    have f1 := AutoSeq1.idx_int
    have f2 := AutoSeq1.sub_list_list
    wp_walk using AutoSeq1.wpAny_loadPart' hl, AutoSeq1.wpAny_loadPart' hb
    exact ⟨_, rfl, q⟩
/-- a list and the script -/
theorem op_catR : OpR X (binaryOp .Add) (fun x y H Q => ∃ l b xs zs, x = .ref l ∧ y = .ref b ∧ H l = some (.lst xs) ∧ SqL X.K H b zs ∧ xs.length + zs.length ≤ sizeLine ∧ ∀ p, H p = none → Q (.ref p) (upd H p (.lst (xs ++ zs)))) := by
  intro pins s σ H x y v u Q I rx ry ⟨l, b, xs, zs, ex, ey, hH, hB, hz, q⟩
  subst ex ey
  cases rx
  cases ry
  obtain ⟨z, its, n, r, hl, e⟩ := I.lstM hH
  obtain ⟨its2, r2, ⟨⟨c2, dd, data, sl⟩, n2, e2, hc, hd, hdt⟩, z2⟩ := I.list hB
  simp only at hc hd hdt
  subst hc hd hdt
  have hl2 := r2.length
  refine PySem.concat_meets ⟨_, e, rfl⟩ ⟨_, e2, rfl⟩ noFill_list_add seq_list_add F.slot_list_add F.entry_list_add (F.args_list_add_2 _ _)
    (add_gen l its.toArray n b its2.toArray n2 _ sl (by rw [List.size_toArray, List.size_toArray, ← hl, ← hl2]; exact hz)) ⟨e, e2, ?_⟩
  rw [show its.toArray ++ its2.toArray = (its ++ its2).toArray by simp]
  exact ⟨.ref _, _, I.lnew (t' := s.toks) (r.append r2) (by rw [List.length_append]; exact hz), rfl, q _ I.fresh⟩
theorem op_inT (hu : X.A.units + 65 < cLine) : OpR X (compareOp .In) (fun x y H Q => ∃ d ds, Dp X.K H x d ∧ Dp X.K H y (.tuple ds) ∧ SeqAt.shaped d = true ∧ SeqAt.shaped (.tuple ds) = true ∧ Q (.bl (ds.any fun z => PyData.eqv z d)) H) := by
  intro pins s σ H x y v u Q I rx ry h
  obtain ⟨d, ds, hd, he, sd, se, q⟩ := h
  obtain ⟨as, r1⟩ := Dp.reads I d x v hd rx
  obtain ⟨bs, r2⟩ := Dp.reads I (.tuple ds) y u he ry
  exact SeqAt.in_tuple_reads r2 r1 (SeqAt.canLay_of_shaped se) (SeqAt.canLay_of_shaped sd) (room_in_shaped sd hu) ⟨.bl _, H, I, rfl, q⟩
theorem op_notInT (hu : X.A.units + 65 < cLine) : OpR X (compareOp .NotIn) (fun x y H Q => ∃ d ds, Dp X.K H x d ∧ Dp X.K H y (.tuple ds) ∧ SeqAt.shaped d = true ∧ SeqAt.shaped (.tuple ds) = true ∧ Q (.bl (!ds.any fun z => PyData.eqv z d)) H) := by
  intro pins s σ H x y v u Q I rx ry h
  obtain ⟨d, ds, hd, he, sd, se, q⟩ := h
  obtain ⟨as, r1⟩ := Dp.reads I d x v hd rx
  obtain ⟨bs, r2⟩ := Dp.reads I (.tuple ds) y u he ry
  exact SeqAt.notIn_tuple_reads r2 r1 (SeqAt.canLay_of_shaped se) (SeqAt.canLay_of_shaped sd) (room_in_shaped sd hu) ⟨.bl _, H, I, rfl, q⟩
theorem op_ltD (hu : X.A.units + 64 < cLine) : OpR X (compareOp .Lt) (fun x y H Q => ∃ d e, Dp X.K H x d ∧ Dp X.K H y e ∧ SeqAt.shaped d = true ∧ W.alike d e = true ∧ d ≠ .none ∧ Q (.bl (W.dataLt d e)) H) := by
  intro pins s σ H x y v u Q I rx ry h
  obtain ⟨d, e, hd, he, sd, al, ne, q⟩ := h
  obtain ⟨as, r1⟩ := Dp.reads I d x v hd rx
  obtain ⟨bs, r2⟩ := Dp.reads I e y u he ry
  exact W.rcLt_alike d e X.A s v u as bs r1 r2 al ne (SeqAt.room_of_shaped sd hu) _ _ _ _ ⟨.bl _, H, I, rfl, q⟩

theorem op_leD (hu : X.A.units + 64 < cLine) : OpR X (compareOp .LtE) (fun x y H Q => ∃ d e, Dp X.K H x d ∧ Dp X.K H y e ∧ SeqAt.shaped d = true ∧ W.alike d e = true ∧ d ≠ .none ∧ Q (.bl (!W.dataLt e d)) H) := by
  intro pins s σ H x y v u Q I rx ry h
  obtain ⟨d, e, hd, he, sd, al, ne, q⟩ := h
  obtain ⟨as, r1⟩ := Dp.reads I d x v hd rx
  obtain ⟨bs, r2⟩ := Dp.reads I e y u he ry
  exact W.rcLe_alike d e X.A s v u as bs r1 r2 al ne (SeqAt.room_of_shaped sd hu) _ _ _ _ ⟨.bl _, H, I, rfl, q⟩

theorem line_eq : line = sizeLine := by rw [sizeLine_eq]
theorem str_rep (x : Str) (k : Nat) : (List.replicate k x.cps).foldl (· ++ ·) #[] = ((List.replicate k x.cps.toList).flatten).toArray := by
  have h : ∀ (m : Nat) (acc : Array Nat), (List.replicate m x.cps).foldl (· ++ ·) acc = acc ++ ((List.replicate m x.cps.toList).flatten).toArray := fun m => by
    induction m with
    | zero => intro acc; simp
    | succ m ih =>
      intro acc
      rw [List.replicate_succ, List.foldl_cons, ih, List.replicate_succ, List.flatten_cons]
      rw [Array.append_assoc]
      congr 1
      apply Array.toList_inj.mp
      simp
  rw [h]
  simp
/-- text * int -/
theorem op_repS : OpR X (binaryOp .Mult) (fun x y H Q => ∃ (a : Str) (k : Int), x = .str a ∧ y = .int k ∧ 0 ≤ k ∧ k ≤ 1000 ∧ a.length ≤ 1000 ∧ Q (.str ⟨(reps k a.cps.toList).toArray⟩) H) := by
  intro pins s σ H x y v u Q I rx ry ⟨a, k, ex, ey, h0, h1, hz, q⟩
  subst ex ey
  obtain ⟨t, rfl⟩ := rx
  obtain ⟨t', rfl⟩ := ry
  have hlen : a.length * k.toNat ≤ 1000 * 1000 := Nat.mul_le_mul hz (by omega)
  have hN : (a.length : Int) * k ≤ 1000 * 1000 := Int.le_trans (Int.mul_le_mul_of_nonneg_right (show (a.length : Int) ≤ 1000 by omega) h0) (by omega)
  refine PySem.P.mul_str (by rw [decide_eq_false (by omega), decide_eq_false (by omega)]; rfl) (fun h2 _ => ?_) (fun h2 _ => ?_) ?_
  · have := Int.le_ediv_of_mul_le (a := (a.length : Int)) (b := 2 ^ 63 - 1) (c := k) (by omega) (by omega)
    omega
  · unfold Builtin.Str.tooLong
    exact decide_eq_false (by rw [sizeLine_eq]; omega)
  · by_cases h2 : k < 1
    · rw [if_pos h2]
      have e : k = 0 := by omega
      subst e
      exact ⟨by decide, ⟨.str _, H, I.tok _, ⟨_, rfl⟩, q⟩⟩
    · rw [if_neg h2]
      by_cases h3 : (k == 1 || a.length == 0) = true
      · rw [if_pos h3]
        have e : (⟨(reps k a.cps.toList).toArray⟩ : Str) = a := by
          rw [Bool.or_eq_true, beq_iff_eq, beq_iff_eq] at h3
          have : reps k a.cps.toList = a.cps.toList := by
            rcases h3 with h3 | h3
            · subst h3
              unfold reps
              simp
            · have h4 : a.cps.toList = [] := by
                unfold Str.length at h3
                exact List.eq_nil_of_length_eq_zero (by simpa using h3)
              unfold reps
              rw [h4]
              simp
          rw [this]
        rw [e] at q
        exact ⟨.str _, H, I, ⟨_, rfl⟩, q⟩
      · rw [if_neg h3]
        refine ⟨?_, ?_⟩
        · rw [str_rep]
          unfold Str.length
          rw [List.size_toArray, PyProof.Rows.lm_len_rep_flat, sizeLine_eq]
          unfold Str.length at hlen
          rw [Array.length_toList, Nat.mul_comm]
          omega
        · rw [str_rep]
          exact ⟨.str _, H, I.tok _, ⟨_, rfl⟩, q⟩
theorem tuple_mul1 (l : Addr) (items : Array Value) (n : Nat) (dd : Option Addr) (sl : Array (Option Value)) (u : Tok) :
    Meets (Builtin.«tuple.__mul__» ⟨[.ref l, .int 1 u], []⟩) (fun _ R s => s.heap.get? l = some { cls := .type "tuple", dict := dd, data := .seq items n, slots := sl } ∧ R (.ok (.ret (Value.ref l))) s) :=
  .of_wp fun prog w A R s h => by
    obtain ⟨hp, g, d, tk, os⟩ := s
    obtain ⟨hl, q⟩ := h
    have f1 := AutoSeq1.idx_int
    wp_walk using AutoSeq1.wpAny_loadPart' hl
    exact ⟨_, rfl, q⟩
/-- tuple + tuple -/
theorem op_catF : OpR X (binaryOp .Add) (fun x y H Q => ∃ a b xs ys, x = .ref a ∧ y = .ref b ∧ SqT X.K H a xs ∧ SqT X.K H b ys ∧ xs.length + ys.length ≤ sizeLine ∧ (xs = [] → Q (.ref b) H) ∧ (xs ≠ [] → ys = [] → Q (.ref a) H) ∧ NewT (xs ++ ys) H Q) := by
  intro pins s σ H x y v u Q I rx ry ⟨a, b, xs, ys, ex, ey, ha, hb, hz, q0, q1, q2⟩
  subst ex ey
  cases rx
  cases ry
  obtain ⟨its, r1, p1, _⟩ := I.tuple ha
  obtain ⟨its2, r2, p2, _⟩ := I.tuple hb
  by_cases hx : xs = []
  · have e := r1.nil_iff.mpr hx
    subst e
    exact cat_tup0 p1 p2 ⟨.ref b, H, I, rfl, q0 hx⟩
  · refine HT.cat_tup p1 p2 (fun z => hx (r1.nil_iff.mp z)) (fun z => ⟨.ref a, H, I, rfl, q1 hx (r2.nil_iff.mp z)⟩) (fun _ => ?_) (by rw [← r1.length, ← r2.length]; exact hz)
    exact new_tup I (r1.append r2) (by rw [List.length_append]; exact hz) q2
/-- tuple * int -/
theorem op_repU : OpR X (binaryOp .Mult) (fun x y H Q => ∃ l k xs, x = .ref l ∧ y = .int k ∧ SqT X.K H l xs ∧ xs ≠ [] ∧ 1 ≤ k ∧ k ≤ 1000 ∧ xs.length ≤ 1000 ∧ (k = 1 → Q (.ref l) H) ∧ NewT (List.replicate k.toNat xs).flatten H Q) := by
  intro pins s σ H x y v u Q I rx ry ⟨l, k, xs, ex, ey, hT, hne, h1, h2, hz, q1, q2⟩
  subst ex ey
  cases rx
  obtain ⟨t, rfl⟩ := ry
  obtain ⟨its, r, ⟨⟨c2, dd, data, sl⟩, ho, hc, n, hd⟩, z⟩ := I.tuple hT
  simp only at hc hd
  subst hc hd
  have hlen : its.length = xs.length := r.length.symm
  refine wpAny_binaryOp_repeat_ref (T := "tuple") (U := "int") (by decide) ⟨_, ho, rfl⟩ (fun s' => typeIs_int s' k t) noFill_tuple_mul F.fills_int_mul F.slot_int_rmul repeat_tuple F.slot_int_index.lookup ?_
  refine call_meets F.slot_int_rmul (typeIs_int s k t) F.entry_int_rmul (F.args_int_rmul_2 _ _) (int_rmul_tuple k t l its.toArray n dd sl) ⟨ho, rfl, ⟨_, ho, rfl⟩, ?_⟩
  by_cases hk : k = 1
  · subst hk
    exact call_meets F.slot_tuple_mul ⟨_, ho, rfl⟩ F.entry_tuple_mul (F.args_tuple_mul_2 _ _) (tuple_mul1 l its.toArray n dd sl t) ⟨ho, .ref l, H, I, rfl, q1 rfl⟩
  · have hn : its ≠ [] := fun e => hne (List.eq_nil_of_length_eq_zero (by rw [← hlen, e]; rfl))
    have he : its.toArray.isEmpty = false := by cases its with
      | nil => exact absurd rfl hn
      | cons a b => rfl
    have hm : (its.length : Int) * k ≤ 1000000 := by
      have a1 : (its.length : Int) * k ≤ 1000 * k := Int.mul_le_mul_of_nonneg_right (by omega) (by omega)
      omega
    have fl : ∀ {α : Type} (l : List α), l.length = xs.length → (List.replicate k.toNat l).flatten.length ≤ sizeLine := fun l hl => by
      rw [PyProof.Rows.lm_len_rep_flat, hl, sizeLine_eq]
      exact Nat.le_trans (Nat.mul_le_mul (show k.toNat ≤ 1000 by omega) hz) (by decide)
    refine call_meets F.slot_tuple_mul ⟨_, ho, rfl⟩ F.entry_tuple_mul (F.args_tuple_mul_2 _ _) (tuple_mulW l its.toArray n dd sl k t ?_ ?_ ?_ ?_ ?_ ?_) ⟨ho, ?_⟩
    · rw [decide_eq_false (by omega), decide_eq_false (by omega)]; rfl
    · rw [he, Bool.false_or]; exact beq_eq_false_iff_ne.mpr hk
    · rw [he, Bool.or_false]; exact decide_eq_false (by omega)
    · rw [List.size_toArray]; omega
    · unfold Builtin.Tuple.tupleTooMany
      rw [sizeLine_eq, List.size_toArray]
      exact decide_eq_false (by omega)
    · rw [size_rep, List.size_toArray]; exact fl its hlen
    · rw [size_rep]
      exact new_tup I (r.rep k.toNat) (fl xs rfl) q2
theorem mulok {i j : Int} (h : mulOk i j = true) : IntMulOk i j := by
  unfold mulOk smallI at h
  simp only [Bool.or_eq_true, Bool.and_eq_true, decide_eq_true_eq] at h
  rcases h with (h | h) | h
  · exact CMul.ok (.inl h)
  · exact CMul.ok (.inr h)
  · exact CMulW.ok h
theorem op_mulA : OpR X (binaryOp .Mult) (fun x y H Q => ∃ i j, x = .int i ∧ y = .int j ∧ mulOk i j = true ∧ Q (.int (i * j)) H) := by
  intro pins s σ H x y v u Q I rx ry ⟨i, j, ex, ey, hm, q⟩
  subst ex ey
  obtain ⟨t, rfl⟩ := rx
  obtain ⟨t', rfl⟩ := ry
  exact mul_int ⟨.int _, H, I.tok _, ⟨_, rfl⟩, q⟩ (mulok hm)
/-- a truth value and a whole number -/
theorem op_addB : OpR X (binaryOp .Add) (fun x y H Q => ∃ b j, x = .bl b ∧ y = .int j ∧ Q (.int (b2i b + j)) H) := by
  intro pins s σ H x y v u Q I rx ry ⟨b, j, ex, ey, q⟩
  subst ex ey
  cases rx
  obtain ⟨t', rfl⟩ := ry
  exact PySem.IntBool.add_bool_int ⟨.int _, H, I.tok _, ⟨_, rfl⟩, q⟩
theorem op_subB : OpR X (binaryOp .Sub) (fun x y H Q => ∃ b j, x = .bl b ∧ y = .int j ∧ Q (.int (b2i b - j)) H) := by
  intro pins s σ H x y v u Q I rx ry ⟨b, j, ex, ey, q⟩
  subst ex ey
  cases rx
  obtain ⟨t', rfl⟩ := ry
  exact PySem.IntBool.sub_bool_int ⟨.int _, H, I.tok _, ⟨_, rfl⟩, q⟩
theorem flat_one (xs : List V) : (List.replicate (1 : Int).toNat xs).flatten = xs := by simp
theorem op_fdivNW : OpR X (binaryOp .FloorDiv) (rI (fun _ j => j ≠ 0 ∧ j.natAbs.log2 < 9000) fun i j => .int (i.fdiv j)) := opI fun _ _ _ _ _ _ _ hc q => PyProof.Rows.floordiv_int hc.1 q (.inl (PyProof.noPylong_of_log2 hc.2))
/-- the operators -/
theorem bin_ok (o : Operator) : OpR X (binaryOp o) (rOp X.K T cl E (binU o)) := by
  intro pins s σ H x y v u Q I rx ry h
  obtain ⟨M, S, a, b, ra, rb, st, h⟩ := h
  have pl : ∀ {S' : Store}, Out X.K T cl E M H (R.of S (((deref S a).bind fun p => (deref S b).bind fun q => binD o p q).map U.d)) (RU X.K) Q → ∃ p q r, Rs X.K M H x p ∧ Rs X.K M H y q ∧ binD o p q = some r ∧ Wish X.K T M S H r Q := fun {S'} h => by
    obtain ⟨r, e, w⟩ := out_data h
    obtain ⟨p, q, e1, e2, e3⟩ := bind2 e
    exact ⟨p, q, r, rs_of ra st e1, rs_of rb st e2, e3, w⟩
  have main : (∃ p q r, Rs X.K M H x p ∧ Rs X.K M H y q ∧ binD o p q = some r ∧ Wish X.K T M S H r Q) → wpAny (model X.prog X.w) X.A (binaryOp o v u) (EP X pins σ Q) X.xe s := by
    rintro ⟨p, q, r, rp, rq, e, w⟩
    unfold binD at e
    split at e
    · cases e
      exact op_add pins s σ H x y v u Q I rx ry ⟨_, _, rp.int, rq.int, w.here st (.int _)⟩
    · cases e
      exact op_sub pins s σ H x y v u Q I rx ry ⟨_, _, rp.int, rq.int, w.here st (.int _)⟩
    · split at e
      · cases e
        exact op_mulA pins s σ H x y v u Q I rx ry ⟨_, _, rp.int, rq.int, by assumption, w.here st (.int _)⟩
      · cases e
    · split at e
      · rename_i hc
        cases e
        exact op_fdivW pins s σ H x y v u Q I rx ry ⟨_, _, rp.int, rq.int, hc, w.here st (.int _)⟩
      · split at e
        · rename_i hc
          cases e
          exact op_fdivNW pins s σ H x y v u Q I rx ry ⟨_, _, rp.int, rq.int, hc, w.here st (.int _)⟩
        · cases e
    · split at e
      · rename_i hc
        cases e
        exact op_mod pins s σ H x y v u Q I rx ry ⟨_, _, rp.int, rq.int, hc, w.here st (.int _)⟩
      · cases e
    · split at e
      · rename_i hc
        cases e
        exact op_pow pins s σ H x y v u Q I rx ry ⟨_, _, rp.int, rq.int, hc, w.here st (.int _)⟩
      · cases e
    · split at e
      · rename_i hc
        cases e
        exact op_add_str pins s σ H x y v u Q I rx ry ⟨_, _, rp.str, rq.str, by rw [← line_eq]; exact hc, w.here st (.str _)⟩
      · cases e
    · split at e
      · rename_i hc
        cases e
        obtain ⟨a1, xs, e1, h1, r1⟩ := rp
        obtain ⟨a2, ys, e2, h2, r2⟩ := rq
        refine op_cat pins s σ H x y v u Q I rx ry ⟨a1, a2, xs, ys, e1, e2, h1, h2, by rw [r1.length, r2.length, ← line_eq]; exact hc, fun p hp => w.list st hp (r1.append r2)⟩
      · cases e
    · split at e
      · rename_i hc
        cases e
        obtain ⟨a1, xs, e1, h1, r1⟩ := rp.tup
        obtain ⟨a2, ys, e2, h2, r2⟩ := rq.tup
        refine op_catF pins s σ H x y v u Q I rx ry ⟨a1, a2, xs, ys, e1, e2, h1.sq, h2.sq, by rw [r1.length, r2.length, ← line_eq]; exact hc, fun z => ?_, fun _ z => ?_, w.tuple st (r1.append r2)⟩
        · subst z
          cases r1
          exact w.here st (.tup h2 r2)
        · subst z
          cases r2
          rw [List.append_nil] at w
          exact w.here st (.tup h1 r1)
      · cases e
    · split at e
      · rename_i hc
        cases e
        obtain ⟨a1, xs, e1, h1, r1⟩ := rp
        have hl := r1.length
        refine op_rep pins s σ H x y v u Q I rx ry ⟨a1, _, xs, e1, rq.int, h1, by omega, by omega, ?_, fun p hp => w.list st hp (r1.flat _)⟩
        rw [sizeLine_eq]
        exact Nat.le_trans (Nat.mul_le_mul (show xs.length ≤ 1000 by omega) (show _ ≤ 1000 by omega)) (by decide)
      · cases e
    · split at e
      · rename_i hc
        cases e
        obtain ⟨a1, xs, e1, h1, r1⟩ := rp.tup
        have hl := r1.length
        refine op_repU pins s σ H x y v u Q I rx ry ⟨a1, _, xs, e1, rq.int, h1.sq, ?_, hc.1, hc.2.1, by omega, fun z => ?_, w.tuple st (r1.flat _)⟩
        · rintro rfl
          cases r1
          exact absurd hc.2.2.2 (by simp)
        · subst z
          unfold reps at w
          have e3 : ∀ {α : Type} (l : List α), (List.replicate (1 : Int).toNat l).flatten = l := fun l => by simp
          rw [e3] at w
          exact w.here st (.tup h1 r1)
      · cases e
    · split at e
      · rename_i hc
        cases e
        exact op_repS pins s σ H x y v u Q I rx ry ⟨_, _, rp.str, rq.int, hc.1, hc.2.1, hc.2.2, w.here st (.str _)⟩
      · cases e
    · cases e
      exact op_addB pins s σ H x y v u Q I rx ry ⟨_, _, rp.bool, rq.int, w.here st (.int _)⟩
    · cases e
      exact op_subB pins s σ H x y v u Q I rx ry ⟨_, _, rp.bool, rq.int, w.here st (.int _)⟩
    · cases e
  unfold binU at h
  split at h
  · rename_i ns
    obtain ⟨r, e, w⟩ := out_data h
    cases e1 : deref S a with
    | none => rw [e1] at e; cases e
    | some p =>
      rw [e1] at e
      have rp := rs_of ra st e1
      obtain ⟨b1, e4, hb⟩ := rb
      cases p with
      | list ds =>
        have e : (if ds.length + ns.length ≤ line then some (PyData.list (ds ++ ns.map .int)) else none) = some r := e
        split at e
        · rename_i hc
          cases e
          obtain ⟨a1, xs, e5, h1, r1⟩ := rp
          have hl := r1.length
          refine op_catR pins s σ H x y v u Q I rx ry ⟨a1, b1, xs, _, e5, e4, h1, hb.sq, by rw [List.length_map, ← line_eq]; omega, fun p hp => w.list st hp (r1.append ?_)⟩
          have : ∀ l : List Int, RpA X.K M H (l.map V.int) (l.map PyData.int) := fun l => by
            induction l with
            | nil => exact .nil
            | cons z l ih => exact .cons (.int z) ih
          exact this ns
        · cases e
      | _ => cases e
  · exact main (pl (S' := S) h)
end
end Ev
end

section
set_option Elab.async false
set_option linter.all false
set_option autoImplicit false
set_option maxRecDepth 100000
set_option maxHeartbeats 4000000
/-! # Dicts whose keys are tuples of any depth (no texts in them), or texts -/
namespace Ev
open PySem PySem.Spec PyProof.Rows L2
/-! ### data as keys -/
mutual
theorem nk_reads {h : Heap} : ∀ {p : PyData} {v : Value} {as : List Addr}, Reads h v p as → keyB p = true → NestedIs h (nkD p) v
  | _, _, _, .none, _ => .none
  | _, _, _, .bool b, _ => .bool rfl
  | _, _, _, .int i t, _ => .int i t
  | _, _, _, .str x t, _ => .text x t
  | _, _, _, .list _ _ _ _, e => by cases e
  | _, _, _, .tuple h1 h2 h3 h4, e => .tup h1 h2 h3 (nks_reads h4 e)
  | _, _, _, .dict _ _ _ _ _, e => by cases e
theorem nks_reads {h : Heap} : ∀ {ps : List PyData} {vs : List Value} {as : List Addr}, ReadsAll h vs ps as → keysB ps = true → NestedAll h (nksD ps) vs
  | _, _, _, .nil, _ => .nil
  | _, _, _, .cons a r, e => by
    have e : (keyB _ && keysB _) = true := e
    rw [Bool.and_eq_true] at e
    exact .cons (nk_reads a e.1) (nks_reads r e.2)
end
theorem beq_dec {α : Type} [BEq α] [LawfulBEq α] [DecidableEq α] (a b : α) : (a == b) = decide (a = b) := by rw [Bool.eq_iff_iff]; simp
mutual
theorem nk_eqv : ∀ (a b : PyData), keyB a = true → keyB b = true → PyData.eqv a b = NestedKey.beq (nkD a) (nkD b)
  | .none, b, _, h => by cases b <;> first | rfl | cases h
  | .bool x, b, _, h => by
    cases b with
    | bool y => show (x == y) = decide ((if x = true then (1 : Int) else 0) = if y = true then 1 else 0); cases x <;> cases y <;> decide
    | int j => show ((if x = true then (1 : Int) else 0) == j) = decide ((if x = true then (1 : Int) else 0) = j); exact beq_dec _ _
    | _ => first | rfl | cases h
  | .int i, b, _, h => by
    cases b with
    | bool y => show (i == (if y = true then (1 : Int) else 0)) = decide (i = (if y = true then (1 : Int) else 0)); exact beq_dec _ _
    | int j => show (i == j) = decide (i = j); exact beq_dec _ _
    | _ => first | rfl | cases h
  | .str x, b, _, h => by
    cases b with
    | str y => show (x == y) = decide (x = y); exact beq_dec _ _
    | _ => first | rfl | cases h
  | .tuple xs, b, h1, h => by
    cases b with
    | tuple ys => exact nks_eqv xs ys h1 h
    | _ => first | rfl | cases h
  | .list _, _, h, _ => by cases h
  | .dict _, _, h, _ => by cases h
theorem nks_eqv : ∀ (xs ys : List PyData), keysB xs = true → keysB ys = true → PyData.eqvAll xs ys = NestedKey.beqAll (nksD xs) (nksD ys)
  | [], [], _, _ => rfl
  | [], _ :: _, _, _ => rfl
  | _ :: _, [], _, _ => rfl
  | x :: xs, y :: ys, h1, h2 => by
    have h1 : (keyB x && keysB xs) = true := h1
    have h2 : (keyB y && keysB ys) = true := h2
    rw [Bool.and_eq_true] at h1 h2
    show (PyData.eqv x y && PyData.eqvAll xs ys) = (NestedKey.beq (nkD x) (nkD y) && NestedKey.beqAll (nksD xs) (nksD ys))
    rw [nk_eqv x y h1.1 h2.1, nks_eqv xs ys h1.2 h2.2]
end
theorem nk_same {a b : PyData} (ha : keyB a = true) (hb : keyB b = true) : PyData.eqv a b = decide (nkD a = nkD b) := by rw [nk_eqv a b ha hb, NestedKey.decide_eq]
mutual
theorem nk_depth : ∀ p : PyData, keyB p = true → (nkD p).depth = p.depth
  | .none, _ => rfl
  | .bool _, _ => rfl
  | .int _, _ => rfl
  | .str _, _ => rfl
  | .tuple ks, h => by
    show NestedKey.depthAll (nksD ks) + 1 = PyData.depthAll ks + 1
    rw [nks_depth ks h]
  | .list _, h => by cases h
  | .dict _, h => by cases h
theorem nks_depth : ∀ ps : List PyData, keysB ps = true → NestedKey.depthAll (nksD ps) = PyData.depthAll ps
  | [], _ => rfl
  | p :: r, h => by
    have h : (keyB p && keysB r) = true := h
    rw [Bool.and_eq_true] at h
    show max (nkD p).depth (NestedKey.depthAll (nksD r)) = max p.depth (PyData.depthAll r)
    rw [nk_depth p h.1, nks_depth r h.2]
end
theorem keysB_mem : ∀ {ps : List PyData} {p : PyData}, keysB ps = true → p ∈ ps → keyB p = true
  | q :: r, p, h, m => by
    have h : (keyB q && keysB r) = true := h
    rw [Bool.and_eq_true] at h
    rcases List.mem_cons.mp m with e | m
    · rw [e]; exact h.1
    · exact keysB_mem h.2 m
theorem tupKey_key {p : PyData} (h : tupKey p = true) : keyB p = true ∧ p.depth ≤ 8 ∧ ∃ ks, p = .tuple ks := by
  cases p with
  | tuple ks =>
    have h : (keysB ks && decide (PyData.depthAll ks < 8)) = true := h
    rw [Bool.and_eq_true, decide_eq_true_eq] at h
    exact ⟨h.1, (show PyData.depthAll ks + 1 ≤ 8 by omega), ks, rfl⟩
  | _ => cases h

mutual
theorem nm_hash (w w' : World) : ∀ p : PyData, nmB p = true → (nkD p).hash w = (nkD p).hash w'
  | .none, _ => rfl
  | .bool _, _ => rfl
  | .int _, _ => rfl
  | .str _, h => nomatch h
  | .list _, h => nomatch h
  | .dict _, h => nomatch h
  | .tuple ks, h => by
    show reduceHash (Builtin.Tuple.tupleHashOf (NestedKey.hashes w (nksD ks))) = reduceHash (Builtin.Tuple.tupleHashOf (NestedKey.hashes w' (nksD ks)))
    rw [nms_hash w w' ks h]
theorem nms_hash (w w' : World) : ∀ ps : List PyData, nmsB ps = true → NestedKey.hashes w (nksD ps) = NestedKey.hashes w' (nksD ps)
  | [], _ => rfl
  | p :: r, h => by
    have h : (nmB p && nmsB r) = true := h
    rw [Bool.and_eq_true] at h
    show (nkD p).hash w :: NestedKey.hashes w (nksD r) = _
    rw [nm_hash w w' p h.1, nms_hash w w' r h.2]
    rfl
end
theorem dKey_key {k : PyData} (h : dKey k = true) : keyB k = true := (tupKey_key (dKey_of h).1).1
theorem dKey_same {a b : PyData} (ha : dKey a = true) (hb : dKey b = true) : PyData.eqv a b = decide (nkD a = nkD b) := nk_same (dKey_key ha) (dKey_key hb)
abbrev NKX := NestedKey × Addr × Value
def adr : Value → Addr
  | .ref a => a
  | _ => 0
/-- the entries as the library tells them -/
def xsOf : List DictEntry → List PyData → List NKX
  | e :: es, k :: ks => (nkD k, adr e.key, e.val) :: xsOf es ks
  | _, _ => []
theorem xs_keys {es : List DictEntry} {vs : List (V × V)} {ks : List PyData} (h : EntOk es vs ks) : (xsOf es ks).map (fun x => x.1) = ks.map nkD := by
  induction h with
  | nil => rfl
  | cons _ _ _ ih =>
    show nkD _ :: _ = nkD _ :: _
    rw [ih]
theorem xs_len {es : List DictEntry} {vs : List (V × V)} {ks : List PyData} (h : EntOk es vs ks) : (xsOf es ks).length = ks.length := by
  have := congrArg List.length (xs_keys h)
  rwa [List.length_map, List.length_map] at this
theorem xs_ent {P : Program} {w : World} {es : List DictEntry} {vs : List (V × V)} {ks : List PyData} (h : EntOk es vs ks) : es = (xsOf es ks).map (entryOfKey (nestedKind P w)) := by
  induction h with
  | nil => rfl
  | @cons b hs y z k es vs ks h1 h2 h3 ih =>
    show (⟨hs, .ref b, z⟩ : DictEntry) :: es = ⟨(nkD k).hash w, .ref b, z⟩ :: (xsOf es ks).map (entryOfKey (nestedKind P w))
    rw [← ih, h2 w]
section
variable {X : Cx} {pins : List (Addr × Obj)} {σ : L2.St} {H : Hp} {s : Shared} {M : Ms} {a : Addr} {o : Obj} {vs : List (V × V)} {ks : List PyData} {A : Around} {E : Value → Shared → Prop}
/-- data without lists: a key -/
theorem key_at (I : Inv X pins σ H s) {y : V} {k : PyData} {u : Value} (h : Rp X.K M H y k) (hk : dKey k = true) (r : RelV y u) : ∃ b, u = .ref b ∧ y = .ref b ∧ (nestedKind X.prog X.w).is s.heap (nkD k) b := by
  obtain ⟨t1, t2, ts, rfl⟩ := dKey_of hk
  obtain ⟨k1, k2, _⟩ := tupKey_key t1
  obtain ⟨as, rd⟩ := Dp.reads I _ y u (h.dp (noD_key _ k1)) r
  cases h with
  | tup ht hr =>
    obtain rfl : u = Value.ref _ := r
    exact ⟨_, rfl, rfl, nk_reads rd k1, by rw [nk_depth _ k1]; exact k2⟩
theorem xs_is (I : Inv X pins σ H s) {es : List DictEntry} (h : EntOk es vs ks) : RpA X.K M H (vs.map Prod.fst) ks → (∀ k, k ∈ ks → dKey k = true) → ∀ x, x ∈ xsOf es ks → (nestedKind X.prog X.w).is s.heap x.1 x.2.1 := by
  induction h with
  | nil => intro _ _ x hx; cases hx
  | @cons b hs y z k es vs ks h1 h2 h3 ih =>
    intro r hk x hx
    cases r with
    | cons r1 r2 =>
      rcases List.mem_cons.mp hx with e | hx
      · subst e
        obtain ⟨b', e1, e2, e3⟩ := key_at I (u := .ref b) r1 (hk k List.mem_cons_self) rfl
        cases e1
        exact e3
      · exact ih r2 (fun c hc => hk c (List.mem_cons_of_mem _ hc)) x hx
theorem DX_at (I : Inv X pins σ H s) (h : Rd H a (DX a o)) : s.heap.get? a = some o := by
  obtain ⟨h1, _⟩ := (show ObjOk X.prog X.w H s.heap a (DX a o) from h.ok I.hok)
  exact h1
/-- the dict as the library tells it -/
theorem dh_of (I : Inv X pins σ H s) (h : Rd H a (DX a o)) (d : DObj a o vs ks) (r : RpA X.K M H (vs.map Prod.fst) ks) :
    ∃ es ep, o.data = .dict es ep ∧ EntOk es.toList vs ks ∧ s.heap.DictOfH (nestedKind X.prog X.w) a (xsOf es.toList ks) ∧ (xsOf es.toList ks).length ≤ sizeLine := by
  obtain ⟨es, ep, hd, he⟩ := d.ent
  exact ⟨es, ep, hd, he, ⟨o, es, ep, DX_at I h, d.ex, hd, xs_ent he, xs_is I he r d.key, by rw [xs_keys he]; exact d.nd⟩, by rw [xs_len he]; exact d.le⟩
theorem room_k {A : Around} (hu : A.units + 65 < cLine) : (nestedKind X.prog X.w).room A.in1 := by
  show A.units + 1 + 8 < cLine
  omega
/-- what a key finds -/
theorem find_k {es : List DictEntry} (h : EntOk es vs ks) {k : PyData} (hk : dKey k = true) : ∀ {kvs : List (PyData × U)}, kvs.map Prod.fst = ks → (∀ c, c ∈ ks → dKey c = true) → RUs X.K M H (vs.map Prod.snd) (kvs.map Prod.snd) →
    (dFind kvs k = none ∧ atKey (xsOf es ks) (nkD k) = none) ∨ ∃ u b z y, dFind kvs k = some u ∧ atKey (xsOf es ks) (nkD k) = some (b, z) ∧ RelV y z ∧ RU X.K M H y u := by
  induction h with
  | nil => intro kvs e _ _; rw [List.map_eq_nil_iff.mp e]; exact .inl ⟨rfl, rfl⟩
  | @cons b hs y z c es vs ks h1 h2 h3 ih =>
    intro kvs e hd r
    cases kvs with
    | nil => cases e
    | cons q kvs =>
      cases e
      cases r with
      | cons r1 r2 =>
        have hc := hd q.1 List.mem_cons_self
        unfold dFind xsOf
        rw [dKey_same hc hk]
        by_cases hq : nkD q.1 = nkD k
        · right
          refine ⟨q.2, b, z, y, by rw [decide_eq_true hq]; rfl, ?_, h1, r1⟩
          unfold atKey
          rw [List.find?_cons_of_pos (by exact decide_eq_true hq)]
          rfl
        · rcases ih rfl (fun c hc => hd c (List.mem_cons_of_mem _ hc)) r2 with ⟨e1, e2⟩ | ⟨u, b', z', y', e1, e2, e3, e4⟩
          · refine .inl ⟨by rw [decide_eq_false hq]; exact e1, ?_⟩
            unfold atKey at e2 ⊢
            rw [List.find?_cons_of_neg (by show ¬ decide (nkD q.1 = nkD k) = true; rw [decide_eq_false hq]; decide)]
            exact e2
          · refine .inr ⟨u, b', z', y', by rw [decide_eq_false hq]; exact e1, ?_, e3, e4⟩
            unfold atKey at e2 ⊢
            rw [List.find?_cons_of_neg (by show ¬ decide (nkD q.1 = nkD k) = true; rw [decide_eq_false hq]; decide)]
            exact e2
/-- whether it is there, by the keys alone -/
theorem any_k {es : List DictEntry} (h : EntOk es vs ks) {k : PyData} (hk : dKey k = true) : ∀ {α : Type} {kvs : List (PyData × α)}, kvs.map Prod.fst = ks → (∀ c, c ∈ ks → dKey c = true) → (dFind kvs k).isSome = (atKey (xsOf es ks) (nkD k)).isSome := by
  induction h with
  | nil => intro α kvs e _; rw [List.map_eq_nil_iff.mp e]; rfl
  | @cons b hs y z c es vs ks h1 h2 h3 ih =>
    intro α kvs e hd
    cases kvs with
    | nil => cases e
    | cons q kvs =>
      cases e
      have hc := hd q.1 List.mem_cons_self
      unfold dFind xsOf
      rw [dKey_same hc hk]
      by_cases hq : nkD q.1 = nkD k
      · rw [decide_eq_true hq]
        unfold atKey
        rw [List.find?_cons_of_pos (by exact decide_eq_true hq)]
        rfl
      · have := ih (kvs := kvs) rfl fun c hc => hd c (List.mem_cons_of_mem _ hc)
        rw [decide_eq_false hq]
        unfold atKey at this ⊢
        rw [List.find?_cons_of_neg (by show ¬ decide (nkD q.1 = nkD k) = true; rw [decide_eq_false hq]; decide)]
        exact this
end
end Ev
end

section
set_option Elab.async false
set_option linter.all false
set_option autoImplicit false
set_option maxRecDepth 100000
set_option maxHeartbeats 4000000
/-! # Dicts: what is asked of them, what is written -/
namespace Ev
open PySem PySem.Spec PyProof.Rows L2
section
variable {X : Cx} {pins : List (Addr × Obj)} {σ : L2.St} {H : Hp} {s : Shared} {M : Ms} {a : Addr} {o : Obj} {vs : List (V × V)} {ks : List PyData} {A : Around} {E : Value → Shared → Prop} {ws : List (Key × V)}
theorem sKey_of {k : PyData} (h : sKey k = true) : ∃ x, k = .str x := by
  cases k with
  | str x => exact ⟨x, rfl⟩
  | _ => cases h
theorem dKind_d {α : Type} {kvs : List (PyData × α)} {k : PyData} (h : dKind kvs k = true) (hd : ∀ c, c ∈ kvs.map Prod.fst → dKey c = true) : dKey k = true := by
  unfold dKind at h
  rw [Bool.or_eq_true, Bool.and_eq_true, Bool.and_eq_true, Bool.and_eq_true] at h
  rcases h with h | h
  · exact h.1
  · cases kvs with
    | nil => cases h.2
    | cons q r =>
      have h1 := hd q.1 List.mem_cons_self
      have h2 := List.all_eq_true.mp h.1.2 q List.mem_cons_self
      obtain ⟨x, e⟩ := sKey_of h2
      rw [e] at h1
      cases h1
theorem dKind_s {α : Type} {kvs : List (PyData × α)} {k : PyData} (h : dKind kvs k = true) (hn : kvs ≠ []) (hd : ∀ c, c ∈ kvs.map Prod.fst → sKey c = true) : sKey k = true := by
  unfold dKind at h
  rw [Bool.or_eq_true, Bool.and_eq_true, Bool.and_eq_true, Bool.and_eq_true] at h
  rcases h with h | h
  · cases kvs with
    | nil => exact absurd rfl hn
    | cons q r =>
      have h1 := hd q.1 List.mem_cons_self
      have h2 := List.all_eq_true.mp h.2 q List.mem_cons_self
      obtain ⟨x, e⟩ := sKey_of h1
      rw [e] at h2
      cases h2
  · exact h.1.1
theorem key_s {y : V} {k : PyData} {x : Str} (h : Rp X.K M H y k) (e : k = .str x) : y = kV (.inr x) := by
  subst e
  cases h
  rfl
theorem kV_s {k : Key} {x : Str} (h : Rp X.K M H (kV k) (.str x)) : k = .inr x := by
  cases k with
  | inl i => cases h
  | inr z => cases h; rfl
theorem str_eqv (x y : Str) : PyData.eqv (.str x) (.str y) = decide (x = y) := by
  show (x == y) = decide (x = y)
  exact beq_dec x y
theorem find_s {x : Str} : ∀ {kvs : List (PyData × U)} {ws : List (Key × V)}, (∀ c, c ∈ kvs.map Prod.fst → sKey c = true) → RpA X.K M H (ws.map fun q => kV q.1) (kvs.map Prod.fst) → RUs X.K M H (ws.map Prod.snd) (kvs.map Prod.snd) →
    (dFind kvs (.str x) = none ∧ valV ws (.inr x) = none) ∨ ∃ u y, dFind kvs (.str x) = some u ∧ valV ws (.inr x) = some y ∧ RU X.K M H y u
  | [], [], _, _, _ => .inl ⟨rfl, rfl⟩
  | [], _ :: _, _, r, _ => nomatch r
  | _ :: _, [], _, r, _ => nomatch r
  | (c, u) :: kvs, (k, y) :: ws, hk, r, q => by
    cases r with
    | cons r1 r2 =>
      cases q with
      | cons q1 q2 =>
        obtain ⟨z, e⟩ := sKey_of (hk c List.mem_cons_self)
        have e : c = .str z := e
        subst e
        have e2 := kV_s r1
        have e2 : k = .inr z := e2
        subst e2
        unfold dFind
        rw [str_eqv]
        by_cases hz : z = x
        · subst hz
          refine .inr ⟨u, y, by rw [decide_eq_true rfl]; rfl, valV_pos rfl, q1⟩
        · rw [decide_eq_false hz]
          rw [valV_neg (fun e => hz (Sum.inr.inj e))]
          exact find_s (fun c hc => hk c (List.mem_cons_of_mem _ hc)) r2 q2
theorem any_s {α : Type} {x : Str} : ∀ {kvs : List (PyData × α)} {ws : List (Key × V)}, (∀ c, c ∈ kvs.map Prod.fst → sKey c = true) → RpA X.K M H (ws.map fun q => kV q.1) (kvs.map Prod.fst) → (dFind kvs (.str x)).isSome = (valV ws (.inr x)).isSome
  | [], [], _, _ => rfl
  | [], _ :: _, _, r => nomatch r
  | _ :: _, [], _, r => nomatch r
  | (c, u) :: kvs, (k, y) :: ws, hk, r => by
    cases r with
    | cons r1 r2 =>
      obtain ⟨z, e⟩ := sKey_of (hk c List.mem_cons_self)
      have e : c = .str z := e
      subst e
      have e2 : k = .inr z := kV_s r1
      subst e2
      unfold dFind
      rw [str_eqv]
      by_cases hz : z = x
      · subst hz
        rw [decide_eq_true rfl, valV_pos rfl]
        rfl
      · rw [decide_eq_false hz, valV_neg (fun e => hz (Sum.inr.inj e))]
        exact any_s (fun c hc => hk c (List.mem_cons_of_mem _ hc)) r2
/-- k in d -/
theorem dct_in (hu : A.units + 65 < cLine) (I : Inv X pins σ H s) {α : Type} {kvs : List (PyData × α)} {k : PyData} {y : V} {u : Value} {Q : Value → Shared → Prop} (h : DKs X.K M H a (kvs.map Prod.fst)) (hk : dKind kvs k = true) (rk : Rp X.K M H y k) (ry : RelV y u)
    (q : ∀ s', Inv X pins σ H s' → Q (.bool (dFind kvs k).isSome) s') : wpAny (model X.prog X.w) A (compareOp .In u (.ref a)) Q E s := by
  rcases h with ⟨o, vs, h1, d, r⟩ | ⟨ws, h1, hn, hs, r⟩
  · have hd := dKind_d hk d.key
    obtain ⟨es, ep, e1, e2, e3, e4⟩ := dh_of I h1 d r
    obtain ⟨b, rfl, rfl, hb⟩ := key_at I rk hd ry
    refine wpAny_in_heap (room_k hu) hb d.sys e3 ?_
    rw [← any_k e2 hd rfl d.key]
    exact q _ (I.tok _)
  · obtain ⟨x, rfl⟩ := sKey_of (dKind_s hk (fun e => hn (by rw [e]; rfl)) hs)
    have ey := key_s rk rfl
    refine d_in (by omega) I (DGet.k h1) (by rw [← ey]; exact ry) fun s' I' => ?_
    rw [← any_s hs r]
    exact q s' I'
theorem dct_notIn (hu : A.units + 65 < cLine) (I : Inv X pins σ H s) {α : Type} {kvs : List (PyData × α)} {k : PyData} {y : V} {u : Value} {Q : Value → Shared → Prop} (h : DKs X.K M H a (kvs.map Prod.fst)) (hk : dKind kvs k = true) (rk : Rp X.K M H y k) (ry : RelV y u)
    (q : ∀ s', Inv X pins σ H s' → Q (.bool (!(dFind kvs k).isSome)) s') : wpAny (model X.prog X.w) A (compareOp .NotIn u (.ref a)) Q E s := by
  rcases h with ⟨o, vs, h1, d, r⟩ | ⟨ws, h1, hn, hs, r⟩
  · have hd := dKind_d hk d.key
    obtain ⟨es, ep, e1, e2, e3, e4⟩ := dh_of I h1 d r
    obtain ⟨b, rfl, rfl, hb⟩ := key_at I rk hd ry
    refine wpAny_notIn_heap (room_k hu) hb d.sys e3 ?_
    rw [← any_k e2 hd rfl d.key]
    exact q _ (I.tok _)
  · obtain ⟨x, rfl⟩ := sKey_of (dKind_s hk (fun e => hn (by rw [e]; rfl)) hs)
    have ey := key_s rk rfl
    refine d_notIn (by omega) I (DGet.k h1) (by rw [← ey]; exact ry) fun s' I' => ?_
    rw [← any_s hs r]
    exact q s' I'
/-- d[k], there -/
theorem dct_get (hu : A.units + 65 < cLine) (I : Inv X pins σ H s) {kvs : List (PyData × U)} {k : PyData} {y : V} {u : Value} {w : U} {Q : Value → Shared → Prop} (h : DAt X.K M H a kvs) (hk : dKind kvs k = true) (hf : dFind kvs k = some w) (rk : Rp X.K M H y k) (ry : RelV y u)
    (q : ∀ z v s', Inv X pins σ H s' → RelV z v → RU X.K M H z w → Q v s') : wpAny (model X.prog X.w) A (getItem (.ref a) u) Q E s := by
  rcases h with ⟨o, vs, h1, d, r, rv⟩ | ⟨ws, h1, hn, hs, r, rv⟩
  · have hd := dKind_d hk d.key
    obtain ⟨es, ep, e1, e2, e3, e4⟩ := dh_of I h1 d r
    obtain ⟨b, rfl, rfl, hb⟩ := key_at I rk hd ry
    rcases find_k e2 hd rfl d.key rv with ⟨f1, _⟩ | ⟨u', b', z, y', f1, f2, f3, f4⟩
    · rw [hf] at f1; cases f1
    · rw [hf] at f1
      cases f1
      exact wpAny_getItem_heap (room_k hu) hb e3 f2 (q _ _ _ (I.tok _) f3 f4)
  · obtain ⟨x, rfl⟩ := sKey_of (dKind_s hk hn hs)
    have ey := key_s rk rfl
    rcases find_s hs r rv with ⟨f1, _⟩ | ⟨u', y', f1, f2, f3⟩
    · rw [hf] at f1; cases f1
    · rw [hf] at f1
      cases f1
      exact d_getItem (v := y') (y := kV (.inr x)) (by omega) I (by rw [← f2]; exact DGet.k h1) (by rw [← ey]; exact ry) fun w' s' I' rw' => q _ _ _ I' rw' f3
/-- d.get(k, x) -/
theorem dct_getOr (hu : A.units + 65 < cLine) (I : Inv X pins σ H s) {kvs : List (PyData × U)} {k : PyData} {y z0 : V} {u r0 : Value} {w0 : U} {Q : Value → Shared → Prop} (h : DAt X.K M H a kvs) (hk : dKind kvs k = true) (rk : Rp X.K M H y k) (ry : RelV y u) (rz : RelV z0 r0) (ru : RU X.K M H z0 w0)
    (q : ∀ z v s', Inv X pins σ H s' → RelV z v → RU X.K M H z ((dFind kvs k).getD w0) → Q v s') : wpAny (model X.prog X.w) A (call (.builtin "dict.get") [.ref a, u, r0]) Q E s := by
  rcases h with ⟨o, vs, h1, d, r, rv⟩ | ⟨ws, h1, hn, hs, r, rv⟩
  · have hd := dKind_d hk d.key
    obtain ⟨es, ep, e1, e2, e3, e4⟩ := dh_of I h1 d r
    obtain ⟨b, rfl, rfl, hb⟩ := key_at I rk hd ry
    refine call_meetsIn PySem.F.slot_dict_get e3.typeIs PySem.F.entry_dict_get (PySem.F.args_dict_get_3 _ _ _) (meetsH_dict_get_default (nestedKind X.prog X.w) a b d.sys r0) ⟨room_k hu, _, _, hb, e3, ?_⟩
    rcases find_k e2 hd rfl d.key rv with ⟨f1, f2⟩ | ⟨u', b', z, y', f1, f2, f3, f4⟩
    · rw [f2]
      rw [f1] at q
      exact q _ _ _ (I.tok _) rz ru
    · rw [f2]
      rw [f1] at q
      exact q _ _ _ (I.tok _) f3 f4
  · obtain ⟨x, rfl⟩ := sKey_of (dKind_s hk hn hs)
    have ey := key_s rk rfl
    refine d_get2 (y := kV (.inr x)) (by omega) I (DGet.k h1) (by rw [← ey]; exact ry) rz fun w' s' I' rw' => ?_
    rcases find_s hs r rv with ⟨f1, f2⟩ | ⟨u', y', f1, f2, f3⟩
    · rw [f2] at rw'
      rw [f1] at q
      exact q _ _ _ I' rw' ru
    · rw [f2] at rw'
      rw [f1] at q
      exact q _ _ _ I' rw' f3
/-! ### what is written -/
theorem repl_keys {α : Type} (kvs : List (PyData × α)) (k : PyData) (v : α) : (dRepl kvs k v).map Prod.fst = kvs.map Prod.fst := by
  unfold dRepl
  rw [List.map_map]
  refine List.map_congr_left fun q _ => ?_
  show (if PyData.eqv q.1 k = true then (q.1, v) else q).1 = q.1
  split <;> rfl
theorem put_old {P : Program} {w0 : World} {es : List DictEntry} (h : EntOk es vs ks) {k : PyData} (hk : dKey k = true) {y : V} {z : Value} {u : U} (rz : RelV y z) (ru : RU X.K M H y u) : ∀ {kvs : List (PyData × U)}, kvs.map Prod.fst = ks → (∀ c, c ∈ ks → dKey c = true) → RUs X.K M H (vs.map Prod.snd) (kvs.map Prod.snd) →
    ∃ vs', EntOk (((xsOf es ks).map (putAt (nkD k) z)).map (entryOfKey (nestedKind P w0))) vs' ks ∧ vs'.map Prod.fst = vs.map Prod.fst ∧ RUs X.K M H (vs'.map Prod.snd) ((dRepl kvs k u).map Prod.snd) := by
  induction h with
  | nil => intro kvs e _ _; rw [List.map_eq_nil_iff.mp e]; exact ⟨[], .nil, rfl, .nil⟩
  | @cons b hs y' z' c es vs ks h1 h2 h3 ih =>
    intro kvs e hd r
    cases kvs with
    | nil => cases e
    | cons q kvs =>
      cases e
      cases r with
      | cons r1 r2 =>
        have hc := hd q.1 List.mem_cons_self
        obtain ⟨vs', i1, i2, i3⟩ := ih rfl (fun c hc => hd c (List.mem_cons_of_mem _ hc)) r2
        have e1 : dRepl (q :: kvs) k u = (if nkD q.1 = nkD k then (q.1, u) else q) :: dRepl kvs k u := by
          show (if PyData.eqv q.1 k = true then (q.1, u) else q) :: dRepl kvs k u = _
          rw [dKey_same hc hk]
          congr 1
          by_cases hq : nkD q.1 = nkD k
          · rw [if_pos hq, if_pos (decide_eq_true hq)]
          · rw [if_neg hq, if_neg (by rw [decide_eq_false hq]; decide)]
        rw [e1]
        show ∃ vs', EntOk (entryOfKey (nestedKind P w0) (putAt (nkD k) z (nkD q.1, b, z')) :: ((xsOf es (kvs.map Prod.fst)).map (putAt (nkD k) z)).map (entryOfKey (nestedKind P w0))) vs' (q.1 :: kvs.map Prod.fst) ∧ vs'.map Prod.fst = V.ref b :: vs.map Prod.fst ∧ RUs X.K M H (vs'.map Prod.snd) _
        unfold putAt
        by_cases hq : nkD q.1 = nkD k
        · rw [if_pos hq, if_pos hq]
          exact ⟨(.ref b, y) :: vs', .cons rz (fun w => by rw [← h2 w]; exact (h2 w0).symm ▸ rfl) i1, by rw [List.map_cons, i2], .cons ru i3⟩
        · rw [if_neg hq, if_neg hq]
          exact ⟨(.ref b, y') :: vs', .cons h1 (fun w => by rw [← h2 w]; exact (h2 w0).symm ▸ rfl) i1, by rw [List.map_cons, i2], .cons r1 i3⟩
theorem ent_snoc {es : List DictEntry} (h : EntOk es vs ks) {b : Addr} {hs : Int} {y : V} {z : Value} {k : PyData} (h1 : RelV y z) (h2 : ∀ w, hs = (nkD k).hash w) : EntOk (es ++ [⟨hs, .ref b, z⟩]) (vs ++ [(.ref b, y)]) (ks ++ [k]) := by
  induction h with
  | nil => exact .cons h1 h2 .nil
  | cons q1 q2 q3 ih => exact .cons q1 q2 ih
theorem RUs.append {K : W.Frag} : ∀ {vs ws : List V} {us ts : List U}, RUs K M H vs us → RUs K M H ws ts → RUs K M H (vs ++ ws) (us ++ ts)
  | _, _, _, _, .nil, h => h
  | _, _, _, _, .cons a r, h => .cons a (RUs.append r h)
/-- what a dict of the library is, behind a store -/
theorem put_obj {P : Program} {w0 : World} {h' : Heap} {es : List DictEntry} {kvs : List (PyData × U)} {k : PyData} {b : Addr} {y : V} {z : Value} {u : U} (sys : (a == sysModules) = false) (he : EntOk es vs (kvs.map Prod.fst)) (hd : ∀ c, c ∈ kvs.map Prod.fst → dKey c = true) (hk : dKey k = true) (hl : kvs.length < sizeLine)
    (rp : RpA X.K M H (vs.map Prod.fst) (kvs.map Prod.fst)) (rv : RUs X.K M H (vs.map Prod.snd) (kvs.map Prod.snd)) (rk : Rp X.K M H (.ref b) k) (rz : RelV y z) (ru : RU X.K M H y u) (dd : h'.DictOfH (nestedKind P w0) a (storedH (xsOf es (kvs.map Prod.fst)) (nkD k) b z)) :
    ∃ o' vs', h'.get? a = some o' ∧ DObj a o' vs' ((dPut kvs k u).map Prod.fst) ∧ RpA X.K M H (vs'.map Prod.fst) ((dPut kvs k u).map Prod.fst) ∧ RUs X.K M H (vs'.map Prod.snd) ((dPut kvs k u).map Prod.snd) := by
  obtain ⟨o', es', ep', g1, g2, g3, g4, g5, g6⟩ := dd
  have hany := any_k he hk rfl hd (kvs := kvs)
  have nk : ∀ w, (nkD k).hash w0 = (nkD k).hash w := fun w => nm_hash w0 w k (dKey_of hk).2.1
  unfold dPut
  by_cases hf : (dFind kvs k).isSome = true
  · rw [if_pos hf, repl_keys]
    rw [hany] at hf
    have es1 : storedH (xsOf es (kvs.map Prod.fst)) (nkD k) b z = (xsOf es (kvs.map Prod.fst)).map (putAt (nkD k) z) := by
      unfold storedH
      rw [if_pos hf]
    rw [es1] at g4 g6
    obtain ⟨vs', p1, p2, p3⟩ := put_old (P := P) (w0 := w0) he hk rz ru rfl hd rv
    refine ⟨o', vs', g1, ⟨sys, g2, hd, ?_, by rw [List.length_map]; exact Nat.le_of_lt hl, es', ep', g3, by rw [g4]; exact p1⟩, by rw [p2]; exact rp, p3⟩
    rw [keys_map_putAt, xs_keys he] at g6
    exact g6
  · rw [if_neg hf]
    rw [hany] at hf
    have es1 : storedH (xsOf es (kvs.map Prod.fst)) (nkD k) b z = xsOf es (kvs.map Prod.fst) ++ [(nkD k, b, z)] := by
      unfold storedH
      rw [if_neg hf]
    rw [es1] at g4 g6
    have ek : (kvs ++ [(k, u)]).map Prod.fst = kvs.map Prod.fst ++ [k] := by rw [List.map_append]; rfl
    have ev : (kvs ++ [(k, u)]).map Prod.snd = kvs.map Prod.snd ++ [u] := by rw [List.map_append]; rfl
    rw [ek, ev]
    have eo : es = (xsOf es (kvs.map Prod.fst)).map (entryOfKey (nestedKind P w0)) := xs_ent he
    refine ⟨o', vs ++ [(.ref b, y)], g1, ⟨sys, g2, fun c hc => ?_, ?_, by rw [List.length_append, List.length_map]; exact hl, es', ep', g3, ?_⟩, ?_, ?_⟩
    · rcases List.mem_append.mp hc with hc | hc
      · exact hd c hc
      · rw [List.mem_singleton.mp hc]; exact hk
    · rw [List.map_append, xs_keys he] at g6
      rw [List.map_append]
      exact g6
    · rw [g4, List.map_append, ← eo]
      exact ent_snoc he rz nk
    · rw [List.map_append]
      exact rp.append (.cons rk .nil)
    · rw [List.map_append]
      exact rv.append (.cons ru .nil)
/-- d[k] = v, d a box -/
theorem dct_put (hu : A.units + 65 < cLine) (I : Inv X pins σ H s) {kvs : List (PyData × U)} {k : PyData} {y v : V} {u0 z : Value} {u : U} {Q : Unit → Shared → Prop} (hH : H a = some (DX a o)) (d : DObj a o vs (kvs.map Prod.fst)) (rp : RpA X.K M H (vs.map Prod.fst) (kvs.map Prod.fst)) (rv : RUs X.K M H (vs.map Prod.snd) (kvs.map Prod.snd))
    (hk : dKind kvs k = true) (hl : kvs.length < sizeLine) (rk : Rp X.K M H y k) (ry : RelV y u0) (rz : RelV v z) (ru : RU X.K M H v u)
    (q : ∀ o' vs' s', Inv X pins σ (upd H a (DX a o')) s' → DObj a o' vs' ((dPut kvs k u).map Prod.fst) → RpA X.K M H (vs'.map Prod.fst) ((dPut kvs k u).map Prod.fst) → RUs X.K M H (vs'.map Prod.snd) ((dPut kvs k u).map Prod.snd) → Q () s') :
    wpAny (model X.prog X.w) A (setItem (.ref a) u0 z) Q E s := by
  have hd := dKind_d hk d.key
  obtain ⟨es, ep, e1, e2, e3, e4⟩ := dh_of I (.inl hH) d rp
  obtain ⟨b, rfl, rfl, hb⟩ := key_at I rk hd ry
  refine wpAny_setItem_heap (room_k hu) hb e3 (fun h' dd hs => ?_) e4
  obtain ⟨o', vs', g1, g2, g3, g4⟩ := put_obj d.sys e2 d.key hd hl rp rv rk rz ru dd
  refine q o' vs' _ ?_ g2 g3 g4
  exact d_write I (by rw [hH]; exact True.intro) hs ⟨o', g1⟩ ⟨g1, ⟨o', g1⟩, fun h1 h2 p r => r _ p⟩
theorem DX_ok {P : Program} {w : World} {H' : Hp} {h : Heap} (g : h.get? a = some o) : ObjOk P w H' h a (DX a o) := ⟨g, ⟨o, g⟩, fun h1 h2 p r => r _ p⟩
theorem dobj_nil {h : Heap} (sys : (a == sysModules) = false) (ho : o = { cls := .type "dict", data := .dict #[] }) : DObj a o [] [] :=
  ⟨sys, (by rw [ho]; exact ⟨rfl, rfl, rfl⟩), (fun k hk => nomatch hk), List.nodup_nil, Nat.zero_le _, #[], 0, (by rw [ho]), .nil⟩
/-- {} -/
def tDNewD : TE := fun _ H Q => ∀ p o, H p = none → DObj p o [] [] → Q (.ref p) (upd H p (DX p o))
theorem pe_dnewD {pos : Pos} : PE X (.Dict [] [] pos) tDNewD := ⟨fun pins s σ H Q I h =>
  wpAny_Dict_empty ⟨.ref s.heap.objs.size, _, I.laid (a := s.heap.objs.size) (o := DX s.heap.objs.size { cls := .type "dict", data := .dict #[] }) (t' := s.toks) (fun _ _ q => Heap.get?_push_of_some _ q) (Nat.le_refl _) (DX_ok (Heap.get?_push_size _ rfl)), rfl,
    h _ _ (I.hok.fresh (Nat.le_refl _)) (dobj_nil (h := s.heap) (beq_eq_false_iff_ne.mpr (Ne.symm (Nat.ne_of_lt I.big))) rfl)⟩⟩
end
end Ev
end

section
set_option Elab.async false
set_option linter.all false
set_option autoImplicit false
set_option maxRecDepth 100000
set_option maxHeartbeats 4000000
/-! # Dicts: d[k], d.get(k, x), len(d), d[k] = v as rules; walks -/
namespace Ev
open PySem PySem.Spec PyProof.Rows L2
section
variable {X : Cx} {pins : List (Addr × Obj)} {σ : L2.St} {H : Hp} {s : Shared} {M : Ms} {a : Addr} {o : Obj} {vs : List (V × V)} {ks : List PyData} {A : Around} {E : Value → Shared → Prop} {ws : List (Key × V)}
theorem dks_is (I : Inv X pins σ H s) (h : DKs X.K M H a ks) : s.TypeIs (.ref a) "dict" ∧ (∀ b, Value.ref a = .ref b → ∃ ob, s.heap.get? b = some ob ∧ ob.dict = none) ∧ (a == sysModules) = false := by
  rcases h with ⟨o, vs, h1, d, r⟩ | ⟨ws, h1, _⟩
  · have g := DX_at I h1
    exact ⟨⟨o, g, d.ex.1⟩, fun b q => by cases q; exact ⟨o, g, d.ex.2.1⟩, d.sys⟩
  · exact isD_at I (.inl ⟨ws, .inl h1⟩)
/-- the end of a subscript of a dict -/
theorem tail_dct {value slice : Expr} {iv : Value} {Q : Value → Shared → Prop} (hT : s.TypeIs (.ref a) "dict") (hs : subscripted slice false (.ref a) iv = operate [.ref a, iv] (getItem (.ref a) iv)) (h : wpAny (model X.prog X.w) A (getItem (.ref a) iv) Q E s) :
    wpAny (model X.prog X.w) A (subscriptTail value slice (.ref a) iv) Q E s := by
  have fin : wpAny (model X.prog X.w) A (subscripted slice false (.ref a) iv) (fun r s3 => wpAny (model X.prog X.w) A (letTemporaryGo value (.ref a) r >>= fun _ => pure r) Q E s3) E s := by
    rw [hs]
    exact wpAny_operating (wpAny_mono h (fun r s3 h3 => wpAny_bind (wpAny_letTemporaryGo (wpAny_pure h3))) fun _ _ x => x)
  unfold subscriptTail
  refine wpAny_bind ?_
  rw [getitemInPython_of_ne hT.not_modules]
  refine wpAny_bind (wpAny_specialOf hT PySem.F.slot_dict_getitem.lookup ?_)
  first
    | exact wpAny_pure (wpAny_bind fin)
    | exact wpAny_bind (wpAny_pure (wpAny_bind fin))
    | exact wpAny_bind fin
/-- len(d) -/
theorem dct_len {α : Type} {kvs : List (PyData × α)} (I : Inv X pins σ H s) (h : DKs X.K M H a (kvs.map Prod.fst)) {Q : Value → Shared → Prop} (q : ∀ t s', Inv X pins σ H s' → Q (.int kvs.length t) s') : wpAny (model X.prog X.w) A (call (.builtin "len") [.ref a]) Q E s := by
  rcases h with ⟨o, vs, h1, d, r⟩ | ⟨ws, h1, hn, hs, r⟩
  · obtain ⟨es, ep, e1, e2, e3, e4⟩ := dh_of I h1 d r
    have hz : es.size = kvs.length := by
      have := e2.len.1
      rw [Array.length_toList, List.length_map] at this
      exact this
    have hle : kvs.length ≤ sizeLine := by have := d.le; rwa [List.length_map] at this
    refine PyProof.Rows.call_len_slot (n := kvs.length) ⟨o, DX_at I h1, d.ex.1⟩ PySem.F.slot_dict_len (fun Q' hq => call_len_raw d.sys (es := es) (ep := ep) ⟨o, DX_at I h1, d.ex, e1⟩ (by rw [hz]; exact hq)) (by omega) (by rw [sizeLine_eq] at hle; omega) ?_
    exact q _ _ (I.tok _)
  · have hl : ws.length = kvs.length := by have := r.length; rwa [List.length_map, List.length_map] at this
    refine d_len I (.inl h1) fun t s' I' => ?_
    rw [hl]
    exact q t s' I'
end
/-- a place of a list is written, or a key of a dict -/
def rPut (K : W.Frag) : V → V → V → Hp → (Hp → Prop) → Prop := fun o i v H Q => rSetL o i v H Q ∨
  (∃ M a ob vs kvs k u, o = .ref a ∧ H a = some (DX a ob) ∧ DObj a ob vs (kvs.map Prod.fst) ∧ RpA K M H (vs.map Prod.fst) (kvs.map Prod.fst) ∧ RUs K M H (vs.map Prod.snd) (kvs.map Prod.snd) ∧ dKind kvs k = true ∧ kvs.length < sizeLine ∧ Rp K M H i k ∧ RU K M H v u ∧
    ∀ o' vs', DObj a o' vs' ((dPut kvs k u).map Prod.fst) → RpA K M H (vs'.map Prod.fst) ((dPut kvs k u).map Prod.fst) → RUs K M H (vs'.map Prod.snd) ((dPut kvs k u).map Prod.snd) → Q (upd H a (DX a o'))) ∨
  ∃ a ws x, o = .ref a ∧ i = .str x ∧ H a = some (.dK ws) ∧ ws.length < sizeLine ∧ Q (upd H a (.dK (putK ws (.inr x) v)))
theorem set_put {X : Cx} (hu : X.A.units + 65 < cLine) : PSet X (rPut X.K) := by
  intro pins s σ H o i v ov iv u Q I ro ri rv h
  rcases h with h | ⟨M, a, ob, vs, kvs, k, w, rfl, h1, d, r, q, hk, hl, rk, ru, c⟩ | ⟨a, ws, x, rfl, rfl, h1, hl, c⟩
  · exact set_list pins s σ H o i v ov iv u Q I ro ri rv h
  · obtain rfl : ov = Value.ref a := ro
    exact dct_put hu I h1 d r q hk hl rk ri rv ru fun o' vs' s' I' e1 e2 e3 => ⟨_, I', c o' vs' e1 e2 e3⟩
  · obtain rfl : ov = Value.ref a := ro
    exact d_setItem (y := kV (.inr x)) (by omega) I (DPut.k h1 hl) ri rv fun s' I' => ⟨_, I', c⟩
theorem keys_s {K : W.Frag} {M : Ms} {H : Hp} {x : Str} {v : V} {u : U} : ∀ {kvs : List (PyData × U)} {ws : List (Key × V)}, (∀ c, c ∈ kvs.map Prod.fst → sKey c = true) → RpA K M H (ws.map fun q => kV q.1) (kvs.map Prod.fst) → RUs K M H (ws.map Prod.snd) (kvs.map Prod.snd) → RU K M H v u →
    (dFind kvs (.str x)).isSome = (ws.any fun kv => decide (kv.1 = .inr x)) ∧ RUs K M H ((ws.map fun kv => if kv.1 = .inr x then (kv.1, v) else kv).map Prod.snd) ((dRepl kvs (.str x) u).map Prod.snd) ∧ (ws.map fun kv => if kv.1 = Sum.inr x then (kv.1, v) else kv).map (fun q => kV q.1) = ws.map fun q => kV q.1
  | [], [], _, _, _, _ => ⟨rfl, .nil, rfl⟩
  | [], _ :: _, _, r, _, _ => nomatch r
  | _ :: _, [], _, r, _, _ => nomatch r
  | (c, w) :: kvs, (k, y) :: ws, hk, r, q, ru => by
    cases r with
    | cons r1 r2 =>
      cases q with
      | cons q1 q2 =>
        obtain ⟨z, e⟩ := sKey_of (hk c List.mem_cons_self)
        have e : c = .str z := e
        subst e
        have e2 : k = .inr z := by
          cases k with
          | inl i => cases r1
          | inr t => cases r1; rfl
        subst e2
        obtain ⟨i1, i2, i3⟩ := keys_s (x := x) (fun c hc => hk c (List.mem_cons_of_mem _ hc)) r2 q2 ru
        have ed : dRepl ((PyData.str z, w) :: kvs) (.str x) u = (if z = x then (PyData.str z, u) else (PyData.str z, w)) :: dRepl kvs (.str x) u := by
          show (if PyData.eqv (.str z) (.str x) = true then _ else _) :: dRepl kvs (.str x) u = _
          rw [str_eqv]
          by_cases hz : z = x
          · rw [decide_eq_true hz, if_pos rfl, if_pos hz]
          · rw [decide_eq_false hz, if_neg (by decide), if_neg hz]
        rw [ed]
        unfold dFind
        rw [str_eqv, List.any_cons, List.map_cons, List.map_cons]
        by_cases hz : z = x
        · subst hz
          rw [decide_eq_true rfl, if_pos rfl, if_pos rfl, if_pos rfl, decide_eq_true rfl]
          exact ⟨rfl, .cons ru i2, by rw [List.map_cons, List.map_cons, i3]⟩
        · have hne : ¬ (Sum.inr z : Key) = .inr x := fun e => hz (Sum.inr.inj e)
          rw [decide_eq_false hz, if_neg (by decide), if_neg hz, if_neg hne, decide_eq_false hne, Bool.false_or]
          exact ⟨i1, .cons q1 i2, by rw [List.map_cons, List.map_cons, i3]⟩
/-! ### walks -/
/-- the keys of the dict object o at a -/
def Itdk (a : Addr) (o : Obj) (vs : List (V × V)) : L2.It :=
  ⟨fun i H => Rd H a (DX a o) ∧ i < vs.length, fun i H x H' => H' = H ∧ ∃ y, vs[i]? = some (x, y), fun i H => Rd H a (DX a o) ∧ vs.length ≤ i⟩
/-- its pairs, each a new tuple -/
def Itdi (a : Addr) (o : Obj) (vs : List (V × V)) : L2.It :=
  ⟨fun i H => Rd H a (DX a o) ∧ i < vs.length, fun i H x H' => ∃ T k v, vs[i]? = some (k, v) ∧ x = .ref T ∧ H T = none ∧ H' = upd H T (.tup [k, v]), fun i H => Rd H a (DX a o) ∧ vs.length ≤ i⟩
theorem ent_at {es : List DictEntry} {vs : List (V × V)} {ks : List PyData} (h : EntOk es vs ks) : ∀ {i : Nat} {q : V × V}, vs[i]? = some q → ∃ en, es[i]? = some en ∧ RelV q.1 en.key ∧ RelV q.2 en.val := by
  induction h with
  | nil => intro i q e; simp at e
  | @cons b hs y z k es vs ks h1 h2 h3 ih =>
    intro i q e
    cases i with
    | zero =>
      simp only [List.getElem?_cons_zero, Option.some.injEq] at e
      subst e
      exact ⟨_, rfl, rfl, h1⟩
    | succ j =>
      simp only [List.getElem?_cons_succ] at e ⊢
      exact ih e
section
variable {P : Program} {w : World} {K : PySem.W.Frag} {tg : Expr} {a : Addr} {o : Obj} {es : Array DictEntry} {ep : Nat} {vs : List (V × V)} {ks : List PyData}
theorem turn_dk (it : Addr) (hod : o.data = .dict es ep) (he : EntOk es.toList vs ks) : Turn P w K tg (Itdk a o vs) [it] it (fun i h => h.IsKeyIter it a i vs.length ep) where
  mem := by simp
  obj := fun i h st b hb => by
    have e : b = it := by simpa using hb
    subst e
    obtain ⟨oi, e, c, dd⟩ := st
    exact ⟨oi, e, fun v z => by rw [dd] at z; cases z⟩
  keep := fun i h h' st k => st.at fun oi e => k it (by simp) oi e
  item := by
    intro X hP hw hK hc i pins s σ H E I hf st hg
    subst hP hw hK
    obtain ⟨hd, hi⟩ := hg
    obtain ⟨f0, f1, f2, f3, f4, f5⟩ := hf it (by simp)
    obtain ⟨⟨k, v⟩, hkv⟩ : ∃ p, vs[i]? = some p := ⟨vs[i], List.getElem?_eq_getElem hi⟩
    obtain ⟨en, hen, r1, r2⟩ := ent_at he hkv
    have hen2 : es[i]? = some en := by rw [← Array.getElem?_toList]; exact hen
    have hsz : es.size = vs.length := by rw [← Array.length_toList, he.len.1, he.len.2]
    refine next_key_item st (DX_at I hd) hod hsz hen2 fun h' st' sb => ?_
    have I1 : Inv X pins σ H { s with heap := h' } := I.turned (t' := s.toks) (fun b ob hb e => (sb.2 b hb).trans e) f0 f1 f3 f4 f5
    obtain ⟨oi, e, c, dd⟩ := id st'
    exact ⟨en.key, rfl, go_of (s := { s with heap := h' }) e c dd (by decide) ⟨k, H, I1, r1, ⟨rfl, v, hkv⟩, st', fun b hb => (hf b hb).1⟩⟩
  done := by
    intro X hP hw hK hc i pins s σ H E I hf st hg
    subst hP hw hK
    obtain ⟨hd, hi⟩ := hg
    obtain ⟨f0, f1, f2, f3, f4, f5⟩ := hf it (by simp)
    have hsz : es.size = vs.length := by rw [← Array.length_toList, he.len.1, he.len.2]
    exact next_key_end (I.ok.hd hc) st (DX_at I hd) hod hsz hi fun h' eb => ⟨rfl, I.turned (t' := s.toks) (fun b ob hb e => eb b ob hb e) f0 f1 f3 f4 f5⟩
  self := fun A i s Q E st h => wpAny_pyIter_keyiter st h
theorem turn_di {elts : List Expr} {kk : Nat} {tpos : Pos} (it : Addr) (hod : o.data = .dict es ep) (hx : o.ExactDict) (he : EntOk es.toList vs ks) :
    Turn P w K (.Tuple elts kk tpos) (Itdi a o vs) [it] it (fun i h => ∃ ok ov, IsItemIter h it a i vs.length ep ok ov) where
  mem := by simp
  obj := fun i h st b hb => by
    have e : b = it := by simpa using hb
    subst e
    obtain ⟨ok, ov, e⟩ := st
    exact ⟨_, e, fun v z => nomatch z⟩
  keep := fun i h h' st k => let ⟨ok, ov, e⟩ := st; ⟨ok, ov, k it (by simp) _ e⟩
  item := by
    intro X hP hw hK hc i pins s σ H E I hf st hg
    subst hP hw hK
    obtain ⟨hd, hi⟩ := hg
    obtain ⟨⟨k, v⟩, hkv⟩ : ∃ p, vs[i]? = some p := ⟨vs[i], List.getElem?_eq_getElem hi⟩
    obtain ⟨en, hen, r1, r2⟩ := ent_at he hkv
    have hsz : es.size = vs.length := by rw [← Array.length_toList, he.len.1, he.len.2]
    have hi2 : i < es.size := by omega
    have hen2 : es[i] = en := by
      have : es[i]? = some en := by rw [← Array.getElem?_toList]; exact hen
      rw [Array.getElem?_eq_getElem hi2] at this
      exact Option.some.inj this
    obtain ⟨ok, ov, hit⟩ := st
    rw [← hsz] at hit
    have hlt : it < s.heap.objs.size := Heap.lt_size hit
    refine wpAny_pyNext_items_item_raw hit ⟨o, DX_at I hd, hx, hod⟩ hi2 fun h' ho hT hz hk => ?_
    rw [hen2] at ho hT
    refine ⟨_, rfl, wpAny_letOwnedTupleGo_items (s := { s with heap := h' }) ho fun h'' he' sb => ?_⟩
    have hT2 : h''.get? s.heap.objs.size = some { cls := .type "tuple", data := .seq #[en.key, en.val] } := (sb.2 _ (Nat.ne_of_gt hlt)).trans hT
    have new : ObjOk X.prog X.w (upd H s.heap.objs.size (.tup [k, v])) h'' s.heap.objs.size (.tup [k, v]) :=
      ⟨by show 2 ≤ sizeLine; decide, [en.key, en.val], .cons r1 (.cons r2 .nil), ⟨_, hT2, rfl, _, rfl⟩⟩
    have I1 : Inv X pins σ (upd H s.heap.objs.size (.tup [k, v])) { s with heap := h'' } :=
      I.turnedNew (t' := s.toks) (ch := [it]) (fun b ob hb e => (sb.2 b (by simpa using hb)).trans (hk b ob (by simpa using hb) e)) hf (Nat.le_refl _) new
    refine ⟨.ref s.heap.objs.size, _, I1, rfl, ⟨_, k, v, hkv, rfl, I.hok.fresh (Nat.le_refl _), rfl⟩, ⟨en.key, en.val, ?_⟩, fun b hb => ?_⟩
    · rw [← hsz]; exact he'
    · have e : b = it := by simpa using hb
      rw [e, upd_ne (Nat.ne_of_lt hlt)]
      exact (hf it (by simp)).1
  done := by
    intro X hP hw hK hc i pins s σ H E I hf st hg
    subst hP hw hK
    obtain ⟨hd, hi⟩ := hg
    obtain ⟨f0, f1, f2, f3, f4, f5⟩ := hf it (by simp)
    have hsz : es.size = vs.length := by rw [← Array.length_toList, he.len.1, he.len.2]
    obtain ⟨ok, ov, hit⟩ := st
    rw [← hsz] at hit
    exact wpAny_pyNext_items_end_raw (I.ok.hd hc) hit ⟨o, DX_at I hd, hx, hod⟩ (by omega) fun h' eb => ⟨rfl, I.turned (t' := s.toks) (fun b ob hb e => eb b ob hb e) f0 f1 f3 f4 f5⟩
  self := fun A i s Q E st h => let ⟨_, _, e⟩ := st; PySem.W.kcp_self e h
end
/-- a dict that is walked: it stands still, or from now on -/
def iDct (mk : Addr → Obj → List (V × V) → L2.It) (td : TE) : TI := fun σ H R => td σ H fun x H1 => ∃ a o vs ks, x = .ref a ∧ DObj a o vs ks ∧ ((Rd H1 a (DX a o) ∧ R (mk a o vs) H1) ∨ (H1 a = some (DX a o) ∧ ∀ od, R (mk a o vs) (upd H1 a (.frz od (DX a o)))))
section
variable {X : Cx} {tg e : Expr} {td : TE} {apos cpos : Pos} {pins : List (Addr × Obj)} {σ : L2.St} {H : Hp} {s : Shared}
theorem lock_of (mk : Addr → Obj → List (V × V) → L2.It) {a : Addr} {o : Obj} {vs : List (V × V)} {R : L2.It → Hp → Prop} (I : Inv X pins σ H s) (h : (Rd H a (DX a o) ∧ R (mk a o vs) H) ∨ (H a = some (DX a o) ∧ ∀ od, R (mk a o vs) (upd H a (.frz od (DX a o))))) :
    ∃ H', Inv X pins σ H' s ∧ Rd H' a (DX a o) ∧ R (mk a o vs) H' := by
  rcases h with ⟨h1, h2⟩ | ⟨h1, h2⟩
  · exact ⟨H, I, h1, h2⟩
  · obtain ⟨od, I'⟩ := I.lock h1 (show Mut (some (DX a o)) from True.intro)
    exact ⟨_, I', .inr ⟨od, upd_same⟩, h2 od⟩
theorem pi_dk (he : PE X e td) : PI X tg e (iDct Itdk td) := by
  refine ⟨fun pins s σ H R I h => ?_⟩
  refine thn (he.run pins s σ H _ I h) fun u s1 ⟨x, H1, I1, rx, a, o, vs, ks, ex, d, q⟩ => ?_
  subst ex
  obtain rfl : u = Value.ref a := rx
  obtain ⟨H2, I2, h2, q2⟩ := lock_of Itdk I1 q
  obtain ⟨es, ep, hod, hent⟩ := d.ent
  have hsz : es.size = vs.length := by rw [← Array.length_toList, hent.len.1, hent.len.2]
  refine iter_keys d.sys (DX_at I2 h2) d.ex hod (pi_one (tk := s1.toks) I2 _ (turn_dk _ hod hent) ⟨_, Heap.get?_push_size _ rfl, rfl, ?_⟩ q2)
  rw [hsz] <;> rfl
theorem pi_di {elts : List Expr} {kk : Nat} {tpos : Pos} (he : PE X e td) (hbase : attributeBase e "items" X.env (eval e X.env) = eval e X.env) (hline : (apos.endLine == cpos.line) = true) :
    PI X (.Tuple elts kk tpos) (.Call (.Attribute e "items" apos) [] [] cpos) (iDct Itdi td) := by
  refine ⟨fun pins s σ H R I h => ?_⟩
  refine wpAny_Call_method (T := "dict") (id := "dict.items") hbase rfl hline F.plainAttrs_dict F.slot_dict_items F.type_dict_items (thn (he.run pins s σ H _ I h) fun u s1 ⟨x, H1, I1, rx, a, o, vs, ks, ex, d, q⟩ => ?_)
  subst ex
  obtain rfl : u = Value.ref a := rx
  obtain ⟨H2, I2, h2, q2⟩ := lock_of Itdi I1 q
  obtain ⟨es, ep, hod, hent⟩ := d.ent
  have hsz : es.size = vs.length := by rw [← Array.length_toList, hent.len.1, hent.len.2]
  have ty : s1.TypeIs (.ref a) "dict" := ⟨o, DX_at I2 h2, d.ex.1⟩
  have hraw : s1.heap.DictRaw a es ep := ⟨o, DX_at I2 h2, d.ex, hod⟩
  refine ⟨ty, fun b z => by cases z; exact ⟨o, DX_at I2 h2, d.ex.2.1⟩, ?_⟩
  have I3 : Inv X pins σ H2 { s1 with heap := s1.heap.push { cls := .type "dict_items", data := .fields #[.ref a] } } := I2.kept (t' := s1.toks) fun b ob q => Heap.get?_push_of_some _ q
  have fin : wpAny (model X.prog X.w) X.A (pyIter (.ref s1.heap.objs.size)) (PIE X pins σ (.Tuple elts kk tpos) R) X.xe { s1 with heap := s1.heap.push { cls := .type "dict_items", data := .fields #[.ref a] } } := by
    refine wpAny_pyIter_items_raw (d := a) (es := es) (ep := ep) ⟨_, Heap.get?_push_size _ rfl, rfl, rfl⟩ (hraw.at fun ob z => Heap.get?_push_of_some _ z) (pi_one (tk := s1.toks) I3 _ (turn_di _ hod d.ex hent) ⟨.none, .none, ?_⟩ q2)
    rw [hsz]
    exact Heap.get?_push_size _ rfl
  show wpAny _ _ (callWith cpos (.builtin "dict.items") [.ref a] [] []) _ X.xe s1
  exact method_meetsIn F.slot_dict_items F.entry_dict_items rfl (PySem.evalArgs_none ⟨rfl, ty, F.args_dict_items_1 _, _, meets_dict_items_raw a d.sys, ⟨es, ep, hraw⟩, fin⟩)
end
end Ev
end

section
set_option Elab.async false
set_option linter.all false
set_option autoImplicit false
set_option maxRecDepth 100000
set_option maxHeartbeats 4000000
/-! # Dict comprehensions whose keys are tuples -/
namespace Ev
open PySem PySem.Spec PyProof.Rows L2
section
variable {X : Cx} {pins : List (Addr × Obj)} {σ : L2.St} {H : Hp} {s : Shared} {M : Ms} {a : Addr} {o : Obj} {vs : List (V × V)} {A : Around} {E : Value → Shared → Prop}
/-- a pair is put into the dict that a comprehension or a display makes -/
theorem dct_set (hu : A.units + 65 < cLine) (I : Inv X pins σ H s) {kvs : List (PyData × U)} {k : PyData} {y v : V} {u0 z : Value} {u : U} {Q : Unit → Shared → Prop} (hH : H a = some (DX a o)) (d : DObj a o vs (kvs.map Prod.fst)) (rp : RpA X.K M H (vs.map Prod.fst) (kvs.map Prod.fst)) (rv : RUs X.K M H (vs.map Prod.snd) (kvs.map Prod.snd))
    (hd : dKey k = true) (hl : kvs.length < sizeLine) (rk : Rp X.K M H y k) (ry : RelV y u0) (rz : RelV v z) (ru : RU X.K M H v u)
    (q : ∀ o' vs' s', Inv X pins σ (upd H a (DX a o')) s' → DObj a o' vs' ((dPut kvs k u).map Prod.fst) → RpA X.K M H (vs'.map Prod.fst) ((dPut kvs k u).map Prod.fst) → RUs X.K M H (vs'.map Prod.snd) ((dPut kvs k u).map Prod.snd) → Q () s') :
    wpAny (model X.prog X.w) A (dictSet a u0 z) Q E s := by
  obtain ⟨es, ep, e1, e2, e3, e4⟩ := dh_of I (.inl hH) d rp
  obtain ⟨b, rfl, rfl, hb⟩ := key_at I rk hd ry
  have room : (nestedKind X.prog X.w).room A := by
    show A.units + 8 < cLine
    omega
  refine wpAny_dictSet_heap room hb e3 (fun h' dd hs => ?_) e4
  obtain ⟨o', vs', g1, g2, g3, g4⟩ := put_obj d.sys e2 d.key hd hl rp rv rk rz ru dd
  refine q o' vs' _ ?_ g2 g3 g4
  exact d_write I (by rw [hH]; exact True.intro) hs ⟨o', g1⟩ ⟨g1, ⟨o', g1⟩, fun h1 h2 p r => r _ p⟩
end
section
variable {X : Cx}
/-- a pair more: what stands in the dict then -/
def PutN (K : W.Frag) (D : Addr) (y z : V) (H : Hp) (Nx : Hp → Prop) : Prop := ∃ M o vs kvs k u, H D = some (DX D o) ∧ DObj D o vs (kvs.map Prod.fst) ∧ RpA K M H (vs.map Prod.fst) (kvs.map Prod.fst) ∧ RUs K M H (vs.map Prod.snd) (kvs.map Prod.snd) ∧ dKey k = true ∧ kvs.length < sizeLine ∧ Rp K M H y k ∧ RU K M H z u ∧
  ∀ o' vs', DObj D o' vs' ((dPut kvs k u).map Prod.fst) → RpA K M H (vs'.map Prod.fst) ((dPut kvs k u).map Prod.fst) → RUs K M H (vs'.map Prod.snd) ((dPut kvs k u).map Prod.snd) → Nx (upd H D (DX D o'))
/-- {k: v for ..}: D the new dict -/
def tDcN (K : W.Frag) (wi : TI) (g : TG) (tt : TT) (tk tv : TE) (ws : List Nat) : TE := fun σ H Q => wi σ H fun J H1 => ∀ D o, H1 D = none → DObj D o [] [] → ∃ W : Nat → Nat → Hp → Prop, (∃ m, W 0 m (upd H1 D (DX D o))) ∧ ∀ i m H, W i m H →
  (J.stop i H ∧ Q (.ref D) H) ∨ (J.go i H ∧ ∃ Nx : Hp → Prop, (∀ H', Nx H' → ∃ m', m' < m ∧ W (i + 1) m' H') ∧ ∀ x H', J.yld i H x H' → g x (L2.wipe σ ws) H' fun σ2 H2 => L2.wipe σ2 ws = L2.wipe σ ws ∧ tt σ2 H2 fun b H3 =>
    if b = true then tk σ2 H3 fun y H4 => tv σ2 H4 fun z H5 => PutN K D y z H5 Nx else Nx H3)
/-- in a block of X, whatever block it is -/
abbrev EachB (X : Cx) (scope : Scope) (P : Cx → Prop) : Prop := ∀ (s : Shared) (H : Hp) (C : Addr) (cl : List (Str × Addr)) (fp : List Addr), P (X.blk s H scope (compEnvC scope cl C X.env) fp)
theorem dcN_core {pins : List (Addr × Obj)} {s : Shared} {σ : L2.St} {H : Hp} {Q : VK} {kx vx tg iter : Expr} {ifs : List Expr} {scope : Scope} {own : List (Str × Nat)} {pos pos' : Pos} {wi : TI} {g : TG} {tt : TT} {tk tv : TE} {use : Option (Value → Sem Unit)} {Qf : Value → Shared → Prop}
    (hu : X.A.units + 65 < cLine) (calm : X.calm = true) (nd : X.N.Nodup) (I : Inv X pins σ H s) (pi : PI X tg iter wi) (ok : BlkOk X.N X.env.scope scope own)
    (pg : EachB X scope fun Y => PG Y tg g) (pt : EachB X scope fun Y => PTs Y ifs tt) (pk : EachB X scope fun Y => PE Y kx tk) (pv : EachB X scope fun Y => PE Y vx tv) (hs : ∀ x, foldedSetIterable iter X.env x = pure x)
    (h : tDcN X.K wi g tt tk tv (own.map (·.2)) σ H Q)
    (last : ∀ D C s' m H', Inv X pins σ H' s' → Q (.ref D) H' → s'.heap.Ns C m → FpOk X pins H' C → compPost (model X.prog X.w) X.A X.xe use Qf (.ref D) C (.ok .next) s') :
    wpAny (model X.prog X.w) X.A (comprehension (.DictComp kx vx [⟨tg, iter, ifs, 0⟩] scope pos) scope X.env pos' newDict false (eval iter X.env) use) Qf X.xe s := by
  have fr : ∀ y ∈ scope.names, y.2 = .free → ∃ c, X.env.cells.lookup y.1 = some c := fun y hy e => (ok.free y hy e).elim (fun k => I.ok.has _ (.inl k)) fun k => I.ok.has _ (.inr k)
  refine wpAny_comprehension_free (use := use) rfl hs (closure_ok fr) ok.kind (fun y hy e => by rw [ok.uniq y hy, e]) ?_
  refine thn (pi.run pins s σ H _ I h) fun v0 s1 h1 => thn h1 fun v1 s2 ⟨it, fp, tn, J, H2, e0, I2, T, start, ffp, goal⟩ => ?_
  subst e0
  refine wpAny_newObj_type (newEnv_comp ?_)
  have fresh : H2 s2.heap.objs.size = none := I2.hok.fresh (Nat.le_refl _)
  have lay := I2.laid (a := s2.heap.objs.size) (o := DX s2.heap.objs.size { cls := .type "dict", data := .dict #[] }) (t' := s2.toks) (h' := s2.heap.push { cls := .type "dict", data := .dict #[] }) (fun _ _ q => Heap.get?_push_of_some _ q) (Nat.le_refl _) (DX_ok (Heap.get?_push_size _ rfl))
  obtain ⟨W, ⟨m0, w0⟩, turn⟩ := goal s2.heap.objs.size { cls := .type "dict", data := .dict #[] } fresh (dobj_nil (h := s2.heap) (beq_eq_false_iff_ne.mpr (Ne.symm (Nat.ne_of_lt I2.big))) rfl)
  have below : ∀ b ∈ fp, b < s2.heap.objs.size := fun b hb => let ⟨o, e, _⟩ := T.obj _ _ start b hb; Heap.lt_size e
  -- the state in which the block begins
  obtain ⟨t, et⟩ : ∃ t : Shared, t = { s2 with heap := s2.heap.push { cls := .type "dict", data := .dict #[] } } := ⟨_, rfl⟩
  have th : t.heap = s2.heap.push { cls := .type "dict", data := .dict #[] } := by rw [et]
  obtain ⟨D, eD⟩ : ∃ D, D = s2.heap.objs.size := ⟨_, rfl⟩
  have It : Inv X pins σ (upd H2 D (DX D { cls := .type "dict", data := .dict #[] })) t := by rw [et, eD]; exact lay
  have ft : ∀ b ∈ fp, FpOk X pins (upd H2 D (DX D { cls := .type "dict", data := .dict #[] })) b ∧ b < t.heap.objs.size := fun b hb => by
    have l := below b hb
    refine ⟨⟨?_, (ffp b hb).2⟩, by rw [th, Heap.size_push]; exact Nat.lt_succ_of_lt l⟩
    rw [upd_ne (by rw [eD]; exact Nat.ne_of_lt l)]
    exact (ffp b hb).1
  have st : tn 0 t.heap := T.keep _ _ _ start fun b _ o e => by rw [th]; exact Heap.get?_push_of_some _ e
  rw [← eD] at w0
  have turn : ∀ i m H, W i m H → (J.stop i H ∧ Q (.ref D) H) ∨ (J.go i H ∧ ∃ Nx : Hp → Prop, (∀ H', Nx H' → ∃ m', m' < m ∧ W (i + 1) m' H') ∧ ∀ x H', J.yld i H x H' → g x (L2.wipe σ (own.map (·.2))) H' fun σ2 H2 => L2.wipe σ2 (own.map (·.2)) = L2.wipe σ (own.map (·.2)) ∧ tt σ2 H2 fun b H3 =>
    if b = true then tk σ2 H3 fun y H4 => tv σ2 H4 fun z H5 => PutN X.K D y z H5 Nx else Nx H3) := by rw [eD]; exact turn
  have Ib := block_start It ok nd ft
  generalize eH : upd H2 D (DX D { cls := .type "dict", data := .dict #[] }) = Hb at It Ib w0 ft
  have bg := pg t Hb t.heap.objs.size (cellsFrom (t.heap.objs.size + 1) scope.names (cloFrom X.env.cells scope.names [])) fp
  have bt := pt t Hb t.heap.objs.size (cellsFrom (t.heap.objs.size + 1) scope.names (cloFrom X.env.cells scope.names [])) fp
  have bk := pk t Hb t.heap.objs.size (cellsFrom (t.heap.objs.size + 1) scope.names (cloFrom X.env.cells scope.names [])) fp
  have bv := pv t Hb t.heap.objs.size (cellsFrom (t.heap.objs.size + 1) scope.names (cloFrom X.env.cells scope.names [])) fp
  rw [← et, ← eD]
  show codeAny (model X.prog X.w) X.A (.compStart _ 0 (.ref it) (.ref D) (compEnvC scope (cellsFrom (t.heap.objs.size + 1) scope.names (cloFrom X.env.cells scope.names [])) t.heap.objs.size X.env)) (compPost (model X.prog X.w) X.A X.xe use Qf (.ref D) t.heap.objs.size) { t with heap := pushCells (t.heap.push { cls := .type "dict", data := .dict #[] }) scope.names }
  have none_fp : ∀ b ∈ fp, Hb b = none := fun b hb => (ft b hb).1.1
  generalize ec : compEnvC scope (cellsFrom (t.heap.objs.size + 1) scope.names (cloFrom X.env.cells scope.names [])) t.heap.objs.size X.env = ce at Ib bg bt bk bv ⊢
  have el : ce.locals = t.heap.objs.size := by subst ec; rfl
  generalize eb : ({ t with heap := pushCells (t.heap.push { cls := .type "dict", data := .dict #[] }) scope.names } : Shared) = tb at Ib ⊢
  have stb : tn 0 tb.heap := T.keep _ _ _ st fun b _ o e => by rw [← eb]; exact pushCells_keeps _ _ _ _ (Heap.get?_push_of_some _ e)
  have alone : ∀ {σ' : L2.St} {H' : Hp} {s' : Shared}, Inv (X.blk t Hb scope ce fp) [] σ' H' s' → (∀ b ∈ fp, H' b = none) → ∀ b ∈ fp, FpOk (X.blk t Hb scope ce fp) [] H' b := fun {_ H' _} I' n b hb =>
    ⟨n b hb, (I'.ok.exf b hb).1, I'.ok.exfs b hb, .inl hb, fun x c e => (I'.ok.exf b hb).2 x c e, fun p hp => by cases hp⟩
  refine codeAny_compStart_dict ?run (T.self X.A 0 _ _ _ stb ?run)
  refine compLoop_anyD (fun n s' => ∃ i H', Inv (X.blk t Hb scope ce fp) [] (L2.wipe σ (own.map (·.2))) H' s' ∧ tn i s'.heap ∧ (∀ b ∈ fp, H' b = none) ∧ W i n H') ?_ m0 ⟨0, Hb, Ib, stb, none_fp, w0⟩
  rintro n s5 ⟨i, H5, I5, st5, n5, w5⟩
  rcases turn i n H5 w5 with ⟨stop, won⟩ | ⟨go, Nx, hNx, step⟩
  · refine thnF (T.done (X.blk t Hb scope ce fp) rfl rfl rfl calm i [] s5 _ H5 (fun _ _ => False) I5 (alone I5 n5) st5 stop) fun r s6 ⟨hr, I6⟩ => ?_
    subst hr
    have I7 : Inv X pins σ H5 s6 := It.call' (ch := fp) I6.os I6.base I6.hok I6.bare fun b hb => ⟨(ft b hb).1.2.2.2.1, (ft b hb).1.2.1, (ft b hb).1.2.2.2.2.1, (ft b hb).1.2.2.2.2.2⟩
    have nl : H5 ce.locals = none := I6.free
    obtain ⟨m, ns, _⟩ := I6.loc
    have ns : s6.heap.Ns ce.locals m := ns
    rw [el] at ns nl
    exact last D t.heap.objs.size s6 m H5 I7 won ns (It.fpOk (Nat.le_refl _) nl)
  · refine thnF (T.item (X.blk t Hb scope ce fp) rfl rfl rfl calm i [] s5 _ H5 (fun _ _ => False) I5 (alone I5 n5) st5 go) fun r s6 ⟨u, hr, h6⟩ => ?_
    subst hr
    refine thnF h6 fun _ s7 ⟨x, H7, I7, r7, y7, st7, n7⟩ => ?_
    have P7 := I7.pinned (alone I7 n7) (T.obj _ _ st7)
    refine thnF (bg.run _ s7 _ H7 x u _ P7 r7 (step x H7 y7)) fun _ s8 ⟨σ8, H8, I8, w8, q8⟩ => thnF (bt.run _ s8 σ8 H8 _ I8 q8) fun b s9 ⟨H9, I9, q9⟩ => ?_
    have fin : ∀ {s' : Shared} {H' : Hp}, Inv (X.blk t Hb scope ce fp) ([] ++ pinsAt fp s7.heap) σ8 H' s' → Nx H' → ∃ m, m < n ∧ ∃ i H', Inv (X.blk t Hb scope ce fp) [] (L2.wipe σ (own.map (·.2))) H' s' ∧ tn i s'.heap ∧ (∀ b ∈ fp, H' b = none) ∧ W i m H' := fun {s' H'} I' nx => by
      obtain ⟨m', hm, w'⟩ := hNx H' nx
      have held : ∀ b ∈ fp, ∀ o, s7.heap.get? b = some o → s'.heap.get? b = some o ∧ H' b = none := fun b hb o e =>
        let z := I'.pin (b, o) (List.mem_append_right _ (List.mem_append_right _ (mem_pinsAt hb e)))
        ⟨z.1, z.2.1⟩
      refine ⟨m', hm, i + 1, H', (I'.unpinned (pins := [])).weak (by rw [← w8, L2.wipe_length]) (fun j v e => ?_), T.keep _ _ _ st7 fun b hb o e => (held b hb o e).1, fun b hb => ?_, w'⟩
      · rw [← w8] at e
        exact (wipe_some e).1
      · obtain ⟨o, e, _⟩ := T.obj _ _ st7 b hb
        exact (held b hb o e).2
    cases b with
    | false =>
      rw [if_neg (by decide)] at q9 ⊢
      exact fin I9 q9
    | true =>
      rw [if_pos rfl] at q9 ⊢
      refine thnF (bk.run _ s9 σ8 H9 _ I9 q9) fun z s10 ⟨yk, H10, I10, r10, q10⟩ => thnF (bv.run _ s10 σ8 H10 _ I10 q10) fun z2 s11 ⟨yv, H11, I11, r11, M, o, vs, kvs, k, w, g1, g2, g3, g4, g5, g6, g7, g8, nx⟩ => ?_
      exact dct_set (X := X.blk t Hb scope ce fp) hu I11 g1 g2 g3 g4 g5 g6 g7 r10 r11 g8 fun o' vs' s12 I12 d1 d2 d3 => fin I12 (nx o' vs' d1 d2 d3)
theorem pe_dcN {kx vx tg iter : Expr} {ifs : List Expr} {scope : Scope} {own : List (Str × Nat)} {pos : Pos} {wi : TI} {g : TG} {tt : TT} {tk tv : TE} (hu : X.A.units + 65 < cLine) (calm : X.calm = true) (nd : X.N.Nodup) (pi : PI X tg iter wi) (ok : BlkOk X.N X.env.scope scope own)
    (pg : EachB X scope fun Y => PG Y tg g) (pt : EachB X scope fun Y => PTs Y ifs tt) (pk : EachB X scope fun Y => PE Y kx tk) (pv : EachB X scope fun Y => PE Y vx tv) (hs : ∀ x, foldedSetIterable iter X.env x = pure x) :
    PE X (.DictComp kx vx [⟨tg, iter, ifs, 0⟩] scope pos) (tDcN X.K wi g tt tk tv (own.map (·.2))) := by
  refine ⟨fun pins s σ H Q I h => ?_⟩
  rw [arm_eval_DictComp]
  refine dcN_core hu calm nd I pi ok pg pt pk pv hs h fun D C s' m H' I' q hn ⟨f0, f1, f2, f3, f4, f5⟩ => ⟨m, hn, fun h'' sb => ?_⟩
  exact ⟨.ref D, H', I'.turned (t' := s'.toks) (fun b o hb e => (sb.2 b hb).trans e) f0 f1 f3 f4 f5, rfl, q⟩
end
end Ev
end

section
set_option Elab.async false
set_option linter.all false
set_option autoImplicit false
set_option maxRecDepth 100000
set_option maxHeartbeats 4000000
/-! # The order of data; what sorts -/
namespace Ev
open PySem PySem.Spec PyProof.Rows L2
/-! ### the order of data -/
theorem dlt_irrefl (x : PyData) : W.dataLt x x = false := lex_irrefl (O := itemOrd) _
theorem dle_trans (x y z : PyData) (h1 : W.dataLe false id x y = true) (h2 : W.dataLe false id y z = true) : W.dataLe false id x z = true := by
  have h1 : (!W.dataLt y x) = true := h1
  have h2 : (!W.dataLt z y) = true := h2
  show (!W.dataLt z x) = true
  rw [Bool.not_eq_true'] at h1 h2 ⊢
  cases e : W.dataLt z x with
  | false => rfl
  | true =>
    rcases lex_negTrans (O := itemOrd) (W.keyToks z) (W.keyToks y) (W.keyToks x) e with q | q
    · rw [show W.dataLt z y = true from q] at h2; cases h2
    · rw [show W.dataLt y x = true from q] at h1; cases h1
theorem dlt_asym {x y : PyData} (h : W.dataLt x y = true) : W.dataLt y x = false := by
  cases e : W.dataLt y x with
  | false => rfl
  | true =>
    have := lex_trans (O := itemOrd) _ _ _ h e
    rw [lex_irrefl (O := itemOrd)] at this
    cases this
theorem dle_total (x y : PyData) : (W.dataLe false id x y || W.dataLe false id y x) = true := by
  show ((!W.dataLt y x) || (!W.dataLt x y)) = true
  cases e : W.dataLt y x with
  | false => rfl
  | true => rw [dlt_asym e]; rfl
/-- alike and neither less: equal -/
theorem dlt_anti {x y : PyData} (h : W.alike x y = true) (h1 : W.dataLt x y = false) (h2 : W.dataLt y x = false) : PyData.eqv x y = true := by
  have et : W.keyToks x = W.keyToks y := lex_total (O := itemOrd) _ _ h1 h2
  cases e : PyData.eqv x y with
  | true => rfl
  | false =>
    have q := (W.toks_eqv x y h).2 e [] [.inl 0]
    rw [et] at q
    have p : PyProof.Rows.lexLt itemOrd (W.keyToks y ++ []) (W.keyToks y ++ [.inl 0]) = true := by
      rw [W.lex_pre]
      rfl
    rw [p] at q
    rw [lex_irrefl (O := itemOrd)] at q
    cases q
theorem ins_eq (x : PyData) : ∀ (l1 l2 : List PyData), (∀ b, b ∈ l1 → W.dataLt b x = true) → (∀ b, b ∈ l2 → W.dataLt b x = false) → insD x (l1 ++ l2) = l1 ++ x :: l2
  | [], [], _, _ => rfl
  | [], b :: r, _, h => by
    show (if W.dataLt b x = true then _ else _) = _
    rw [h b List.mem_cons_self, if_neg (by decide)]
    rfl
  | a :: l1, l2, h1, h2 => by
    show (if W.dataLt a x = true then _ else _) = _
    rw [h1 a List.mem_cons_self, if_pos rfl]
    exact congrArg (a :: ·) (ins_eq x l1 l2 (fun b hb => h1 b (List.mem_cons_of_mem _ hb)) h2)
theorem sortD_eq : ∀ xs : List PyData, sortD xs = xs.mergeSort (W.dataLe false id)
  | [] => by rw [List.mergeSort_nil]; rfl
  | x :: r => by
    obtain ⟨l1, l2, e1, e2, e3⟩ := List.mergeSort_cons (le := W.dataLe false id) dle_trans dle_total x r
    show insD x (sortD r) = _
    rw [sortD_eq r, e2, e1]
    have pw : ((x :: r).mergeSort (W.dataLe false id)).Pairwise fun a b => W.dataLe false id a b = true := List.pairwise_mergeSort dle_trans dle_total _
    rw [e1] at pw
    refine ins_eq x l1 l2 (fun b hb => ?_) fun b hb => ?_
    · have q := e3 b hb
      have q : (!(!W.dataLt b x)) = true := q
      rwa [Bool.not_not] at q
    · have q := (List.pairwise_cons.mp (List.pairwise_append.mp pw).2.1).1 b hb
      have q : (!W.dataLt b x) = true := q
      rwa [Bool.not_eq_true'] at q
/-- the same things in two orders, sorted -/
theorem sortD_perm {xs ys : List PyData} (p : xs.Perm ys) (h : ∀ x, x ∈ ys → ∀ y, y ∈ ys → W.alike x y = true) (u : ∀ x, x ∈ ys → ∀ y, y ∈ ys → PyData.eqv x y = true → x = y) : sortD xs = sortD ys := by
  rw [sortD_eq, sortD_eq]
  refine List.Perm.eq_of_pairwise (le := fun a b => W.dataLe false id a b = true) (fun a b ha hb h1 h2 => ?_) (List.pairwise_mergeSort dle_trans dle_total _) (List.pairwise_mergeSort dle_trans dle_total _) ((List.mergeSort_perm _ _).trans (p.trans (List.mergeSort_perm _ _).symm))
  have ha := p.mem_iff.mp (List.mem_mergeSort.mp ha)
  have hb := List.mem_mergeSort.mp hb
  have h1 : (!W.dataLt b a) = true := h1
  have h2 : (!W.dataLt a b) = true := h2
  rw [Bool.not_eq_true'] at h1 h2
  exact u a ha b hb (dlt_anti (h a ha b hb) h2 h1)
end Ev
end

section
set_option Elab.async false
set_option linter.all false
set_option autoImplicit false
set_option maxRecDepth 100000
set_option maxHeartbeats 4000000
namespace Ev
open PySem PySem.Spec PyProof.Rows L2
section
variable {X : Cx} {T : List (Addr × Str)} {cl : Nat → Option Addr} {E : XK}
theorem op_leI : OpR X (compareOp .LtE) (rI0 fun i j => .bl (decide (i ≤ j))) := op_le
theorem shaped2 {x y : PyData} {b : Bool} {k : Bool} (h : (if (SeqAt.shaped x && SeqAt.shaped y) = true then some k else none) = some b) : SeqAt.shaped x = true ∧ SeqAt.shaped y = true ∧ k = b := by
  split at h
  · rename_i hc
    rw [Bool.and_eq_true] at hc
    exact ⟨hc.1, hc.2, Option.some.inj h⟩
  · cases h
theorem map_not {o : Option Bool} {b : Bool} (h : o.map (!·) = some b) : ∃ k, o = some k ∧ (!k) = b := by
  cases o with
  | none => cases h
  | some k => exact ⟨k, rfl, Option.some.inj h⟩
theorem eqD_in {x y : PyData} {b : Bool} (h : eqD x y = some b) : SeqAt.shaped x = true ∧ SeqAt.shaped y = true ∧ PyData.eqv x y = b := shaped2 h
theorem none_iff {K : W.Frag} {M : Ms} {H : Hp} {x : V} {p : PyData} (h : Rs K M H x p) : decide (x = .non) = isNone p := by
  cases p with
  | none => rw [h.none]; rfl
  | list ds =>
    obtain ⟨a, xs, e, _⟩ := h
    rw [e]
    rfl
  | bool b => rw [h.bool]; rfl
  | int b => rw [h.int]; rfl
  | str b => rw [h.str]; rfl
  | tuple ds =>
    obtain ⟨a, xs, e, _⟩ := h.tup
    rw [e]
    rfl
  | dict kvs =>
    obtain ⟨a, e, _⟩ := h
    rw [e]
    rfl
/-- the comparisons -/
theorem ifD {c b k : Bool} (h : (if c = true then some b else none) = some k) : c = true ∧ b = k := by
  split at h
  · rename_i hc
    exact ⟨hc, Option.some.inj h⟩
  · cases h
theorem rs_key {K : W.Frag} {M : Ms} {H : Hp} {α : Type} {kvs : List (PyData × α)} {x : V} {p : PyData} (h : Rs K M H x p) (hk : dKind kvs p = true) : Rp K M H x p := by
  cases p with
  | list _ => unfold dKind dKey sKey at hk; simp at hk
  | dict _ => unfold dKind dKey sKey at hk; simp at hk
  | _ => exact h
theorem cmp_ok (o : CmpOp) (hu : X.A.units + 65 < cLine) : OpR X (compareOp o) (rOp X.K T cl E (fun x y S => R.of S ((cmpU o x y S).map fun b => U.d (.bool b)))) := by
  intro pins s σ H x y v u Q I rx ry ⟨M, S, a, b, ra, rb, st, h⟩
  obtain ⟨k, e, w⟩ := out_bool h
  obtain ⟨p, q, e1, e2, e3⟩ := bind2 e
  have rp := rs_of ra st e1
  have rq := rs_of rb st e2
  have fin : Q (.bl k) H := w.here st (.bl k)
  have h64 : X.A.units + 64 < cLine := by omega
  cases o with
  | Eq =>
    obtain ⟨s1, s2, rfl⟩ := eqD_in e3
    exact op_eqD h64 pins s σ H x y v u Q I rx ry ⟨p, q, rp.dp (noD_shaped s1), rq.dp (noD_shaped s2), s1, s2, fin⟩
  | NotEq =>
    obtain ⟨k', e4, rfl⟩ := map_not e3
    obtain ⟨s1, s2, rfl⟩ := eqD_in e4
    exact op_neD h64 pins s σ H x y v u Q I rx ry ⟨p, q, rp.dp (noD_shaped s1), rq.dp (noD_shaped s2), s1, s2, fin⟩
  | In =>
    have e3 : inD p q = some k := e3
    cases q with
    | list ys =>
      obtain ⟨s1, s2, rfl⟩ := shaped2 e3
      exact op_inD hu pins s σ H x y v u Q I rx ry ⟨p, ys, rp.dp (noD_shaped s1), rq.dp (noD_shaped s2), s1, s2, fin⟩
    | tuple ys =>
      obtain ⟨s1, s2, rfl⟩ := shaped2 e3
      exact op_inT hu pins s σ H x y v u Q I rx ry ⟨p, ys, rp.dp (noD_shaped s1), rq.dp (noD_shaped s2), s1, s2, fin⟩
    | str z =>
      cases p with
      | str z1 =>
        cases e3
        exact op_in_str pins s σ H x y v u Q I rx ry ⟨z1, z, rp.str, rq.str, fin⟩
      | _ => cases e3
    | dict kvs =>
      obtain ⟨hk, rfl⟩ := ifD e3
      obtain ⟨a, rfl, hd⟩ := rq
      obtain rfl : u = Value.ref a := ry
      exact dct_in hu I hd hk (rs_key rp hk) rx fun s' I' => ⟨.bl _, H, I', rfl, fin⟩
    | _ => cases e3
  | NotIn =>
    obtain ⟨k', e4, rfl⟩ := map_not e3
    cases q with
    | list ys =>
      obtain ⟨s1, s2, rfl⟩ := shaped2 e4
      exact op_notInD hu pins s σ H x y v u Q I rx ry ⟨p, ys, rp.dp (noD_shaped s1), rq.dp (noD_shaped s2), s1, s2, fin⟩
    | tuple ys =>
      obtain ⟨s1, s2, rfl⟩ := shaped2 e4
      exact op_notInT hu pins s σ H x y v u Q I rx ry ⟨p, ys, rp.dp (noD_shaped s1), rq.dp (noD_shaped s2), s1, s2, fin⟩
    | str z =>
      cases p with
      | str z1 =>
        cases e4
        exact op_notIn_str pins s σ H x y v u Q I rx ry ⟨z1, z, rp.str, rq.str, fin⟩
      | _ => cases e4
    | dict kvs =>
      obtain ⟨hk, rfl⟩ := ifD e4
      obtain ⟨a, rfl, hd⟩ := rq
      obtain rfl : u = Value.ref a := ry
      exact dct_notIn hu I hd hk (rs_key rp hk) rx fun s' I' => ⟨.bl _, H, I', rfl, fin⟩
    | _ => cases e4
  | Lt =>
    have e3 : ltD p q = some k := e3
    unfold ltD at e3
    split at e3
    · cases e3
      exact op_lt pins s σ H x y v u Q I rx ry ⟨_, _, rp.int, rq.int, fin⟩
    · cases e3
      exact op_lt_str pins s σ H x y v u Q I rx ry ⟨_, _, rp.str, rq.str, fin⟩
    · split at e3
      · rename_i hc
        simp only [Bool.and_eq_true] at hc
        cases e3
        exact op_ltD h64 pins s σ H x y v u Q I rx ry ⟨_, _, rp.dp (noD_shaped hc.1.2), rq.dp (noD_shaped hc.2), hc.1.2, hc.1.1, (fun z => by cases z), fin⟩
      · cases e3
    · cases e3
  | Gt =>
    have e3 : gtD p q = some k := e3
    unfold gtD at e3
    split at e3
    · cases e3
      exact op_gt pins s σ H x y v u Q I rx ry ⟨_, _, rp.int, rq.int, fin⟩
    · cases e3
  | LtE =>
    have e3 : leD p q = some k := e3
    unfold leD at e3
    split at e3
    · cases e3
      exact op_leI pins s σ H x y v u Q I rx ry ⟨_, _, rp.int, rq.int, fin⟩
    · split at e3
      · rename_i hc
        simp only [Bool.and_eq_true] at hc
        cases e3
        exact op_leD h64 pins s σ H x y v u Q I rx ry ⟨_, _, rp.dp (noD_shaped hc.1.2), rq.dp (noD_shaped hc.2), hc.1.2, hc.1.1, (fun z => by cases z), fin⟩
      · cases e3
    · cases e3
  | GtE =>
    have e3 : geD p q = some k := e3
    unfold geD at e3
    split at e3
    · cases e3
      exact op_ge pins s σ H x y v u Q I rx ry ⟨_, _, rp.int, rq.int, fin⟩
    · cases e3
  | Is =>
    have e3 : isD p q = some k := e3
    cases q with
    | none =>
      cases e3
      exact op_isN pins s σ H x y v u Q I rx ry ⟨rq.none, by rw [none_iff rp]; exact fin⟩
    | bool b =>
      cases p with
      | bool a =>
        cases e3
        exact op_isBl pins s σ H x y v u Q I rx ry ⟨_, _, rp.bool, rq.bool, fin⟩
      | _ => cases e3
    | _ => cases e3
  | IsNot =>
    obtain ⟨k', e4, rfl⟩ := map_not e3
    cases q with
    | none =>
      cases e4
      exact op_notN pins s σ H x y v u Q I rx ry ⟨rq.none, by rw [none_iff rp]; exact fin⟩
    | bool b =>
      cases p with
      | bool a =>
        cases e4
        exact op_notBl pins s σ H x y v u Q I rx ry ⟨_, _, rp.bool, rq.bool, fin⟩
      | _ => cases e4
    | _ => cases e4
theorem atI_map {α β : Type} {R : α → β → Prop} {xs : List α} {ds : List β} {i : Int} {d : β} (hl : xs.length = ds.length) (g : ∀ (j : Nat) d, ds[j]? = some d → ∃ v, xs[j]? = some v ∧ R v d) (h : atI ds i = some d) : ∃ v, atI xs i = some v ∧ R v d := by
  unfold atI at h ⊢
  rw [hl]
  cases e : ixN ds.length i with
  | none => rw [e] at h; cases h
  | some j =>
    rw [e] at h
    exact g j d h
def fIdx (x y : U) (S : Store) : R U :=
  match dctOf S x with
  | some kvs => R.of S (getK kvs y)
  | none => R.of S (((deref S x).bind fun p => (deref S y).bind fun q => idxD p q).map .d)
theorem getK_of {kvs : List (PyData × U)} {y w : U} (h : getK kvs y = some w) : ∃ k, y = .d k ∧ dKind kvs k = true ∧ dFind kvs k = some w := by
  unfold getK at h
  split at h
  · rename_i k
    split at h
    · rename_i hk
      exact ⟨k, rfl, hk, h⟩
    · cases h
  · cases h
theorem idx_ok (hu : X.A.units + 65 < cLine) : IxR X (rOp X.K T cl E fIdx) := by
  intro value slice pins s σ H x y v u Q I rx ry ⟨M, S, a, b, ra, rb, st, h⟩ hs
  unfold fIdx at h
  cases ed : dctOf S a with
  | some kvs =>
    rw [ed] at h
    have h2 : Out X.K T cl E M H (R.of S (getK kvs b)) (RU X.K) Q := h
    clear h
    cases eg : getK kvs b with
    | none => rw [eg] at h2; exact h2.elim
    | some w =>
      rw [eg] at h2
      have h3 : Out X.K T cl E M H (.ok w S) (RU X.K) Q := h2
      obtain ⟨k, rfl, hk, hf⟩ := getK_of eg
      obtain ⟨ad, rfl, hd⟩ := dct_of ra st ed
      obtain rfl : v = Value.ref ad := rx
      exact tail_dct (dks_is I hd.ks).1 hs (dct_get hu I hd hk hf rb ry fun z r s' I' rz ru => ⟨z, H, I', rz, h3 z M H (Gr.refl _ _) st ru⟩)
  | none =>
  rw [ed] at h
  have h : Out X.K T cl E M H (R.of S (((deref S a).bind fun p => (deref S b).bind fun q => idxD p q).map .d)) (RU X.K) Q := h
  obtain ⟨r, e, w⟩ := out_data h
  obtain ⟨p, q, e1, e2, e3⟩ := bind2 e
  have rp := rs_of ra st e1
  have rq := rs_of rb st e2
  unfold idxD at e3
  split at e3
  · obtain ⟨a1, xs, h1, h2, h3⟩ := rp
    obtain ⟨z, h4, h5⟩ := atI_map (R := Rp X.K M H) h3.length (fun j d hd => h3.get hd) e3
    exact ix_list value slice pins s σ H x y v u Q I rx ry ⟨a1, xs, _, z, h1, rq.int, SqL.of h2, h4, w.here st h5⟩ hs
  · obtain ⟨a1, xs, h1, h2, h3⟩ := rp.tup
    obtain ⟨z, h4, h5⟩ := atI_map (R := Rp X.K M H) h3.length (fun j d hd => h3.get hd) e3
    exact ix_tup value slice pins s σ H x y v u Q I rx ry ⟨a1, xs, _, z, h1, rq.int, h2.sq, h4, w.here st h5⟩ hs
  · split at e3
    · rename_i z i hz
      cases e4 : atI z.cps.toList i with
      | none => rw [e4] at e3; cases e3
      | some c =>
        rw [e4] at e3
        cases e3
        exact ix_str value slice pins s σ H x y v u Q I rx ry ⟨z, i, c, rp.str, rq.int, by rw [← line_eq]; exact hz, e4, w.here st (.str _)⟩ hs
    · cases e3
  · cases e3
/-- slices -/
def rSlc (K : W.Frag) (T : List (Addr × Str)) : V → Option Int → Option Int → Hp → VK → Prop := fun x lo hi H Q => ∃ M S u p r, RU K M H x u ∧ StOk K T M S H ∧ deref S u = some p ∧ slcD p lo hi = some r ∧ Wish K T M S H r Q
theorem cut_all {α : Type} {xs : List α} {lo hi : Option Int} (h : HT.sIx xs.length 0 lo = 0 ∧ HT.sIx xs.length xs.length hi = xs.length) : cutD xs lo hi = xs := by
  unfold cutD
  rw [h.1, h.2]
  simp
/-- a tuple cut: the whole of it is itself -/
theorem sl_tupF : SlR X (fun x lo hi H Q => ∃ a xs, x = .ref a ∧ SqT X.K H a xs ∧ (HT.sIx xs.length 0 lo = 0 ∧ HT.sIx xs.length xs.length hi = xs.length → Q (.ref a) H) ∧ NewT (cutV xs lo hi) H Q) := by
  intro pins s σ H x v vl vu lo hi sl Q I rx hs pl pu ⟨a, xs, ex, hx, q1, q2⟩
  subst ex
  by_cases hw : HT.sIx xs.length 0 lo = 0 ∧ HT.sIx xs.length xs.length hi = xs.length
  · exact sl_tupA pins s σ H _ v vl vu lo hi sl Q I rx hs pl pu ⟨a, xs, rfl, hx, q1, fun no => absurd hw no⟩
  · cases rx
    obtain ⟨its, r, ht, hz⟩ := I.tuple hx
    have hlen : its.toArray.size = xs.length := by rw [List.size_toArray]; exact r.length.symm
    refine ⟨"tuple", _, PyProof.Rows.slot_tuple_getitem.lookup, ht.typeIs, ?_⟩
    refine HT.getItem_tuple_cut ht hs pl pu (by rw [hlen]; exact hw) ?_ (by rw [hlen]; exact hz)
    rw [hlen]
    exact new_tup I ((r.drop (HT.sIx xs.length 0 lo)).take (HT.sIx xs.length xs.length hi - HT.sIx xs.length 0 lo)) (Nat.le_trans (cutV_length xs lo hi) hz) q2
theorem slc_ok : SlR X (rSlc X.K T) := by
  intro pins s σ H x v vl vu lo hi sl Q I rx hs pl pu ⟨M, S, u, p, r, ru, st, e1, e2, w⟩
  have rp := rs_of ru st e1
  unfold slcD at e2
  split at e2
  · cases e2
    obtain ⟨a1, xs, h1, h2, h3⟩ := rp
    refine sl_list pins s σ H x v vl vu lo hi sl Q I rx hs pl pu ⟨a1, xs, h1, SqL.of h2, fun q hq => w.list st hq ?_⟩
    unfold cutV cutD
    rw [h3.length]
    exact (h3.drop _).take _
  · cases e2
    obtain ⟨a1, xs, h1, h2, h3⟩ := rp.tup
    subst h1
    refine sl_tupF pins s σ H _ v vl vu lo hi sl Q I rx hs pl pu ⟨a1, xs, rfl, h2.sq, fun hw => ?_, w.tuple st ?_⟩
    · rw [cut_all (by rw [← h3.length]; exact hw)] at w
      exact w.here st (.tup h2 h3)
    · unfold cutV cutD
      rw [h3.length]
      exact (h3.drop _).take _
  · split at e2
    · rename_i z hz
      cases e2
      exact sl_str pins s σ H x v vl vu lo hi sl Q I rx hs pl pu ⟨z, rp.str, by rw [← line_eq]; exact hz, w.here st (.str _)⟩
    · cases e2
  · cases e2
/-- truth -/
def rTru (K : W.Frag) (T : List (Addr × Str)) : V → Hp → (Bool → Hp → Prop) → Prop := fun x H Q => ∃ M S u p b, RU K M H x u ∧ StOk K T M S H ∧ deref S u = some p ∧ truD p = some b ∧ Q b H
theorem emp_eq {K : W.Frag} {M : Ms} {H : Hp} {xs : List V} {ds : List PyData} (h : RpA K M H xs ds) : xs.isEmpty = ds.isEmpty := by cases h <;> rfl
theorem truV_of {K : W.Frag} {T : List (Addr × Str)} {M : Ms} {S : Store} {H : Hp} {x : V} {u : U} {p : PyData} {b : Bool} (ru : RU K M H x u) (st : StOk K T M S H) (e1 : deref S u = some p) (e2 : truD p = some b) : TruV K x H b := by
  have rp := rs_of ru st e1
  unfold truD at e2
  split at e2
  · cases e2; rw [rp.none]; exact rfl
  · cases e2; rw [rp.bool]; exact rfl
  · cases e2; rw [rp.int]; exact rfl
  · cases e2
    obtain ⟨a1, xs, h1, h2, h3⟩ := rp
    rw [h1, ← emp_eq h3]
    exact .inl ⟨xs, SqL.of h2, rfl⟩
  · cases e2
    obtain ⟨a1, xs, h1, h2, h3⟩ := rp.tup
    rw [h1, ← emp_eq h3]
    exact .inr (.inl ⟨xs, h2.sq, rfl⟩)
  · cases e2
end
end Ev
end

section
set_option Elab.async false
set_option linter.all false
set_option autoImplicit false
set_option maxRecDepth 100000
set_option maxHeartbeats 4000000
namespace Ev
open PySem PySem.Spec PyProof.Rows L2
/-- the types that isinstance is asked of -/
abbrev askT : List String := ["int", "bool", "str", "tuple", "list"]
theorem kit_all : (askT.all fun T => ["NoneType", "bool", "int", "str", "list", "tuple", "dict"].all fun n => decide (kitB n T = some (n == T || (T == "int" && n == "bool")))) = true := by decide +kernel
section
variable {X : Cx} {T : List (Addr × Str)} {cl : Nat → Option Addr} {E : XK}
/-- a built-in of one argument, by the little language's -/
def rB (K : W.Frag) (T : List (Addr × Str)) (b : Blt) : List V → Hp → VK → Prop := fun xs H Q => ∃ M S x u p r, xs = [x] ∧ RU K M H x u ∧ StOk K T M S H ∧ deref S u = some p ∧ bltD b p = some r ∧ Wish K T M S H r Q
theorem bools_of {K : W.Frag} {M : Ms} {H : Hp} : ∀ {xs : List V} {ds : List PyData} {bs : List Bool}, RpA K M H xs ds → boolsD ds = some bs → xs = bs.map V.bl
  | _, _, _, .nil, e => by cases e; rfl
  | _, _, bs, .cons (d := d) h r, e => by
    cases d with
    | bool b =>
      unfold boolsD at e
      rename_i us vs
      cases e1 : boolsD vs with
      | none => rw [e1] at e; cases e
      | some bs' =>
        rw [e1] at e
        cases e
        cases h
        rw [bools_of r e1]
        rfl
    | _ => cases e
theorem ints_of {K : W.Frag} {M : Ms} {H : Hp} : ∀ {xs : List V} {ds : List PyData} {bs : List Int}, RpA K M H xs ds → intsD ds = some bs → xs = bs.map V.int
  | _, _, _, .nil, e => by cases e; rfl
  | _, _, bs, .cons (d := d) h r, e => by
    cases d with
    | int b =>
      unfold intsD at e
      rename_i us vs
      cases e1 : intsD vs with
      | none => rw [e1] at e; cases e
      | some bs' =>
        rw [e1] at e
        cases e
        cases h
        rw [ints_of r e1]
        rfl
    | _ => cases e
theorem strs_of {K : W.Frag} {M : Ms} {H : Hp} : ∀ {xs : List V} {ds : List PyData} {bs : List Str}, RpA K M H xs ds → strsD ds = some bs → xs = bs.map V.str
  | _, _, _, .nil, e => by cases e; rfl
  | _, _, bs, .cons (d := d) h r, e => by
    cases d with
    | str b =>
      unfold strsD at e
      rename_i us vs
      cases e1 : strsD vs with
      | none => rw [e1] at e; cases e
      | some bs' =>
        rw [e1] at e
        cases e
        cases h
        rw [strs_of r e1]
        rfl
    | _ => cases e
theorem map_some {α β : Type} {o : Option α} {f : α → β} {r : β} (h : o.map f = some r) : ∃ a, o = some a ∧ f a = r := by
  cases o with
  | none => cases h
  | some a => exact ⟨a, rfl, Option.some.inj h⟩
theorem blt_len : CallR X (.builtin "len") (rB X.K T .len) := by
  intro pins s σ H xs us Q I r ⟨M, S, x, u, p, d, ex, ru, st, e1, e2, w⟩
  subst ex
  have rp := rs_of ru st e1
  unfold bltD at e2
  cases p with
  | list ds =>
    cases e2
    obtain ⟨a, ys, rfl, h2, h3⟩ := rp
    exact call_len_seq pins s σ H _ us Q I r ⟨a, ys, rfl, .inl (SqL.of h2), by rw [h3.length]; exact w.here st (.int _)⟩
  | tuple ds =>
    cases e2
    obtain ⟨a, ys, rfl, h2, h3⟩ := rp.tup
    exact call_len_seq pins s σ H _ us Q I r ⟨a, ys, rfl, .inr h2.sq, by rw [h3.length]; exact w.here st (.int _)⟩
  | str z =>
    have e2 : (if z.length ≤ line then some (PyData.int z.length) else none) = some d := e2
    split at e2
    · rename_i hz
      cases e2
      rw [rp.str] at r
      exact call_len_str pins s σ H _ us Q I r ⟨z, rfl, by rw [← line_eq]; exact hz, w.here st (.int _)⟩
    · cases e2
  | dict kvs =>
    cases e2
    obtain ⟨a, rfl, hd⟩ := rp
    obtain ⟨v, rfl, rv⟩ := r.one
    cases rv
    exact dct_len I hd fun t s' I' => ⟨.int kvs.length, H, I', ⟨t, rfl⟩, w.here st (.int _)⟩
  | _ => cases e2
theorem blt_all (hc : X.calm = true) : CallR X (.builtin "all") (rB X.K T .all) := by
  intro pins s σ H xs us Q I r ⟨M, S, x, u, p, d, ex, ru, st, e1, e2, w⟩
  subst ex
  have rp := rs_of ru st e1
  unfold bltD at e2
  cases p with
  | list ds =>
    obtain ⟨bs, e3, rfl⟩ := map_some (show (boolsD ds).map (fun bs => PyData.bool (bs.all id)) = some d from e2)
    obtain ⟨a, ys, rfl, h2, h3⟩ := rp
    have := bools_of h3 e3
    subst this
    exact cr_all hc pins s σ H _ us Q I r ⟨a, bs, rfl, SqL.of h2, w.here st (.bl _)⟩
  | _ => cases e2
theorem blt_sum (hc : X.calm = true) : CallR X (.builtin "sum") (rB X.K T .sum) := by
  intro pins s σ H xs us Q I r ⟨M, S, x, u, p, d, ex, ru, st, e1, e2, w⟩
  subst ex
  have rp := rs_of ru st e1
  unfold bltD at e2
  cases p with
  | list ds =>
    obtain ⟨bs, e3, rfl⟩ := map_some (show (intsD ds).map (fun bs => PyData.int bs.sum) = some d from e2)
    obtain ⟨a, ys, rfl, h2, h3⟩ := rp
    have := ints_of h3 e3
    subst this
    exact cr_sum hc pins s σ H _ us Q I r ⟨a, bs, rfl, SqL.of h2, w.here st (.int _)⟩
  | _ => cases e2
theorem blt_int : CallR X (.type "int") (rB X.K T .int) := by
  intro pins s σ H xs us Q I r ⟨M, S, x, u, p, d, ex, ru, st, e1, e2, w⟩
  subst ex
  have rp := rs_of ru st e1
  unfold bltD at e2
  cases p with
  | int i =>
    cases e2
    exact call_int1 pins s σ H _ us Q I r (.inl ⟨i, by rw [rp.int], w.here st (.int _)⟩)
  | bool b =>
    cases e2
    exact call_int1 pins s σ H _ us Q I r (.inr ⟨b, by rw [rp.bool], w.here st (.int _)⟩)
  | _ => cases e2
theorem blt_bool : CallR X (.type "bool") (rB X.K T .bool) := by
  intro pins s σ H xs us Q I r ⟨M, S, x, u, p, d, ex, ru, st, e1, e2, w⟩
  subst ex
  have rp := rs_of ru st e1
  unfold bltD at e2
  cases p with
  | bool b =>
    cases e2
    exact call_bool1 pins s σ H _ us Q I r (.inr ⟨b, by rw [rp.bool], w.here st (.bl _)⟩)
  | _ => cases e2
theorem blt_abs : CallR X (.builtin "abs") (rB X.K T .abs) := by
  intro pins s σ H xs us Q I r ⟨M, S, x, u, p, d, ex, ru, st, e1, e2, w⟩
  subst ex
  have rp := rs_of ru st e1
  unfold bltD at e2
  cases p with
  | int i =>
    cases e2
    exact call_abs pins s σ H _ us Q I r ⟨i, by rw [rp.int], w.here st (.int _)⟩
  | _ => cases e2
theorem call_tuple_F : CallR X (.type "tuple") (fun xs H Q => ∃ a ys, xs = [.ref a] ∧ SqL X.K H a ys ∧ NewT ys H Q) := by
  intro pins s σ H xs us Q I r ⟨a, ys, ex, hq, q⟩
  subst ex
  obtain ⟨u, rfl, rx⟩ := vals1 r
  cases rx
  obtain ⟨its, r', pl, hz⟩ := I.list hq
  have hlen := r'.length
  refine call_tuple_list pl.isList (fun h' kp => ?_) (by rw [List.size_toArray]; omega)
  exact new_tup (s := { s with heap := h' }) (I.kept (t' := s.toks) kp) r' hz q
theorem blt_tuple : CallR X (.type "tuple") (rB X.K T .tuple) := by
  intro pins s σ H xs us Q I r ⟨M, S, x, u, p, d, ex, ru, st, e1, e2, w⟩
  subst ex
  have rp := rs_of ru st e1
  obtain ⟨ds, e3, rfl⟩ := map_some (show (seqD p).map PyData.tuple = some d from e2)
  cases p with
  | list ds =>
    cases e3
    obtain ⟨a, ys, rfl, h2, h3⟩ := rp
    exact call_tuple_F pins s σ H _ us Q I r ⟨a, ys, rfl, SqL.of h2, w.tuple st h3⟩
  | tuple ds =>
    cases e3
    obtain ⟨a, ys, rfl, h2, h3⟩ := rp.tup
    exact call_tuple_of pins s σ H _ us Q I r ⟨a, ys, rfl, .inr ⟨h2.sq, w.here st (.tup h2 h3)⟩⟩
  | _ => cases e3
theorem blt_list : CallR X (.type "list") (rB X.K T .list) := by
  intro pins s σ H xs us Q I r ⟨M, S, x, u, p, d, ex, ru, st, e1, e2, w⟩
  subst ex
  have rp := rs_of ru st e1
  obtain ⟨ds, e3, rfl⟩ := map_some (show (seqD p).map PyData.list = some d from e2)
  cases p with
  | list ds =>
    cases e3
    obtain ⟨a, ys, rfl, h2, h3⟩ := rp
    exact call_list_of pins s σ H _ us Q I r ⟨a, ys, rfl, .inl (SqL.of h2), fun l hl => w.list st hl h3⟩
  | tuple ds =>
    cases e3
    obtain ⟨a, ys, rfl, h2, h3⟩ := rp.tup
    exact call_list_of pins s σ H _ us Q I r ⟨a, ys, rfl, .inr h2.sq, fun l hl => w.list st hl h3⟩
  | _ => cases e3
theorem sortOk_of {xs : List PyData} (h : sortOk xs = true) : xs.length ≤ line ∧ PySem.W.AllAlike xs ∧ (∀ d, d ∈ xs → SeqAt.shaped d = true) ∧ PySem.W.Sortable xs := by
  unfold sortOk at h
  simp only [Bool.and_eq_true, Bool.or_eq_true, decide_eq_true_eq, List.all_eq_true] at h
  obtain ⟨⟨⟨h1, h2⟩, h3⟩, h4⟩ := h
  refine ⟨h1, h2, h3, ?_⟩
  rcases h4 with h4 | h4
  · refine .inl fun d hd => ?_
    have q := h4 d hd
    split at q
    · exact ⟨_, _, rfl⟩
    · cases q
  · refine .inr fun d hd => ?_
    have q := h4 d hd
    refine ⟨fun e => ?_, fun ys e => ?_⟩
    · subst e; cases q
    · subst e; cases q
theorem each_rp {K : W.Frag} {M : Ms} {H : Hp} : ∀ {ys : List V} {ds : List PyData} {its : List Value}, RpA K M H ys ds → Vals ys its → PySem.W.EachIs (fun (v : Value) (d : PyData) => ∃ x, RelV x v ∧ Rp K M H x d) its ds := fun {ys ds its} h => by
  intro hv
  induction hv generalizing ds with
  | nil => cases h; exact .nil
  | cons r _ ih =>
    cases h with
    | cons h1 h2 => exact .cons ⟨_, r, h1⟩ (ih h2)
theorem back_rp {K : W.Frag} {M : Ms} {H : Hp} : ∀ {ds : List PyData} {its : List Value}, PySem.W.EachIs (fun (v : Value) (d : PyData) => ∃ x, RelV x v ∧ Rp K M H x d) its ds → ∃ ys, RpA K M H ys ds ∧ Vals ys its := fun {ds its} h => by
  induction h with
  | nil => exact ⟨[], .nil, .nil⟩
  | cons q _ ih =>
    obtain ⟨x, h1, h2⟩ := q
    obtain ⟨ys, h3, h4⟩ := ih
    exact ⟨x :: ys, .cons h2 h3, .cons h1 h4⟩
/-- xs.sort(), xs a new list of data -/
theorem call_sort_new {pins : List (Addr × Obj)} {s1 : Shared} {σ : L2.St} {H : Hp} {M : Ms} {A : Around} {E : Value → Shared → Prop} {vs : List Value} {ds : List PyData} {Q : Value → Shared → Prop} (I : Inv X pins σ H s1) (hu : A.units + 66 < cLine) (e : PySem.W.EachIs (fun (v : Value) (d : PyData) => ∃ x, RelV x v ∧ Rp X.K M H x d) vs ds)
    (hal : PySem.W.AllAlike ds) (hk : PySem.W.Sortable ds) (hsh : ∀ d, d ∈ ds → SeqAt.shaped d = true) (hL : vs.length ≤ sizeLine)
    (h : ∀ zs s', RpA X.K M H zs (sortD ds) → Inv X pins σ (upd H s1.heap.objs.size (.lst zs)) s' → Q .none s') :
    wpAny (model X.prog X.w) A (call (.builtin "list.sort") [.ref s1.heap.objs.size]) Q E { s1 with heap := s1.heap.push (PyProof.Rows.seqObj "list" vs.toArray 0) } := by
  have ho : (s1.heap.push (PyProof.Rows.seqObj "list" vs.toArray 0)).get? s1.heap.objs.size = some (PyProof.Rows.seqObj "list" vs.toArray 0) := Heap.get?_push_size _ rfl
  have kk : ∀ b o, s1.heap.get? b = some o → (PySem.W.sortingHeap (s1.heap.push (PyProof.Rows.seqObj "list" vs.toArray 0)) s1.heap.objs.size vs).get? b = some o := fun b o e => PySem.W.sortingHeap_old (Nat.ne_of_lt (Heap.lt_size e)) (Heap.get?_push_of_some _ e)
  have er : PySem.W.EachIs (fun (v : Value) (d : PyData) => ∃ as, Reads (PySem.W.sortingHeap (s1.heap.push (PyProof.Rows.seqObj "list" vs.toArray 0)) s1.heap.objs.size vs) v (id d) as) vs ds :=
    (PySem.W.each_mem e).mono fun v d ⟨⟨x, h1, h2⟩, hm⟩ => let ⟨as, r⟩ := Dp.reads I d x v (h2.dp (noD_shaped (hsh d hm))) h1; ⟨as, PyProof.Rows.Reads.keeps kk r⟩
  have hu2 : ∀ d, d ∈ ds → A.in1.units + d.depth < cLine := fun d hd => by have := SeqAt.depth_of_shaped (hsh d hd); show A.units + 1 + d.depth < cLine; omega
  have hal2 : PySem.W.AllAlike (ds.map id) := by rw [List.map_id]; exact hal
  refine wpAny_call_entry PySem.F.slot_list_sort ⟨_, ho, rfl⟩ PySem.F.entry_list_sort (PySem.W.list_sort_vals (κ := PySem.W.dataKind (PySem.W.sortingHeap (s1.heap.push (PyProof.Rows.seqObj "list" vs.toArray 0)) s1.heap.objs.size vs) (ds.map id)) ho
    (PySem.W.SortsAt.data (s := { s1 with heap := PySem.W.sortingHeap (s1.heap.push (PyProof.Rows.seqObj "list" vs.toArray 0)) s1.heap.objs.size vs }) (by rw [List.map_id]; exact er) hal2 (by rw [List.map_id]; exact hk) (by rw [List.map_id]; exact hu2)) hL ⟨.none, rfl, ?_⟩) (PyProof.Rows.args_list_sort _)
  have eo := PySem.W.sortVals_data (enc := id) false e er hal2
  obtain ⟨zs, rz, vz⟩ := back_rp eo
  generalize hout : PySem.W.sortVals (PySem.W.dataKind (PySem.W.sortingHeap (s1.heap.push (PyProof.Rows.seqObj "list" vs.toArray 0)) s1.heap.objs.size vs) (ds.map id)) false vs vs = out at eo vz
  have hlen : out.length = vs.length := by rw [← hout]; exact PySem.W.sortVals_length false rfl
  obtain ⟨c, hc⟩ := PyProof.Rows.sortedHeap_at (vs := vs) (out := out.toArray) ho
  refine h zs _ (by rw [sortD_eq]; exact rz) (I.laid (t' := s1.toks) (a := s1.heap.objs.size) (o := .lst zs) (fun b o q => ?_) (Nat.le_refl _) ⟨by rw [vz.length, hlen]; exact hL, out, c, vz, hc⟩)
  have hlt := Heap.lt_size q
  show (PyProof.Rows.sortedHeap (s1.heap.push (PyProof.Rows.seqObj "list" vs.toArray 0)) s1.heap.objs.size vs out.toArray).get? b = some o
  rw [PyProof.Rows.sortedHeap_old (Nat.ne_of_lt hlt) (by rw [PyProof.Rows.size_push']; exact Nat.lt_succ_of_lt hlt)]
  exact Heap.get?_push_of_some _ q
/-- sorted(d) of a dict -/
theorem sorted_dct {pins : List (Addr × Obj)} {s : Shared} {σ : L2.St} {H : Hp} {M : Ms} {a : Addr} {ks : List PyData} {Q : VK} (hc : X.calm = true) (hu : X.A.units + 70 < cLine) (I : Inv X pins σ H s) (hd : DKs X.K M H a ks) (hk : ∀ k, k ∈ ks → dKey k = true) (hs : sortOk ks = true)
    (q : ∀ zs p, H p = none → RpA X.K M H zs (sortD ks) → Q (.ref p) (upd H p (.lst zs))) : wpAny (model X.prog X.w) X.A (call (.builtin "sorted") [.ref a]) (EP X pins σ Q) X.xe s := by
  obtain ⟨h1, h2, h3, h4⟩ := sortOk_of hs
  rcases hd with ⟨o, vs, g1, d, r⟩ | ⟨ws, g1, hn, hsk, r⟩
  case inr =>
    cases ks with
    | nil => exact absurd rfl hn
    | cons k ks =>
      have e1 := hk k List.mem_cons_self
      obtain ⟨x, e2⟩ := sKey_of (hsk k List.mem_cons_self)
      rw [e2] at e1
      cases e1
  obtain ⟨es, ep, e1, e2, e3, e4⟩ := dh_of I g1 d r
  have hsz : es.size = ks.length := by rw [← Array.length_toList]; exact e2.len.1
  have hle : es.size ≤ sizeLine := by rw [hsz]; exact d.le
  refine Calls.call_function_entry PyProof.Rows.kind_sorted PyProof.Rows.plain_sorted PyProof.Rows.entry_sorted (PyProof.Rows.args_sorted1 _) ?_
  unfold Builtin.«sorted»
  refine wpAny_bind (m := checkCount "sorted" 1 1 _) (wpAny_pure ?_)
  refine wpAny_bind (PySem.W.kdu_collect (A := X.A.in1) (KdlSrc.rawDict (es := es) (ep := ep) d.sys) (I.ok.hd hc) ⟨o, DX_at I g1, d.ex, e1⟩ hle fun h' tk acc hk' hacc => ?_)
  have I1 : Inv X pins σ H { s with heap := h', toks := tk } := I.kept hk'
  have hal : acc.toList.length = ks.length := by rw [Array.length_toList, hacc.1, hsz]
  have rvs : ∀ {es : List DictEntry} {vs : List (V × V)} {ks : List PyData}, EntOk es vs ks → Vals (vs.map Prod.fst) (es.map (·.key)) := fun {es vs ks} h => by
    induction h with
    | nil => exact .nil
    | cons a b c ih => exact .cons rfl ih
  have hkeys : acc.toList = es.toList.map (·.key) := by
    apply List.ext_getElem?
    intro i
    rw [List.getElem?_map, Array.getElem?_toList, Array.getElem?_toList]
    cases ei : acc[i]? with
    | none =>
      rw [Array.getElem?_eq_none (by have := Array.getElem?_eq_none_iff.mp ei; rw [hacc.1] at this; exact this)]
      rfl
    | some v =>
      obtain ⟨hi, ev⟩ := hacc.2 i v ei
      rw [Array.getElem?_eq_getElem hi, ev]
      rfl
  have each : PySem.W.EachIs (fun (v : Value) (d : PyData) => ∃ x, RelV x v ∧ Rp X.K M H x d) acc.toList ks := by
    rw [hkeys]
    exact each_rp r (rvs e2)
  refine wpAny_bind (wpAny_newList ?_ (by rw [hal]; exact d.le))
  refine wpAny_bind (wpAny_holding (call_sort_new (A := X.A.in1) (s1 := { s with heap := h', toks := tk }) I1 (by show X.A.units + 1 + 66 < cLine; omega) each h2 h4 h3 (by rw [hal]; exact d.le) fun zs s' rz I' => wpAny_pure ⟨_, rfl, ?_⟩))
  exact ⟨.ref h'.objs.size, _, I', rfl, q zs h'.objs.size (I1.hok.fresh (Nat.le_refl _)) rz⟩
theorem blt_sorted (hcalm : X.calm = true) (hu : X.A.units + 70 < cLine) : CallR X (.builtin "sorted") (rB X.K T .sorted) := by
  intro pins s σ H xs us Q I r ⟨M, S, x, u, p, d, ex, ru, st, e1, e2, w⟩
  subst ex
  have rp := rs_of ru st e1
  unfold bltD at e2
  cases p with
  | list ds =>
    have e2 : (if sortOk ds = true then some (PyData.list (sortD ds)) else none) = some d := e2
    split at e2
    · rename_i hk
      cases e2
      obtain ⟨h1, h2, h3, h4⟩ := sortOk_of hk
      obtain ⟨a, ys, rfl, hl, ha⟩ := rp
      obtain ⟨v, rfl, rv⟩ := r.one
      cases rv
      obtain ⟨its, rvs, pl, hz⟩ := I.list (SqL.of hl)
      have e := each_rp ha rvs
      have er : PySem.W.EachIs (fun (v : Value) (d : PyData) => ∃ as, Reads s.heap v (id d) as) its ds := (PySem.W.each_mem e).mono fun v d ⟨⟨x, h1, h2⟩, hm⟩ => Dp.reads I d x v (h2.dp (noD_shaped (h3 d hm))) h1
      refine PySem.W.sorted_data (enc := id) pl.isList e er (by rw [List.map_id]; exact h2) (by rw [List.map_id]; exact h4) (by rw [← line_eq]; exact h1) (fun b hb => by have := SeqAt.depth_of_shaped (h3 b hb); show X.A.units + 2 + b.depth < cLine; omega) fun out ho eo => ?_
      obtain ⟨zs, rz, vz⟩ := back_rp eo
      obtain ⟨c, hc⟩ := sortedAll_at s.heap its out.toArray
      have hq : H (s.heap.objs.size + 1) = none := I.hok.fresh (Nat.le_succ _)
      have hlen : zs.length ≤ sizeLine := by rw [vz.length, ho, ← line_eq]; exact h1
      have J : Inv X pins σ (upd H (s.heap.objs.size + 1) (.lst zs)) { s with heap := sortedAll s.heap its out.toArray } := I.laid (t' := s.toks) (a := s.heap.objs.size + 1) (o := .lst zs) (fun b o q => sortedAll_old q) (Nat.le_succ _) ⟨hlen, out, c, vz, hc⟩
      exact ⟨.ref (s.heap.objs.size + 1), _, J, rfl, w.list st hq (by rw [sortD_eq]; exact rz)⟩
    · cases e2
  | dict kvs =>
    have e2 : (if (sortOk (keysD kvs) && (keysD kvs).all dKey) = true then some (PyData.list (sortD (keysD kvs))) else none) = some d := e2
    split at e2
    · rename_i hk
      rw [Bool.and_eq_true, List.all_eq_true] at hk
      cases e2
      obtain ⟨a, rfl, hd⟩ := rp
      obtain ⟨v, rfl, rv⟩ := r.one
      cases rv
      exact sorted_dct hcalm hu I hd hk.2 hk.1 fun zs p hp rz => w.list st hp rz
    · cases e2
  | _ => cases e2
theorem tyX_of {K : W.Frag} {M : Ms} {H : Hp} {x : V} {p : PyData} (h : Rs K M H x p) (hn : ∀ kvs, p ≠ .dict kvs) : TyX K H x (.type (tyN p)) ∧ tyN p ∈ ["NoneType", "bool", "int", "str", "list", "tuple", "dict"] := by
  cases p with
  | none => rw [h.none]; exact ⟨.base .non, by simp [tyN]⟩
  | bool b => rw [h.bool]; exact ⟨.base (.bl b), by simp [tyN]⟩
  | int b => rw [h.int]; exact ⟨.base (.int b), by simp [tyN]⟩
  | str b => rw [h.str]; exact ⟨.base (.str b), by simp [tyN]⟩
  | list ds =>
    obtain ⟨a, ys, rfl, h2, h3⟩ := h
    exact ⟨.base (.lst h2), by simp [tyN]⟩
  | tuple ds =>
    obtain ⟨a, ys, rfl, h2, h3⟩ := h.tup
    rcases h2 with ⟨_, o, _, h2⟩ | ⟨o, its, n, h4, h5, _⟩
    · exact ⟨.fTuple h2, by simp [tyN]⟩
    · exact ⟨.kTuple h4 h5, by simp [tyN]⟩
  | dict kvs => exact absurd rfl (hn kvs)
theorem blt_isi {N : String} (hN : N ∈ askT) : CallR X (.builtin "isinstance") (fun xs H Q => ∃ M S x u p r, xs = [x, .ty N] ∧ RU X.K M H x u ∧ StOk X.K T M S H ∧ deref S u = some p ∧ bltD (.isi N) p = some r ∧ Wish X.K T M S H r Q) := by
  intro pins s σ H xs us Q I r ⟨M, S, x, u, p, d, ex, ru, st, e1, e2, w⟩
  subst ex
  have rp := rs_of ru st e1
  cases e2
  by_cases hn : ∃ kvs, p = .dict kvs
  · obtain ⟨kvs, rfl⟩ := hn
    obtain ⟨a, rfl, hd⟩ := rp
    obtain ⟨u1, u2, rfl, r1, r2⟩ := vals2 r
    cases (show u1 = Value.ref a from r1)
    cases (show u2 = Value.type N from r2)
    obtain ⟨ob, g1, g2⟩ := (dks_is I hd).1
    have hk := kit_all
    rw [List.all_eq_true] at hk
    have hk := List.all_eq_true.mp (hk N hN) "dict" (by simp)
    exact PySem.W.kia_one PySem.W.kitx_dict I.kIn ⟨ob, g1, g2⟩ (kit_ty (of_decide_eq_true hk)) (fun z => nomatch z) fun tk => ⟨.bl _, H, I.tok tk, rfl, w.here st (.bl _)⟩
  obtain ⟨h1, h2⟩ := tyX_of rp fun kvs z => hn ⟨kvs, z⟩
  have hk := kit_all
  rw [List.all_eq_true] at hk
  have hk := List.all_eq_true.mp (hk N hN) _ h2
  exact call_isi pins s σ H _ us Q I r ⟨x, .ty N, _, _, _, rfl, .ty N, h1, kit_ty (of_decide_eq_true hk), w.here st (.bl _)⟩
/-- a method, by the little language's -/
def rM (K : W.Frag) (T : List (Addr × Str)) (m : Mth) : V → List V → Hp → VK → Prop := fun x xs H Q => ∃ M S u us p ps r, RU K M H x u ∧ RUs K M H xs us ∧ StOk K T M S H ∧ deref S u = some p ∧ derefs S us = some ps ∧ mthD m p ps = some r ∧ Wish K T M S H r Q
/-- the arguments read -/
inductive RsA (K : W.Frag) (M : Ms) (H : Hp) : List V → List PyData → Prop
  | nil : RsA K M H [] []
  | cons {v : V} {vs : List V} {d : PyData} {ds : List PyData} : Rs K M H v d → RsA K M H vs ds → RsA K M H (v :: vs) (d :: ds)
theorem rsA_of {K : W.Frag} {M : Ms} {S : Store} {H : Hp} (st : StOk K T M S H) : ∀ {vs : List V} {us : List U} {ps : List PyData}, RUs K M H vs us → derefs S us = some ps → RsA K M H vs ps
  | _, _, _, .nil, e => by cases e; exact .nil
  | _, _, _, .cons (u := u) (us := us) h r, e => by
    unfold derefs at e
    cases e1 : deref S u with
    | none => rw [e1] at e; cases e
    | some p =>
      rw [e1] at e
      cases e2 : derefs S us with
      | none => rw [e2] at e; cases e
      | some ps =>
        rw [e2] at e
        cases e
        exact .cons (rs_of h st e1) (rsA_of st r e2)
/-- one argument -/
theorem rM_one {K : W.Frag} {T : List (Addr × Str)} {m : Mth} {x : V} {xs : List V} {H : Hp} {Q : VK} (h : rM K T m x xs H Q) : ∃ M S y p q r, xs = [y] ∧ Rs K M H x p ∧ Rs K M H y q ∧ StOk K T M S H ∧ mthD m p [q] = some r ∧ Wish K T M S H r Q := by
  obtain ⟨M, S, u, ws, p, ps, r, ru, rus, st, e1, e2, e3, w⟩ := h
  have rp := rs_of ru st e1
  have ra := rsA_of st rus e2
  cases ra with
  | nil => cases e3
  | cons h1 t =>
    cases t with
    | nil => exact ⟨M, S, _, p, _, r, rfl, rp, h1, st, e3, w⟩
    | cons _ _ => cases e3
theorem mth_join : MtR X "str.join" (rM X.K T .join) := by
  intro pins s σ H x xs v us Q I rx rxs h
  obtain ⟨M, S, y, p, q, r, rfl, rp, rq, st, e3, w⟩ := rM_one h
  have e3 : joinD p q = some r := e3
  unfold joinD at e3
  cases p with
  | str z =>
    cases e4 : strsOf q with
    | none => rw [e4] at e3; cases e3
    | some ss =>
      rw [e4] at e3
      have e3 : (if joinFit z ss = true then some (PyData.str (Txt.join z ss)) else none) = some r := e3
      split at e3
      · rename_i hf
        cases e3
        have hf : (ss.map (·.length)).sum + ss.length * z.length ≤ 16777216 := of_decide_eq_true hf
        cases q with
        | list ys =>
          obtain ⟨a, zs, rfl, h2, h3⟩ := rq
          have := strs_of h3 e4
          subst this
          exact mt_join pins s σ H _ _ v us Q I rx rxs ⟨z, a, ss, rp.str, rfl, .inl (SqL.of h2), hf, w.here st (.str _)⟩
        | tuple ys =>
          obtain ⟨a, zs, rfl, h2, h3⟩ := rq.tup
          have := strs_of h3 e4
          subst this
          exact mt_join pins s σ H _ _ v us Q I rx rxs ⟨z, a, ss, rp.str, rfl, .inr h2.sq, hf, w.here st (.str _)⟩
        | _ => cases e4
      · cases e3
  | _ => cases e3
theorem rpA_strs {K : W.Frag} {M : Ms} {H : Hp} : ∀ l : List Str, RpA K M H (l.map V.str) (l.map PyData.str)
  | [] => .nil
  | z :: l => .cons (.str z) (rpA_strs l)
theorem mth_strip : MtR X "str.strip" (rM X.K T .strip) := by
  intro pins s σ H x xs v us Q I rx rxs h
  obtain ⟨M, S, y, p, q, r, rfl, rp, rq, st, e3, w⟩ := rM_one h
  have e3 : stripD p q = some r := e3
  unfold stripD at e3
  split at e3
  · split at e3
    · rename_i hz
      cases e3
      exact mt_stripChars pins s σ H _ _ v us Q I rx rxs ⟨_, _, rp.str, by rw [rq.str], by rw [← line_eq]; exact hz, w.here st (.str _)⟩
    · cases e3
  · cases e3
theorem mth_split : MtR X "str.split" (rM X.K T .split) := by
  intro pins s σ H x xs v us Q I rx rxs h
  obtain ⟨M, S, y, p, q, r, rfl, rp, rq, st, e3, w⟩ := rM_one h
  have e3 : splitD p q = some r := e3
  unfold splitD at e3
  split at e3
  · split at e3
    · rename_i hz
      cases e3
      exact mt_split pins s σ H _ _ v us Q I rx rxs ⟨_, _, rp.str, by rw [rq.str], hz.1, by rw [← line_eq]; exact hz.2, fun l hl => w.list st hl (rpA_strs _)⟩
    · cases e3
  · cases e3
end
end Ev
end

section
set_option Elab.async false
set_option linter.all false
set_option autoImplicit false
set_option maxRecDepth 100000
set_option maxHeartbeats 4000000
/-! # Sets whose members are tuples of any depth -/
namespace Ev
open PySem PySem.Spec PyProof.Rows L2
/-! ### what is asked of a key -/
section
variable {P : Program} {w : World}
def Says (P : Program) (w : World) (ask : Nat → Value → Sem Bool) (good : Bool → Prop) (n : Nat) (s : Shared) (v : Value) : Prop :=
  ∀ (A : Around) (E : Value → Shared → Prop) (Q : Bool → Shared → Prop), (∀ b, good b → Q b s) → wpAny (model P w) A (ask n v) Q E s
theorem noStmt_tup {n : Nat} {s : Shared} {a : Addr} {o : Obj} {vs : Array Value} {m : Nat} (ho : s.heap.get? a = some o) (hc : o.cls = .type "tuple") (hd : o.data = .seq vs m) (hq : ∀ v ∈ vs.toList, Says P w ofAClassStatement (· = false) n s v) : Says P w ofAClassStatement (· = false) (n + 1) s (.ref a) := fun A E Q h => by
  have hT : s.TypeIs (.ref a) "tuple" := ⟨o, ho, hc⟩
  unfold ofAClassStatement
  refine wpAny_bind (wpAny_typeOf hT ?_)
  dsimp only
  have e : (("tuple" : String) == "tuple") = true := by decide
  simp only [e, if_true, Bool.not_true, Bool.false_eq_true, if_false]
  try refine wpAny_bind (wpAny_pure ?_)
  try simp only [Bool.not_true, Bool.false_eq_true, if_false]
  show wpAny _ _ (seqItems? (.ref a) >>= _) _ _ s
  refine wpAny_bind (wpAny_seqItems ho hd ?_)
  dsimp only
  refine wpAny_bind ?_
  show wpAny _ _ (forIn vs _ _) _ _ s
  rw [← Array.forIn_toList]
  refine wpAny_forIn_list _ (fun rest r s' => r.1 = none ∧ s' = s ∧ ∀ v ∈ rest, Says P w ofAClassStatement (· = false) n s v) _ ?_ ?_ _ _ ⟨rfl, rfl, hq⟩
  · rintro v rest r s' ⟨hr, rfl, hall⟩
    refine wpAny_bind (hall v List.mem_cons_self _ _ _ fun b hb => ?_)
    subst hb
    simp only [Bool.false_eq_true, if_false]
    exact wpAny_pure ⟨rfl, rfl, fun u hu' => hall u (List.mem_cons_of_mem _ hu')⟩
  · rintro ⟨r1, r2⟩ s' ⟨hr, rfl, _⟩
    simp only at hr
    subst hr
    exact wpAny_pure (h false rfl)
theorem noStmt_val {n : Nat} {s : Shared} {v : Value} (h : ∀ a, v ≠ .ref a) : Says P w ofAClassStatement (· = false) n s v := fun A E Q hq => by
  have e : ofAClassStatement n v = pure false := by
    cases v <;> first | (cases n <;> rfl) | exact absurd rfl (h _)
  rw [e]
  exact wpAny_pure (hq false rfl)
mutual
theorem noStmt_key : ∀ (k : NestedKey) (v : Value) (n : Nat) (s : Shared), NestedIs s.heap k v → k.depth ≤ n → Says P w ofAClassStatement (· = false) n s v
  | .none, _, n, s, x, _ => by cases x; exact noStmt_val fun a z => by cases z
  | .num i, _, n, s, x, _ => by cases x <;> exact noStmt_val fun a z => by cases z
  | .text y, _, n, s, x, _ => by cases x; exact noStmt_val fun a z => by cases z
  | .tup ks, _, n, s, x, hn => by
    cases x with
    | tup hg hc hd hk =>
      simp only [NestedKey.depth] at hn
      cases n with
      | zero => omega
      | succ n => exact noStmt_tup hg hc hd (noStmt_keys ks _ n s hk (by omega))
theorem noStmt_keys : ∀ (ks : List NestedKey) (vs : List Value) (n : Nat) (s : Shared), NestedAll s.heap ks vs → NestedKey.depthAll ks ≤ n → ∀ v ∈ vs, Says P w ofAClassStatement (· = false) n s v
  | [], _, n, s, x, _, v, hv => by cases x; cases hv
  | k :: ks, _, n, s, x, hn, v, hv => by
    cases x with
    | cons x1 x2 =>
      simp only [NestedKey.depthAll] at hn
      rcases List.mem_cons.mp hv with e | hv
      · rw [e]; exact noStmt_key k _ n s x1 (by omega)
      · exact noStmt_keys ks _ n s x2 (by omega) v hv
end
abbrev any1 : Bool → Prop := fun _ => True
theorem byVal_tup {n : Nat} {s : Shared} {a : Addr} {o : Obj} {vs : Array Value} {m : Nat} (ho : s.heap.get? a = some o) (hc : o.cls = .type "tuple") (hd : o.data = .seq vs m) (hq : ∀ v ∈ vs.toList, Says P w hashByValue any1 n s v) : Says P w hashByValue any1 (n + 1) s (.ref a) := fun A E Q h => by
  have hT : s.TypeIs (.ref a) "tuple" := ⟨o, ho, hc⟩
  unfold hashByValue
  refine wpAny_bind (wpAny_specialOf hT F.slot_tuple_hash.lookup ?_)
  show wpAny _ _ (seqItems? (.ref a) >>= _) _ _ s
  refine wpAny_bind (wpAny_seqItems ho hd ?_)
  refine wpAny_bind ?_
  show wpAny _ _ (forIn vs _ _) _ _ s
  rw [← Array.forIn_toList]
  refine wpAny_forIn_list _ (fun rest r s' => r.1 = none ∧ s' = s ∧ ∀ v ∈ rest, Says P w hashByValue any1 n s v) _ ?_ ?_ _ _ ⟨rfl, rfl, hq⟩
  · rintro v rest r s' ⟨hr, rfl, hall⟩
    refine wpAny_bind (hall v List.mem_cons_self _ _ _ fun b _ => ?_)
    cases b with
    | true =>
      simp only [Bool.not_true, Bool.false_eq_true, if_false]
      exact wpAny_pure ⟨rfl, rfl, fun u hu' => hall u (List.mem_cons_of_mem _ hu')⟩
    | false =>
      simp only [Bool.not_false, if_true]
      exact wpAny_pure (wpAny_pure (h false trivial))
  · rintro ⟨r1, r2⟩ s' ⟨hr, rfl, _⟩
    simp only at hr
    subst hr
    exact wpAny_pure (h true trivial)
mutual
theorem byVal_key : ∀ (k : NestedKey) (v : Value) (n : Nat) (s : Shared), NestedIs s.heap k v → k.depth ≤ n → Says P w hashByValue any1 n s v
  | .none, _, n, s, x, _ => by cases x; exact fun A E Q h => by cases n <;> exact wpAny_pure (h true trivial)
  | .num i, _, n, s, x, _ => by cases x <;> exact fun A E Q h => by cases n <;> exact wpAny_pure (h true trivial)
  | .text y, _, n, s, x, _ => by cases x; exact fun A E Q h => by cases n <;> exact wpAny_pure (h false trivial)
  | .tup ks, _, n, s, x, hn => by
    cases x with
    | tup hg hc hd hk =>
      simp only [NestedKey.depth] at hn
      cases n with
      | zero => omega
      | succ n => exact byVal_tup hg hc hd (byVal_keys ks _ n s hk (by omega))
theorem byVal_keys : ∀ (ks : List NestedKey) (vs : List Value) (n : Nat) (s : Shared), NestedAll s.heap ks vs → NestedKey.depthAll ks ≤ n → ∀ v ∈ vs, Says P w hashByValue any1 n s v
  | [], _, n, s, x, _, v, hv => by cases x; cases hv
  | k :: ks, _, n, s, x, hn, v, hv => by
    cases x with
    | cons x1 x2 =>
      simp only [NestedKey.depthAll] at hn
      rcases List.mem_cons.mp hv with e | hv
      · rw [e]; exact byVal_key k _ n s x1 (by omega)
      · exact byVal_keys ks _ n s x2 (by omega) v hv
end
/-- the tuple at a is the key k -/
abbrev KAt (P : Program) (w : World) (h : Heap) (k : NestedKey) (a : Addr) : Prop := (nestedKind P w).is h k a
variable {A : Around} {E : Value → Shared → Prop} {s : Shared}
theorem kAt_on {h h' : Heap} {k : NestedKey} {a : Addr} (x : KAt P w h k a) (g : ∀ b o, h.get? b = some o → h'.get? b = some o) : KAt P w h' k a :=
  ⟨NestedIs.at (fun b o _ _ e _ => g b o e) k _ x.1, x.2⟩
/-- the keys stay while only a set is written -/
theorem kAt_set {h h' : Heap} {k : NestedKey} {b a : Addr} {o : Obj} {es : Array (Int × Value)} {ep : Nat} {t : SetTable} (x : KAt P w h k b) (ho : h.get? a = some o) (hd : o.data = .set es ep t) (hs : Heap.SameBut a h h') : KAt P w h' k b :=
  ⟨NestedIs.at (fun c u _ _ e1 e2 => (hs.2 c fun z => by
    subst z
    rw [ho] at e1
    cases e1
    rw [hd] at e2
    cases e2).trans e1) k _ x.1, x.2⟩
/-- a search among such keys shows nothing -/
theorem unseen {k : NestedKey} {b : Addr} {Q : Bool → Shared → Prop} (hk : KAt P w s.heap k b) {ys : List Value} (hy : ∀ y ∈ ys, ∃ k' c, y = Value.ref c ∧ KAt P w s.heap k' c) (h : Q false s) : wpAny (model P w) A (searchCouldBeSeen (.ref b) ys) Q E s := by
  unfold searchCouldBeSeen
  refine wpAny_bind ?_
  refine wpAny_forIn_list _ (fun rest r s' => r.1 = none ∧ s' = s ∧ ∀ y ∈ rest, ∃ k' c, y = Value.ref c ∧ KAt P w s.heap k' c) _ ?_ ?_ _ _ ⟨rfl, rfl, hy⟩
  · rintro v rest r s' ⟨hr, rfl, hall⟩
    obtain ⟨k', c, rfl, hc⟩ := hall v List.mem_cons_self
    have more : ∀ y ∈ rest, ∃ k' c, y = Value.ref c ∧ KAt P w s'.heap k' c := fun u hu' => hall u (List.mem_cons_of_mem _ hu')
    dsimp only
    by_cases hv : (b == c || (carriedByValue (.ref b) && carriedByValue (.ref c))) = true
    · refine wp_if_pos hv ?_
      exact wpAny_pure ⟨rfl, rfl, more⟩
    · refine wp_if_neg hv ?_
      refine wpAny_bind ((nestedKind P w).quiet hk ?_)
      simp only [Bool.not_true, Bool.false_eq_true, if_false]
      refine wpAny_bind ((nestedKind P w).quiet hc ?_)
      simp only [Bool.not_true, Bool.false_eq_true, if_false]
      refine wpAny_bind (noStmt_key _ _ 8 s' hk.1 hk.2 _ _ _ fun z hz => ?_)
      subst hz
      simp only [Bool.false_eq_true, if_false]
      refine wpAny_bind (noStmt_key _ _ 8 s' hc.1 hc.2 _ _ _ fun z hz => ?_)
      subst hz
      simp only [Bool.false_eq_true, if_false]
      exact wpAny_pure ⟨rfl, rfl, more⟩
  · rintro ⟨r1, r2⟩ s' ⟨hr, rfl, _⟩
    simp only at hr
    subst hr
    exact wpAny_pure h

/-! ### the set -/
abbrev kh (w : World) (k : NestedKey) : Int := k.hash w
abbrev Mem := Addr × NestedKey
def rowsK (w : World) (L : List Mem) : List (Int × Value) := L.map fun p => (kh w p.2, Value.ref p.1)
theorem rowsK_len {es : Array (Int × Value)} {L : List Mem} (h : es.toList = rowsK w L) : es.size = L.length := by
  have e := congrArg List.length h
  unfold rowsK at e
  rwa [Array.length_toList, List.length_map] at e
/-- a set of the members L stands at a -/
structure KSet (P : Program) (w : World) (h : Heap) (a : Addr) (L : List Mem) (es : Array (Int × Value)) (ep : Nat) (t : SetTable) : Prop where
  ob : ∃ o, h.get? a = some o ∧ o.ExactSet ∧ o.data = .set es ep t
  rows : es.toList = rowsK w L
  tab : TabOk t (L.map fun p => kh w p.2)
  nd : (L.map (·.2)).Nodup
  keys : ∀ p ∈ L, KAt P w h p.2 p.1
  led : w.params.followText "set-order" = true ∨ t.led = true
  room : L.length * 5 < t.mask * 3
  few : L.length < 64
variable {a : Addr} {L : List Mem} {es : Array (Int × Value)} {ep : Nat} {t : SetTable}
theorem KSet.fits {h : Heap} (R : KSet P w h a L es ep t) : t.fits es.size = true := by
  have h1 := R.tab.sz
  rw [List.length_map] at h1
  have h2 := rowsK_len R.rows
  have h3 := R.room
  unfold SetTable.fits SetTable.fill
  rw [R.tab.dm, Bool.and_eq_true, beq_iff_eq, decide_eq_true_eq]
  show t.place.size = es.size ∧ t.place.size + 0 ≤ t.mask
  omega
theorem KSet.row {h : Heap} (R : KSet P w h a L es ep t) {i : Nat} {p : Mem} (e : L[i]? = some p) : es[i]? = some (kh w p.2, Value.ref p.1) := by
  rw [← Array.getElem?_toList, R.rows]
  unfold rowsK
  rw [List.getElem?_map, e] <;> rfl
theorem KSet.odd {h : Heap} (R : KSet P w h a L es ep t) : ¬ t.gaveWay = true := by
  unfold SetTable.gaveWay
  rw [mask_odd R.tab.mok]
  decide
/-- where a search for the hash z stands after c steps -/
abbrev stp (m : Nat) (z : Int) (c : Nat) : SetTable.Probe := nth m (runAt m (SetTable.bits z % (m + 1)) (SetTable.bits z)) c
theorem stp_dummy (m : Nat) : ∀ (n : Nat) (p : SetTable.Probe), p.dummy = none → (nth m p n).dummy = none
  | 0, _, h => h
  | n + 1, p, h => stp_dummy m n (adv m p) (by unfold adv; split <;> exact h)
theorem seek (R : KSet P w s.heap a L es ep t) {x : Addr} {k : NestedKey} (hx : KAt P w s.heap k x) (hu : A.units + 8 < cLine) {n : Nat} (hnf : n < 10 * SetTable.turns t.mask)
    (hn : way t.mask (kh w k) n ∉ t.place.toList) (hb : ∀ c, c < n → way t.mask (kh w k) c ∈ t.place.toList) {Q : SetFound → Shared → Prop}
    (yes : k ∈ L.map (·.2) → Q (.there none) s) (no : k ∉ L.map (·.2) → Q (.free (way t.mask (kh w k) n) false) s) :
    ∀ (f c : Nat) (st : Option SetTable.Probe), st.getD (t.probeStart (kh w k)) = stp t.mask (kh w k) c → c ≤ n → n - c < f →
      (∀ (i : Nat) p, L[i]? = some p → p.2 = k → ∃ c', c ≤ c' ∧ c' < n ∧ t.place.toList[i]? = some (way t.mask (kh w k) c')) →
      wpAny (model P w) A (setSearchFrom a (.ref x) (kh w k) true f st) Q E s
  | 0, _, _, _, _, hf, _ => absurd hf (Nat.not_lt_zero _)
  | f + 1, c, st, hst, hc, hf, hre => by
    obtain ⟨o, ho, hex, hd⟩ := R.ob
    rw [setSearchFrom_succ]
    refine wpAny_bind (wpAny_setState_of ho hd R.fits ?_)
    dsimp only
    refine wp_if_neg R.odd ?_
    try refine wpAny_bind (wpAny_pure ?_)
    have hdm : (stp t.mask (kh w k) c).dummy = none := stp_dummy t.mask c _ rfl
    have sh : ∀ q, nth t.mask (stp t.mask (kh w k) c) q = stp t.mask (kh w k) (c + q) := fun q => (nth_add t.mask c _ q).symm
    have sj : ∀ q, (nth t.mask (stp t.mask (kh w k) c) q).j = way t.mask (kh w k) (c + q) := fun q => congrArg SetTable.Probe.j (sh q)
    have hcn : c + (n - c) = n := by omega
    have hash : ∀ (i : Nat) p, L[i]? = some p → (fun i => (es[i]?.map (·.1)).getD 0) i = kh w p.2 := fun i p hp => by
      show (es[i]?.map (·.1)).getD 0 = _
      rw [R.row hp] <;> rfl
    rcases go_spec t R.tab.ris R.tab.dm (fun i => (es[i]?.map (·.1)).getD 0) (kh w k) (10 * SetTable.turns t.mask) (n - c) _ hdm (by omega)
      (fun q hq => by rw [sj]; exact hb (c + q) (by omega)) (by rw [sj, hcn]; exact hn) with ⟨q, i, hq, hi, hh, hno, hpr⟩ | ⟨hno, hpr⟩
    · rw [sj] at hi
      have hpr' : t.probe (fun i => (es[i]?.map (·.1)).getD 0) (kh w k) (st.getD (t.probeStart (kh w k))) = some (.candidate (way t.mask (kh w k) (c + q)) i (stp t.mask (kh w k) (c + (q + 1)))) := by
        rw [hst, ← sj, ← sh]
        exact hpr
      rw [hpr']
      dsimp only
      have hil : i < L.length := by
        have h1 : i < t.place.toList.length := (List.getElem?_eq_some_iff.mp hi).1
        have h2 := R.tab.sz
        rw [List.length_map] at h2
        rw [Array.length_toList] at h1
        omega
      obtain ⟨p, hp⟩ : ∃ p, L[i]? = some p := ⟨_, List.getElem?_eq_getElem hil⟩
      have hm : p ∈ L := List.mem_of_getElem? hp
      have after : wpAny (model P w) A (searchRest a (.ref x) (kh w k) true f es t (way t.mask (kh w k) (c + q)) i (stp t.mask (kh w k) (c + (q + 1)))) Q E s := by
        unfold searchRest
        rw [R.row hp]
        dsimp only
        refine wpAny_bind (wpAny_holding ((nestedKind P w).eqBool hu (R.keys p hm) hx ?_))
        refine wpAny_bind (wpAny_setState_of ho hd R.fits ?_)
        dsimp only
        by_cases hkk : p.2 = k
        · refine wp_if_pos (by simp [hkk]) ?_
          exact wpAny_pure (yes (List.mem_map.mpr ⟨p, hm, hkk⟩))
        · refine wp_if_neg (by simp [hkk]) ?_
          try refine wpAny_bind (wpAny_pure ?_)
          rw [sameMem]
          dsimp only
          have hsl : t.slot (way t.mask (kh w k) (c + q)) = .live i := slot_live R.tab.ris hi
          simp only [if_true, hsl, R.row hp]
          refine wpAny_bind (wpAny_isSame_ref_self (wpAny_bind (wpAny_pure ?_)))
          simp only [if_true]
          refine wp_if_neg (by simp [hkk]) ?_
          refine seek R hx hu hnf hn hb yes no f (c + (q + 1)) _ rfl (by omega) (by omega) fun i0 p0 h0 hk0 => ?_
          obtain ⟨c', a1, a2, a3⟩ := hre i0 p0 h0 hk0
          refine ⟨c', ?_, a2, a3⟩
          rcases Nat.lt_trichotomy c' (c + q) with z | z | z
          · refine absurd ((hash i0 p0 h0).trans (congrArg (kh w) hk0)) (hno (c' - c) i0 (by omega) ?_)
            rw [sj, show c + (c' - c) = c' by omega]
            exact a3
          · rw [z] at a3
            have s0 := slot_live R.tab.ris a3
            rw [hsl] at s0
            injection s0 with s0
            rw [← s0, hp] at h0
            exact absurd ((congrArg Prod.snd (Option.some.inj h0)).trans hk0) hkk
          · omega
      by_cases hl : t.led = true
      · refine wp_if_neg (by simp [hl]) ?_
        try refine wpAny_bind (wpAny_pure ?_)
        exact after
      · refine wp_if_pos (by simp [hl]) ?_
        refine wpAny_bind (unseen hx (fun y hy => ?_) ?_)
        · obtain ⟨e, he, ee⟩ := List.mem_map.mp hy
          have he1 : e ∈ es ∧ e.1 = kh w k := by simpa using he
          have he2 : e ∈ es.toList := by simpa using he1.1
          rw [R.rows] at he2
          obtain ⟨p2, hp2, e2⟩ := List.mem_map.mp he2
          exact ⟨p2.2, p2.1, by rw [← ee, ← e2], R.keys p2 hp2⟩
        · refine wp_if_neg (by decide) ?_
          try refine wpAny_bind (wpAny_pure ?_)
          exact after
    · have hpr' : t.probe (fun i => (es[i]?.map (·.1)).getD 0) (kh w k) (st.getD (t.probeStart (kh w k))) = some (.empty (way t.mask (kh w k) n) none) := by
        have e2 : way t.mask (kh w k) n = (nth t.mask (stp t.mask (kh w k) c) (n - c)).j := by rw [sj, hcn]
        rw [hst, e2]
        exact hpr
      rw [hpr']
      dsimp only
      refine wpAny_pure (no fun hm => ?_)
      obtain ⟨p0, h0, hk0⟩ := List.mem_map.mp hm
      obtain ⟨i0, hi0, e0⟩ := List.getElem_of_mem h0
      have h00 : L[i0]? = some p0 := by rw [List.getElem?_eq_getElem hi0, e0]
      obtain ⟨c', a1, a2, a3⟩ := hre i0 p0 h00 hk0
      refine hno (c' - c) i0 (by omega) ?_ ((hash i0 p0 h00).trans (congrArg (kh w) hk0))
      rw [sj, show c + (c' - c) = c' by omega]
      exact a3
theorem seek_at (R : KSet P w s.heap a L es ep t) {x : Addr} {k : NestedKey} (hx : KAt P w s.heap k x) (hu : A.units + 8 < cLine) {Q : SetFound → Shared → Prop} (yes : k ∈ L.map (·.2) → Q (.there none) s)
    (no : ∀ n, k ∉ L.map (·.2) → way t.mask (kh w k) n ∉ t.place.toList → (∀ c, c < n → way t.mask (kh w k) c ∈ t.place.toList) → Q (.free (way t.mask (kh w k) n) false) s) : wpAny (model P w) A (setSearch a (.ref x) (kh w k) true) Q E s := by
  have hroom := R.room
  have hsz := R.tab.sz
  rw [List.length_map] at hsz
  obtain ⟨n, hnf, hn, hb⟩ := R.tab.first (by rw [List.length_map]; omega) (kh w k)
  have hbig : n < 100000 := by
    have hm := R.tab.mok
    unfold SetTable.turns at hnf
    rcases hm with e | e | e <;> rw [e] at hnf <;> omega
  unfold setSearch
  refine seek R hx hu hnf hn hb yes (fun z => no n z hn hb) 100000 0 none rfl (Nat.zero_le _) (by omega) fun i p hp hk => ?_
  have hi : (L.map fun p => kh w p.2)[i]? = some (kh w k) := by rw [List.getElem?_map, hp, ← hk] <;> rfl
  have hil : i < t.place.toList.length := by
    have h1 : i < L.length := (List.getElem?_eq_some_iff.mp hp).1
    rw [Array.length_toList]
    omega
  have hj := List.getElem?_eq_getElem hil
  obtain ⟨c, hc, e⟩ := R.tab.before hn hi hj
  exact ⟨c, Nat.zero_le _, hc, by rw [hj, e]⟩
end
end Ev
end

section
set_option Elab.async false
set_option linter.all false
set_option autoImplicit false
set_option maxRecDepth 100000
set_option maxHeartbeats 4000000
/-! # .. one more member; set(xs) -/
namespace Ev
open PySem PySem.Spec PyProof.Rows L2
section
variable {P : Program} {w : World} {A : Around} {E : Value → Shared → Prop} {s : Shared}
theorem split_perm {α : Type} (l : List α) (n : Nat) (x : α) : (l.take n ++ x :: l.drop n).Perm (x :: l) := by
  have e := List.perm_middle (a := x) (l₁ := l.take n) (l₂ := l.drop n)
  rwa [List.take_append_drop] at e
theorem filterMap_range {α : Type} (l : List α) : ∀ n, n ≤ l.length → (List.range n).filterMap (fun i => l[i]?) = l.take n
  | 0, _ => rfl
  | n + 1, h => by
    have hn : n < l.length := h
    rw [List.range_succ, List.filterMap_append, filterMap_range l n (Nat.le_of_lt hn), List.take_succ, List.getElem?_eq_getElem hn]
    simp [hn]
/-- the rows in another order are the rows of the members in that order -/
theorem rows_order {L : List Mem} {es : Array (Int × Value)} {ord : Array Nat} (hr : es.toList = rowsK w L) (hp : ord.toList.Perm (List.range L.length)) :
    ∃ L2, (ord.filterMap (es[·]?)).toList = rowsK w L2 ∧ L2.Perm L ∧ (L2.map fun p => kh w p.2) = ord.toList.map fun i => (es.map (·.1)).getD i 0 := by
  have hsz := rowsK_len hr
  have ent : ∀ i (h : i < L.length), es[i]? = some (kh w (L[i]).2, Value.ref (L[i]).1) := fun i h => by
    rw [← Array.getElem?_toList, hr]
    unfold rowsK
    rw [List.getElem?_map, List.getElem?_eq_getElem h] <;> rfl
  have all : ∀ l : List Nat, (∀ i ∈ l, i < L.length) → l.filterMap (fun i => es[i]?) = rowsK w (l.filterMap fun i => L[i]?) ∧ ((l.filterMap fun i => L[i]?).map fun p => kh w p.2) = l.map fun i => (es.map (·.1)).getD i 0 := by
    intro l
    induction l with
    | nil => intro _; exact ⟨rfl, rfl⟩
    | cons i l ih =>
      intro hl
      have hi := hl i List.mem_cons_self
      obtain ⟨e1, e2⟩ := ih fun j hj => hl j (List.mem_cons_of_mem _ hj)
      have e3 : (es.map (·.1)).getD i 0 = kh w (L[i]).2 := by
        have e5 : (es.map (·.1))[i]? = some (kh w (L[i]).2) := by rw [Array.getElem?_map, ent i hi] <;> rfl
        simp [Array.getD_eq_getD_getElem?, e5]
      rw [List.filterMap_cons_some (ent i hi), List.filterMap_cons_some (List.getElem?_eq_getElem hi), e1, List.map_cons, List.map_cons, e2, e3]
      exact ⟨rfl, rfl⟩
  obtain ⟨e1, e2⟩ := all ord.toList fun i hi => List.mem_range.mp (hp.mem_iff.mp hi)
  refine ⟨ord.toList.filterMap fun i => L[i]?, by first | (rw [Array.toList_filterMap]; exact e1) | simpa using e1, ?_, e2⟩
  have h1 := hp.filterMap fun i => L[i]?
  rwa [filterMap_range L L.length (Nat.le_refl _), List.take_length] at h1
variable {a : Addr} {L : List Mem} {es : Array (Int × Value)} {ep : Nat} {t : SetTable}
/-- the table is laid anew, wider -/
theorem widen {o : Obj} (ho : s.heap.get? a = some o) (hex : o.ExactSet) (hd : o.data = .set es ep t) (hr : es.toList = rowsK w L) (T : TabOk t (L.map fun p => kh w p.2)) (hfl : L.length ≤ t.mask)
    (nd : (L.map (·.2)).Nodup) (keys : ∀ p ∈ L, KAt P w s.heap p.2 p.1) (ld : w.params.followText "set-order" = true ∨ t.led = true) (few : L.length < 64) {want m : Nat}
    (hw : SetTable.sizeAbove want - 1 = m) (hm : MaskOk m) (hw2 : SetTable.sizeAbove want ≤ 128) (hn : L.length * 5 < m * 3) {Q : Unit → Shared → Prop}
    (hQ : ∀ h' L' es' ep' t', Heap.SameBut a s.heap h' → KSet P w h' a L' es' ep' t' → L'.Perm L → Q () { s with heap := h' }) : wpAny (model P w) A (setRelay a want) Q E s := by
  have hsl := rowsK_len hr
  have hsz := T.sz
  rw [List.length_map] at hsz
  have hfits : t.fits es.size = true := by
    unfold SetTable.fits SetTable.fill
    rw [T.dm, Bool.and_eq_true, beq_iff_eq, decide_eq_true_eq]
    show t.place.size = es.size ∧ t.place.size + 0 ≤ t.mask
    omega
  obtain ⟨t', ord, e, hp, T', em, el, _, _⟩ := relaid_ok t (hs := es.map (·.1)) (wanted := want) hw hm (by rw [Array.size_map, hsl]; omega)
  rw [Array.size_map, hsl] at hp
  obtain ⟨L2, r1, r2, r3⟩ := rows_order hr hp
  rw [← r3] at T'
  have hs2 : (ord.filterMap (es[·]?)).size = es.size := by rw [rowsK_len r1, r2.length_eq, hsl]
  rw [setRelay_eq]
  refine wpAny_bind (wpAny_setState_of ho hd hfits ?_)
  dsimp only
  refine wp_if_neg (by rw [sizeLine_eq]; omega) ?_
  try refine wpAny_bind (wpAny_pure ?_)
  rw [e]
  dsimp only
  refine wpAny_bind ?_
  refine wp_if_neg (by rw [hs2]; simp) ?_
  try refine wpAny_bind (wpAny_pure ?_)
  refine wpAny_pure ?_
  dsimp only
  refine wpAny_storeSet_of ho hd ?_ (by rw [hs2, hsl, sizeLine_eq]; omega)
  have sb : Heap.SameBut a s.heap (s.heap.update a (Obj.putSet (ord.filterMap (es[·]?)) t')) := Heap.SameBut.update ..
  refine hQ _ L2 (ord.filterMap (es[·]?)) (ep + 1) t' sb ?_ r2
  refine ⟨⟨_, store_at ho hd, ⟨hex.1, hex.2.1, hex.2.2⟩, rfl⟩, r1, T', (r2.map (·.2)).nodup_iff.mpr nd, fun p hpm => kAt_set (keys p (r2.mem_iff.mp hpm)) ho hd sb, by rw [el]; exact ld, ?_, by rw [r2.length_eq]; exact few⟩
  rw [r2.length_eq, em]
  exact hn
/-- one more -/
theorem put_in (R : KSet P w s.heap a L es ep t) {x : Addr} {k : NestedKey} (hx : KAt P w s.heap k x) (hu : A.units + 8 < cLine) (hfew : L.length + 1 < 64) {Q : Bool → Shared → Prop}
    (hQ : ∀ b h' L' es' ep' t', Heap.SameBut a s.heap h' → KSet P w h' a L' es' ep' t' → (k ∈ L.map (·.2) → L' = L) → (k ∉ L.map (·.2) → L'.Perm ((x, k) :: L)) → Q b { s with heap := h' }) :
    wpAny (model P w) A (setAddHashed a (.ref x) (kh w k)) Q E s := by
  obtain ⟨o, ho, hex, hd⟩ := R.ob
  have hsl := rowsK_len R.rows
  have hroom := R.room
  unfold setAddHashed
  refine wpAny_holding ?_
  rw [show (100000 : Nat) = 99999 + 1 from rfl, setAddHashedIn_succ]
  refine wpAny_bind (wpAny_setState_of ho hd R.fits ?_)
  dsimp only
  refine wp_if_neg (by simp [byScan, Value.scannable]) ?_
  try refine wpAny_bind (wpAny_pure ?_)
  refine wpAny_bind (seek_at R hx hu (fun hm => ?_) fun n hm hn hb => ?_)
  · dsimp only
    exact wpAny_pure (hQ false s.heap L es ep t (Heap.SameBut.refl a s.heap) R (fun _ => rfl) fun z => absurd hm z)
  · dsimp only
    refine wpAny_bind (wpAny_setState_of ho hd R.fits ?_)
    dsimp only
    obtain ⟨q1, q2, q3, q4, q5, _, _, _, q9⟩ := R.tab.put hn hb
    generalize hpt : t.put (way t.mask (kh w k) n) = pt at q1 q3 q4 q5 q9 ⊢
    obtain ⟨t1, p⟩ := pt
    dsimp only at q1 q3 q4 q5 q9 ⊢
    subst q1
    have hin : (SetTable.insertAt es (SetTable.below t.place (way t.mask (kh w k) n)) (kh w k, Value.ref x)).toList = rowsK w (L.take (SetTable.below t.place (way t.mask (kh w k) n)) ++ (x, k) :: L.drop (SetTable.below t.place (way t.mask (kh w k) n))) := by
      rw [SetTable.toList_insertAt, R.rows]
      unfold rowsK
      rw [List.map_append, List.map_cons, List.map_take, List.map_drop]
    generalize SetTable.below t.place (way t.mask (kh w k) n) = p at q2 q3 hin ⊢
    have pm := split_perm L p (x, k)
    have hhs : (L.take p ++ (x, k) :: L.drop p).map (fun p => kh w p.2) = (L.map fun p => kh w p.2).take p ++ kh w k :: (L.map fun p => kh w p.2).drop p := by
      rw [List.map_append, List.map_cons, List.map_take, List.map_drop]
    rw [← hhs] at q3
    generalize L.take p ++ (x, k) :: L.drop p = L1 at pm q3 hin
    have hlen : L1.length = L.length + 1 := pm.length_eq
    have nd1 : (L1.map (·.2)).Nodup := by
      refine (pm.map (·.2)).nodup_iff.mpr ?_
      rw [List.map_cons]
      exact List.nodup_cons.mpr ⟨hm, R.nd⟩
    have hes := rowsK_len hin
    generalize SetTable.insertAt es p (kh w k, Value.ref x) = es1 at hin hes ⊢
    rw [hlen] at hes
    -- whatever is said of the hash: the table but for one flag
    have fin : ∀ t2 : SetTable, t2.place = t1.place → t2.dummies = t1.dummies → t2.mask = t1.mask → t2.led = t1.led → t2.fill = t1.fill → t2.tooFull = t1.tooFull →
        wpAny (model P w) A (do
          storeSet a es1 t2
          if !false && t2.tooFull then setRelay a (SetTable.grown (es.size + 1))
          return true) Q E s := fun t2 f1 f2 f3 f4 f5 f6 => by
      have T2 : TabOk t2 (L1.map fun p => kh w p.2) := ⟨by rw [f1]; exact q3.ris, by rw [f2]; exact q3.dm, by rw [f1]; exact q3.sz, by rw [f3]; exact q3.mok, by rw [f1, f3]; exact q3.bd, by rw [f1, f3]; exact q3.reach⟩
      refine wpAny_bind (wpAny_storeSet_of ho hd ?_ (by rw [hes, sizeLine_eq]; omega))
      have sb : Heap.SameBut a s.heap (s.heap.update a (Obj.putSet es1 t2)) := Heap.SameBut.update ..
      have ho1 := store_at (es' := es1) (t' := t2) ho hd
      generalize s.heap.update a (Obj.putSet es1 t2) = h1 at sb ho1 ⊢
      have keys1 : ∀ p ∈ L1, KAt P w h1 p.2 p.1 := fun p hp => by
        rcases List.mem_cons.mp (pm.mem_iff.mp hp) with e | hp
        · rw [e]; exact kAt_set hx ho hd sb
        · exact kAt_set (R.keys p hp) ho hd sb
      have ld1 : w.params.followText "set-order" = true ∨ t2.led = true := by rw [f4, q5]; exact R.led
      by_cases hf : t2.tooFull = true
      · first
          | (refine wpAny_bind ?_; refine wp_if_pos (by simp [hf]) ?_)
          | (refine wp_if_pos (by simp [hf]) ?_; refine wpAny_bind ?_)
        have hfull : (L.length + 1) * 5 ≥ t2.mask * 3 := by
          have h := hf
          unfold SetTable.tooFull at h
          rw [decide_eq_true_eq, f5, q9, List.length_map] at h
          exact h
        rw [hsl]
        have two : (t.mask = 7 ∧ L.length = 4) ∨ (t.mask = 31 ∧ L.length = 18) := by
          rw [f3, q4] at hfull
          rcases R.tab.mok with e | e | e <;> rw [e] at hfull hroom
          · exact .inl ⟨e, by omega⟩
          · exact .inr ⟨e, by omega⟩
          · exfalso; omega
        have go : ∀ m, SetTable.sizeAbove (SetTable.grown (L.length + 1)) - 1 = m → MaskOk m → SetTable.sizeAbove (SetTable.grown (L.length + 1)) ≤ 128 → (L.length + 1) * 5 < m * 3 →
            wpAny (model P w) A (setRelay a (SetTable.grown (L.length + 1))) (fun _ s' => wpAny (model P w) A (pure true) Q E s') E { s with heap := h1 } := fun m h1' h2' h3' h4' => by
          refine widen (s := { s with heap := h1 }) ho1 ⟨hex.1, hex.2.1, hex.2.2⟩ rfl hin T2 (by rw [hlen, f3, q4]; rcases two with ⟨e, e2⟩ | ⟨e, e2⟩ <;> omega) nd1 keys1 ld1 (by rw [hlen]; exact hfew) h1' h2' h3' (by rw [hlen]; exact h4') ?_
          intro h2 L2 es2 ep2 t3 sb2 R2 pm2
          exact wpAny_pure (hQ true h2 L2 es2 ep2 t3 (sb.trans sb2) R2 (fun z => absurd z hm) fun _ => pm2.trans pm)
        rcases two with ⟨_, e2⟩ | ⟨_, e2⟩
        · exact go 31 (by rw [e2, size_20]) (.inr (.inl rfl)) (by rw [e2, size_20]; decide) (by omega)
        · exact go 127 (by rw [e2, size_76]) (.inr (.inr rfl)) (by rw [e2, size_76]; decide) (by omega)
      · first
          | refine wp_if_neg (by simp [hf]) ?_
          | (refine wpAny_bind ?_; refine wp_if_neg (by simp [hf]) ?_; refine wpAny_pure ?_)
        refine wpAny_pure (hQ true h1 L1 es1 (ep + 1) t2 sb ⟨⟨_, ho1, ⟨hex.1, hex.2.1, hex.2.2⟩, rfl⟩, hin, T2, nd1, keys1, ld1, ?_, by rw [hlen]; exact hfew⟩ (fun z => absurd z hm) fun _ => pm)
        have h := hf
        unfold SetTable.tooFull at h
        rw [decide_eq_true_eq, f5, q9, List.length_map] at h
        rw [hlen]
        omega
    by_cases hpl : t1.plain = true
    · first
        | (refine wpAny_bind ?_; refine wp_if_pos hpl ?_)
        | refine wp_if_pos hpl (wpAny_bind ?_)
      refine byVal_key _ _ 8 s hx.1 hx.2 _ _ _ fun b _ => ?_
      cases b with
      | true => simp only [if_true]; exact fin t1 rfl rfl rfl rfl rfl rfl
      | false => simp only [Bool.false_eq_true, if_false]; exact fin _ rfl rfl rfl rfl rfl rfl
    · first
        | (refine wpAny_bind ?_; refine wp_if_neg hpl ?_; refine wpAny_pure ?_)
        | refine wp_if_neg hpl (wpAny_bind (wpAny_pure ?_))
      simp only [if_true]
      exact fin t1 rfl rfl rfl rfl rfl rfl
/-- what the set has of the first items -/
structure Has (ks : List Mem) (i : Nat) (L : List Mem) : Prop where
  sub : ∀ p ∈ L, p ∈ ks.take i
  all : ∀ p ∈ ks.take i, p.2 ∈ L.map (·.2)
  len : L.length ≤ i
theorem Has.next {ks L L' : List Mem} {i : Nat} {x : Mem} (g : Has ks i L) (h : ks[i]? = some x) (c1 : x.2 ∈ L.map (·.2) → L' = L) (c2 : x.2 ∉ L.map (·.2) → L'.Perm (x :: L)) : Has ks (i + 1) L' := by
  have tk : ks.take (i + 1) = ks.take i ++ [x] := by rw [List.take_succ, h] <;> rfl
  have here : ∀ p, p ∈ ks.take (i + 1) → p ∈ ks.take i ∨ p = x := fun p hp => by
    rw [tk] at hp
    rcases List.mem_append.mp hp with z | z
    · exact .inl z
    · exact .inr (List.mem_singleton.mp z)
  have up : ∀ p, p ∈ ks.take i → p ∈ ks.take (i + 1) := fun p hp => by rw [tk]; exact List.mem_append_left _ hp
  by_cases c : x.2 ∈ L.map (·.2)
  · rw [c1 c]
    refine ⟨fun p hp => up p (g.sub p hp), fun p hp => ?_, Nat.le_succ_of_le g.len⟩
    rcases here p hp with z | z
    · exact g.all p z
    · rw [z]; exact c
  · have pm := c2 c
    refine ⟨fun p hp => ?_, fun p hp => ?_, by rw [pm.length_eq]; exact Nat.succ_le_succ g.len⟩
    · rcases List.mem_cons.mp (pm.mem_iff.mp hp) with z | z
      · rw [z, tk]; exact List.mem_append_right _ (List.mem_singleton.mpr rfl)
      · exact up p (g.sub p z)
    · rw [(pm.map (·.2)).mem_iff, List.map_cons]
      rcases here p hp with z | z
      · exact List.mem_cons_of_mem _ (g.all p z)
      · rw [z]; exact List.mem_cons_self
theorem KSet.on {h h' : Heap} (R : KSet P w h a L es ep t) (ha : ∀ o, h.get? a = some o → h'.get? a = some o) (hk : ∀ p ∈ L, KAt P w h' p.2 p.1) : KSet P w h' a L es ep t := by
  obtain ⟨o, ho, r⟩ := R.ob
  exact ⟨⟨o, ha o ho, r⟩, R.rows, R.tab, R.nd, hk, R.led, R.room, R.few⟩
abbrev newSetO (w : World) : Obj := { cls := .type "set", dict := none, data := .set #[] 0 (.fresh 0 0 (!w.params.followText "set-order")) }
theorem kset_new {h : Heap} (ho : h.get? a = some (newSetO w)) : KSet P w h a [] #[] 0 (.fresh 0 0 (!w.params.followText "set-order")) where
  ob := ⟨_, ho, ⟨rfl, rfl, rfl⟩, rfl⟩
  rows := rfl
  tab := ⟨List.Pairwise.nil, rfl, rfl, .inl rfl, fun x hx => (by cases hx), fun i h j hi => (by simp at hi)⟩
  nd := List.nodup_nil
  keys := fun p hp => (by cases hp)
  led := by cases e : w.params.followText "set-order" <;> simp [SetTable.fresh]
  room := by show 0 * 5 < 7 * 3; decide
  few := by show 0 < 64; decide
/-- the loop of set.update -/
theorem update_keys {I : Addr} {fp wr : List Addr} {G : Array GenState → Array GenState → Prop} {n : Nat} {Pv : Nat → Value → Prop} {St : Nat → Shared → Prop} {R : Result → Shared → Prop}
    (W : WalksS P w A.in1 I fp wr G n Pv St) (S : Addr) (hSf : S ∉ fp) (ks : List Mem) (hn : n = ks.length) (hfew : ks.length < 64) (hval : ∀ i v, Pv i v → ∃ p, ks[i]? = some p ∧ v = .ref p.1)
    (h0 : Heap) (hk : ∀ p ∈ ks, KAt P w h0 p.2 p.1) (hS0 : h0.get? S = none) (hw0 : ∀ b ∈ wr, h0.get? b = none) (hu : A.in1.units + 8 < cLine) :
    ∀ (k i : Nat) (s : Shared), n - i = k → i ≤ n → St i s → (∀ b o, h0.get? b = some o → s.heap.get? b = some o) → (∃ L es ep t, KSet P w s.heap S L es ep t ∧ Has ks i L) →
      (∀ s' L es ep t, Moved (S :: wr) G s s' → KSet P w s'.heap S L es ep t → Has ks n L → (∀ b o, h0.get? b = some o → s'.heap.get? b = some o) → R (.ok (.ret .none)) s') →
      codeAny (model P w) A (.builtin "set.update.loop" ⟨[.ref S, .ref I], []⟩) R s := by
  have hSw : S ∉ wr := fun h => hSf (W.sub _ h)
  have hsub : ∀ b ∈ wr, b ∈ S :: wr := fun b hb => List.mem_cons_of_mem _ hb
  have stay : ∀ {s s' : Shared}, Moved wr G s s' → (∀ b o, h0.get? b = some o → s.heap.get? b = some o) → ∀ b o, h0.get? b = some o → s'.heap.get? b = some o := fun hm hkp b o e =>
    hm.heap b o (fun hb => by rw [hw0 b hb] at e; cases e) (hkp b o e)
  intro k
  induction k with
  | zero =>
    intro i s hk' hi hst hkp ⟨L, es, ep, t, hS, g⟩ hR
    have hin : i = n := by omega
    subst hin
    refine codeAny_builtin F.entry_set_update_loop ?_
    rw [Around.under_plainId F.plain_set_update_loop _]
    show wpAny _ A.in1 (pyNext (.ref I) >>= _) _ _ s
    refine wpAny_bind (W.done s _ _ hst fun s' hm => ?_)
    show wpAny _ A.in1 (ret Value.none) _ _ s'
    have hkp' := stay hm hkp
    exact wpAny_pure (hR s' L es ep t (hm.mono hsub) (hS.on (fun o e => hm.heap S o hSw e) fun p hp => kAt_on (hk p (List.mem_of_mem_take (g.sub p hp))) hkp') g hkp')
  | succ k ih =>
    intro i s hk' hi hst hkp ⟨L, es, ep, t, hS, g⟩ hR
    have hlt : i < n := by omega
    refine codeAny_builtin F.entry_set_update_loop ?_
    rw [Around.under_plainId F.plain_set_update_loop _]
    show wpAny _ A.in1 (pyNext (.ref I) >>= _) _ _ s
    refine wpAny_bind (W.item i s _ _ hlt hst fun v s' hP hst' hm => ?_)
    obtain ⟨p, hp, rfl⟩ := hval i v hP
    have hkp' := stay hm hkp
    have hS' : KSet P w s'.heap S L es ep t := hS.on (fun o e => hm.heap S o hSw e) fun q hq => kAt_on (hk q (List.mem_of_mem_take (g.sub q hq))) hkp'
    have hx : KAt P w s'.heap p.2 p.1 := kAt_on (hk p (List.mem_of_getElem? hp)) hkp'
    show wpAny _ A.in1 (holding [Value.ref p.1] (setAdd S (.ref p.1)) >>= _) _ _ s'
    refine wpAny_bind (wpAny_holding ?_)
    unfold setAdd
    refine wpAny_holding ?_
    refine wpAny_bind ((nestedKind P w).pyHash hu hx ?_)
    refine put_in (s := { s' with toks := s'.toks + (nestedKind P w).draws p.2 }) hS' hx hu (by have := g.len; omega) fun b h' L' es' ep' t' hsb hS2 c1 c2 => ?_
    have hkp2 : ∀ b o, h0.get? b = some o → h'.get? b = some o := fun b o e => (hsb.2 b (fun z => by rw [z, hS0] at e; cases e)).trans (hkp' b o e)
    refine wpAny_pure ⟨plainId_quiet F.plain_set_update_loop _, ih (i + 1) _ (by omega) hlt (W.frame _ s' _ _ hst' (Nat.le_add_right _ _) fun b hb o e => ?_) hkp2 ⟨L', es', ep', t', hS2, g.next hp c1 c2⟩ fun s'' L2 es2 ep2 t2 hm'' hS'' g'' hkp'' => ?_⟩
    · rw [hsb.2 b (fun h : b = S => hSf (by rw [← h]; exact hb))]; exact e
    · refine hR s'' L2 es2 ep2 t2 (Moved.trans W.gtrans ((hm.mono hsub).then_heap (Nat.le_add_right _ _) fun b o hb e => ?_) hm'') hS'' g'' hkp''
      rw [hsb.2 b (fun h : b = S => hb (by rw [h]; exact List.mem_cons_self))]; exact e
end
end Ev
end

section
set_option Elab.async false
set_option linter.all false
set_option autoImplicit false
set_option maxRecDepth 100000
set_option maxHeartbeats 4000000
/-! # set(xs) of a list or a tuple of keys -/
namespace Ev
open PySem PySem.Spec PyProof.Rows L2
section
variable {P : Program} {w : World} {A : Around} {E : Value → Shared → Prop} {s : Shared}
/-- the set, the walk of the source behind it -/
theorem fill_set {l I : Addr} {ic : Obj} {ks : List Mem} {n : Nat} {Pv : Nat → Value → Prop} {St : Nat → Shared → Prop} {R : Result → Shared → Prop} {G : Array GenState → Array GenState → Prop}
    (W : WalksS P w A.in1 I [I, l] [I] G n Pv St) (hI : I = s.heap.objs.size + 1) (hl : l < s.heap.objs.size) (hn : n = ks.length) (hfew : ks.length < 64) (hval : ∀ i v, Pv i v → ∃ p, ks[i]? = some p ∧ v = .ref p.1)
    (hk : ∀ p ∈ ks, KAt P w s.heap p.2 p.1) (hu : A.in1.units + 8 < cLine) (hst : St 0 { s with heap := (s.heap.push (newSetO w)).push ic })
    (h : ∀ s' L es ep t, Moved [s.heap.objs.size, I] G { s with heap := (s.heap.push (newSetO w)).push ic } s' → KSet P w s'.heap s.heap.objs.size L es ep t → Has ks ks.length L → (∀ b o, s.heap.get? b = some o → s'.heap.get? b = some o) → R (.ok (.ret .none)) s') :
    codeAny (model P w) A (.builtin "set.update.loop" ⟨[.ref s.heap.objs.size, .ref I], []⟩) R { s with heap := (s.heap.push (newSetO w)).push ic } := by
  have far : ∀ b, s.heap.objs.size ≤ b → s.heap.get? b = none := fun b hb => by
    cases q : s.heap.get? b with
    | none => rfl
    | some o => exact absurd (Nat.lt_of_lt_of_le (Heap.lt_size q) hb) (Nat.lt_irrefl _)
  have hget : ((s.heap.push (newSetO w)).push ic).get? s.heap.objs.size = some (newSetO w) := Heap.get?_push_of_some _ (Heap.get?_push_size _ rfl)
  subst hn
  refine update_keys W s.heap.objs.size (by rw [hI]; simp only [List.mem_cons, List.not_mem_nil, or_false, not_or]; exact ⟨Nat.ne_of_lt (Nat.lt_succ_self _), Nat.ne_of_gt hl⟩) ks rfl hfew hval s.heap hk (far _ (Nat.le_refl _)) (fun b hb => far b (by rw [List.mem_singleton.mp hb, hI]; exact Nat.le_succ _)) hu
    (ks.length - 0) 0 _ rfl (Nat.zero_le _) hst (fun b o e => Heap.get?_push_of_some _ (Heap.get?_push_of_some _ e)) ⟨[], #[], 0, _, kset_new hget, fun p hp => (by cases hp), fun p hp => (by simp at hp), Nat.le_refl _⟩ h

theorem call_set_list {l : Addr} {items : Array Value} (ks : List Mem) {Q : Value → Shared → Prop} (hh : A.handled = none) (hl : s.heap.IsList l items) (hit : items.toList = ks.map fun p => Value.ref p.1)
    (hk : ∀ p ∈ ks, KAt P w s.heap p.2 p.1) (hfew : ks.length < 64) (hu : A.units + 20 < cLine)
    (h : ∀ (h' : Heap) (tk : Nat) L es ep t, KSet P w h' s.heap.objs.size L es ep t → Has ks ks.length L → (∀ b o, s.heap.get? b = some o → h'.get? b = some o) → Q (.ref s.heap.objs.size) { s with heap := h', toks := tk }) :
    wpAny (model P w) A (call (.type "set") [.ref l]) Q E s := by
  have hisz : items.size = ks.length := by
    have q := congrArg List.length hit
    rwa [Array.length_toList, List.length_map] at q
  obtain ⟨c, tl, hmro⟩ := F.called_set.mro
  have hmade := F.called_set.made
  have hsub := F.called_set.sub
  refine wpAny_call (codeAny_of_tree ?_)
  show wpAny _ _ (callAny (.type "set") _) _ _ _
  refine wpAny_pure ⟨Code.quiet_builtin _ (by decide +kernel), codeAny_builtin F.entry_type_call ?_⟩
  rw [Around.under_plain (weight_type_call_type "set" [.ref l] []) rfl]
  have h1 := F.called_set.notType
  have h2 := F.called_set.canCreate
  have hct := F.typeCall_set_1 (.ref l)
  repeat (any_goals (first | assumption | wp_step))
  refine codeAny_mono (code_set_led1 (.ref l) (E := E) (Q₁ := fun obj s₁ => obj = .ref s.heap.objs.size ∧ s₁ = { s with heap := s.heap.push (newSetO w) }) ⟨rfl, rfl⟩) fun r s₁ hr => ?_
  cases r with
  | error e => exact hr
  | ok fl =>
    cases fl with
    | ret obj =>
      obtain ⟨rfl, rfl⟩ := hr
      have hT : Shared.TypeIs { s with heap := s.heap.push (newSetO w) } (.ref s.heap.objs.size) "set" := ⟨_, Heap.get?_push_size _ rfl, rfl⟩
      have hli := F.called_set.init.lookup
      have hbi := F.called_set.init.bind (.ref s.heap.objs.size)
      repeat (any_goals (first | assumption | wp_step))
      refine codeAny_mono (codeAny_call_builtin (R := wants (fun r s₂ => r = .none ∧ ∃ h' tk L es ep t, s₂ = { s with heap := h', toks := tk } ∧ KSet P w h' s.heap.objs.size L es ep t ∧ Has ks ks.length L ∧
          (∀ b o, s.heap.get? b = some o → h'.get? b = some o)) E) F.called_set.init.plain F.entry_set_init (check_set_init_1 hT ?_)) fun r₂ s₂ hr₂ => ?_
      · obtain ⟨ol, hol, hcl, nl, hdl⟩ := hl
        obtain ⟨ocls, odict, odata, oslots⟩ := ol
        simp only at hcl hdl
        subst hcl; subst hdl
        have hol' : (s.heap.push (newSetO w)).get? l = some { cls := .type "list", dict := odict, data := .seq items nl, slots := oslots } := Heap.get?_push_of_some _ hol
        have hsls := F.sub_list_set
        have hslf := F.sub_list_frozenset
        have hne : (Value.type "list" == Value.type "dict") = false := by decide
        have hl1 : (s.heap.push (newSetO w)).IsList l items := ⟨_, hol', rfl, nl, rfl⟩
        unfold Builtin.«set.__init__» noKeywords Builtin.Frozenset.updateFrom
        generalize hPI : pyIter = PI
        wp_walk
        subst hPI
        refine wpAny_pyIter_list hl1 ?_
        refine wpAny_bind (wpAny_runValue ?_)
        have hlS : l < s.heap.objs.size := Heap.lt_size hol
        have hh3 : A.in1.in1.in1.handled = none := by simp [hh]
        have hz1 : (s.heap.push (newSetO w)).objs.size = s.heap.objs.size + 1 := Heap.size_push ..
        have hneI : l ≠ (s.heap.push (newSetO w)).objs.size := by rw [hz1]; exact Nat.ne_of_lt (Nat.lt_succ_of_lt hlS)
        have e3 : A.units + 1 + 1 + 1 + 8 < cLine := by omega
        have hu3 : A.in1.in1.in1.units + 8 < cLine := e3
        refine fill_set (ks := ks) ((Walks.list hh3 _ l hneI items).toS) hz1 hlS hisz hfew (fun i v hv => ?_) hk hu3 ⟨⟨_, Heap.get?_push_size _ rfl, rfl, rfl⟩, (hl1.push _)⟩ fun s' L es ep t hm hS' g' hkp => ?_
        · have q : items.toList[i]? = some v := by rw [Array.getElem?_toList]; exact hv
          rw [hit, List.getElem?_map] at q
          cases hq : ks[i]? with
          | none => rw [hq] at q; cases q
          | some p => rw [hq] at q; exact ⟨p, rfl, (Option.some.inj q).symm⟩
        · obtain ⟨h', g2, d', tk', os'⟩ := s'
          have eg : g2 = s.gens := hm.gens
          have ed : d' = s.drawn := hm.drawn
          have eo : os' = s.os := hm.os
          subst eg; subst ed; subst eo
          show wpAny _ _ _ _ _ _
          refine wpAny_pure ?_
          show wpAny _ _ (ret Value.none) _ _ _
          exact wpAny_pure ⟨rfl, h', tk', L, es, ep, t, rfl, hS', g', hkp⟩
      · cases r₂ with
        | error e => exact hr₂
        | ok fl₂ =>
          cases fl₂ with
          | ret r =>
            obtain ⟨rfl, h', tk, L, es, ep, t, rfl, hS', g', hk'⟩ := hr₂
            repeat (any_goals (first | assumption | wp_step))
            exact h _ _ _ _ _ _ hS' g' hk'
          | _ => exact hr₂.elim
    | _ => exact hr.elim

theorem call_set_tuple {l : Addr} {items : Array Value} (ks : List Mem) {Q : Value → Shared → Prop} (hh : A.handled = none) (hl : s.heap.IsTuple l items) (hit : items.toList = ks.map fun p => Value.ref p.1)
    (hk : ∀ p ∈ ks, KAt P w s.heap p.2 p.1) (hfew : ks.length < 64) (hu : A.units + 20 < cLine)
    (h : ∀ (h' : Heap) (tk : Nat) L es ep t, KSet P w h' s.heap.objs.size L es ep t → Has ks ks.length L → (∀ b o, s.heap.get? b = some o → h'.get? b = some o) → Q (.ref s.heap.objs.size) { s with heap := h', toks := tk }) :
    wpAny (model P w) A (call (.type "set") [.ref l]) Q E s := by
  have hisz : items.size = ks.length := by
    have q := congrArg List.length hit
    rwa [Array.length_toList, List.length_map] at q
  obtain ⟨c, tl, hmro⟩ := F.called_set.mro
  have hmade := F.called_set.made
  have hsub := F.called_set.sub
  refine wpAny_call (codeAny_of_tree ?_)
  show wpAny _ _ (callAny (.type "set") _) _ _ _
  refine wpAny_pure ⟨Code.quiet_builtin _ (by decide +kernel), codeAny_builtin F.entry_type_call ?_⟩
  rw [Around.under_plain (weight_type_call_type "set" [.ref l] []) rfl]
  have h1 := F.called_set.notType
  have h2 := F.called_set.canCreate
  have hct := F.typeCall_set_1 (.ref l)
  repeat (any_goals (first | assumption | wp_step))
  refine codeAny_mono (code_set_led1 (.ref l) (E := E) (Q₁ := fun obj s₁ => obj = .ref s.heap.objs.size ∧ s₁ = { s with heap := s.heap.push (newSetO w) }) ⟨rfl, rfl⟩) fun r s₁ hr => ?_
  cases r with
  | error e => exact hr
  | ok fl =>
    cases fl with
    | ret obj =>
      obtain ⟨rfl, rfl⟩ := hr
      have hT : Shared.TypeIs { s with heap := s.heap.push (newSetO w) } (.ref s.heap.objs.size) "set" := ⟨_, Heap.get?_push_size _ rfl, rfl⟩
      have hli := F.called_set.init.lookup
      have hbi := F.called_set.init.bind (.ref s.heap.objs.size)
      repeat (any_goals (first | assumption | wp_step))
      refine codeAny_mono (codeAny_call_builtin (R := wants (fun r s₂ => r = .none ∧ ∃ h' tk L es ep t, s₂ = { s with heap := h', toks := tk } ∧ KSet P w h' s.heap.objs.size L es ep t ∧ Has ks ks.length L ∧
          (∀ b o, s.heap.get? b = some o → h'.get? b = some o)) E) F.called_set.init.plain F.entry_set_init (check_set_init_1 hT ?_)) fun r₂ s₂ hr₂ => ?_
      · obtain ⟨ol, hol, hcl, nl, hdl⟩ := hl
        obtain ⟨ocls, odict, odata, oslots⟩ := ol
        simp only at hcl hdl
        subst hcl; subst hdl
        have hol' : (s.heap.push (newSetO w)).get? l = some { cls := .type "tuple", dict := odict, data := .seq items nl, slots := oslots } := Heap.get?_push_of_some _ hol
        have hsls := F.sub_tuple_set
        have hslf := F.sub_tuple_frozenset
        have hne : (Value.type "tuple" == Value.type "dict") = false := by decide
        have hl1 : (s.heap.push (newSetO w)).IsTuple l items := ⟨_, hol', rfl, nl, rfl⟩
        unfold Builtin.«set.__init__» noKeywords Builtin.Frozenset.updateFrom
        generalize hPI : pyIter = PI
        wp_walk
        subst hPI
        refine wpAny_pyIter_tuple hl1 ?_
        refine wpAny_bind (wpAny_runValue ?_)
        have hlS : l < s.heap.objs.size := Heap.lt_size hol
        have hh3 : A.in1.in1.in1.handled = none := by simp [hh]
        have hz1 : (s.heap.push (newSetO w)).objs.size = s.heap.objs.size + 1 := Heap.size_push ..
        have hneI : l ≠ (s.heap.push (newSetO w)).objs.size := by rw [hz1]; exact Nat.ne_of_lt (Nat.lt_succ_of_lt hlS)
        have e3 : A.units + 1 + 1 + 1 + 8 < cLine := by omega
        have hu3 : A.in1.in1.in1.units + 8 < cLine := e3
        refine fill_set (ks := ks) ((Walks.tuple hh3 _ l hneI items).toS) hz1 hlS hisz hfew (fun i v hv => ?_) hk hu3 ⟨⟨_, Heap.get?_push_size _ rfl, rfl, rfl⟩, (hl1.push _)⟩ fun s' L es ep t hm hS' g' hkp => ?_
        · have q : items.toList[i]? = some v := by rw [Array.getElem?_toList]; exact hv
          rw [hit, List.getElem?_map] at q
          cases hq : ks[i]? with
          | none => rw [hq] at q; cases q
          | some p => rw [hq] at q; exact ⟨p, rfl, (Option.some.inj q).symm⟩
        · obtain ⟨h', g2, d', tk', os'⟩ := s'
          have eg : g2 = s.gens := hm.gens
          have ed : d' = s.drawn := hm.drawn
          have eo : os' = s.os := hm.os
          subst eg; subst ed; subst eo
          show wpAny _ _ _ _ _ _
          refine wpAny_pure ?_
          show wpAny _ _ (ret Value.none) _ _ _
          exact wpAny_pure ⟨rfl, h', tk', L, es, ep, t, rfl, hS', g', hkp⟩
      · cases r₂ with
        | error e => exact hr₂
        | ok fl₂ =>
          cases fl₂ with
          | ret r =>
            obtain ⟨rfl, h', tk, L, es, ep, t, rfl, hS', g', hk'⟩ := hr₂
            repeat (any_goals (first | assumption | wp_step))
            exact h _ _ _ _ _ _ hS' g' hk'
          | _ => exact hr₂.elim
    | _ => exact hr.elim
end
end Ev
end

section
set_option Elab.async false
set_option linter.all false
set_option autoImplicit false
set_option maxRecDepth 100000
set_option maxHeartbeats 4000000
/-! # More operations: len(set(xs)), str(x), xs.count(y), x[::-1] -/
namespace Ev
open PySem PySem.Spec PyProof.Rows L2
/-! ### len(set(xs)) -/
theorem dist_keys : ∀ (ps seen : List PyData), (∀ p ∈ ps, keyB p = true) → (∀ p ∈ seen, keyB p = true) →
    ((distD seen ps).map nkD).Nodup ∧ ∀ k, k ∈ (distD seen ps).map nkD ↔ k ∈ ps.map nkD ∧ k ∉ seen.map nkD
  | [], seen, _, _ => ⟨List.nodup_nil, fun k => by simp [distD]⟩
  | p :: r, seen, h, hs => by
    have hp := h p List.mem_cons_self
    have e : (seen.any fun y => PyData.eqv y p) = true ↔ nkD p ∈ seen.map nkD := by
      rw [List.any_eq_true, List.mem_map]
      constructor
      · rintro ⟨y, hy, q⟩
        rw [nk_same (hs y hy) hp] at q
        exact ⟨y, hy, of_decide_eq_true q⟩
      · rintro ⟨y, hy, q⟩
        exact ⟨y, hy, by rw [nk_same (hs y hy) hp]; exact decide_eq_true q⟩
    unfold distD
    by_cases c : (seen.any fun y => PyData.eqv y p) = true
    · rw [if_pos c]
      obtain ⟨h1, h2⟩ := dist_keys r seen (fun q hq => h q (List.mem_cons_of_mem _ hq)) hs
      refine ⟨h1, fun k => (h2 k).trans ⟨fun z => ⟨by rw [List.map_cons]; exact List.mem_cons_of_mem _ z.1, z.2⟩, fun z => ⟨?_, z.2⟩⟩⟩
      rcases List.mem_cons.mp (by rw [List.map_cons] at z; exact z.1) with q | q
      · exact absurd (by rw [q]; exact e.mp c) z.2
      · exact q
    · rw [if_neg c]
      obtain ⟨h1, h2⟩ := dist_keys r (p :: seen) (fun q hq => h q (List.mem_cons_of_mem _ hq)) (fun q hq => by
        rcases List.mem_cons.mp hq with z | z
        · rw [z]; exact hp
        · exact hs q z)
      have c' : nkD p ∉ seen.map nkD := fun z => c (e.mpr z)
      rw [List.map_cons]
      refine ⟨List.nodup_cons.mpr ⟨fun z => ((h2 _).mp z).2 (by rw [List.map_cons]; exact List.mem_cons_self), h1⟩, fun k => ?_⟩
      rw [List.mem_cons, h2, List.map_cons, List.map_cons, List.mem_cons, List.mem_cons, not_or]
      constructor
      · rintro (z | ⟨z1, z2, z3⟩)
        · exact ⟨.inl z, by rw [z]; exact c'⟩
        · exact ⟨.inr z1, z3⟩
      · rintro ⟨z | z, z2⟩
        · exact .inl z
        · by_cases q : k = nkD p
          · exact .inl q
          · exact .inr ⟨z, q, z2⟩
theorem len_same {ks L : List Mem} {ps : List PyData} (g : Has ks ks.length L) (nd : (L.map (·.2)).Nodup) (hk : ks.map (·.2) = ps.map nkD) (hp : ∀ p ∈ ps, keyB p = true) : L.length = (distD [] ps).length := by
  obtain ⟨h1, h2⟩ := dist_keys ps [] hp fun p hp => by cases hp
  have pm : (L.map (·.2)).Perm ((distD [] ps).map nkD) := (List.perm_ext_iff_of_nodup nd h1).mpr fun k => by
    rw [h2 k, ← hk]
    constructor
    · intro z
      obtain ⟨q, hq, e⟩ := List.mem_map.mp z
      refine ⟨List.mem_map.mpr ⟨q, List.mem_of_mem_take (g.sub q hq), e⟩, by simp⟩
    · rintro ⟨z, _⟩
      obtain ⟨q, hq, e⟩ := List.mem_map.mp z
      rw [← e]
      exact g.all q (by rw [List.take_length]; exact hq)
  have e := pm.length_eq
  rwa [List.length_map, List.length_map] at e
theorem reads_mems {h : Heap} : ∀ {ps : List PyData} {vs : List Value} {as : List Addr}, ReadsAll h vs ps as → (∀ p ∈ ps, tupKey p = true) → ∀ {P : Program} {w : World}, ∃ ks : List Mem, vs = ks.map (fun p => Value.ref p.1) ∧ ks.map (·.2) = ps.map nkD ∧ ∀ p ∈ ks, KAt P w h p.2 p.1
  | _, _, _, .nil, _, _, _ => ⟨[], rfl, rfl, fun p hp => by cases hp⟩
  | p :: r, _, _, .cons a b, hp, P, w => by
    obtain ⟨k1, k2, ts, rfl⟩ := tupKey_key (hp p List.mem_cons_self)
    obtain ⟨ks, e1, e2, e3⟩ := reads_mems b (fun q hq => hp q (List.mem_cons_of_mem _ hq)) (P := P) (w := w)
    have hn := nk_reads a k1
    cases a with
    | @tuple ad ob vl n _ _ g1 g2 g3 g4 =>
      refine ⟨(ad, nkD (.tuple ts)) :: ks, by rw [e1] <;> rfl, by rw [List.map_cons, List.map_cons, e2], fun q hq => ?_⟩
      rcases List.mem_cons.mp hq with z | z
      · rw [z]; exact ⟨hn, by rw [nk_depth _ k1]; exact k2⟩
      · exact e3 q z
theorem Rs.reads {X : Cx} {pins : List (Addr × Obj)} {σ : L2.St} {H : Hp} {s : Shared} {M : Ms} (I : Inv X pins σ H s) {x : V} {p : PyData} {v : Value} (h : Rs X.K M H x p) (r : RelV x v) (e : noD p = true) : ∃ as, Reads s.heap v p as := Dp.reads I p x v (h.dp e) r
theorem noDs_all : ∀ {ps : List PyData}, (∀ p, p ∈ ps → noD p = true) → noDs ps = true
  | [], _ => rfl
  | p :: r, h => by
    show (noD p && noDs r) = true
    rw [h p List.mem_cons_self, noDs_all fun q hq => h q (List.mem_cons_of_mem _ hq)]
    rfl
theorem noDs_tup {ps : List PyData} (h : ∀ p, p ∈ ps → tupKey p = true) : noDs ps = true := noDs_all fun p hp => noD_key p (tupKey_key (h p hp)).1
/-! ### sets of whole numbers -/
theorem ints_all : ∀ {xs : List PyData}, xs.all isIntD = true → ∃ ns : List Int, xs = ns.map .int
  | [], _ => ⟨[], rfl⟩
  | x :: r, h => by
    rw [List.all_cons, Bool.and_eq_true] at h
    obtain ⟨ns, e⟩ := ints_all h.2
    cases x with
    | int i => exact ⟨i :: ns, by rw [e]; rfl⟩
    | _ => cases h.1
theorem ints_map : ∀ {ns : List Int}, intsD (ns.map .int) = some ns
  | [] => rfl
  | n :: ns => by
    show (intsD (ns.map .int)).map (n :: ·) = _
    rw [ints_map]
    rfl
theorem dist_le0 : ∀ (xs seen : List PyData), (distD seen xs).length ≤ xs.length
  | [], _ => Nat.le_refl _
  | x :: r, seen => by
    unfold distD
    split
    · exact Nat.le_succ_of_le (dist_le0 r seen)
    · exact Nat.succ_le_succ (dist_le0 r _)
theorem dedup_dist : ∀ (ns acc : List Int) (seen : List PyData), (∀ k : Int, acc.any (· == k) = seen.any fun y => PyData.eqv y (.int k)) → (ns.foldl PyProof.Rows.step_dedup acc).length = acc.length + (distD seen (ns.map .int)).length
  | [], acc, seen, _ => rfl
  | n :: ns, acc, seen, h => by
    rw [List.foldl_cons, List.map_cons]
    unfold PyProof.Rows.step_dedup distD
    rw [← h n]
    by_cases c : acc.any (· == n) = true
    · rw [if_pos c, if_pos c]
      exact dedup_dist ns acc seen h
    · rw [if_neg c, if_neg c]
      have := dedup_dist ns (acc ++ [n]) (.int n :: seen) fun k => by
        rw [List.any_append, List.any_cons, h k]
        show (_ || (n == k || false)) = ((n == k) || _)
        rw [Bool.or_false, Bool.or_comm]
      unfold PyProof.Rows.step_dedup at this
      rw [this, List.length_append, List.length_cons, List.length_cons, List.length_nil]
      omega
theorem met_dist (ns : List Int) : (PyProof.Rows.firstMet (fun i => ns.getD i 0) ns.length).length = (distD [] (ns.map PyData.int)).length := by
  unfold PyProof.Rows.firstMet
  have e : (List.range ns.length).map (fun i => ns.getD i 0) = ns := by
    apply List.ext_getElem?
    intro i
    rw [List.getElem?_map]
    by_cases hi : i < ns.length
    · rw [List.getElem?_range hi, List.getElem?_eq_getElem hi]
      simp [hi]
    · rw [List.getElem?_eq_none (by rw [List.length_range]; omega), List.getElem?_eq_none (by omega)]
      rfl
  rw [e, dedup_dist ns [] [] fun k => rfl]
  exact Nat.zero_add _
/-- len(set(xs)) -/
def tLenS (K : W.Frag) (T : List (Addr × Str)) (ta : TE) : TE := fun σ H Q => ta σ H fun x H1 => ∃ M S p r, Rs K M H1 x p ∧ StOk K T M S H1 ∧ lensetD p = some r ∧ Wish K T M S H1 r Q
theorem pe_lenset {X : Cx} {T : List (Addr × Str)} {a : Expr} {ta : TE} {p p2 q pos : Pos} (hc : X.calm = true) (hu : X.A.units + 70 < cLine) (hg : Gl X "len") (hm : X.mg "len" = none) (hg2 : Gl X "set") (hm2 : X.mg "set" = none) (ha : PE X a ta)
    (na : starEach [a] X.env = (false, eval a X.env) :: starEach [] X.env) : PE X (.Call (.Name "len" p) [.Call (.Name "set" p2) [a] [] q] [] pos) (tLenS X.K T ta) := by
  refine ⟨fun pins s σ H Q I h => ?_⟩
  refine Call_ (ld_blt I hg hm PySem.boot_len ?_)
  refine PyProof.Rows.callWith_builtin1 (PyProof.Rows.args_cons ?_ rfl) rfl rfl
  refine Call_ (ld_blt I hg2 hm2 PyProof.Rows.boot_set ?_)
  refine PyProof.Rows.callWith_type1 (PyProof.Rows.args_cons (thn (ha.run pins s σ H _ I h) fun v s1 ⟨x, H1, I1, r1, q1⟩ => PyProof.Rows.args_nil ?_) na) na rfl
  obtain ⟨M, S, d, r, rx, st, e, w⟩ := q1
  have fin : ∀ {ks L : List Mem} {xs : List PyData} {h' : Heap} {tk : Nat} {es : Array (Int × Value)} {ep : Nat} {t : SetTable}, (∀ p ∈ xs, tupKey p = true) → r = .int (distD [] xs).length → ks.map (·.2) = xs.map nkD →
      KSet X.prog X.w h' s1.heap.objs.size L es ep t → Has ks ks.length L → (∀ b o, s1.heap.get? b = some o → h'.get? b = some o) →
      wpAny (model X.prog X.w) X.A (call (.builtin "len") [.ref s1.heap.objs.size]) (EP X pins σ Q) X.xe { s1 with heap := h', toks := tk } := fun {ks L xs h' tk es ep t} hx er hk R g k => by
    obtain ⟨o, ho, hex, hd⟩ := R.ob
    have hl := len_same g R.nd hk fun p hp => (tupKey_key (hx p hp)).1
    have hsz := rowsK_len R.rows
    have hfew := R.few
    have I2 : Inv X pins σ H1 { s1 with heap := h', toks := tk } := I1.kept k
    refine call_len_set ho hex hd R.fits (by rw [hsz]; omega) ⟨.int (distD [] xs).length, H1, I2.tok _, ⟨_, by rw [hsz, hl]⟩, ?_⟩
    subst er
    exact w.here st (.int _)
  unfold lensetD at e
  cases es : seqD d with
  | none => rw [es] at e; cases e
  | some xs =>
    rw [es] at e
    have e : (if (decide (xs.length < 64) && xs.all tupKey) = true then some (PyData.int (distD [] xs).length) else if (decide (xs.length < 64) && isLstD d && xs.all isIntD) = true then some (PyData.int (distD [] xs).length) else none) = some r := e
    split at e
    · rename_i hx
      rw [Bool.and_eq_true, decide_eq_true_eq, List.all_eq_true] at hx
      cases e
      cases d with
      | list ys =>
        cases es
        obtain ⟨as, rd⟩ := Rs.reads I1 rx r1 (noDs_tup hx.2)
        cases rd with
        | list g1 g2 g3 g4 =>
          obtain ⟨ks, e1, e2, e3⟩ := reads_mems g4 hx.2 (P := X.prog) (w := X.w)
          have hkl : ks.length = xs.length := by have z := congrArg List.length e2; rwa [List.length_map, List.length_map] at z
          exact call_set_list ks (I1.ok.hd hc) ⟨_, g1, g2, _, g3⟩ e1 e3 (by rw [hkl]; exact hx.1) (by omega) fun h' tk L es ep t R g k => PyProof.Rows.args_nil (fin hx.2 rfl e2 R g k)
      | tuple ys =>
        cases es
        obtain ⟨as, rd⟩ := Rs.reads I1 rx r1 (noDs_tup hx.2)
        cases rd with
        | tuple g1 g2 g3 g4 =>
          obtain ⟨ks, e1, e2, e3⟩ := reads_mems g4 hx.2 (P := X.prog) (w := X.w)
          have hkl : ks.length = xs.length := by have z := congrArg List.length e2; rwa [List.length_map, List.length_map] at z
          exact call_set_tuple ks (I1.ok.hd hc) ⟨_, g1, g2, _, g3⟩ e1 e3 (by rw [hkl]; exact hx.1) (by omega) fun h' tk L es ep t R g k => PyProof.Rows.args_nil (fin hx.2 rfl e2 R g k)
      | _ => cases es
    · split at e
      case isFalse => cases e
      rename_i hx
      rw [Bool.and_eq_true, Bool.and_eq_true, decide_eq_true_eq] at hx
      obtain ⟨⟨hl, hlist⟩, hi⟩ := hx
      cases e
      cases d with
      | list ys =>
        cases es
        obtain ⟨ns, rfl⟩ := ints_all hi
        obtain ⟨a1, zs, e1, hz, ha⟩ := rx
        subst e1
        have ez := ints_of ha ints_map
        subst ez
        cases r1
        obtain ⟨its, rv, pl, hz2⟩ := I1.list (SqL.of hz)
        have hlen : its.toArray.size = ns.length := by rw [List.size_toArray, ← rv.length, List.length_map]
        rw [List.length_map] at hl
        refine PySem.call_set_list (I1.ok.hd hc) pl.isList (ns := ns) (by simpa using rv.ints) (by unfold scanBound; omega) fun h' tk hS hk => ?_
        rw [hlen] at hS
        refine PyProof.Rows.args_nil ?_
        obtain ⟨o, es, ep, t, ho, hex, hd, _, _, _, hf, hn⟩ := hS
        have I2 : Inv X pins σ H1 { s1 with heap := h', toks := tk } := I1.kept fun b o e => hk b o (Heap.lt_size e) e
        have hd2 := met_dist ns
        have hle : (distD [] (ns.map PyData.int)).length ≤ ns.length := by
          have := dist_le0 (ns.map PyData.int) []
          rwa [List.length_map] at this
        refine call_len_set ho hex hd hf (by rw [hn, hd2]; omega) ⟨.int (distD [] (ns.map PyData.int)).length, H1, I2.tok _, ⟨_, by rw [hn, hd2]⟩, ?_⟩
        exact w.here st (.int _)
      | _ => cases hlist
end Ev
end

section
set_option Elab.async false
set_option linter.all false
set_option autoImplicit false
set_option maxRecDepth 100000
set_option maxHeartbeats 4000000
/-! # str(x); count, index; x[::-1] -/
namespace Ev
open PySem PySem.Spec PyProof.Rows L2
section
variable {X : Cx} {T : List (Addr × Str)}
theorem call_str_bl : CallR X (.type "str") (fun xs H Q => ∃ b : Bool, xs = [.bl b] ∧ Q (.str (if b = true then "True" else "False")) H) := by
  intro pins s σ H xs us Q I r h
  obtain ⟨b, rfl, q⟩ := h
  obtain ⟨u, rfl, r1⟩ := vals1 r
  cases r1
  exact PySem.P.str_of_bool ⟨.str _, H, I.tok _, ⟨_, rfl⟩, q⟩
theorem blt_str : CallR X (.type "str") (rB X.K T .str) := by
  intro pins s σ H xs us Q I r ⟨M, S, x, u, p, d, ex, ru, st, e1, e2, w⟩
  subst ex
  have rp := rs_of ru st e1
  unfold bltD at e2
  cases p with
  | int i =>
    have e2 : (if i.natAbs.log2 < 1920 then some (PyData.str (toString i)) else none) = some d := e2
    split at e2
    · rename_i hz
      cases e2
      exact call_str_int pins s σ H _ us Q I r ⟨i, by rw [rp.int], hz, w.here st (.str _)⟩
    · cases e2
  | bool b =>
    cases e2
    exact call_str_bl pins s σ H _ us Q I r ⟨b, by rw [rp.bool], w.here st (.str _)⟩
  | str z =>
    cases e2
    exact SkE.call_str_str pins s σ H _ us Q I r ⟨z, by rw [rp.str], w.here st (.str _)⟩
  | _ => cases e2
/-! ### count, index -/
/-- a method, the receiver of a kind -/
def rMK (K : W.Frag) (T : List (Addr × Str)) (m : Mth) (k : PyData → Bool) : V → List V → Hp → VK → Prop := fun x xs H Q => ∃ M S y p q r, xs = [y] ∧ Rs K M H x p ∧ Rs K M H y q ∧ StOk K T M S H ∧ k p = true ∧ mthD m p [q] = some r ∧ Wish K T M S H r Q
def isListD : PyData → Bool
  | .list _ => true
  | _ => false
def isTupD : PyData → Bool
  | .tuple _ => true
  | _ => false
theorem mth_lcount (hu : X.A.units + 65 < cLine) : MtR X "list.count" (rMK X.K T .count isListD) := by
  intro pins s σ H x xs v us Q I rx rxs h
  obtain ⟨M, S, y, p, q, r, rfl, rp, rq, st, hk, e, w⟩ := h
  cases p with
  | list ys =>
    have e : (if (SeqAt.shaped q && SeqAt.shaped (.list ys)) = true then some (PyData.int (ys.countP fun z => PyData.eqv z q)) else none) = some r := e
    split at e
    · rename_i hs
      rw [Bool.and_eq_true] at hs
      cases e
      obtain ⟨u, rfl, ru⟩ := rxs.one
      obtain ⟨as, r1⟩ := Rs.reads I rp rx (noD_shaped hs.2)
      obtain ⟨bs, r2⟩ := Rs.reads I rq ru (noD_shaped hs.1)
      cases r1 with
      | list g1 g2 g3 g4 =>
        have d1 := SeqAt.depth_of_shaped hs.1
        exact SeqAt.count_list_data ⟨_, g1, g2, _, g3⟩ g4 r2 (PyData.plainAll_of_canLay0 _ (SeqAt.canLay_of_shaped hs.2)) (PyData.plain_of_canLay0 _ (SeqAt.canLay_of_shaped hs.1)) (by omega) ⟨.int _, H, I.tok _, ⟨_, rfl⟩, w.here st (.int _)⟩
    · cases e
  | _ => cases hk
theorem mth_tcount (hu : X.A.units + 65 < cLine) : MtR X "tuple.count" (rMK X.K T .count isTupD) := by
  intro pins s σ H x xs v us Q I rx rxs h
  obtain ⟨M, S, y, p, q, r, rfl, rp, rq, st, hk, e, w⟩ := h
  cases p with
  | tuple ys =>
    have e : (if (SeqAt.shaped q && SeqAt.shaped (.tuple ys)) = true then some (PyData.int (ys.countP fun z => PyData.eqv z q)) else none) = some r := e
    split at e
    · rename_i hs
      rw [Bool.and_eq_true] at hs
      cases e
      obtain ⟨u, rfl, ru⟩ := rxs.one
      obtain ⟨as, r1⟩ := Rs.reads I rp rx (noD_shaped hs.2)
      obtain ⟨bs, r2⟩ := Rs.reads I rq ru (noD_shaped hs.1)
      cases r1 with
      | tuple g1 g2 g3 g4 =>
        have d1 := SeqAt.depth_of_shaped hs.1
        exact SeqAt.count_tuple_data ⟨_, g1, g2, _, g3⟩ g4 r2 (PyData.plainAll_of_canLay0 _ (SeqAt.canLay_of_shaped hs.2)) (PyData.plain_of_canLay0 _ (SeqAt.canLay_of_shaped hs.1)) (by omega) ⟨.int _, H, I.tok _, ⟨_, rfl⟩, w.here st (.int _)⟩
    · cases e
  | _ => cases hk
def isStrD : PyData → Bool
  | .str _ => true
  | _ => false
theorem mth_scount : MtR X "str.count" (rMK X.K T .count isStrD) := by
  intro pins s σ H x xs v us Q I rx rxs h
  obtain ⟨M, S, y, p, q, r, rfl, rp, rq, st, hk, e, w⟩ := h
  cases p with
  | str a =>
    cases q with
    | str b =>
      cases e
      exact mt_count pins s σ H _ _ v us Q I rx rxs ⟨a, b, rp.str, by rw [rq.str], w.here st (.int _)⟩
    | _ => cases e
  | _ => cases hk
theorem mth_lindex (hu : X.A.units + 65 < cLine) : MtR X "list.index" (rMK X.K T .index isListD) := by
  intro pins s σ H x xs v us Q I rx rxs h
  obtain ⟨M, S, y, p, q, r, rfl, rp, rq, st, hk, e, w⟩ := h
  cases p with
  | list ys =>
    have e : (if (SeqAt.shaped q && SeqAt.shaped (.list ys)) = true then (ys.findIdx? fun z => PyData.eqv z q).map fun (j : Nat) => PyData.int j else none) = some r := e
    split at e
    · rename_i hs
      rw [Bool.and_eq_true] at hs
      obtain ⟨j, e1, rfl⟩ := map_some e
      obtain ⟨a, zs, rfl, h2, h3⟩ := rp
      obtain ⟨hj, hz, hno⟩ := List.findIdx?_eq_some_iff_getElem.mp e1
      refine mt_indexD hu pins s σ H _ _ v us Q I rx rxs ⟨a, y, q, ys, j, ys[j], rfl, rfl, .lst (.inl (.inl h2)) (RpA.dp h3 (noD_shaped hs.2)), rq.dp (noD_shaped hs.1), hs.2, hs.1, List.getElem?_eq_getElem hj, hz, fun m z' hm hz' => ?_, w.here st (.int _)⟩
      obtain ⟨hml, e2⟩ := List.getElem?_eq_some_iff.mp hz'
      have z := hno m hm
      rw [← e2]
      simpa using z
    · cases e
  | _ => cases hk
/-! ### xs[::-1] of a tuple, of a text -/
theorem rev_adjust (n : Nat) : Builtin.Slice.sliceAdjust none none (-1) (n : Int) = ((n : Int) - 1, -1) := by
  unfold Builtin.Slice.sliceAdjust
  simp
theorem rev_places (n : Nat) : Builtin.Slice.slicePlaces ((n : Int) - 1) (-1) (-1) = n := by
  unfold Builtin.Slice.slicePlaces
  rw [if_neg (by decide)]
  by_cases h : n = 0
  · subst h; decide
  · rw [if_pos (by omega)]
    have e : ((n : Int) - 1 - -1 - 1) / (- -1) + 1 = n := by
      have : (- -1 : Int) = 1 := rfl
      rw [this, Int.ediv_one]
      omega
    rw [e]
    rfl
theorem fm_congr {α β : Type} {f g : α → Option β} : ∀ {l : List α}, (∀ a ∈ l, f a = g a) → l.filterMap f = l.filterMap g
  | [], _ => rfl
  | a :: l, h => by rw [List.filterMap_cons, List.filterMap_cons, h a List.mem_cons_self, fm_congr fun b hb => h b (List.mem_cons_of_mem _ hb)]
theorem rev_pick {α : Type} (xs : List α) : ((List.range xs.length).filterMap fun (m : Nat) => xs.toArray[(((xs.length : Int) - 1) + (m : Int) * (-1)).toNat]?) = xs.reverse := by
  apply List.ext_getElem?
  intro i
  have e : ∀ l : List Nat, (∀ m ∈ l, m < xs.length) → l.filterMap (fun (m : Nat) => xs.toArray[(((xs.length : Int) - 1) + (m : Int) * (-1)).toNat]?) = l.filterMap fun m => xs.reverse[m]? := fun l hl => by
    refine fm_congr fun m hm => ?_
    have hm := hl m hm
    rw [List.getElem?_reverse hm]
    have : (((xs.length : Int) - 1) + (m : Int) * (-1)).toNat = xs.length - 1 - m := by omega
    rw [this]
    simp
  rw [e _ fun m hm => List.mem_range.mp hm]
  have z := filterMap_range xs.reverse xs.reverse.length (Nat.le_refl _)
  rw [List.length_reverse] at z
  rw [z, ← List.length_reverse, List.take_length]
section
variable {prog : Program} {w : World} {A : Around} {E : Value → Shared → Prop} {s : Shared}
theorem applied_rev {sl : Addr} {vl vu vs : Value} {n : Nat} {Q : Int × Int × Nat → Shared → Prop} (hs : s.heap.IsSliceOf sl vl vu vs) (pl : IsPart vl none) (pu : IsPart vu none) (ps : IsPart vs (some (-1)))
    (h : Q ((n : Int) - 1, -1, n) s) : wpAny (model prog w) A (Builtin.Slice.sliceApplied (.ref sl) (pure (n : Int))) Q E s := by
  obtain ⟨os, hos, hcs, hds⟩ := id hs
  unfold Builtin.Slice.sliceApplied Builtin.Slice.sliceFields
  refine wpAny_bind (wpAny_bind (wpAny_field hos hds (x := vl) rfl (wpAny_bind (wpAny_field hos hds (x := vu) rfl (wpAny_bind (wpAny_field hos hds (x := vs) rfl (wpAny_pure ?_)))))))
  refine wpAny_bind (HT.slicePart_ ps ?_)
  show wpAny _ _ (if ((-1 : Int) == 0) = true then _ else _) _ _ s
  rw [if_neg (by decide)]
  refine wpAny_bind (HT.slicePart_ pl (wpAny_bind (HT.slicePart_ pu (wpAny_bind (wpAny_pure ?_)))))
  show wpAny _ _ (match Builtin.Slice.sliceAdjust none none (-1) (n : Int) with | (lo, hi) => pure (lo, (-1 : Int), Builtin.Slice.slicePlaces lo hi (-1))) _ _ s
  rw [rev_adjust]
  show wpAny _ _ (pure ((n : Int) - 1, (-1 : Int), Builtin.Slice.slicePlaces ((n : Int) - 1) (-1) (-1))) _ _ s
  rw [rev_places]
  exact wpAny_pure h
theorem item_rev_tup {t sl : Addr} {items : List Value} {vl vu vs : Value} {Q : Value → Shared → Prop} (ht : IsTup s.heap t items.toArray) (hs : s.heap.IsSliceOf sl vl vu vs) (pl : IsPart vl none) (pu : IsPart vu none) (ps : IsPart vs (some (-1)))
    (hsz : items.length ≤ sizeLine) (h : Q (.ref s.heap.objs.size) { s with heap := s.heap.push { cls := .type "tuple", data := .seq items.reverse.toArray } }) : wpAny (model prog w) A (getItem (.ref t) (.ref sl)) Q E s := by
  have hok : sizeOk (.seq items.reverse.toArray) := by
    show items.reverse.toArray.size ≤ sizeLine
    rw [List.size_toArray, List.length_reverse]
    exact hsz
  obtain ⟨os, hos, hcs, hds⟩ := id hs
  have hTs : s.TypeIs (.ref sl) "slice" := ⟨os, hos, hcs⟩
  unfold getItem
  try with_reducible refine wpAny_holding ?_
  first | refine wpAny_bind (wpAny_pure ?_) | skip
  refine wpAny_bind (wpAny_sequenceKey ht.typeIs (by decide) ?_)
  refine wpAny_bind (wpAny_callSpecial?_slot (name := Str.ofString "__getitem__") ht.typeIs PyProof.Rows.slot_tuple_getitem
    (wpAny_call_entry PyProof.Rows.slot_tuple_getitem ht.typeIs entry_tuple_getitem ?_ (args_tuple_getitem _ _)))
  show wpAny _ _ (Builtin.Tuple.tupleItemsOf (.ref t) >>= _) _ _ s
  refine wpAny_bind (PyProof.Rows.tupleItemsOf_ ht ?_)
  refine wpAny_bind (wpAny_typeOf hTs ?_)
  rw [if_pos (by decide)]
  refine wpAny_bind (applied_rev hs pl pu ps ?_)
  have no : ¬ ((((items.toArray.size : Int) - 1) == 0 && (-1 : Int) == 1 && items.toArray.size == items.toArray.size) = true) := by
    rw [show ((-1 : Int) == 1) = false from rfl, Bool.and_false, Bool.false_and]
    decide
  show wpAny _ _ (if (((items.toArray.size : Int) - 1) == 0 && (-1 : Int) == 1 && items.toArray.size == items.toArray.size) = true then _ else _) _ _ s
  rw [if_neg no, List.size_toArray, rev_pick]
  first
    | exact wpAny_bind (m := Builtin.Tuple.tupleExact _) (wpAny_newObj_type (wpAny_pure ⟨_, rfl, wpAny_pure h⟩) hok)
    | exact wpAny_bind (m := Builtin.Tuple.tupleExact _) (wpAny_newObj_type (wpAny_bind (wpAny_pure (wpAny_pure ⟨_, rfl, wpAny_pure h⟩))) hok)
    | exact wpAny_bind (wpAny_bind (m := Builtin.Tuple.tupleExact _) (wpAny_newObj_type (wpAny_pure (wpAny_pure ⟨_, rfl, wpAny_pure h⟩)) hok))
    | exact wpAny_bind (wpAny_bind (m := Builtin.Tuple.tupleExact _) (wpAny_newObj_type (wpAny_pure ⟨_, rfl, wpAny_pure h⟩) hok))
end
end
/-- x[::-1], by the little language's -/
def tRevA (K : W.Frag) (T : List (Addr × Str)) (te : TE) : TE := fun σ H Q => te σ H fun x H1 => ∃ M S p r, Rs K M H1 x p ∧ StOk K T M S H1 ∧ revD p = some r ∧ Wish K T M S H1 r Q
theorem rev_text (z : Str) : ((Builtin.Str.strSliceIndices none none (-1) z.length).filterMap (z.cps[·]?)).toArray = z.cps.toList.reverse.toArray := by
  show ((sliceRange ((z.length : Int) - 1) (-1) (-1)).filterMap (z.cps[·]?)).toArray = _
  rw [PySem.W.krv_sliceRange, PySem.W.krv_range, List.filterMap_reverse]
  show ((List.range z.cps.size).filterMap (z.cps[·]?)).reverse.toArray = _
  rw [PySem.W.krv_all]
theorem pe_revA {X : Cx} {T : List (Addr × Str)} {e : Expr} {te : TE} {k : Nat} {p1 p2 p3 pos : Pos} (he : PE X e te) : PE X (.Subscript e (.Slice none none (some (.UnaryOp .USub (.Constant (.int 1) k p1) p2)) p3) pos) (tRevA X.K T te) := by
  refine ⟨fun pins s σ H Q I h => ?_⟩
  refine Subscript_ (thn (he.run pins s σ H _ I h) fun v s1 ⟨x, H1, I1, r1, q1⟩ => ?_)
  obtain ⟨M, S, p, r, rp, st, e1, w⟩ := q1
  have hst : PO X (some (.UnaryOp .USub (.Constant (.int 1) k p1) p2)) (tPart (tUn (rU fun i => .int (-i)) (tC (.int 1)))) := po_some (pe_un un_neg pe_int)
  refine wpAny_Slice (thn (po_none.run pins s1 σ H1 (fun o H2 => o = none ∧ H2 = H1) I1 ⟨rfl, rfl⟩) fun vl s2 ⟨l, H2, I2, pl, el, e2⟩ => ?_)
  subst el e2
  refine thn (po_none.run pins s2 σ H2 (fun o H3 => o = none ∧ H3 = H2) I2 ⟨rfl, rfl⟩) fun vu s3 ⟨u, H3, I3, pu, eu, e3⟩ => ?_
  subst eu e3
  refine thn (hst.run pins s3 σ H3 (fun o H4 => o = some (-1) ∧ H4 = H3) I3 ⟨1, rfl, -1, rfl, rfl, rfl⟩) fun vs s4 ⟨o, H4, I4, ps, eo, e4⟩ => ?_
  subst eo e4
  have I5 : Inv X pins σ H4 { s4 with heap := s4.heap.push { cls := .type "slice", data := .fields #[vl, vu, vs] } } := I4.kept (t' := s4.toks) fun b ob q => Heap.get?_push_of_some _ q
  have isl := Heap.IsSliceOf.new s4.heap vl vu vs
  show wpAny (model X.prog X.w) X.A (subscriptTail e (.Slice none none (some (.UnaryOp .USub (.Constant (.int 1) k p1) p2)) p3) v (.ref s4.heap.objs.size)) (EP X pins σ Q) X.xe { s4 with heap := s4.heap.push { cls := .type "slice", data := .fields #[vl, vu, vs] } }
  cases p with
  | list ds =>
    cases e1
    obtain ⟨a, xs, rfl, h2, h3⟩ := rp
    cases r1
    obtain ⟨its, rv, ht, hz⟩ := I5.list (SqL.of h2)
    refine tail_any (ops := [.ref a, .ref s4.heap.objs.size]) ht.isList.typeIs (PySem.slot_list_getitem.lookup) ?_ (by with_unfolding_all rfl)
    refine wpAny_getItem_list_slice ht.isList isl pl pu ps (by decide) ?_ (by rw [List.size_toArray, ← rv.length]; omega)
    rw [PySem.W.krv_pick]
    refine ⟨.ref _, _, I5.laid (t' := s4.toks) (o := .lst xs.reverse) (fun b ob q => Heap.get?_push_of_some _ q) (Nat.le_refl _) ?_, rfl, w.list st (I5.hok.fresh (Nat.le_refl _)) h3.rev⟩
    exact ⟨by rw [List.length_reverse]; exact hz, _, 0, rv.reverse, Heap.get?_push_size _ rfl⟩
  | tuple ds =>
    have e1 : (if ds.length ≤ line then some (PyData.tuple ds.reverse) else none) = some r := e1
    split at e1
    · cases e1
      obtain ⟨a, xs, rfl, h2, h3⟩ := rp.tup
      cases r1
      obtain ⟨its, rv, ht, hz⟩ := I5.tuple h2.sq
      refine tail_any (ops := [.ref a, .ref s4.heap.objs.size]) ht.typeIs (PyProof.Rows.slot_tuple_getitem.lookup) ?_ (by with_unfolding_all rfl)
      refine item_rev_tup ht isl pl pu ps (by rw [← rv.length]; exact hz) ?_
      exact new_tup I5 rv.reverse (by rw [List.length_reverse]; exact hz) (w.tuple st h3.rev)
    · cases e1
  | str z =>
    have e1 : (if z.length ≤ line then some (PyData.str ⟨z.cps.toList.reverse.toArray⟩) else none) = some r := e1
    split at e1
    · rename_i hz
      cases e1
      have rz := rp.str
      subst rz
      obtain ⟨t, rfl⟩ := r1
      obtain ⟨os, hos, hcs, hds⟩ := isl
      cases pl
      cases pu
      obtain ⟨i, rfl⟩ : ∃ t2, vs = .int (-1) t2 := by cases ps; exact ⟨_, rfl⟩
      refine tail_any (ops := [.str z t, .ref s4.heap.objs.size]) (typeIs_str _ _ _) F.slot_str_getitem.lookup ?_ (by with_unfolding_all rfl)
      refine wpAny_getItem_str_slice (l := none) (u := none) (st := some (-1, i)) ⟨os, hos, hcs, hds⟩ rfl ?_
      show Made.post (if ((-1 : Int) == 1 && (Builtin.Str.strSliceIndices none none (-1) z.length).length == z.length) = true then Made.val (.str z t)
        else Made.str ⟨((Builtin.Str.strSliceIndices none none (-1) z.length).filterMap (z.cps[·]?)).toArray⟩) (EP X pins σ Q) _
      rw [if_neg (by rw [show ((-1 : Int) == 1) = false from rfl, Bool.false_and]; decide), rev_text]
      have hl : (⟨z.cps.toList.reverse.toArray⟩ : Str).length ≤ sizeLine := by
        show z.cps.toList.reverse.toArray.size ≤ sizeLine
        rw [List.size_toArray, List.length_reverse, ← line_eq]
        exact hz
      exact ⟨hl, .str _, H4, I5.tok _, ⟨_, rfl⟩, w.here st (.str _)⟩
    · cases e1
  | _ => cases e1
end Ev
end

section
set_option Elab.async false
set_option linter.all false
set_option autoImplicit false
set_option maxRecDepth 100000
set_option maxHeartbeats 4000000
/-! # min(x), max(x) of data; d.get(k, x) -/
namespace Ev
open PySem PySem.Spec PyProof.Rows L2
theorem least_fold : ∀ (r : List PyData) (x : PyData), leastD x r = PySem.W.minD x r
  | [], _ => rfl
  | y :: r, x => by
    unfold leastD
    rw [least_fold r]
    rfl
theorem most_fold : ∀ (r : List PyData) (x : PyData), mostD x r = PySem.W.maxD x r
  | [], _ => rfl
  | y :: r, x => by
    unfold mostD
    rw [most_fold r]
    rfl
theorem minOk_of {xs : List PyData} (h : minOk xs = true) : PySem.W.AlikeAll xs ∧ ∀ d, d ∈ xs → SeqAt.shaped d = true := by
  unfold minOk at h
  simp only [Bool.and_eq_true, Bool.or_eq_true, List.all_eq_true] at h
  obtain ⟨⟨h2, h3⟩, h4⟩ := h
  refine ⟨⟨h2, fun d hd e => ?_⟩, h3⟩
  subst e
  rcases h4 with h4 | h4
  · have := h4 _ hd; cases this
  · have := h4 _ hd; cases this
theorem depthAll_le {n : Nat} : ∀ {xs : List PyData}, (∀ d, d ∈ xs → d.depth ≤ n) → PyData.depthAll xs ≤ n
  | [], _ => Nat.zero_le _
  | x :: r, h => by
    show max x.depth (PyData.depthAll r) ≤ n
    exact Nat.max_le.mpr ⟨h x List.mem_cons_self, depthAll_le fun d hd => h d (List.mem_cons_of_mem _ hd)⟩
theorem noDs_shaped {xs : List PyData} (h : ∀ d, d ∈ xs → SeqAt.shaped d = true) : noDs xs = true := noDs_all fun d hd => noD_shaped (h d hd)
section
variable {X : Cx} {T : List (Addr × Str)} {pins : List (Addr × Obj)} {s : Shared} {σ : L2.St} {H : Hp} {M : Ms}
theorem reads_all (I : Inv X pins σ H s) : ∀ {ys : List V} {ds : List PyData} {vs : List Value}, RpA X.K M H ys ds → noDs ds = true → Vals ys vs → ∃ as, ReadsAll s.heap vs ds as
  | _, _, _, .nil, _, .nil => ⟨_, .nil⟩
  | _, _, _, .cons h r, e, .cons v t => by
    have e := (Bool.and_eq_true _ _).mp e
    obtain ⟨as, h1⟩ := Dp.reads I _ _ _ (h.dp e.1) v
    obtain ⟨bs, h2⟩ := reads_all I r e.2 t
    exact ⟨_, .cons h1 h2⟩
/-- one of the items, by what it reads as -/
theorem one_of {ys : List V} {ds : List PyData} {vs : List Value} {i : Nat} {v : Value} {d : PyData} {h' : Heap} {bs : List Addr} (I : Inv X pins σ H s) (ra : RpA X.K M H ys ds) (rv : Vals ys vs) (hs : ∀ d, d ∈ ds → SeqAt.shaped d = true) (hv : vs[i]? = some v)
    (hr : Reads h' v d bs) (k : ∀ b o, s.heap.get? b = some o → h'.get? b = some o) : ∃ x, RelV x v ∧ Rp X.K M H x d := by
  have hl : i < ys.length := by rw [rv.length]; exact (List.getElem?_eq_some_iff.mp hv).1
  obtain ⟨u, e1, e2⟩ := rv.get (List.getElem?_eq_getElem hl)
  rw [hv] at e1
  cases e1
  obtain ⟨e, e3, e4⟩ := ra.getV (List.getElem?_eq_getElem hl)
  have hsh := hs e (List.mem_of_getElem? e3)
  obtain ⟨as, r⟩ := Dp.reads I e _ v (e4.dp (noD_shaped hsh)) e2
  have := SeqAt.plain_unique e d v _ _ (PyData.plain_of_canLay0 _ (SeqAt.canLay_of_shaped hsh)) (PyProof.Rows.Reads.keeps k r) hr
  rw [← this]
  exact ⟨_, e2, e4⟩
theorem blt_min (hc : X.calm = true) (hu : X.A.units + 70 < cLine) : CallR X (.builtin "min") (rB X.K T .min) := by
  intro pins s σ H xs us Q I r ⟨M, S, x, u, p, d, ex, ru, st, e1, e2, w⟩
  subst ex
  have rp := rs_of ru st e1
  obtain ⟨zs, e3, e4⟩ := (show ∃ zs, seqD p = some zs ∧ Ev.minD zs = some d from by
    unfold bltD at e2
    cases e : seqD p with
    | none => rw [e] at e2; cases e2
    | some zs => rw [e] at e2; exact ⟨zs, rfl, e2⟩)
  cases zs with
  | nil => cases e4
  | cons z zs =>
    have e4 : (if minOk (z :: zs) = true then some (leastD z zs) else none) = some d := e4
    split at e4
    case isFalse => cases e4
    rename_i hk
    cases e4
    obtain ⟨h1, h2⟩ := minOk_of hk
    have hdep : PyData.depthAll (z :: zs) ≤ 64 := depthAll_le fun d hd => SeqAt.depth_of_shaped (h2 d hd)
    obtain ⟨v, rfl, rv⟩ := r.one
    rw [least_fold] at w
    cases p with
    | list ds =>
      cases e3
      obtain ⟨a, ys, rfl, hl, ha⟩ := rp
      cases rv
      obtain ⟨its, rvs, pl, hz⟩ := I.list (SqL.of hl)
      obtain ⟨as, rd⟩ := reads_all I ha (noDs_shaped h2) rvs
      refine PySem.W.min_list_data (I.ok.hd hc) pl.isList (by simpa using rd) h1 (by omega) fun i v h' tk bs hv hr k => ?_
      obtain ⟨y, g1, g2⟩ := one_of I ha rvs h2 (by simpa using hv) hr k
      exact ⟨y, H, I.kept (t' := tk) k, g1, w.here st g2⟩
    | tuple ds =>
      cases e3
      obtain ⟨a, ys, rfl, hl, ha⟩ := rp.tup
      cases rv
      obtain ⟨its, rvs, pl, hz⟩ := I.tuple hl.sq
      obtain ⟨as, rd⟩ := reads_all I ha (noDs_shaped h2) rvs
      refine PySem.W.min_tuple_data (I.ok.hd hc) (show s.heap.IsTuple a its.toArray from pl) (by simpa using rd) h1 (by omega) fun i v h' tk bs hv hr k => ?_
      obtain ⟨y, g1, g2⟩ := one_of I ha rvs h2 (by simpa using hv) hr k
      exact ⟨y, H, I.kept (t' := tk) k, g1, w.here st g2⟩
    | _ => cases e3
theorem blt_max (hc : X.calm = true) (hu : X.A.units + 70 < cLine) : CallR X (.builtin "max") (rB X.K T .max) := by
  intro pins s σ H xs us Q I r ⟨M, S, x, u, p, d, ex, ru, st, e1, e2, w⟩
  subst ex
  have rp := rs_of ru st e1
  obtain ⟨zs, e3, e4⟩ := (show ∃ zs, seqD p = some zs ∧ Ev.maxD zs = some d from by
    unfold bltD at e2
    cases e : seqD p with
    | none => rw [e] at e2; cases e2
    | some zs => rw [e] at e2; exact ⟨zs, rfl, e2⟩)
  cases zs with
  | nil => cases e4
  | cons z zs =>
    have e4 : (if minOk (z :: zs) = true then some (mostD z zs) else none) = some d := e4
    split at e4
    case isFalse => cases e4
    rename_i hk
    cases e4
    obtain ⟨h1, h2⟩ := minOk_of hk
    have hdep : PyData.depthAll (z :: zs) ≤ 64 := depthAll_le fun d hd => SeqAt.depth_of_shaped (h2 d hd)
    obtain ⟨v, rfl, rv⟩ := r.one
    rw [most_fold] at w
    cases p with
    | list ds =>
      cases e3
      obtain ⟨a, ys, rfl, hl, ha⟩ := rp
      cases rv
      obtain ⟨its, rvs, pl, hz⟩ := I.list (SqL.of hl)
      obtain ⟨as, rd⟩ := reads_all I ha (noDs_shaped h2) rvs
      refine PySem.W.max_list_data (I.ok.hd hc) pl.isList (by simpa using rd) h1 (by omega) fun i v h' tk bs hv hr k => ?_
      obtain ⟨y, g1, g2⟩ := one_of I ha rvs h2 (by simpa using hv) hr k
      exact ⟨y, H, I.kept (t' := tk) k, g1, w.here st g2⟩
    | tuple ds =>
      cases e3
      obtain ⟨a, ys, rfl, hl, ha⟩ := rp.tup
      cases rv
      obtain ⟨its, rvs, pl, hz⟩ := I.tuple hl.sq
      obtain ⟨as, rd⟩ := reads_all I ha (noDs_shaped h2) rvs
      refine PySem.W.max_tuple_data (I.ok.hd hc) (show s.heap.IsTuple a its.toArray from pl) (by simpa using rd) h1 (by omega) fun i v h' tk bs hv hr k => ?_
      obtain ⟨y, g1, g2⟩ := one_of I ha rvs h2 (by simpa using hv) hr k
      exact ⟨y, H, I.kept (t' := tk) k, g1, w.here st g2⟩
    | _ => cases e3
/-- d.get(k, x) -/
def tGetD (K : W.Frag) (to te tf : TE) : TE := fun σ H Q => to σ H fun x H1 => ∃ M ks a, x = .ref a ∧ DKs K M H1 a ks ∧ te σ H1 fun y H2 => tf σ H2 fun z H3 => ∃ M kvs k w, DAt K M H3 a kvs ∧ dKind kvs k = true ∧ Rp K M H3 y k ∧ RU K M H3 z w ∧ ∀ v, RU K M H3 v ((dFind kvs k).getD w) → Q v H3
theorem pe_getD {o e f : Expr} {apos cpos : Pos} {to te tf : TE} (hu : X.A.units + 65 < cLine) (ho : PE X o to) (he : PE X e te) (hf : PE X f tf) (m : M2 X o "get" apos e f cpos) : PE X (.Call (.Attribute o "get" apos) [e, f] [] cpos) (tGetD X.K to te tf) := by
  refine ⟨fun pins s σ H Q I h => ?_⟩
  refine wpAny_Call_method m.base m.few m.line PySem.F.plainAttrs_dict PySem.F.slot_dict_get PySem.F.type_dict_get (thn (ho.run pins s σ H _ I h) fun u s1 ⟨x, H1, I1, rx, M, ks, a, ex, d, q1⟩ => ?_)
  subst ex
  obtain rfl : u = Value.ref a := rx
  obtain ⟨t1, t2, _⟩ := dks_is I1 d
  refine ⟨t1, t2, ?_⟩
  rw [m.trees]
  refine Calls.callWith_builtin rfl (Calls.evalArgs_plain (Calls.spliced_cons (thn (he.run pins s1 σ H1 _ I1 q1) fun iv s2 ⟨y, H2, I2, ry, q2⟩ =>
    Calls.spliced_cons (thn (hf.run pins s2 σ H2 _ I2 q2) fun fv s3 ⟨z, H3, I3, rz, M', kvs, k, w, g1, g2, g3, g4, q3⟩ => Calls.spliced_nil ?_))))
  exact dct_getOr hu I3 g1 g2 g3 ry rz g4 fun z' v' s' I' h1 h2 => ⟨z', H3, I', h1, q3 z' h2⟩
end
end Ev
end

section
set_option Elab.async false
set_option linter.all false
set_option autoImplicit false
set_option maxRecDepth 100000
set_option maxHeartbeats 4000000
/-! # sorted(set(xs)), xs tuples of one shape -/
namespace Ev
open PySem PySem.Spec PyProof.Rows L2
mutual
theorem shp_eqv : ∀ (h x y : PyData), shpB h x = true → shpB h y = true → PyData.eqv x y = true → x = y
  | .none, x, y, h1, h2, e => by
    cases x <;> first | cases h1 | skip
    cases y <;> first | rfl | cases h2
  | .bool _, x, y, h1, h2, e => by
    cases x <;> first | cases h1 | skip
    cases y <;> first | cases h2 | skip
    rename_i a b
    have e : (a == b) = true := e
    rw [eq_of_beq e]
  | .int _, x, y, h1, h2, e => by
    cases x <;> first | cases h1 | skip
    cases y <;> first | cases h2 | skip
    rename_i a b
    have e : (a == b) = true := e
    rw [eq_of_beq e]
  | .str _, x, y, h1, h2, e => by
    cases x <;> first | cases h1 | skip
    cases y <;> first | cases h2 | skip
    rename_i a b
    have e : (a == b) = true := e
    rw [eq_of_beq e]
  | .tuple hs, x, y, h1, h2, e => by
    cases x <;> first | cases h1 | skip
    cases y <;> first | cases h2 | skip
    rename_i xs ys
    rw [shps_eqv hs xs ys h1 h2 e]
  | .list _, x, _, h1, _, _ => by cases x <;> cases h1
  | .dict _, x, _, h1, _, _ => by cases x <;> cases h1
theorem shps_eqv : ∀ (hs xs ys : List PyData), shpsB hs xs = true → shpsB hs ys = true → PyData.eqvAll xs ys = true → xs = ys
  | [], xs, ys, h1, h2, e => by
    cases xs with
    | nil =>
      cases ys with
      | nil => rfl
      | cons _ _ => cases h2
    | cons _ _ => cases h1
  | h :: hs, xs, ys, h1, h2, e => by
    cases xs with
    | nil => cases h1
    | cons x xs =>
      cases ys with
      | nil => cases h2
      | cons y ys =>
        have h1 : (shpB h x && shpsB hs xs) = true := h1
        have h2 : (shpB h y && shpsB hs ys) = true := h2
        have e : (PyData.eqv x y && PyData.eqvAll xs ys) = true := e
        rw [Bool.and_eq_true] at h1 h2 e
        rw [shp_eqv h x y h1.1 h2.1 e.1, shps_eqv hs xs ys h1.2 h2.2 e.2]
end
theorem shpAll_eqv {xs : List PyData} (h : shpAll xs = true) {x y : PyData} (hx : x ∈ xs) (hy : y ∈ xs) (e : PyData.eqv x y = true) : x = y := by
  cases xs with
  | nil => cases hx
  | cons z r =>
    have h : (z :: r).all (shpB z) = true := h
    rw [List.all_eq_true] at h
    exact shp_eqv z x y (h x hx) (h y hy) e
theorem perm_lift {α β : Type} {f : α → β} {l1 l2 : List β} (p : l1.Perm l2) : ∀ {L : List α}, l2 = L.map f → ∃ L1 : List α, l1 = L1.map f ∧ L1.Perm L := by
  induction p with
  | nil => intro L e; exact ⟨[], rfl, by rw [List.map_eq_nil_iff.mp e.symm]⟩
  | cons x _ ih =>
    intro L e
    cases L with
    | nil => cases e
    | cons a L =>
      cases e
      obtain ⟨L1, e1, p1⟩ := ih rfl
      exact ⟨a :: L1, by rw [List.map_cons, e1], p1.cons a⟩
  | swap x y l =>
    intro L e
    match L, e with
    | a :: b :: L, e =>
      cases e
      exact ⟨b :: a :: L, rfl, List.Perm.swap a b L⟩
  | trans _ _ ih1 ih2 =>
    intro L e
    obtain ⟨L1, e1, p1⟩ := ih2 e
    obtain ⟨L2, e2, p2⟩ := ih1 e1
    exact ⟨L2, e2, p2.trans p1⟩
theorem dist_sub : ∀ (ps seen : List PyData) {x : PyData}, x ∈ distD seen ps → x ∈ ps
  | [], _, _, h => h
  | p :: r, seen, x, h => by
    unfold distD at h
    split at h
    · exact List.mem_cons_of_mem _ (dist_sub r seen h)
    · rcases List.mem_cons.mp h with e | h
      · rw [e]; exact List.mem_cons_self
      · exact List.mem_cons_of_mem _ (dist_sub r _ h)
section
variable {X : Cx} {T : List (Addr × Str)} {pins : List (Addr × Obj)} {s : Shared} {σ : L2.St} {H : Hp} {M : Ms}
/-- the members of a set made of data: their data, in the set's order or another -/
theorem set_data {ks L L1 : List Mem} {xs : List PyData} (g : Has ks ks.length L) (nd : (L.map (·.2)).Nodup) (hk : ks.map (·.2) = xs.map nkD) (hp : ∀ p, p ∈ xs → keyB p = true) (sh : shpAll xs = true) (rep : ∀ p, p ∈ ks → ∃ d, d ∈ xs ∧ nkD d = p.2 ∧ Rp X.K M H (.ref p.1) d) (pm : L1.Perm L) :
    ∃ ds, PySem.W.EachIs (fun (v : Value) (d : PyData) => ∃ x, RelV x v ∧ Rp X.K M H x d) (L1.map fun p => Value.ref p.1) ds ∧ ds.Perm (distD [] xs) := by
  have sub : ∀ p, p ∈ L1 → p ∈ ks := fun p h => List.mem_of_mem_take (g.sub p (pm.mem_iff.mp h))
  have ex : ∀ l : List Mem, (∀ p, p ∈ l → p ∈ ks) → ∃ ds, PySem.W.EachIs (fun (v : Value) (d : PyData) => ∃ x, RelV x v ∧ Rp X.K M H x d) (l.map fun p => Value.ref p.1) ds ∧ ds.map nkD = l.map (·.2) ∧ ∀ d, d ∈ ds → d ∈ xs := by
    intro l
    induction l with
    | nil => intro _; exact ⟨[], .nil, rfl, fun d h => by cases h⟩
    | cons p l ih =>
      intro h
      obtain ⟨ds, h1, h2, h3⟩ := ih fun q hq => h q (List.mem_cons_of_mem _ hq)
      obtain ⟨d, e1, e2, e3⟩ := rep p (h p List.mem_cons_self)
      refine ⟨d :: ds, .cons ⟨V.ref p.1, (rfl : RelV (V.ref p.1) (Value.ref p.1)), e3⟩ h1, by rw [List.map_cons, List.map_cons, e2, h2], fun c hc => ?_⟩
      rcases List.mem_cons.mp hc with z | z
      · rw [z]; exact e1
      · exact h3 c z
  obtain ⟨ds, h1, h2, h3⟩ := ex L1 sub
  obtain ⟨d1, d2⟩ := dist_keys xs [] hp fun p hp => by cases hp
  refine ⟨ds, h1, ?_⟩
  have n1 : (ds.map nkD).Nodup := by rw [h2]; exact (pm.map (·.2)).nodup_iff.mpr nd
  have same : ∀ {x y}, x ∈ xs → y ∈ xs → nkD x = nkD y → x = y := fun {x y} hx hy e => shpAll_eqv sh hx hy (by rw [nk_same (hp x hx) (hp y hy)]; exact decide_eq_true e)
  refine (List.perm_ext_iff_of_nodup (nodup_of_map n1) (nodup_of_map d1)).mpr fun x => ⟨fun hx => ?_, fun hx => ?_⟩
  · have hk' : nkD x ∈ (distD [] xs).map nkD := (d2 _).mpr ⟨List.mem_map.mpr ⟨x, h3 x hx, rfl⟩, by simp⟩
    obtain ⟨y, hy, e⟩ := List.mem_map.mp hk'
    rw [← same (dist_sub _ _ hy) (h3 x hx) e]
    exact hy
  · have hxx := dist_sub _ _ hx
    have hk' : nkD x ∈ ks.map (·.2) := by rw [hk]; exact List.mem_map.mpr ⟨x, hxx, rfl⟩
    obtain ⟨p, hp1, e⟩ := List.mem_map.mp hk'
    have hk2 := g.all p (by rw [List.take_length]; exact hp1)
    have hk3 : nkD x ∈ ds.map nkD := by
      rw [h2, ← e]
      exact (pm.map (·.2)).mem_iff.mpr hk2
    obtain ⟨y, hy, e2⟩ := List.mem_map.mp hk3
    rw [← same (h3 y hy) hxx e2]
    exact hy
/-- sorted(s), s a set made of data -/
theorem sorted_kset {a : Addr} {ks L : List Mem} {es : Array (Int × Value)} {ep : Nat} {t : SetTable} {xs : List PyData} {Q : VK} (hc : X.calm = true) (hu : X.A.units + 70 < cLine) (I : Inv X pins σ H s) (R : KSet X.prog X.w s.heap a L es ep t) (g : Has ks ks.length L) (hk : ks.map (·.2) = xs.map nkD)
    (hp : ∀ p, p ∈ xs → keyB p = true) (sh : shpAll xs = true) (so : sortOk (distD [] xs) = true) (rep : ∀ p, p ∈ ks → ∃ d, d ∈ xs ∧ nkD d = p.2 ∧ Rp X.K M H (.ref p.1) d)
    (q : ∀ zs p, H p = none → RpA X.K M H zs (sortD (distD [] xs)) → Q (.ref p) (upd H p (.lst zs))) : wpAny (model X.prog X.w) X.A (call (.builtin "sorted") [.ref a]) (EP X pins σ Q) X.xe s := by
  obtain ⟨o, ho, hex, hd⟩ := R.ob
  have hsz := rowsK_len R.rows
  have hfew := R.few
  obtain ⟨h1, h2, h3, h4⟩ := sortOk_of so
  refine Calls.call_function_entry PyProof.Rows.kind_sorted PyProof.Rows.plain_sorted PyProof.Rows.entry_sorted (PyProof.Rows.args_sorted1 _) ?_
  unfold Builtin.«sorted»
  refine wpAny_bind (m := checkCount "sorted" 1 1 _) (wpAny_pure ?_)
  refine wpAny_bind (collect_set (A := X.A.in1) (I.ok.hd hc) ⟨o, ho, hex.1, hd⟩ R.fits (by unfold scanBound; omega) R.tab.ris R.led fun s1 vs k1 hz g1 o1 pm => ?_)
  have I1 : Inv X pins σ H s1 := by
    have J : Inv X pins σ H { s with heap := s1.heap, gens := s1.gens, drawn := s1.drawn, toks := s1.toks } := I.call (ch := []) (Un.kept k1) (I.hok.kept k1) (by rw [g1]; exact I.bare) (fun _ z => nomatch z)
    have e : s1 = { s with heap := s1.heap, gens := s1.gens, drawn := s1.drawn, toks := s1.toks } := by
      cases s1
      cases s
      cases o1
      rfl
    rw [e]
    exact J
  have hes : es.toList.map (·.2) = L.map fun q => Value.ref q.1 := by
    rw [R.rows]
    unfold rowsK
    rw [List.map_map]
    rfl
  rw [hes] at pm
  obtain ⟨L1, e1, p1⟩ := perm_lift pm rfl
  obtain ⟨ds, each, pd⟩ := set_data (X := X) (M := M) (H := H) g R.nd hk hp sh rep p1
  rw [← e1] at each
  have hvl : vs.length < 64 := by rw [e1, List.length_map, p1.length_eq]; exact hfew
  have mem : ∀ d, d ∈ ds → d ∈ distD [] xs := fun d hd => pd.mem_iff.mp hd
  have ale : sortD ds = sortD (distD [] xs) := sortD_perm pd (fun x hx y hy => h2 x hx y hy) fun x hx y hy e => shpAll_eqv sh (dist_sub _ _ hx) (dist_sub _ _ hy) e
  refine wpAny_bind (wpAny_newList ?_ (by rw [sizeLine_eq]; omega))
  refine wpAny_bind (wpAny_holding (call_sort_new (A := X.A.in1) (s1 := s1) I1 (by show X.A.units + 1 + 66 < cLine; omega) each (fun d hd d' hd' => h2 d (mem d hd) d' (mem d' hd')) (h4.imp (fun z d hd => z d (mem d hd)) fun z d hd => z d (mem d hd)) (fun d hd => h3 d (mem d hd)) (by rw [sizeLine_eq]; omega) fun zs s' rz I' => wpAny_pure ⟨_, rfl, ?_⟩))
  rw [ale] at rz
  exact ⟨.ref s1.heap.objs.size, _, I', rfl, q zs s1.heap.objs.size (I1.hok.fresh (Nat.le_refl _)) rz⟩
/-- sorted(set(xs)) -/
def tSortS (K : W.Frag) (T : List (Addr × Str)) (ta : TE) : TE := fun σ H Q => ta σ H fun x H1 => ∃ M S p r, Rs K M H1 x p ∧ StOk K T M S H1 ∧ (seqD p).bind sortsetD = some r ∧ Wish K T M S H1 r Q
theorem rep_of : ∀ {ys : List V} {xs : List PyData} {vs : List Value} {ks : List Mem}, RpA X.K M H ys xs → Vals ys vs → vs = ks.map (fun p => Value.ref p.1) → ks.map (·.2) = xs.map nkD → (∀ p, p ∈ xs → tupKey p = true) → ∀ p, p ∈ ks → ∃ d, d ∈ xs ∧ nkD d = p.2 ∧ Rp X.K M H (.ref p.1) d
  | _, _, _, [], _, _, _, _, _, p, hp => by cases hp
  | _, _, _, k :: ks, r, v, e1, e2, ht, p, hp => by
    cases r with
    | nil => cases e2
    | cons r1 r2 =>
      cases v with
      | cons v1 v2 =>
        rw [List.map_cons] at e1
        injection e1 with e3 e4
        rw [List.map_cons, List.map_cons] at e2
        injection e2 with e5 e6
        subst e3
        rcases List.mem_cons.mp hp with z | z
        · subst z
          obtain ⟨_, _, ts, e7⟩ := tupKey_key (ht _ List.mem_cons_self)
          refine ⟨_, List.mem_cons_self, e5.symm, ?_⟩
          subst e7
          cases r1 with
          | tup h1 h2 =>
            cases (show Value.ref _ = Value.ref _ from v1)
            exact .tup h1 h2
        · obtain ⟨d, d1, d2, d3⟩ := rep_of r2 v2 e4 e6 (fun q hq => ht q (List.mem_cons_of_mem _ hq)) p z
          exact ⟨d, List.mem_cons_of_mem _ d1, d2, d3⟩
theorem pe_sortset {a : Expr} {ta : TE} {p p2 q pos : Pos} (hc : X.calm = true) (hu : X.A.units + 70 < cLine) (hg : Gl X "sorted") (hm : X.mg "sorted" = none) (hg2 : Gl X "set") (hm2 : X.mg "set" = none) (ha : PE X a ta)
    (na : starEach [a] X.env = (false, eval a X.env) :: starEach [] X.env) : PE X (.Call (.Name "sorted" p) [.Call (.Name "set" p2) [a] [] q] [] pos) (tSortS X.K T ta) := by
  refine ⟨fun pins s σ H Q I h => ?_⟩
  refine Call_ (ld_blt I hg hm (u := .builtin "sorted") (by decide +kernel) ?_)
  refine PyProof.Rows.callWith_builtin1 (PyProof.Rows.args_cons ?_ rfl) rfl rfl
  refine Call_ (ld_blt I hg2 hm2 PyProof.Rows.boot_set ?_)
  refine PyProof.Rows.callWith_type1 (PyProof.Rows.args_cons (thn (ha.run pins s σ H _ I h) fun v s1 ⟨x, H1, I1, r1, q1⟩ => PyProof.Rows.args_nil ?_) na) na rfl
  obtain ⟨M, S, d, r, rx, st, e, w⟩ := q1
  cases es : seqD d with
  | none => rw [es] at e; cases e
  | some xs =>
    rw [es] at e
    have e : (if (decide (xs.length < 64) && xs.all tupKey && shpAll xs && sortOk (distD [] xs)) = true then some (PyData.list (sortD (distD [] xs))) else none) = some r := e
    split at e
    case isFalse => cases e
    rename_i hx
    rw [Bool.and_eq_true, Bool.and_eq_true, Bool.and_eq_true, decide_eq_true_eq, List.all_eq_true] at hx
    obtain ⟨⟨⟨hx1, hx2⟩, hx3⟩, hx4⟩ := hx
    cases e
    have fin : ∀ {ys : List V} {vs : List Value} {ks L : List Mem} {h' : Heap} {tk : Nat} {es : Array (Int × Value)} {ep : Nat} {t : SetTable}, RpA X.K M H1 ys xs → Vals ys vs → vs = ks.map (fun p => Value.ref p.1) → ks.map (·.2) = xs.map nkD →
        KSet X.prog X.w h' s1.heap.objs.size L es ep t → Has ks ks.length L → (∀ b o, s1.heap.get? b = some o → h'.get? b = some o) →
        wpAny (model X.prog X.w) X.A (call (.builtin "sorted") [.ref s1.heap.objs.size]) (EP X pins σ Q) X.xe { s1 with heap := h', toks := tk } := fun {ys vs ks L h' tk es ep t} ra rv ev hk R g k => by
      have I2 : Inv X pins σ H1 { s1 with heap := h', toks := tk } := I1.kept k
      exact sorted_kset (M := M) hc hu I2 R g hk (fun p hp => (tupKey_key (hx2 p hp)).1) hx3 hx4 (rep_of ra rv ev hk hx2) fun zs p hp rz => w.list st hp rz
    cases d with
    | list ys =>
      cases es
      obtain ⟨a1, zs, e1, hl, ha1⟩ := rx
      subst e1
      cases r1
      obtain ⟨its, rvs, pl, hz⟩ := I1.list (SqL.of hl)
      obtain ⟨as, rd⟩ := reads_all I1 ha1 (noDs_tup hx2) rvs
      obtain ⟨ks, e1, e2, e3⟩ := reads_mems rd hx2 (P := X.prog) (w := X.w)
      have hkl : ks.length = xs.length := by have z := congrArg List.length e2; rwa [List.length_map, List.length_map] at z
      exact call_set_list ks (I1.ok.hd hc) pl.isList (by simpa using e1) e3 (by rw [hkl]; exact hx1) (by omega) fun h' tk L es ep t R g k => PyProof.Rows.args_nil (fin ha1 rvs e1 e2 R g k)
    | tuple ys =>
      cases es
      obtain ⟨a1, zs, e1, hl, ha1⟩ := rx.tup
      subst e1
      cases r1
      obtain ⟨its, rvs, pl, hz⟩ := I1.tuple hl.sq
      obtain ⟨as, rd⟩ := reads_all I1 ha1 (noDs_tup hx2) rvs
      obtain ⟨ks, e1, e2, e3⟩ := reads_mems rd hx2 (P := X.prog) (w := X.w)
      have hkl : ks.length = xs.length := by have z := congrArg List.length e2; rwa [List.length_map, List.length_map] at z
      exact call_set_tuple ks (I1.ok.hd hc) (show s1.heap.IsTuple a1 its.toArray from pl) (by simpa using e1) e3 (by rw [hkl]; exact hx1) (by omega) fun h' tk L es ep t R g k => PyProof.Rows.args_nil (fin ha1 rvs e1 e2 R g k)
    | _ => cases es
end
end Ev
end

section
set_option Elab.async false
set_option linter.all false
set_option autoImplicit false
set_option maxRecDepth 100000
set_option maxHeartbeats 4000000
/-! # From the program's syntax to the little language -/
namespace Ev
open PySem
/-- hints: which names hold what -/
structure Hn where
  /-- own errors that are made as values; those with a maker, and what it keeps -/
  xC : List Str := []
  xM : List (Str × Str) := []
  /-- what isinstance says of each own error -/
  xT : List (Str × List (Str × Bool)) := []
  /-- the errors whose text may be asked -/
  xS : List Str := []
  /-- names that hold errors; that hold lists of values of any kind -/
  xn : List Str := []
  blx : List Str := []
structure Cfg where
  fnIx : Str → Option Nat
  clIx : Str → Option Nat
  clTx : Str → Option Nat
  con : Str → Option PyData
  /-- the defs that call what they get, and tell the error -/
  errs : Str → Bool
  /-- the names whose lists are changed in place -/
  bx : List Str
  /-- there are lambdas; what is handed back is a list that is changed in place -/
  lam : Bool
  keep : Bool
  /-- how many parameters a def has -/
  np : Nat → Option Nat
  hn : Hn := {}
def ixOf (N : List Str) (x : Str) : Option Nat :=
  match N.findIdx? (fun y => decide (y = x)) with
  | some i => if N[i]? = some x then some i else none
  | none => none
def visB (sc : Scope) (x : Str) : Bool :=
  match sc.names.lookup x with
  | some .local => true
  | some .cell => true
  | some .free => true
  | _ => false
def locB (sc : Scope) (x : Str) : Bool :=
  match sc.names.lookup x with
  | some .local => true
  | some .cell => true
  | _ => false
def glB (sc : Scope) (x : Str) : Bool := decide (sc.names.lookup x = some .globalImplicit)
def odd (x : Str) : Bool := (x == ("__debug__" : Str)) || (x == ("__classdict__" : Str)) || (x == ("__name__" : Str))
def starred : Expr → Bool
  | .Starred _ _ => true
  | _ => false
/-- f() without arguments: never the receiver of a method -/
def bareCall : Expr → Bool
  | .Call _ [] _ _ => true
  | _ => false
def isSet : Expr → Bool
  | .Set _ _ _ => true
  | _ => false
def isSlice : Expr → Bool
  | .Slice _ _ _ _ => true
  | _ => false
def isComp : Expr → Bool
  | .ListComp _ _ _ _ => true
  | .SetComp _ _ _ _ => true
  | .DictComp _ _ _ _ _ => true
  | _ => false
def cL (f : Expr → Option X) : List Expr → Option Xs
  | [] => some .nil
  | e :: r => if starred e = true then none else (f e).bind fun x => (cL f r).map fun xs => .cons x xs
def cO (f : Expr → Option X) : Option Expr → Option Xs
  | none => some .nil
  | some e => (f e).map fun x => .cons x .nil
def bltOf (x : Str) : Option Blt :=
  if x = "len" then some .len else if x = "all" then some .all else if x = "sum" then some .sum else if x = "int" then some .int else
  if x = "bool" then some .bool else if x = "abs" then some .abs else if x = "tuple" then some .tuple else if x = "list" then some .list else if x = "sorted" then some .sorted else if x = "str" then some .str else if x = "min" then some .min else if x = "max" then some .max else none
def mthOf (x : Str) : Option Mth :=
  if x = "join" then some .join else if x = "split" then some .split else if x = "strip" then some .strip else if x = "count" then some .count else if x = "index" then some .index else none
def tyOf (x : Str) : Option String :=
  if x = "int" then some "int" else if x = "bool" then some "bool" else if x = "str" then some "str" else if x = "tuple" then some "tuple" else if x = "list" then some "list" else none
/-- len(set(a)): a -/
def setArg (sc : Scope) (f : Str) : Expr → Option Expr
  | .Call (.Name h _) [b] [] _ => if (decide (f = "len") && decide (h = "set") && glB sc h && !starred b) = true then some b else none
  | _ => none
/-- sorted(set(a)): a -/
def setOf (sc : Scope) : Expr → Option Expr
  | .Call (.Name h _) [b] [] _ => if (decide (h = "set") && glB sc h && !starred b) = true then some b else none
  | _ => none
/-- the slots of a comprehension's own names -/
def ownOf (N : List Str) (scope : Scope) : List (Str × Nat) :=
  scope.names.filterMap fun y => match y.2 with
    | .local => (ixOf N y.1).map fun i => (y.1, i)
    | .cell => (ixOf N y.1).map fun i => (y.1, i)
    | _ => none
/-- which names a place may store -/
abbrev Fb := Str → Bool
def fbDef : Fb := fun _ => true
def fbBlk (scope sc' : Scope) : Fb := fun x => decide (scope.names.lookup x = some .cell) || decide (sc'.names.lookup x = some .local)
mutual
/-- a target -/
def cT (N : List Str) (sc : Scope) (fb : Fb) : Nat → Expr → Option Tg
  | 0, _ => none
  | n + 1, e => match e with
    | .Name x _ => if (locB sc x && fb x) = true then (ixOf N x).map .nm else none
    | .Tuple es _ _ => cTs N sc fb n es
    | _ => none
def cTs (N : List Str) (sc : Scope) (fb : Fb) : Nat → List Expr → Option Tg
  | 0, _ => none
  | _ + 1, [] => some .nil
  | n + 1, e :: r => if starred e = true then none else (cT N sc fb n e).bind fun a => (cTs N sc fb n r).map fun b => .cons a b
end
/-- the slots of a target -/
def Tg.slots : Tg → List Nat
  | .nm i => [i]
  | .nil => []
  | .cons a r => a.slots ++ r.slots
def isTup : Expr → Bool
  | .Tuple _ _ _ => true
  | _ => false
/-- C(e), C an own error -/
def errCall (h : Hn) : Expr → Bool
  | .Call (.Name C _) [_] [] _ => decide (C ∈ h.xC) || (h.xM.lookup C).isSome
  | _ => false
def nmIn (l : List Str) : Expr → Bool
  | .Name x _ => decide (x ∈ l)
  | _ => false
/-- is it told by the hints? -/
def hitE (h : Hn) : Expr → Bool
  | .Call (.Name f _) [a] [] _ => decide (f ∈ h.xC) || (h.xM.lookup f).isSome || (decide (f = "len") && nmIn h.blx a) || (decide (f = "str") && nmIn h.xn a)
  | .Call (.Name f _) [_, .Name t _] [] _ => decide (f = "isinstance") && (h.xT.lookup t).isSome
  | .List (e :: _) _ => errCall h e
  | .Subscript a _ _ => nmIn h.blx a
  | .Attribute (.Call (.Name C _) [_] [] _) _ _ => (h.xM.lookup C).isSome
  | _ => false
def cX (h : Hn) (sc : Scope) (f : Expr → Option X) : Expr → Option X
  | .Call (.Name C _) [a] [] _ => if (starred a || odd C || !glB sc C) = true then none else if C ∈ h.xC then (f a).map (.mkx C) else match h.xM.lookup C with
    | some z => (f a).map (.mkt C z)
    | none => if C = "len" then (f a).map .bln else if C = "str" then (f a).map (.strx h.xS) else none
  | .Call (.Name C _) [a, .Name t _] [] _ => if (starred a || odd t || !glB sc C || !glB sc t || !decide (C = "isinstance")) = true then none else (h.xT.lookup t).bind fun tb => (f a).map (.isX tb)
  | .List es _ => (cL f es).map .bls
  | .Subscript a i _ => if isSlice i = true then none else (f a).bind fun x => (f i).map fun y => .bix x y
  | .Attribute (.Call (.Name C p1) [a] [] p2) m _ => match h.xM.lookup C with
    | some z => if m = z then (f (.Call (.Name C p1) [a] [] p2)).map (.limx C z) else none
    | none => none
  | _ => none
mutual
def cE (g : Cfg) (N : List Str) : Nat → Scope → Fb → Expr → Option X
  | 0, _, _, _ => none
  | n + 1, sc, fb, e => if hitE g.hn e = true then cX g.hn sc (cE g N n sc fb) e else match e with
    | .Constant (.int i) _ _ => some (.con (.int i))
    | .Constant (.bool b) _ _ => some (.con (.bool b))
    | .Constant .none _ _ => some (.con .none)
    | .Constant (.str z) _ _ => some (.con (.str z))
    | .Name x _ => if odd x = true then none else if visB sc x = true then (ixOf N x).map .loc else if glB sc x = true then (g.con x).map .con else none
    | .BinOp a op b _ => (cE g N n sc fb a).bind fun x => (cE g N n sc fb b).map fun y => .bin op x y
    | .UnaryOp .USub a _ => (cE g N n sc fb a).map .neg
    | .UnaryOp .Not a _ => (cE g N n sc fb a).map .not
    | .Compare a [op] [b] _ => if behindInMarks op b = true then none else (cE g N n sc fb a).bind fun x => (cE g N n sc fb b).map fun y => .cmp op x y
    | .Compare a [o, p] [b, c] _ => if lastMarks [o, p] [b, c] = true then none else (cE g N n sc fb a).bind fun x => (cE g N n sc fb b).bind fun y => (cE g N n sc fb c).map fun z => .chn o p x y z
    | .BoolOp .And [a] _ => cE g N n sc fb a
    | .BoolOp .And (a :: b :: r) pos => (cE g N n sc fb a).bind fun x => (cE g N n sc fb (.BoolOp .And (b :: r) pos)).map fun y => .and x y
    | .BoolOp .Or [a] _ => cE g N n sc fb a
    | .BoolOp .Or (a :: b :: r) pos => (cE g N n sc fb a).bind fun x => (cE g N n sc fb (.BoolOp .Or (b :: r) pos)).map fun y => .or x y
    | .IfExp c a b _ => (cE g N n sc fb c).bind fun z => (cE g N n sc fb a).bind fun x => (cE g N n sc fb b).map fun y => .ife z x y
    | .List es _ => (cL (cE g N n sc fb) es).map .lst
    | .Tuple es _ _ => (cL (cE g N n sc fb) es).map .tup
    | .Subscript a (.Slice none none (some (.UnaryOp .USub (.Constant (.int 1) _ _) _)) _) _ => (cE g N n sc fb a).map .rev
    | .Subscript a (.Slice lo hi none _) _ => (cE g N n sc fb a).bind fun x => (cO (cE g N n sc fb) lo).bind fun l => (cO (cE g N n sc fb) hi).map fun h => .slc x l h
    | .Subscript a i _ => if isSlice i = true then none else (cE g N n sc fb a).bind fun x => (cE g N n sc fb i).map fun y => .idx x y
    | .ListComp elt [⟨tg, it, ifs, k⟩] scope _ => if (L2.blkC N sc scope (ownOf N scope) && decide (k = 0) && !isSet it && decide (ifs.length ≤ 1)) = true then
        (cI g N n sc fb (isTup tg) it).bind fun i => (cT N (L2.relS scope sc) (fbBlk scope (L2.relS scope sc)) n tg).bind fun t =>
        if (t.slots.all fun i => decide (i ∈ (ownOf N scope).map (·.2))) = false then none else (cL (cE g N n (L2.relS scope sc) (fbBlk scope (L2.relS scope sc))) ifs).bind fun c => (cE g N n (L2.relS scope sc) (fbBlk scope (L2.relS scope sc)) elt).map fun e =>
          .lc ((ownOf N scope).map (·.2)) t i c e else none
    | .ListComp elt [⟨tg, it, [], k⟩, ⟨tg1, .Constant (.str z) _ _, [], k1⟩] scope _ => if (L2.blkC N sc scope (ownOf N scope) && decide (k = 0) && decide (k1 = 0) && !isSet it) = true then
        (cI g N n sc fb (isTup tg) it).bind fun i => (cT N (L2.relS scope sc) (fbBlk scope (L2.relS scope sc)) n tg).bind fun t => (cT N (L2.relS scope sc) (fbBlk scope (L2.relS scope sc)) n tg1).bind fun t1 =>
        if ((t.slots ++ t1.slots).all fun i => decide (i ∈ (ownOf N scope).map (·.2))) = false then none else (cE g N n (L2.relS scope sc) (fbBlk scope (L2.relS scope sc)) elt).map fun e =>
          .lc2 ((ownOf N scope).map (·.2)) t i t1.slots t1 z e else none
    | .DictComp kx vx [⟨tg, it, ifs, k⟩] scope _ => if (L2.blkC N sc scope (ownOf N scope) && decide (k = 0) && !isSet it && decide (ifs.length ≤ 1)) = true then
        (cI g N n sc fb (isTup tg) it).bind fun i => (cT N (L2.relS scope sc) (fbBlk scope (L2.relS scope sc)) n tg).bind fun t =>
        if (t.slots.all fun i => decide (i ∈ (ownOf N scope).map (·.2))) = false then none else (cL (cE g N n (L2.relS scope sc) (fbBlk scope (L2.relS scope sc))) ifs).bind fun c =>
          (cE g N n (L2.relS scope sc) (fbBlk scope (L2.relS scope sc)) kx).bind fun a => (cE g N n (L2.relS scope sc) (fbBlk scope (L2.relS scope sc)) vx).map fun b =>
          .dc ((ownOf N scope).map (·.2)) t i c a b else none
    | .Call (.Name f _) [.Lambda params body scope _] [] _ => if (g.errs f && g.lam && glB sc f && !odd f && LamX.lamSB sc scope) = true then (match params with
        | ⟨[], [], none, [], [], none, []⟩ => (cE g N n scope (fun _ => false) body).map .err
        | _ => none) else none
    | .Call (.Name f _) as [] _ => if (odd f || !glB sc f) = true then none else match g.fnIx f with
      | some i => if g.errs f = true then none else (cL (cE g N n sc fb) as).map fun xs => .call i xs
      | none => match as with
        | [a] => if starred a = true then none else match setArg sc f a with
          | some b => (cE g N n sc fb b).map fun x => .blt .lenset x
          | none => match (if f = "sorted" then setOf sc a else none) with
            | some b => (cE g N n sc fb b).map fun x => .blt .sortset x
            | none => (bltOf f).bind fun b => (cE g N n sc fb a).map fun x => .blt b x
        | [a, b] => if (decide (f = "max") && !starred a && !starred b) = true then (cE g N n sc fb a).bind fun x => (cE g N n sc fb b).map fun y => .max2 x y else match b with
          | .Name t _ => if (decide (f = "isinstance") && glB sc t && !starred a) = true then (tyOf t).bind fun T => (cE g N n sc fb a).map fun x => .blt (.isi T) x else none
          | _ => none
        | _ => none
    | .Call (.Attribute o m apos) [a, d] [] pos => if (starred a || starred d || bareCall o || !(apos.endLine == pos.line) || !decide (m = "get")) = true then none else
        (cE g N n sc fb o).bind fun x => (cE g N n sc fb a).bind fun y => (cE g N n sc fb d).map fun z => .get x y z
    | .Call (.Attribute (.Name x _) m apos) [] [] pos => if (decide (m = "pop") && visB sc x && !odd x && (apos.endLine == pos.line)) = true then (ixOf N x).map .pop else none
    | .Call (.Attribute o m apos) [a] [] pos => if (starred a || bareCall o || !(apos.endLine == pos.line)) = true then none else
        (mthOf m).bind fun k => (cE g N n sc fb o).bind fun x => (cE g N n sc fb a).map fun y => .mth k x (.cons y .nil)
    | _ => none
/-- what is walked -/
def cI (g : Cfg) (N : List Str) : Nat → Scope → Fb → Bool → Expr → Option It
  | 0, _, _, _, _ => none
  | n + 1, sc, fb, tup, e => match e with
    | .Call (.Name f _) [a] [] _ =>
      if (decide (f = "range") && glB sc f && !starred a) = true then (cE g N n sc fb a).map fun x => .rng (.cons x .nil)
      else if (decide (f = "enumerate") && glB sc f && !starred a && tup) = true then (cE g N n sc fb a).map .enm
      else (cE g N n sc fb e).map .val
    | .Call (.Name f _) [a, b] [] _ =>
      if (decide (f = "range") && glB sc f && !starred a && !starred b) = true then (cE g N n sc fb a).bind fun x => (cE g N n sc fb b).map fun y => .rng (.cons x (.cons y .nil))
      else if (decide (f = "zip") && glB sc f && !starred a && !starred b && tup) = true then (cE g N n sc fb a).bind fun x => (cE g N n sc fb b).map fun y => .zip x y
      else (cE g N n sc fb e).map .val
    | .Call (.Name f _) [a, b, d] [] _ =>
      if (decide (f = "range") && glB sc f && !starred a && !starred b && !starred d) = true then (cE g N n sc fb a).bind fun x => (cE g N n sc fb b).bind fun y => (cE g N n sc fb d).map fun z => .rng (.cons x (.cons y (.cons z .nil)))
      else (cE g N n sc fb e).map .val
    | .Call (.Attribute o m apos) [] [] pos => if (decide (m = "items") && tup && !bareCall o && (apos.endLine == pos.line)) = true then (cE g N n sc fb o).map .itm else (cE g N n sc fb e).map .val
    | _ => (cE g N n sc fb e).map .val
end
end Ev
end

section
set_option Elab.async false
set_option linter.all false
set_option autoImplicit false
set_option maxRecDepth 100000
set_option maxHeartbeats 4000000
/-! # A lambda handed to a def: what it raises has no context -/
namespace Ev
open PySem PySem.Spec PyProof.Rows L2 LamX
theorem takesN0 {X : Cx} : L2N.Takes X (fun _ _ _ _ => False) := fun _ _ x => by
  obtain ⟨_, _, _, _, _, _, _, _, _, _, _, _, _, _, _, _, z⟩ := x
  exact z.elim
/-- the context of the lambda's body -/
abbrev lamN (X : Cx) (A : Around) (outer : List Env) (s : Shared) (H : Hp) (E : XK) (scope : Scope) (f c' : Addr) : Cx :=
  (LamX.lamCx X A outer s H E scope f c').wish fun e s' => wpAny (model X.prog X.w) (A.deeper (lamEnv X scope s.heap.objs.size f c')) (leaving (lamEnv X scope s.heap.objs.size f c') e) (fun _ s'' => L2N.CX X.prog X.w outer H s E e s'') (fun e' s'' => L2N.CX X.prog X.w outer H s E e' s'') s'
section
variable {X : Cx}
/-- the def that got it, in its own words -/
abbrev gotN (X : Cx) (Ng : List Str) (x : Str) (sg : Scope) (g : Addr) (cdg : Value) (s : Shared) (H : Hp) : Cx := cxOf C8.CX0 X.prog X.w X.K X.mg X.base Ng x sg g cdg X.A X.stack s H C8.E0
/-- a() there -/
theorem pe_actN {pins : List (Addr × Obj)} {σ : L2.St} {H : Hp} {s : Shared} {Ng : List Str} {qg : Str} {sg : Scope} {g f c' : Addr} {cdg pm ctv : Value} {params : Arguments} {body : Expr} {scope : Scope} {k : Nat} {a : Str} {pn : List (Addr × Obj)} {xe : Value → Shared → Prop} {W : WX} {E : XK} {tb : TE} {p1 p2 : Pos}
    (I : Inv X pins σ H s) (L : LamS X.env.scope scope) (hf : s.heap.get? f = some (PySem.W.kla_obj "<lambda>" (X.env.qual ++ "<lambda>") params body scope (cloFrom X.env.cells scope.names []) pm c' ctv)) (hfn : H f = none) (hfr : f ∉ frs X.stack)
    (hbind : bindArgs (PySem.W.kla_fn "<lambda>" (X.env.qual ++ "<lambda>") params body scope (cloFrom X.env.cells scope.names []) pm (.ref c') ctv) ⟨[], []⟩ = pure [])
    (tk : L2N.Takes ((gotN X Ng qg sg g cdg s H).tr pn xe) W) (hW : ∀ cls d σ' H', E cls d H' → W cls d σ' H') (hr : Room (k + 1) (X.A.deeper (envOfC qg sg s.heap.objs.size g cdg)))
    (hbody : ∀ (A : Around) (outer : List Env) (s : Shared) (H : Hp), Room k (A.deeper (lamEnv X scope s.heap.objs.size f c')) → PE (lamN X A outer s H E scope f c') body tb)
    (hN : Ng[0]? = some a) (hv : Vis sg a) (hd : (a == ("__debug__" : Str)) = false) (hcd : (a == ("__classdict__" : Str)) = false) :
    PE ((gotN X Ng qg sg g cdg s H).tr pn xe) (.Call (.Name a p1) [] [] p2) (fun σZ HZ Q => σZ[0]? = some (some (.ref f)) ∧ HZ c' = some (CodeO c' (X.env.qual ++ "<lambda>")) ∧ tb σ HZ Q) := by
  refine ⟨fun pinsZ sZ σZ HZ Q IZ ⟨hs, hc, ht⟩ => ?_⟩
  refine wpAny_Call_Name_kw (thn ((pe_var (pos := p1) (i := 0) hN hv hd hcd).run pinsZ sZ σZ HZ (fun v H1 => v = .ref f ∧ H1 = HZ) IZ ⟨.ref f, hs, rfl, rfl⟩) fun u s1 ⟨v, H1, I1, r1, ev, eH⟩ => ?_)
  subst ev
  rw [eH] at I1
  cases (show u = Value.ref f from r1)
  have of1 := I1.base.keep f _ hf hfn hfr (fun z => nomatch (show f ∈ ([] : List Addr) from z))
  refine PySem.W.callWith_F0 ⟨_, _, _, _, of1⟩ ?_
  have un : Un (frs X.stack) [] H HZ s.heap s1.heap := I1.base
  obtain ⟨⟨oc, vs, t, hoc, hdc, hvc⟩, _, _⟩ := I1.hok c' _ hc
  have hx : Passes (L2N.CX X.prog X.w) ((gotN X Ng qg sg g cdg s H).tr pn xe) E := L2N.passes_call tk hW
  have rc : codeAny (model X.prog X.w) (X.A.deeper (envOfC qg sg s.heap.objs.size g cdg)) (.call (.ref f) ⟨[], []⟩) (CR (L2N.CX X.prog X.w) (envOfC qg sg s.heap.objs.size g cdg :: X.stack) X.prog X.w HZ s1 Q E) s1 := by
    refine PySem.W.kla_callFunE hr.depth of1 rfl L.co L.gen rfl ⟨c', oc, vs, t, rfl, hoc, hdc, hvc⟩ ?_
    rw [hbind]
    refine wpAny_pure (wpAny_newFunctionEnv (fun y hy => (L.own y hy).2) (fun y hy => absurd hy (by simp)) (fun h₁ hns hsb => ⟨I1.nolimit.fresh _ hsb, ?_⟩) L.kind)
    show codeAny _ _ (.expr body (lamEnv X scope s1.heap.objs.size f c')) _ _
    have J := (lam_start2 (E := E) (f := f) (c' := c') (tk := s1.toks + ([] : List (Str × Value)).length) I L I1.env0 hr.hd un hns fun b o e => hsb.extBut b o (Nat.ne_of_lt (Heap.lt_size e)) (Heap.get?_push_of_some _ e)).wish
      (fun e s' => wpAny (model X.prog X.w) ((X.A.deeper (envOfC qg sg s.heap.objs.size g cdg)).deeper (lamEnv X scope s1.heap.objs.size f c')) (leaving (lamEnv X scope s1.heap.objs.size f c') e) (fun _ s'' => L2N.CX X.prog X.w (envOfC qg sg s.heap.objs.size g cdg :: X.stack) HZ s1 E e s'') (fun e' s'' => L2N.CX X.prog X.w (envOfC qg sg s.heap.objs.size g cdg :: X.stack) HZ s1 E e' s'') s')
    refine PySem.W.kla_codeExpr (wpAny_mono ((hbody _ _ s1 HZ (hr.deeper _)).run [] _ _ HZ Q J ht) (fun v s' ⟨w', H', J', rv, q⟩ => ?_) fun e s' hq => hq)
    exact ⟨w', H', J'.os, J'.bare, J'.base, J'.hok, rv, q⟩
  refine wpAny_call (codeAny_mono rc fun r s' hq => ?_)
  cases r with
  | error e => exact hx pinsZ σZ HZ s1 e s' I1 hq
  | ok fl =>
    cases fl with
    | ret u => exact I1.after hq
    | next => exact False.elim hq
    | brk => exact False.elim hq
    | cont => exact False.elim hq
/-- the def that calls what it got; TT: what it makes of the lambda's reading -/
def GivesN (X : Cx) (Ng : List Str) (x : Str) (sg : Scope) (g : Addr) (cdg : Value) (bg : List Stmt) (a : Str) (q : Str) (TT : (XK → Hp → VK → Prop) → Hp → VK → Prop) : Prop :=
  ∀ (f c' : Addr) (s : Shared) (H : Hp) (Q : VK) (tl : XK → Hp → VK → Prop),
    (∀ (W : WX) (pn : List (Addr × Obj)) (xe : Value → Shared → Prop) (E : XK) (p1 p2 : Pos), L2N.Takes ((gotN X Ng x sg g cdg s H).tr pn xe) W → (∀ cls d σ' H', E cls d H' → W cls d σ' H') →
      PE ((gotN X Ng x sg g cdg s H).tr pn xe) (.Call (.Name a p1) [] [] p2) (fun σZ HZ Q => σZ[0]? = some (some (.ref f)) ∧ HZ c' = some (CodeO c' q) ∧ tl E HZ Q)) →
    H c' = some (CodeO c' q) → TT tl H Q → ∃ t, PSs (gotN X Ng x sg g cdg s H).nox bg t ∧ t { nx := fun _ H' => Q .non H', rt := Q } (L2.start Ng [.ref f]) H
/-- x(lambda: body) -/
theorem pe_lamN {T : List (Addr × Str)} {TT : (XK → Hp → VK → Prop) → Hp → VK → Prop} {x a : Str} {g c P : Addr} {k : Nat} {pg : Arguments} {bg : List Stmt} {sg : Scope} {dV kV doc pm cdv ct oc : Value} {an od : Option Addr} {osl : Array (Option Value)} {Ng : List Str}
    {params : Arguments} {body : Expr} {scope : Scope} {t : XK → TE} {p lpos pos : Pos} (hg : Gl X x) (hm : X.mg x = some (.ref g)) (hk : PySem.W.keepIn X.K (.ref g) = true)
    (lk : X.K.lookup g = some ⟨oc, od, .func (PySem.W.fnOf x x pg bg sg dV kV doc pm an cdv ct), osl⟩) (hcg : PySem.W.codeIn X.K cdv x = true) (hb : L2.Binds X.K (PySem.W.fnOf x x pg bg sg dV kV doc pm an cdv ct) [a] []) (Sg : FnScope Ng [a] sg) (hNg : Ng[0]? = some a) (hva : Vis sg a)
    (hG : GivesN X Ng x sg g cdv bg a (X.env.qual ++ "<lambda>") TT)
    (TB : TabB X.base X.mg c P) (hcode : X.env.code = .ref c) (hmT : (P, X.env.qual ++ "<lambda>") ∈ T) (hu : ∀ p ∈ T, p.1 = P → p.2 = X.env.qual ++ "<lambda>") (hr : Room (k + 2) X.A) (L : LamS X.env.scope scope) (hdef : defaultsOf params X.env = ([], []))
    (hbind : ∀ (q : Str) (cl : List (Str × Addr)) (pm cv ctv : Value), bindArgs (PySem.W.kla_fn "<lambda>" q params body scope cl pm cv ctv) ⟨[], []⟩ = pure [])
    (hbody : ∀ (A : Around) (outer : List Env) (s : Shared) (H : Hp) (E : XK) (f c' : Addr), Room k (A.deeper (lamEnv X scope s.heap.objs.size f c')) → PE (lamN X A outer s H E scope f c') body (t E))
    (hdb : (x == ("__debug__" : Str)) = false) (hd : (a == ("__debug__" : Str)) = false) (hcd : (a == ("__classdict__" : Str)) = false) :
    PE X (.Call (.Name x p) [.Lambda params body scope lpos] [] pos) (tLam T TT t) := by
  refine ⟨fun pins s σ H Q I ⟨hT, h⟩ => ?_⟩
  refine wpAny_Call_Name_kw (ld_glob I hg hm (PySem.W.callWith_K (h₀ := X.base) I.ok.mod.kin hk ?_ (by rfl) (by rfl)) hdb)
  show wpAny _ _ (spliced ((false, eval (.Lambda params body scope lpos) X.env) :: backTo pos (starEach [] X.env))) _ _ s
  refine Calls.spliced_cons (lam_make2 I TB hcode hmT hu hT hdef (L.has I.ok) fun f c' pm' ctv H1 s' I1 eN T1 hf hfn hfr hco => Calls.spliced_nil ⟨I1.kIn, ?_⟩)
  have rc : codeAny (model X.prog X.w) X.A (.call (.ref g) ⟨[.ref f], []⟩) (CR C8.CX0 X.stack X.prog X.w H1 s' Q C8.E0) s' := by
    refine run_ofS (N := Ng) (ps := [a]) (us := [.ref f]) (vs := [.ref f]) lk hcg Sg hr I1.env0 (hb s' [.ref f] I1.kIn rfl) (.cons rfl .nil) rfl fun hr' => ?_
    obtain ⟨t', ht', hq'⟩ := hG f c' s' H1 Q (fun E H' Q' => t E σ H' Q') (fun W pn xe E p1 p2 tk hW => pe_actN I1 L hf hfn hfr (hbind _ _ _ _ _) tk hW hr' (fun A outer s H hr2 => hbody A outer s H E f c' hr2) hNg hva hd hcd) hco (h H1 eN T1)
    exact ⟨t', ht'.nox, hq'⟩
  refine wpAny_call (codeAny_mono rc fun r s2 hq => ?_)
  cases r with
  | error e => exact (show False from hq).elim
  | ok fl =>
    cases fl with
    | ret u => exact I1.after hq
    | next => exact False.elim hq
    | brk => exact False.elim hq
    | cont => exact False.elim hq
end
end Ev
end

section
set_option Elab.async false
set_option linter.all false
set_option autoImplicit false
set_option maxRecDepth 100000
set_option maxHeartbeats 4000000
/-! # An own exception whose maker calls the one above it, and keeps what it got -/
namespace Ev
open PySem PySem.Spec PyProof.Rows L2
/-- what is known of the maker fI of the class C: its text, its cell, its code -/
structure TmDef (P : Program) (K : W.Frag) (mg : Str → Option Value) (C fI : Addr) (f : Str) : Prop where
  oex : OexC K C
  sup : W.ks_superIn K C C "__init__" = some (some (.builtin "ValueError.__init__"))
  sub : W.subIn K (.ref C) (.type "ValueError") = some true
  mro : W.mroIn K C (.ref C) = some true
  opq : W.nsIn K cStatics "thirdparty.any" = some none
  noS : mg "super" = none
  top : (P.main.scope.names.lookup ("super" : Str)).isSome = false
  fld : W.findIn K (.ref C) f = some none
  txt : ∃ (cda cc : Addr) (nm qual m file : Str) (ar1 ar2 : Arg) (scope : Scope) (dV kV doc pm ct oc ccl cl : Value) (an od cdd cld : Option Addr) (osl ccs csl : Array (Option Value)) (vs : Array Value) (tf : Tok) (j : Nat) (p0 p1 p2 p3 p4 p5 p6 p7 p8 p9 : Pos),
    K.lookup fI = some ⟨oc, od, .func (W.ksFn nm qual ⟨[], [ar1, ar2], none, [], [], none, []⟩ [.Expr (.Call (.Attribute (.Call (.Name "super" p0) [] [] p1) "__init__" p2) [.Constant (.str m) j p3] [] p4) p5, .Assign [.Attribute (.Name ar1.arg p6) f p7] (.Name ar2.arg p8) p9] scope dV kV doc pm an (.ref cda) ct cc), osl⟩ ∧
    W.codeIn K (.ref cda) qual = true ∧ K.lookup cda = some ⟨ccl, cdd, .fields vs, ccs⟩ ∧ vs[2]? = some (.str file tf) ∧ ((P.main.file : Str) == file) = true ∧ K.lookup cc = some ⟨cl, cld, .cell (some (.ref C)), csl⟩ ∧
    scope.names.lookup ("super" : Str) = some .globalImplicit ∧ scope.names.lookup ("__class__" : Str) = some .free ∧ scope.names.lookup ar1.arg = some .local ∧ scope.names.lookup ar2.arg = some .local ∧ scope.kind = .function ∧ scope.isCoroutine = false ∧ scope.isGenerator = false ∧
    (∀ x ∈ scope.names, x.2 ≠ .cell) ∧ (ar1.arg == ("__debug__" : Str)) = false ∧ (ar2.arg == ("__debug__" : Str)) = false ∧ ar2.arg ≠ ar1.arg ∧ (p2.endLine == p4.line) = true ∧ (∀ (s : Shared) (a v : Value), BindsTo s (W.ksFn nm qual ⟨[], [ar1, ar2], none, [], [], none, []⟩ [.Expr (.Call (.Attribute (.Call (.Name "super" p0) [] [] p1) "__init__" p2) [.Constant (.str m) j p3] [] p4) p5, .Assign [.Attribute (.Name ar1.arg p6) f p7] (.Name ar2.arg p8) p9] scope dV kV doc pm an (.ref cda) ct cc) ⟨[a, v], []⟩ [(ar1.arg, a), (ar2.arg, v)])
theorem excO_inst {h : Heap} {a C t1 : Addr} (ho : h.get? a = some (PySem.HandSPX.excO C t1)) : W.InstAt h a (PySem.HandSPX.excO C t1) C none := ⟨ho, rfl, rfl, trivial⟩
theorem tm_init {P : Program} {w : World} {K : W.Frag} {mg : Str → Option Value} {base hp : Heap} {A : Around} {R : Result → Shared → Prop} {g : Array GenState} {d : Drawn} {t : Nat} {os : OsState}
    {fI C a t1 : Addr} {v : Value} {f : Str} (Md : Mod K mg base) (bk : ∀ b o, base.get? b = some o → hp.get? b = some o) (D : TmDef P K mg C fI f) (hroom : A.depth < recursionLimit) (ho : hp.get? a = some (PySem.HandSPX.excO C t1)) (ha0 : base.get? a = none)
    (hq : ∀ h' tk' dx t2, (∀ b o, b ≠ a → hp.get? b = some o → h'.get? b = some o) → hp.objs.size ≤ dx → dx ≠ a → h'.get? a = some { cls := .ref C, dict := some dx, data := .fields #[.ref t2, .none, .none, .none, .bool false, .none] } →
      h'.Ns1 dx (fun y => if y = f then some v else none) → R (.ok (.ret .none)) ⟨h', g, d, tk', os⟩) :
    codeAny (model P w) A (.call (.ref fI) ⟨[.ref a, v], []⟩) R ⟨hp, g, d, t, os⟩ := by
  obtain ⟨cda, cc, nm, qual, m, file, ar1, ar2, scope, dV, kV, doc, pm, ct, oc, ccl, cl, an, od, cdd, cld, osl, ccs, csl, vs, tf, j, p0, p1, p2, p3, p4, p5, p6, p7, p8, p9, hf, hcd, hcode, hvs, hfile, hcell, hks, hkc, hka, hkb, hk, hco, hgen, hnc, hd1, hd2, hne, hline, hbind⟩ := D.txt
  obtain ⟨sk, sn0, sg0, sc0, sm0⟩ := scope
  dsimp only at hks hkc hka hkb hk hco hgen hnc
  subst hk hco hgen
  have X : K.In hp := Md.kin.keeps bk
  refine ks_codeAny_call_defAt (binds := [(ar1.arg, .ref a), (ar2.arg, v)]) hroom (X _ _ hf) rfl (Md.nolimit.keeps bk) (W.codeRec_of X hcd) rfl (hbind _ _ _) hnc (fun y hy => ?_) (fun h₀ hns k0 => ?_) rfl rfl rfl
  · simp only [List.mem_cons, List.not_mem_nil, or_false] at hy
    rcases hy with rfl | rfl
    · exact hka
    · exact hkb
  have F1 : K.In h₀ := X.keeps k0
  have hk' : (callEnv (W.ksFn nm qual ⟨[], [ar1, ar2], none, [], [], none, []⟩ [.Expr (.Call (.Attribute (.Call (.Name "super" p0) [] [] p1) "__init__" p2) [.Constant (.str m) j p3] [] p4) p5, .Assign [.Attribute (.Name ar1.arg p6) f p7] (.Name ar2.arg p8) p9] ⟨.function, sn0, false, false, sm0⟩ dV kV doc pm an (.ref cda) ct cc) hp.objs.size fI) = W.ksEnv qual ⟨.function, sn0, false, false, sm0⟩ hp.objs.size fI (.ref cda) cc := rfl
  rw [hk']
  obtain ⟨mb, hb1, hb2⟩ := Md.blt
  have k1 : ∀ b o, base.get? b = some o → h₀.get? b = some o := fun b o e => k0 b o (bk b o e)
  have I0 := excO_inst (k0 a _ ho)
  obtain ⟨nmC, qC, N, bs, bm, sn, sub, ab, col, dd, c0, c1, c2, c3, c5, hC, hbm⟩ := D.oex.cls
  have hsz : hp.objs.size ≤ h₀.objs.size := by
    obtain ⟨oL, _, _, hL, _⟩ := hns
    exact Nat.le_of_lt (Heap.lt_size hL)
  refine ks_wpAt_execs_cons (ks_wpAt_Expr_any (ks_wpAt_MethodCall (pl := do return (← importBound (.Call (.Name "super" p0) [] [] p1) (W.ksEnv qual ⟨.function, sn0, false, false, sm0⟩ hp.objs.size fI (.ref cda) cc)).getD true) ?_ (by
    refine (arm_eval_Call _ _ _ _ _ _ _).trans ?_
    unfold methodCall methodCallPos
    rw [hline]
    rfl)))
  refine ks_wpAt_super_base (env := W.ksEnv qual ⟨.function, sn0, false, false, sm0⟩ hp.objs.size fI (.ref cda) cc) hks hkc rfl rfl (F1 _ _ hf) rfl (ar := ar1) rfl rfl (F1 _ _ hcode) rfl hvs hfile D.top ?_
  refine W.ks_loadName_global rfl hks (Calls.loadGlobal_builtin (env := W.ksEnv qual ⟨.function, sn0, false, false, sm0⟩ hp.objs.size fI (.ref cda) cc) (Md.glob.keeps k1) D.noS (hb1.keeps k1) ((hb2 _ (by decide)).trans (show bootBuiltins "super" = some (.type "super") by first | boot_by_name | rfl | kernel_rfl)) ⟨rfl, ?_⟩)
  refine wpAny_loadName_free rfl hkc rfl ⟨_, F1 _ _ hcell, rfl⟩ ?_
  have hself : ([(ar1.arg, Value.ref a), (ar2.arg, v)] : List (Str × Value)).reverse.lookup ar1.arg = some (.ref a) := by
    have e1 : (ar1.arg == ar2.arg) = false := by
      rw [beq_eq_false_iff_ne]
      exact Ne.symm hne
    simp [List.lookup, e1]
  have hlim : ([(ar1.arg, Value.ref a), (ar2.arg, v)] : List (Str × Value)).reverse.lookup ar2.arg = some v := by
    simp [List.lookup]
  refine wpAny_loadName_local rfl hka hns hself ?_
  have hC0 := F1 _ _ hC
  refine ks_wpAny_isType_cls hC0 rfl ⟨rfl, ?_⟩
  refine ks_wpAny_call_super hC0 rfl (k0 a _ ho) rfl (fun c e => by cases e) (W.looks_mroIn F1 D.mro) (fun h2 hs2 k2 => ?_)
  have F2 : K.In h2 := F1.keeps k2
  have I2 := excO_inst (k2 a _ (k0 a _ ho))
  obtain ⟨cd, hcl⟩ : ∃ cd, W.clsIn K C = some cd := by
    have h := D.sup
    unfold W.ks_superIn at h
    cases hc : W.clsIn K C with
    | none => rw [hc] at h; cases h
    | some cd => exact ⟨cd, rfl⟩
  have hsup := D.sup
  unfold W.ks_superIn at hsup
  rw [hcl, Option.bind_some] at hsup
  refine W.kxs_getMethod W.kxs_ValueError hs2 (W.looks_opaque F2 D.opq) (l₀ := cd.mro) (fun A Q E s k q => wpAny_bind ((W.looks_clsIn F2 hcl) A _ E s k (wpAny_pure q))) rfl F2 hsup (I2.type.andThen (W.looks_subIn F2 D.sub)) (W.ks_ne F2 I2 hcl) (by decide) ?_
  refine W.kxs_callWith (i := "ValueError.__init__") (x := a) rfl (Calls.evalArgs_plain (PyProof.Rows.spliced_more (pos := p4) (rest := []) (Calls.Constant_str (PyProof.Rows.spliced_none ⟨?_, ?_⟩))))
  · exact Heap.get?_push_at rfl rfl
  have k3 : ∀ b o, h2.get? b = some o → (h2.push (W.kxs_mw "ValueError.__init__" a)).get? b = some o := fun b o e => Heap.get?_push_of_some _ e
  have hu : (h2.push (W.kxs_mw "ValueError.__init__" a)).get? h2.objs.size = some (W.kxs_mw "ValueError.__init__" a) := Heap.get?_push_at rfl rfl
  have z3 : hp.objs.size ≤ (h2.push (W.kxs_mw "ValueError.__init__" a)).objs.size := by
    obtain ⟨oL, _, _, hL, _⟩ := hns
    exact Nat.le_of_lt (Heap.lt_size (k3 _ _ (k2 _ _ hL)))
  generalize h2.push (W.kxs_mw "ValueError.__init__" a) = h3 at *
  have kk3 : ∀ b o, hp.get? b = some o → h3.get? b = some o := fun b o e => k3 b o (k2 b o (k0 b o e))
  have F3 : K.In h3 := X.keeps kk3
  have ho3 := kk3 a _ ho
  have hns3 := hns.keeps fun b o e => k3 b o (k2 b o e)
  have hLa : hp.objs.size ≠ a := fun e => by
    have := Heap.lt_size ho
    rw [← e] at this
    exact absurd this (Nat.lt_irrefl _)
  -- the call of what the super object has handed over
  refine wpAny_call (codeAny_of_tree ?_)
  show wpAny _ _ (callAny (.ref h2.objs.size) ⟨_, []⟩) _ _ _
  simp only [callAny]
  refine wpAny_bind (wpAny_load hu ?_)
  simp only [W.kxs_mw, show (Value.type "method-wrapper" == Value.type "method" || Value.type "method-wrapper" == Value.type "builtin_function_or_method" || Value.type "method-wrapper" == Value.type "method-wrapper") = true by decide, if_true]
  refine W.KFB.if_so (by decide) ?_
  refine wpAny_bind (W.check_bound_init PySem.F.excBase_ValueError.toExcCallFacts (F3 _ _ hC) ho3 rfl ?_)
  refine wpAny_bind (wpAny_pure (wpAny_pure ?_))
  refine ⟨plainId_quiet PySem.F.excBase_ValueError.init.plain _, codeAny_builtin PySem.F.excBase_ValueError.initEntry ?_⟩
  refine W.exc_init_tree (cls := .ref C) (t0 := t1) (dv := none) (c2 := .none) (c3 := .none) (b4 := .bool false) ho3 (by show 1 ≤ sizeLine; rw [sizeLine_eq]; omega) (fun h4 k4 e4 _ => ?_)
  have ho4 : h4.get? a = some (PySem.HandSPX.excO C h3.objs.size) := e4
  have F4 : K.In h4 := fun b o e => k4 b o (fun z => by
    have := Md.kin b o e
    rw [z, ha0] at this
    cases this) (F3 b o e)
  have hns4 := hns3.at fun o y => k4 _ o hLa y
  have z4 : hp.objs.size ≤ h4.objs.size := by
    obtain ⟨oL, _, _, hL, _⟩ := hns4
    exact Nat.le_of_lt (Heap.lt_size hL)
  show PySem.wpAt _ _ _ (execs _ _) _ _ _
  refine ks_wpAt_execs_cons (ks_wpAt_Assign_Attr ?_)
  refine wpAt_of_wpAny (PySem.ESX.ldL hns4 hlim ?_ rfl hkb hd2)
  refine PySem.ESX.ldL hns4 hself ?_ rfl hka hd1
  have hcl' : W.clsIn K C = some { name := nmC, bases := bs, mro := .ref C :: bm, ns := N, qualname := qC, hasDict := true, slotNames := sn, subclasses := sub, abstract := ab, collection := col, hasDel := false } := by unfold W.clsIn; rw [hC] <;> rfl
  refine W.set_plain F4 (ox := PySem.HandSPX.excO C h3.objs.size) (od := none) (excO_inst ho4) D.oex.sa ?_
  refine PySem.HandSPX.exc_osa F4 ho4 hcl' (show PySem.HandSPX.refsVE (.ref C :: bm) = true from hbm) rfl D.fld (fun h' tk' dx k dn dne hx hn => ?_)
  show PySem.wpAt _ _ _ (execs [] _) _ _ _
  refine wpAt_of_wpAny (wpAny_pure ?_)
  exact hq h' tk' dx _ (fun b o hb e => k b o hb (k4 b o hb (kk3 b o e))) (Nat.le_trans z4 dn) dne hx hn
/-- C(e): the class's own maker keeps what it gets under f -/
def tTm (C : Addr) (f : Str) (te : TE) : L2.St → Hp → XK → Prop := fun σ H Q => tCons te tNil σ H fun vs H1 => ∃ v, vs = [v] ∧ ∀ d, H1 d = none → Q (.ref C) (some d) (upd H1 d (.xd [(f, v)]))
theorem pmk_tm {X : Cx} {x f : Str} {C fI : Addr} {k : Nat} {e : Expr} {te : TE} {p pos : Pos} (D : TmDef X.prog X.K X.mg C fI f) (iC : W.findIn X.K (.ref C) "__init__" = some (some (.ref fI))) (tI : W.typeIn X.K (.ref fI) = some (.type "function"))
    (hr : Room k X.A) (hg : Gl X x) (hm : X.mg x = some (.ref C)) (he : PE X e te) (hdb : (x == ("__debug__" : Str)) = false) (hst : starEach [e] X.env = (false, eval e X.env) :: starEach [] X.env) : L2N.PMk X (.Call (.Name x p) [e] [] pos) (tTm C f te) := by
  intro pins s σ H Q I h
  have T := D.oex
  obtain ⟨nm, q, N, bs, bm, sn, sub, ab, col, dd, k0, k1, k2, k3, k5, hC, hbm⟩ := T.cls
  refine wpAny_Call_Name_kw (ld_glob I hg hm ?_ hdb)
  have ha : PA X [e] (tCons te tNil) := pa_cons he pa_nil hst
  refine W.callWith_K (h₀ := X.base) I.ok.mod.kin T.kC (thn (ha.run pos pins s σ H (fun vs H1 => ∃ v, vs = [v] ∧ ∀ d, H1 d = none → Q (.ref C) (some d) (upd H1 d (.xd [(f, v)]))) I ?_) fun us s1 ⟨vs, H1, I1, r1, v, ev, q1⟩ => ⟨I1.kIn, ?_⟩) hst rfl
  · exact h
  subst ev
  cases r1 with
  | @cons _ u _ ur ru rn =>
    cases rn
    show wpAny _ _ (call (.ref C) [u]) _ _ _
    obtain ⟨hp, g, dr, tk, os⟩ := s1
    have hsz : hp.objs.size ≤ hp.objs.size + 1 := Nat.le_succ _
    have hn : H1 (hp.objs.size + 1) = none := I1.hok.fresh hsz
    have kk : ∀ b o, hp.get? b = some o → ((hp.push (W.kdv_tup [u])).push (PySem.HandSPX.excO C hp.objs.size)).get? b = some o := fun b o e => Heap.get?_push_of_some _ (Heap.get?_push_of_some _ e)
    have hget : ((hp.push (W.kdv_tup [u])).push (PySem.HandSPX.excO C hp.objs.size)).get? (hp.objs.size + 1) = some (PySem.HandSPX.excO C hp.objs.size) := by heap_get
    have I2 : Inv X pins σ (upd H1 (hp.objs.size + 1) (exo (hp.objs.size + 1) C none)) ⟨(hp.push (W.kdv_tup [u])).push (PySem.HandSPX.excO C hp.objs.size), g, dr, tk, os⟩ :=
      I1.laid (t' := tk) (a := hp.objs.size + 1) (o := exo (hp.objs.size + 1) C none) (h' := (hp.push (W.kdv_tup [u])).push (PySem.HandSPX.excO C hp.objs.size)) kk hsz (exo_ok hget)
    have ha0 : X.base.get? (hp.objs.size + 1) = none := by
      cases z : X.base.get? (hp.objs.size + 1) with
      | none => rfl
      | some o =>
        exact absurd (Heap.lt_size (I1.bk _ _ z)) (Nat.not_lt.mpr (Nat.le_succ _))
    refine wpAny_call (PySem.HandSPX.call_own F.excBase_ValueError (fun Y => PySem.HandSPX.refsVE_contains Y bm hbm) (I1.kIn _ _ hC) (W.looks_findIn I1.kIn iC) (fun self => W.bind_fn I1.kIn self tI) (by show 1 ≤ sizeLine; rw [sizeLine_eq]; omega)
      (tm_init I1.mod (fun b o e => kk b o (I1.bk b o e)) D (by rw [make_depth]; have := hr.dp; omega) hget ha0 fun h' tk' dx t2 k dn dne hx hns => ?_))
    refine ⟨rfl, ?_⟩
    generalize (hp.push (W.kdv_tup [u])).push (PySem.HandSPX.excO C hp.objs.size) = hp2 at *
    have e1 : upd H1 (hp.objs.size + 1) (exo (hp.objs.size + 1) C none) (hp.objs.size + 1) = some (exo (hp.objs.size + 1) C none) := upd_same
    have hnd : upd H1 (hp.objs.size + 1) (exo (hp.objs.size + 1) C none) dx = none := I2.hok.fresh dn
    have nd : ∀ {b : Addr} {o : Obj}, hp2.get? b = some o → b ≠ dx := fun {b o} q => Nat.ne_of_lt (Nat.lt_of_lt_of_le (Heap.lt_size q) dn)
    have na : ∀ {b : Addr}, upd H1 (hp.objs.size + 1) (exo (hp.objs.size + 1) C none) b = none → b ≠ hp.objs.size + 1 := fun {b} n z => by
      rw [z, e1] at n
      cases n
    let a : Addr := hp.objs.size + 1
    let Ha : Hp := upd H1 a (exo a C none)
    let H2 : Hp := upd (upd Ha dx (exd dx [(f, v)])) a (exo a C (some dx))
    have un : Un (frs X.stack) [] Ha H2 hp2 h' := {
      keep := fun b o q n _ _ => k b o (na n) q
      slot := fun b o q n _ _ => ⟨o.slots, k b o (na n) q⟩
      free := fun b o q n _ => by
        show upd (upd Ha dx (exd dx [(f, v)])) a (exo a C (some dx)) b = none
        rw [upd_ne (na n), upd_ne (nd q)]
        exact n
      there := fun b o q _ => by
        by_cases hb : b = a
        · exact ⟨_, by rw [hb]; exact hx⟩
        · exact ⟨o, k b o hb q⟩
      tups := fun b xs q => by
        show upd (upd Ha dx (exd dx [(f, v)])) a (exo a C (some dx)) b = _
        rw [upd_ne (at_ne e1 q exo_tup), upd_ne (ne_of_none q hnd)]
        exact q
      frzs := fun b o w q => by
        show upd (upd Ha dx (exd dx [(f, v)])) a (exo a C (some dx)) b = _
        rw [upd_ne (at_ne e1 q exo_frz), upd_ne (ne_of_none q hnd)]
        exact q
      tbls := fun b ps q => ⟨#[], by
        show upd (upd Ha dx (exd dx [(f, v)])) a (exo a C (some dx)) b = _
        rw [upd_ne (at_ne e1 q exo_tbl), upd_ne (ne_of_none q hnd), q]
        simp⟩ }
    have ed0 : ObjOk X.prog X.w H2 h' dx (exd dx [(f, v)]) := exd_ok hns (relO_put (fs := []) ru fun g => True.intro)
    have hok : HOk X.prog X.w H2 h' := fun b o q => by
      have q : upd (upd Ha dx (exd dx [(f, v)])) a (exo a C (some dx)) b = some o := q
      by_cases hb : b = a
      · rw [hb, upd_same] at q
        cases q
        rw [hb]
        exact exo_ok hx
      · rw [upd_ne hb] at q
        by_cases hd : b = dx
        · rw [hd, upd_same] at q
          cases q
          rw [hd]
          exact ed0
        · rw [upd_ne hd] at q
          exact (I2.hok b o q).stay (fun c w hc z => k c w (by
              rcases hc with hc | hc
              · rw [hc]
                exact hb
              · exact at_ne e1 hc exo_own) z)
            (fun c hc => by
              show upd (upd Ha dx (exd dx [(f, v)])) a (exo a C (some dx)) c = _
              rw [upd_ne (at_ne e1 hc exo_own), upd_ne (ne_of_none hc hnd)]
              exact hc) (fun c xs hc => by
              show upd (upd Ha dx (exd dx [(f, v)])) a (exo a C (some dx)) c = _
              rw [upd_ne (at_ne e1 hc exo_tup), upd_ne (ne_of_none hc hnd)]
              exact hc)
    have ea2 : H2 a = some (exo a C (some dx)) := upd_same
    have ed2 : H2 dx = some (exd dx [(f, v)]) := by
      show upd (upd Ha dx (exd dx [(f, v)])) a (exo a C (some dx)) dx = _
      rw [upd_ne dne, upd_same]
    have hd1 : H1 dx = none := by
      have z := hnd
      rw [upd_ne dne] at z
      exact z
    obtain ⟨t0, G, J, kG, ge, hoe, nA⟩ := mk_end0 (d2 := dr) (t2 := tk') I1 hsz kk un hok rfl I1.bare ea2 ed2 hd1
    have eH : upd (del H2 a) dx (.xd [(f, v)]) = upd H1 dx (.xd [(f, v)]) := by
      funext b
      by_cases hb : b = dx
      · rw [hb, upd_same, upd_same]
      · rw [upd_ne hb, upd_ne hb]
        by_cases ha : b = a
        · rw [ha, del_same, hn]
        · rw [del_ne ha]
          show upd (upd Ha dx (exd dx [(f, v)])) a (exo a C (some dx)) b = _
          rw [upd_ne ha, upd_ne hb]
          exact upd_ne ha
    rw [eH] at J nA
    exact ⟨a, _, _, ⟨G, g, dr, tk', os⟩, _, .ref C, some dx, rfl, J, kG, ge, hoe, ⟨rfl, rfl, fun vs hv => by cases hv; rfl⟩, rfl, rfl, nA, rfl, I1.bare, raises_own T.exC T.tyC, q1 dx hd1⟩
end Ev
end

section
set_option Elab.async false
set_option linter.all false
set_option autoImplicit false
set_option maxRecDepth 100000
set_option maxHeartbeats 4000000
/-! # What the syntax does is what the little language says: expressions -/
namespace Ev
open PySem PySem.Spec PyProof.Rows L2
theorem pe_imp {X : Cx} {e : Expr} {t t' : TE} (h : PE X e t) (i : ∀ σ H Q, t' σ H Q → t σ H Q) : PE X e t' := ⟨fun pins s σ H Q I q => h.run pins s σ H Q I (i σ H Q q)⟩
theorem pt_imp {X : Cx} {e : Expr} {t t' : TT} (h : PT X e t) (i : ∀ σ H Q, t' σ H Q → t σ H Q) : PT X e t' := ⟨fun pins s σ H Q I q => h.run pins s σ H Q I (i σ H Q q)⟩
theorem pw_imp {X : Cx} {e : Expr} {t t' : TT} (h : PW X e t) (i : ∀ σ H Q, t' σ H Q → t σ H Q) : PW X e t' := ⟨fun wh pins s σ H Q I q => h.run wh pins s σ H Q I (i σ H Q q)⟩
theorem pa_imp {X : Cx} {e : List Expr} {t t' : TA} (h : PA X e t) (i : ∀ σ H Q, t' σ H Q → t σ H Q) : PA X e t' := ⟨fun pos pins s σ H Q I q => h.run pos pins s σ H Q I (i σ H Q q)⟩
section
variable (K : W.Frag) (T : List (Addr × Str)) (cl : Nat → Option Addr) (E : XK) (c : Cn)
def eqB : Ms → Hp → Bool → Bool → Prop := fun _ _ b b' => b = b'
def tX (ir : X) : TE := fun σ H Q => ∃ ρ M S, EnvOk K ρ σ M H ∧ StOk K T M S H ∧ Out K T cl E M H (evX c ir ρ S) (RU K) Q
def tXs (ir : Xs) : TA := fun σ H Q => ∃ ρ M S, EnvOk K ρ σ M H ∧ StOk K T M S H ∧ Out K T cl E M H (evXs c ir ρ S) (RUs K) Q
def tTr (ir : X) : TT := fun σ H Q => ∃ ρ M S, EnvOk K ρ σ M H ∧ StOk K T M S H ∧ Out K T cl E M H (truR (evX c ir ρ S)) eqB Q
/-- what a def promises: what the little language says of the call -/
def spC (cf : CF) (f np : Nat) : Sp := fun vs H Q E => ∃ M S us, RUs K M H vs us ∧ StOk K T M S H ∧ us.length = np ∧ Out K T cl E M H (cf f us S) (RU K) Q
end
/-- the builtins whose names the program leaves as they are -/
abbrev bltNames : List Str := ["len", "all", "sum", "int", "bool", "abs", "tuple", "list", "isinstance", "str", "range", "enumerate", "zip", "sorted", "set", "max", "min"]
/-- the code object of the code that makes lambdas -/
def LamAt (T : List (Addr × Str)) (X : Cx) : Prop := ∃ cA P, LamX.TabB X.base X.mg cA P ∧ X.env.code = .ref cA ∧ (P, X.env.qual ++ "<lambda>") ∈ T ∧ ∀ p ∈ T, p.1 = P → p.2 = X.env.qual ++ "<lambda>"
/-- told: the error's names, or an empty text -/
def TTerr (K : W.Frag) (T : List (Addr × Str)) (cl : Nat → Option Addr) (nm : Nat → Option Str) : (XK → Hp → VK → Prop) → Hp → VK → Prop := fun tl H Q =>
  tl (fun cls d H' => ∃ M S C i z, Dic d H' ∧ StOk K T M S H' ∧ cls = .ref C ∧ cl i = some C ∧ nm i = some z ∧ ∀ M' H'', Gr M H' M' H'' → StOk K T M' S H'' → Q (.str z) H'') H fun _ H' => Q (.str ⟨#[]⟩) H'
/-- the def that calls what it gets, and tells the error -/
def ErrDef (T : List (Addr × Str)) (cl : Nat → Option Addr) (nm : Nat → Option Str) (P : Program) (w : World) (K : W.Frag) (mg : Str → Option Value) (base : Heap) (x : Str) : Prop :=
  ∃ (g : Addr) (pg : Arguments) (bg : List Stmt) (sg : Scope) (dV kV doc pm cdv ct oc : Value) (an od : Option Addr) (osl : Array (Option Value)) (Ng : List Str) (a : Str),
    mg x = some (.ref g) ∧ W.keepIn K (.ref g) = true ∧ K.lookup g = some ⟨oc, od, .func (W.fnOf x x pg bg sg dV kV doc pm an cdv ct), osl⟩ ∧ W.codeIn K cdv x = true ∧ Binds K (W.fnOf x x pg bg sg dV kV doc pm an cdv ct) [a] [] ∧ FnScope Ng [a] sg ∧
    Ng[0]? = some a ∧ Vis sg a ∧ odd a = false ∧ ∀ (X : Cx), X.prog = P → X.w = w → X.K = K → X.mg = mg → X.base = base → Room 2 X.A → ∀ q, GivesN X Ng x sg g cdv bg a q (TTerr K T cl nm)
/-! ### the program's errors, as far as they are values -/
/-- what is known of them -/
structure XOk (h : Hn) (P : Program) (K : W.Frag) (mg : Str → Option Value) : Prop where
  cs : ∀ x, x ∈ h.xC → mg x = some (.ref (He.ga K x)) ∧ W.keepIn K (.ref (He.ga K x)) = true ∧ W.excIn K (He.ga K x) [.type "ValueError", .type "Exception", .type "BaseException", .type "object"] "ValueError.__new__" = true
  ms : ∀ x f, h.xM.lookup x = some f → mg x = some (.ref (He.ga K x)) ∧ XfC K (He.ga K x) ∧ ∃ fI, TmDef P K mg (He.ga K x) fI f ∧ W.findIn K (.ref (He.ga K x)) "__init__" = some (some (.ref fI)) ∧ W.typeIn K (.ref fI) = some (.type "function")
  ts : ∀ x tb, h.xT.lookup x = some tb → ∃ v cv, (mg x = some cv ∨ (mg x = none ∧ bootBuiltins x = some cv ∧ x ≠ "__name__")) ∧ RelV v cv ∧ (∀ u, RelV v u → u = cv) ∧ ∀ c b, tb.lookup c = some b → L2.ExcC K (He.ga K c) ∧ W.kitOne K (.ref (He.ga K c)) cv = some b
  ss : ∀ c, c ∈ h.xS → W.findIn K (.ref (He.ga K c)) "__str__" = some (some (.builtin "BaseException.__str__")) ∧ W.subIn K (.ref (He.ga K c)) (.type "BaseException") = some true
/-- where one stands -/
structure Good (g : Cfg) (T : List (Addr × Str)) (cl : Nat → Option Addr) (c : Cn) (k l : Nat) (X : Cx) (N : List Str) (sc : Scope) (fb : Fb) : Prop where
  names : X.N = N
  nd : N.Nodup
  scope : X.env.scope = sc
  calm : X.calm = true
  room : Room k X.A
  fbk : ∀ x, fb x = true → X.fn x = true ∨ X.env.scope.names.lookup x = some .local
  fns : ∀ x f, g.fnIx x = some f → ∃ a fd ps n, g.np f = some n ∧ ps.length = n ∧ X.mg x = some (.ref a) ∧ W.keepIn X.K (.ref a) = true ∧ Binds X.K fd ps [] ∧
    FnOk X.prog X.w X.K X.mg X.base (L2N.CX X.prog X.w) k a fd ps (spC X.K T cl c.call f n) ∧ ∀ lf, c.low = some lf → FnOk X.prog X.w X.K X.mg X.base (L2N.CX X.prog X.w) l a fd ps (spC X.K T cl lf f n)
  low : ∀ lf, c.low = some lf → l + 2 ≤ k ∧ (g.lam = true → LamAt T X)
  clss : ∀ x i, g.clIx x = some i → ∃ C, cl i = some C ∧ X.mg x = some (.ref C) ∧ W.keepIn X.K (.ref C) = true ∧ W.excIn X.K C [.type "ValueError", .type "Exception", .type "BaseException", .type "object"] "ValueError.__new__" = true ∧ W.subIn X.K (.ref C) (.type "BaseException") = some true ∧ W.typeIn X.K (.ref C) = some (.type "type")
  clst : ∀ x i, g.clTx x = some i → ∃ C f fI, cl i = some C ∧ X.mg x = some (.ref C) ∧ TmDef X.prog X.K X.mg C fI f ∧ W.findIn X.K (.ref C) "__init__" = some (some (.ref fI)) ∧ W.typeIn X.K (.ref fI) = some (.type "function")
  nms : ∀ i z, c.nm i = some z → ∃ C, cl i = some C
  errs : ∀ x, g.errs x = true → ErrDef T cl c.nm X.prog X.w X.K X.mg X.base x
  ar : ∀ (f : Nat) n us S, g.np f = some n → us.length ≠ n → c.call f us S = .bad
  arL : ∀ lf, c.low = some lf → ∀ (f : Nat) n us S, g.np f = some n → us.length ≠ n → lf f us S = .bad
  blts : ∀ x, x ∈ bltNames → X.mg x = none
  cons : ∀ x p, g.con x = some p → ∃ u v, X.mg x = some u ∧ RelV v u ∧ ∀ M H, Rp X.K M H v p
  xok : XOk g.hn X.prog X.K X.mg
section
variable {K : W.Frag} {T : List (Addr × Str)} {cl : Nat → Option Addr} {E : XK} {c : Cn} {X : Cx} {M : Ms} {H : Hp} {S : Store} {ρ : Rho} {σ : L2.St}
theorem tX_b {α β : Type} {ir : Ev.X} {f : U → Store → R α} {rel : Ms → Hp → β → α → Prop} {Q : β → Hp → Prop} (en : EnvOk K ρ σ M H) (st : StOk K T M S H) (h : Out K T cl E M H ((evX c ir ρ S).bind f) rel Q) {R : VK}
    (q : ∀ v M1 H1 S1 u, Gr M H M1 H1 → EnvOk K ρ σ M1 H1 → StOk K T M1 S1 H1 → RU K M1 H1 v u → Out K T cl E M1 H1 (f u S1) rel Q → R v H1) : tX K T cl E c ir σ H R :=
  ⟨ρ, M, S, en, st, Out.mono (Out.bind h) fun v H1 ⟨M1, S1, u, g1, st1, r1, h1⟩ => q v M1 H1 S1 u g1 (en.mono g1) st1 r1 h1⟩
theorem tXs_b {α β : Type} {ir : Xs} {f : List U → Store → R α} {rel : Ms → Hp → β → α → Prop} {Q : β → Hp → Prop} (en : EnvOk K ρ σ M H) (st : StOk K T M S H) (h : Out K T cl E M H ((evXs c ir ρ S).bind f) rel Q) {R : List V → Hp → Prop}
    (q : ∀ v M1 H1 S1 u, Gr M H M1 H1 → EnvOk K ρ σ M1 H1 → StOk K T M1 S1 H1 → RUs K M1 H1 v u → Out K T cl E M1 H1 (f u S1) rel Q → R v H1) : tXs K T cl E c ir σ H R :=
  ⟨ρ, M, S, en, st, Out.mono (Out.bind h) fun v H1 ⟨M1, S1, u, g1, st1, r1, h1⟩ => q v M1 H1 S1 u g1 (en.mono g1) st1 r1 h1⟩
theorem tTr_b {α β : Type} {ir : Ev.X} {f : Bool → Store → R α} {rel : Ms → Hp → β → α → Prop} {Q : β → Hp → Prop} (en : EnvOk K ρ σ M H) (st : StOk K T M S H) (h : Out K T cl E M H ((truR (evX c ir ρ S)).bind f) rel Q) {R : Bool → Hp → Prop}
    (q : ∀ b M1 H1 S1, Gr M H M1 H1 → EnvOk K ρ σ M1 H1 → StOk K T M1 S1 H1 → Out K T cl E M1 H1 (f b S1) rel Q → R b H1) : tTr K T cl E c ir σ H R :=
  ⟨ρ, M, S, en, st, Out.mono (Out.bind (rel := eqB) h) fun b H1 ⟨M1, S1, b', g1, st1, r1, h1⟩ => q b M1 H1 S1 g1 (en.mono g1) st1 (by cases (show b = b' from r1); exact h1)⟩
/-- an answer that is there -/
theorem out_here {α β : Type} {a : α} {b : β} {rel : Ms → Hp → β → α → Prop} {Q : β → Hp → Prop} (st : StOk K T M S H) (h : Out K T cl E M H (.ok a S) rel Q) (r : rel M H b a) : Q b H := h b M H (Gr.refl _ _) st r
theorem ix_of {N : List Str} {x : Str} {i : Nat} (h : ixOf N x = some i) : N[i]? = some x := by
  unfold ixOf at h
  split at h
  · split at h
    · rename_i hc
      cases h
      exact hc
    · cases h
  · cases h
theorem vis_of {sc : Scope} {x : Str} (h : visB sc x = true) : Vis sc x := by
  unfold visB at h
  unfold Vis
  split at h
  · exact .inl (by assumption)
  · exact .inr (.inl (by assumption))
  · exact .inr (.inr (by assumption))
  · cases h
theorem loc_of {sc : Scope} {x : Str} (h : locB sc x = true) : L2.Loc sc x := by
  unfold locB at h
  unfold L2.Loc
  split at h
  · exact .inl (by assumption)
  · exact .inr (by assumption)
  · cases h
theorem gl_of {x : Str} {sc : Scope} (hs : X.env.scope = sc) (h : glB sc x = true) : Gl X x := by
  unfold glB at h
  unfold Gl Env.kindOf
  rw [hs]
  exact of_decide_eq_true h
theorem odd_of {x : Str} (h : odd x = false) : (x == ("__debug__" : Str)) = false ∧ (x == ("__classdict__" : Str)) = false ∧ x ≠ "__name__" := by
  unfold odd at h
  simp only [Bool.or_eq_false_iff] at h
  exact ⟨h.1.1, h.1.2, by simpa using h.2⟩
/-! ### one construct at a time -/
theorem px_loc {N : List Str} {sc : Scope} {x : Str} {i : Nat} {pos : Pos} (hN : X.N = N) (hs : X.env.scope = sc) (ho : odd x = false) (hv : visB sc x = true) (hi : ixOf N x = some i) : PE X (.Name x pos) (tX X.K T cl E c (.loc i)) :=
  pe_imp (pe_var (i := i) (by rw [hN]; exact ix_of hi) (by rw [hs]; exact vis_of hv) (odd_of ho).1 (odd_of ho).2.1) fun σ H Q ⟨ρ, M, S, en, st, h⟩ => by
    unfold evX at h
    split at h
    · rename_i u e
      obtain ⟨v, e1, r⟩ := en.at_ i u e
      exact ⟨v, e1, out_here st h r⟩
    · exact h.elim
theorem px_con {e : Expr} {v : V} {p : PyData} (h : PE X e (tC v)) (r : ∀ M H, Rp X.K M H v p) : PE X e (tX X.K T cl E c (.con p)) :=
  pe_imp h fun σ H Q ⟨ρ, M, S, en, st, h⟩ => by
    unfold evX at h
    exact out_here st h (r M H)
theorem px_bin {a b : Expr} {op : Operator} {pos : Pos} {x y : Ev.X} (ha : PE X a (tX X.K T cl E c x)) (hb : PE X b (tX X.K T cl E c y)) : PE X (.BinOp a op b pos) (tX X.K T cl E c (.bin op x y)) :=
  pe_imp (pe_op (bin_ok (T := T) (cl := cl) (E := E) op) ha hb) fun σ H Q ⟨ρ, M, S, en, st, h⟩ => by
    unfold evX at h
    exact tX_b en st h fun v M1 H1 S1 u g1 en1 st1 r1 h1 => tX_b en1 st1 h1 fun w M2 H2 S2 u2 g2 _ st2 r2 h2 => ⟨M2, S2, u, u2, r1.mono g2, r2, st2, h2⟩
theorem px_neg {a : Expr} {pos : Pos} {x : Ev.X} (ha : PE X a (tX X.K T cl E c x)) : PE X (.UnaryOp .USub a pos) (tX X.K T cl E c (.neg x)) :=
  pe_imp (pe_un un_neg ha) fun σ H Q ⟨ρ, M, S, en, st, h⟩ => by
    unfold evX at h
    refine tX_b en st h fun v M1 H1 S1 u g1 en1 st1 r1 h1 => ?_
    split at h1
    · cases r1
      exact ⟨_, rfl, out_here st1 h1 (Rp.int _)⟩
    · exact h1.elim
theorem out_tru {u : U} {v : V} {Q : Bool → Hp → Prop} (st : StOk K T M S H) (r : RU K M H v u) (h : Out K T cl E M H (R.of S ((deref S u).bind truD)) eqB Q) : ∃ k, TruV K v H k ∧ Q k H := by
  cases e1 : deref S u with
  | none => rw [e1] at h; exact h.elim
  | some p =>
    rw [e1] at h
    have h : Out K T cl E M H (R.of S (truD p)) eqB Q := h
    cases e2 : truD p with
    | none => rw [e2] at h; exact h.elim
    | some b =>
      rw [e2] at h
      exact ⟨b, truV_of r st e1 e2, out_here (a := b) st h rfl⟩
/-- an expression that is no and, or, not, if, comparison is tested by its truth -/
theorem pt_plain {a : Expr} {x : Ev.X} (ha : PE X a (tX X.K T cl E c x)) (he : ∀ whole, isTrue a X.env whole = (do let v ← whole; standAt a.pos; holding [v] (truthy v))) : PT X a (tTr X.K T cl E c x) :=
  pt_imp (pt_truth ha he) fun σ H Q ⟨ρ, M, S, en, st, h⟩ => tX_b en st h fun v M1 H1 S1 u g1 en1 st1 r1 h1 => out_tru st1 r1 h1
theorem bind_assoc {α β γ : Type} (r : R α) (f : α → Store → R β) (g : β → Store → R γ) : (r.bind f).bind g = r.bind fun a S => (f a S).bind g := by cases r <;> rfl
theorem of_bind {α β γ : Type} {o : Option α} {f : α → Store → R β} {rel : Ms → Hp → γ → β → Prop} {Q : γ → Hp → Prop} (h : Out K T cl E M H ((R.of S o).bind f) rel Q) : ∃ a, o = some a ∧ Out K T cl E M H (f a S) rel Q := by
  cases o with
  | none => exact h.elim
  | some a => exact ⟨a, rfl, h⟩
theorem bindO {α β : Type} {o : Option α} {f : α → Option β} {b : β} (h : o.bind f = some b) : ∃ a, o = some a ∧ f a = some b := by
  cases o with
  | none => cases h
  | some a => exact ⟨a, rfl, h⟩
theorem px_not {a : Expr} {pos : Pos} {x : Ev.X} (ha : PE X a (tX X.K T cl E c x)) : PE X (.UnaryOp .Not a pos) (tX X.K T cl E c (.not x)) :=
  pe_imp (pe_notT ha) fun σ H Q ⟨ρ, M, S, en, st, h⟩ => by
    unfold evX truR at h
    rw [bind_assoc] at h
    refine tX_b en st h fun v M1 H1 S1 u g1 en1 st1 r1 h1 => ?_
    obtain ⟨b, e, h2⟩ := of_bind h1
    obtain ⟨p, e1, e2⟩ := bindO e
    exact ⟨b, truV_of r1 st1 e1 e2, out_here st1 h2 (Rp.bl _)⟩
theorem pt_not' {a : Expr} {pos : Pos} {x : Ev.X} (ha : PT X a (tTr X.K T cl E c x)) : PT X (.UnaryOp .Not a pos) (tTr X.K T cl E c (.not x)) :=
  pt_imp (pt_not ha) fun σ H Q ⟨ρ, M, S, en, st, h⟩ => by
    unfold truR evX at h
    rw [bind_assoc] at h
    exact tTr_b en st h fun b M1 H1 S1 g1 en1 st1 h1 => out_here (b := !b) (a := !b) st1 h1 rfl
theorem px_cmp {a b : Expr} {op : CmpOp} {pos : Pos} {x y : Ev.X} (hu : X.A.units + 65 < cLine) (hm : behindInMarks op b = false) (ha : PE X a (tX X.K T cl E c x)) (hb : PE X b (tX X.K T cl E c y)) : PE X (.Compare a [op] [b] pos) (tX X.K T cl E c (.cmp op x y)) :=
  pe_imp (pe_cmpR (cmp_ok (T := T) (cl := cl) (E := E) op hu) ha hb hm) fun σ H Q ⟨ρ, M, S, en, st, h⟩ => by
    unfold evX at h
    exact tX_b en st h fun v M1 H1 S1 u g1 en1 st1 r1 h1 => tX_b en1 st1 h1 fun w M2 H2 S2 u2 g2 _ st2 r2 h2 => ⟨M2, S2, u, u2, r1.mono g2, r2, st2, h2⟩
/-- a truth value's truth -/
theorem out_trb {o : Option Bool} {Q : Bool → Hp → Prop} (h : Out K T cl E M H ((R.of S (o.map fun b => U.d (.bool b))).bind fun u S1 => R.of S1 ((deref S1 u).bind truD)) eqB Q) : Out K T cl E M H (R.of S (o.map fun b => U.d (.bool b))) (RU K) fun v H' => ∃ k, v = .bl k ∧ Q k H' := by
  cases o with
  | none => exact h.elim
  | some b =>
    intro v M' H' g s r
    cases (show Rp K M' H' v (.bool b) from r)
    exact ⟨b, rfl, h b M' H' g s rfl⟩
theorem pt_cmp' {a b : Expr} {op : CmpOp} {pos : Pos} {x y : Ev.X} (hu : X.A.units + 65 < cLine) (hm : behindInMarks op b = false) (ha : PE X a (tX X.K T cl E c x)) (hb : PE X b (tX X.K T cl E c y)) : PT X (.Compare a [op] [b] pos) (tTr X.K T cl E c (.cmp op x y)) :=
  pt_imp (pt_cmpR (cmp_ok (T := T) (cl := cl) (E := E) op hu) ha hb hm) fun σ H Q ⟨ρ, M, S, en, st, h⟩ => by
    unfold truR evX at h
    simp only [bind_assoc] at h
    exact tX_b en st h fun v M1 H1 S1 u g1 en1 st1 r1 h1 => tX_b en1 st1 h1 fun w M2 H2 S2 u2 g2 _ st2 r2 h2 => ⟨M2, S2, u, u2, r1.mono g2, r2, st2, out_trb h2⟩
/-- a chain: r's answer is asked, then the second comparison -/
theorem px_chn {a b d : Expr} {o p : CmpOp} {pos : Pos} {x y z : Ev.X} (hu : X.A.units + 65 < cLine) (hm : lastMarks [o, p] [b, d] = false) (ha : PE X a (tX X.K T cl E c x)) (hb : PE X b (tX X.K T cl E c y)) (hd : PE X d (tX X.K T cl E c z)) :
    PE X (.Compare a [o, p] [b, d] pos) (tX X.K T cl E c (.chn o p x y z)) :=
  pe_imp (pe_chain (cmp_ok (T := T) (cl := cl) (E := E) o hu) (cmp_ok (T := T) (cl := cl) (E := E) p hu) ha hb hd hm) fun σ H Q ⟨ρ, M, S, en, st, h⟩ => by
    unfold evX at h
    refine tX_b en st h fun v M1 H1 S1 u g1 en1 st1 r1 h1 => tX_b en1 st1 h1 fun w M2 H2 S2 u2 g2 en2 st2 r2 h2 => ⟨M2, S2, u, u2, r1.mono g2, r2, st2, ?_⟩
    obtain ⟨k, e, h3⟩ := of_bind h2
    dsimp only
    rw [e]
    intro v3 M3 H3 g3 st3 r3
    cases (show Rp X.K M3 H3 v3 (.bool k) from r3)
    refine ⟨k, rfl, ?_⟩
    cases k with
    | false => exact out_here st3 (Out.later h3 g3) (Rp.bl _)
    | true => exact tX_b (en2.mono g3) st3 (Out.later h3 g3) fun v4 M4 H4 S4 u4 g4 en4 st4 r4 h4 => ⟨M4, S4, u2, u4, (r2.mono g3).mono g4, r4, st4, h4⟩
theorem pt_chn' {a b d : Expr} {o p : CmpOp} {pos : Pos} {x y z : Ev.X} (hu : X.A.units + 65 < cLine) (hm : lastMarks [o, p] [b, d] = false) (ha : PE X a (tX X.K T cl E c x)) (hb : PE X b (tX X.K T cl E c y)) (hd : PE X d (tX X.K T cl E c z)) :
    PT X (.Compare a [o, p] [b, d] pos) (tTr X.K T cl E c (.chn o p x y z)) :=
  pt_imp (pt_chain (cmp_ok (T := T) (cl := cl) (E := E) o hu) (cmp_ok (T := T) (cl := cl) (E := E) p hu) ha hb hd hm) fun σ H Q ⟨ρ, M, S, en, st, h⟩ => by
    unfold truR evX at h
    simp only [bind_assoc] at h
    refine tX_b en st h fun v M1 H1 S1 u g1 en1 st1 r1 h1 => tX_b en1 st1 h1 fun w M2 H2 S2 u2 g2 en2 st2 r2 h2 => ⟨M2, S2, u, u2, r1.mono g2, r2, st2, ?_⟩
    obtain ⟨k, e, h3⟩ := of_bind h2
    dsimp only
    rw [e]
    intro v3 M3 H3 g3 st3 r3
    cases (show Rp X.K M3 H3 v3 (.bool k) from r3)
    refine ⟨k, rfl, ?_⟩
    cases k with
    | false => exact ⟨false, rfl, out_here (a := false) st3 (Out.later h3 g3) rfl⟩
    | true =>
      rw [if_pos rfl, bind_assoc] at h3
      exact tX_b (en2.mono g3) st3 (Out.later h3 g3) fun v4 M4 H4 S4 u4 g4 en4 st4 r4 h4 => ⟨M4, S4, u2, u4, (r2.mono g3).mono g4, r4, st4, out_trb h4⟩
end
end Ev
end

section
set_option Elab.async false
set_option linter.all false
set_option autoImplicit false
set_option maxRecDepth 100000
set_option maxHeartbeats 4000000
namespace Ev
open PySem PySem.Spec PyProof.Rows L2
section
variable {K : W.Frag} {T : List (Addr × Str)} {cl : Nat → Option Addr} {E : XK} {c : Cn} {X : Cx} {M : Ms} {H : Hp} {S : Store} {ρ : Rho} {σ : L2.St}
theorem asB_some {u : U} {b : Bool} (h : asB u = some b) : u = .d (.bool b) := by
  unfold asB at h
  split at h
  · cases h; rfl
  · cases h
/-- a truth value as a value -/
theorem out_asB {u : U} {v : V} {α β : Type} {f : Bool → Store → R α} {rel : Ms → Hp → β → α → Prop} {Q : β → Hp → Prop} (r : RU K M H v u) (h : Out K T cl E M H ((R.of S (asB u)).bind f) rel Q) : ∃ b, v = .bl b ∧ Out K T cl E M H (f b S) rel Q := by
  obtain ⟨b, e, h1⟩ := of_bind h
  have e' := asB_some e
  subst e'
  cases (show Rp K M H v (.bool b) from r)
  exact ⟨b, rfl, h1⟩
theorem px_and {a b : Expr} {rest : List Expr} {pos : Pos} {x y : Ev.X} (ha : PE X a (tX X.K T cl E c x)) (hb : PE X (.BoolOp .And (b :: rest) pos) (tX X.K T cl E c y)) : PE X (.BoolOp .And (a :: b :: rest) pos) (tX X.K T cl E c (.and x y)) :=
  pe_imp (pe_and ha hb) fun σ H Q ⟨ρ, M, S, en, st, h⟩ => by
    unfold evX boolR at h
    rw [bind_assoc] at h
    refine tX_b en st h fun v M1 H1 S1 u g1 en1 st1 r1 h1 => ?_
    obtain ⟨k, e, h2⟩ := out_asB r1 h1
    refine ⟨k, e, ?_⟩
    cases k with
    | false => exact out_here st1 h2 (Rp.bl _)
    | true => exact ⟨ρ, M1, S1, en1, st1, h2⟩
theorem px_or {a b : Expr} {rest : List Expr} {pos : Pos} {x y : Ev.X} (ha : PE X a (tX X.K T cl E c x)) (hb : PE X (.BoolOp .Or (b :: rest) pos) (tX X.K T cl E c y)) : PE X (.BoolOp .Or (a :: b :: rest) pos) (tX X.K T cl E c (.or x y)) :=
  pe_imp (pe_or ha hb) fun σ H Q ⟨ρ, M, S, en, st, h⟩ => by
    unfold evX boolR at h
    rw [bind_assoc] at h
    refine tX_b en st h fun v M1 H1 S1 u g1 en1 st1 r1 h1 => ?_
    obtain ⟨k, e, h2⟩ := out_asB r1 h1
    refine ⟨k, e, ?_⟩
    cases k with
    | true => exact out_here st1 h2 (Rp.bl _)
    | false => exact ⟨ρ, M1, S1, en1, st1, h2⟩
/-- a truth value that is asked for its truth -/
theorem bool_tru {x : Ev.X} {α β : Type} {f : Bool → Store → R α} {rel : Ms → Hp → β → α → Prop} {Q : β → Hp → Prop} (h : Out K T cl E M H ((boolR (evX c x ρ S)).bind f) rel Q) : Out K T cl E M H ((truR (evX c x ρ S)).bind f) rel Q := by
  cases e : evX c x ρ S with
  | ok u S1 =>
    rw [e] at h
    have h : Out K T cl E M H ((R.of S1 (asB u)).bind f) rel Q := h
    obtain ⟨b, e1, h1⟩ := of_bind h
    have e' := asB_some e1
    subst e'
    exact h1
  | exc k S1 => rw [e] at h; exact h
  | bad => rw [e] at h; exact h
theorem pw_and' {a b : Expr} {rest : List Expr} {pos : Pos} {x y : Ev.X} (ha : PT X a (tTr X.K T cl E c x)) (hb : PW X (.BoolOp .And (b :: rest) pos) (tTr X.K T cl E c y)) : PW X (.BoolOp .And (a :: b :: rest) pos) (tTr X.K T cl E c (.and x y)) :=
  pw_imp (pw_and ha hb) fun σ H Q ⟨ρ, M, S, en, st, h⟩ => by
    unfold truR evX at h
    rw [bind_assoc] at h
    refine tTr_b en st (bool_tru h) fun k M1 H1 S1 g1 en1 st1 h1 => ?_
    cases k with
    | false => exact out_here (a := false) st1 h1 rfl
    | true => exact ⟨ρ, M1, S1, en1, st1, h1⟩
theorem pw_or' {a b : Expr} {rest : List Expr} {pos : Pos} {x y : Ev.X} (ha : PT X a (tTr X.K T cl E c x)) (hb : PW X (.BoolOp .Or (b :: rest) pos) (tTr X.K T cl E c y)) : PW X (.BoolOp .Or (a :: b :: rest) pos) (tTr X.K T cl E c (.or x y)) :=
  pw_imp (pw_or ha hb) fun σ H Q ⟨ρ, M, S, en, st, h⟩ => by
    unfold truR evX at h
    rw [bind_assoc] at h
    refine tTr_b en st (bool_tru h) fun k M1 H1 S1 g1 en1 st1 h1 => ?_
    cases k with
    | true => exact out_here (a := true) st1 h1 rfl
    | false => exact ⟨ρ, M1, S1, en1, st1, h1⟩
theorem px_ife {d a b : Expr} {pos : Pos} {z x y : Ev.X} (hc : PT X d (tTr X.K T cl E c z)) (ha : PE X a (tX X.K T cl E c x)) (hb : PE X b (tX X.K T cl E c y)) : PE X (.IfExp d a b pos) (tX X.K T cl E c (.ife z x y)) :=
  pe_imp (pe_ifExp hc ha hb) fun σ H Q ⟨ρ, M, S, en, st, h⟩ => by
    unfold evX at h
    refine tTr_b en st h fun k M1 H1 S1 g1 en1 st1 h1 => ?_
    cases k with
    | true => exact ⟨ρ, M1, S1, en1, st1, h1⟩
    | false => exact ⟨ρ, M1, S1, en1, st1, h1⟩
/-- a if t else b as a test -/
theorem pt_ife' {d a b : Expr} {pos : Pos} {z x y : Ev.X} (hc : PT X d (tTr X.K T cl E c z)) (ha : PT X a (tTr X.K T cl E c x)) (hb : PT X b (tTr X.K T cl E c y)) : PT X (.IfExp d a b pos) (tTr X.K T cl E c (.ife z x y)) := by
  refine ⟨fun pins s σ H Q I ⟨ρ, M, S, en, st, h⟩ => ?_⟩
  unfold truR evX at h
  rw [bind_assoc] at h
  rw [PySem.isTrue]
  refine wpAny_bind (thn (hc.run pins s σ H (fun k H1 => if k = true then tTr X.K T cl E c x σ H1 Q else tTr X.K T cl E c y σ H1 Q) I (tTr_b en st h fun k M1 H1 S1 g1 en1 st1 h1 => ?_)) fun k s1 ⟨H1, I1, q1⟩ => ?_)
  · cases k with
    | true => exact ⟨ρ, M1, S1, en1, st1, h1⟩
    | false => exact ⟨ρ, M1, S1, en1, st1, h1⟩
  · cases k with
    | true => exact ha.run pins s1 σ H1 Q I1 q1
    | false => exact hb.run pins s1 σ H1 Q I1 q1
/-! ### arguments, displays, calls -/
theorem star_of {e : Expr} {es : List Expr} {env : Env} (h : starred e = false) : starEach (e :: es) env = (false, eval e env) :: starEach es env := by
  cases e <;> first | rfl | cases h
theorem pax_nil : PA X [] (tXs X.K T cl E c .nil) := pa_imp pa_nil fun σ H Q ⟨ρ, M, S, en, st, h⟩ => by
  unfold evXs at h
  exact out_here st h .nil
theorem pax_cons {e : Expr} {es : List Expr} {x : Ev.X} {xs : Xs} (hs : starred e = false) (ha : PE X e (tX X.K T cl E c x)) (hr : PA X es (tXs X.K T cl E c xs)) : PA X (e :: es) (tXs X.K T cl E c (.cons x xs)) :=
  pa_imp (pa_cons ha hr (star_of hs)) fun σ H Q ⟨ρ, M, S, en, st, h⟩ => by
    unfold evXs at h
    exact tX_b en st h fun v M1 H1 S1 u g1 en1 st1 r1 h1 => tXs_b en1 st1 h1 fun w M2 H2 S2 us g2 _ st2 r2 h2 => out_here st2 h2 (.cons (r1.mono g2) r2)
/-- no star among the arguments -/
def plain (es : List Expr) : Bool := es.all fun e => !starred e
theorem back_plain {es : List Expr} {pos : Pos} {env : Env} (h : plain es = true) : (backTo pos (starEach es env)).any (·.1) = false := by
  induction es with
  | nil => rfl
  | cons e r ih =>
    unfold plain at h
    rw [List.all_cons, Bool.and_eq_true] at h
    rw [star_of (by simpa using h.1)]
    show (false || (backTo pos (starEach r env)).any (·.1)) = false
    rw [ih h.2]
    rfl
theorem cL_plain {f : Expr → Option Ev.X} : ∀ {es : List Expr} {xs : Xs}, cL f es = some xs → plain es = true
  | [], _, _ => rfl
  | e :: r, xs, h => by
    unfold cL at h
    split at h
    · cases h
    · rename_i hs
      obtain ⟨x, _, h⟩ := bindO h
      obtain ⟨ys, h2, _⟩ := map_some h
      show (!starred e && plain r) = true
      rw [cL_plain h2]
      simp [hs]
theorem datas_of {us : List U} {vs : List V} {ps : List PyData} (h : RUs K M H vs us) (e : datas S us = some ps) : RpA K M H vs ps := by
  induction h generalizing ps with
  | nil => cases e; exact .nil
  | cons hu hr ih =>
    rename_i v vs u us
    cases u with
    | d p =>
      unfold datas at e
      obtain ⟨qs, e1, rfl⟩ := map_some e
      exact .cons hu (ih e1)
    | ref i => cases e
    | scr ns => cases e
    | obj a => cases e
    | it ds => cases e
theorem px_lst {es : List Expr} {pos : Pos} {xs : Xs} (ha : PA X es (tXs X.K T cl E c xs)) : PE X (.List es pos) (tX X.K T cl E c (.lst xs)) :=
  pe_imp (pe_lst ha) fun σ H Q ⟨ρ, M, S, en, st, h⟩ => by
    unfold evX at h
    refine tXs_b en st h fun v M1 H1 S1 us g1 en1 st1 r1 h1 => ?_
    cases e : datas S1 us with
    | none => rw [e] at h1; exact h1.elim
    | some ps =>
      rw [e] at h1
      have h1 : Out X.K T cl E M1 H1 (R.of S1 (if ps.length ≤ line then some (U.d (.list ps)) else none)) (RU X.K) Q := h1
      have rp := datas_of r1 e
      split at h1
      · rename_i hl
        exact ⟨by rw [rp.length, ← line_eq]; exact hl, fun p hp => Wish.list (ds := ps) h1 st1 hp rp⟩
      · exact h1.elim
theorem pe_tupF {es : List Expr} {k : Nat} {pos : Pos} {t : TA} (h : PA X es t) : PE X (.Tuple es k pos) (fun σ H Q => t σ H fun xs H1 => xs.length ≤ sizeLine ∧ NewT xs H1 Q) := by
  refine ⟨fun pins s σ H Q I hq => ?_⟩
  exact wpAny_Tuple_spliced (thn (h.run pos pins s σ H _ I hq) fun us s1 ⟨xs, H1, I1, r, z, q⟩ => ⟨by rw [← r.length]; exact z, new_tup I1 r z q⟩)
theorem px_tup {es : List Expr} {k : Nat} {pos : Pos} {xs : Xs} (ha : PA X es (tXs X.K T cl E c xs)) : PE X (.Tuple es k pos) (tX X.K T cl E c (.tup xs)) :=
  pe_imp (pe_tupF ha) fun σ H Q ⟨ρ, M, S, en, st, h⟩ => by
    unfold evX at h
    refine tXs_b en st h fun v M1 H1 S1 us g1 en1 st1 r1 h1 => ?_
    cases e : datas S1 us with
    | none => rw [e] at h1; exact h1.elim
    | some ps =>
      rw [e] at h1
      have h1 : Out X.K T cl E M1 H1 (R.of S1 (if ps.length ≤ line then some (U.d (.tuple ps)) else none)) (RU X.K) Q := h1
      have rp := datas_of r1 e
      split at h1
      · rename_i hl
        exact ⟨by rw [rp.length, ← line_eq]; exact hl, Wish.tuple (ds := ps) h1 st1 rp⟩
      · exact h1.elim
/-- the boxes that stand in values -/
theorem rus_lt : ∀ {vs : List V} {us : List U}, RUs K M H vs us → ∀ u, u ∈ us → ∀ j, u = .ref j → j < M.b.length
  | _, _, .nil, u, hu, _, _ => nomatch hu
  | _, _, .cons h r, u, hu, j, e => by
    rcases List.mem_cons.mp hu with rfl | hu
    · subst e
      obtain ⟨a, e1, _⟩ := h
      exact (List.getElem?_eq_some_iff.mp e1).1
    · exact rus_lt r u hu j e
/-- a new list of values of any kind -/
theorem bl_new {vs : List V} {us : List U} {Q : VK} {p : Addr} (st : StOk K T M S H) (r : RUs K M H vs us) (hp : H p = none) (h : Out K T cl E M H (.ok (.ref S.length) (S ++ [.bl us])) (RU K) Q) : Q (.ref p) (upd H p (.lst vs)) :=
  h (.ref p) (M.add p) _ (gr_box st hp) (st_boxG st hp ⟨vs, upd_same, r.mono (gr_box st hp)⟩ (fun u hu j e => by rw [← st.len]; exact rus_lt r u hu j e)) ⟨p, by show (M.b ++ [p])[S.length]? = _; rw [← st.len, List.getElem?_append_right (Nat.le_refl _)]; simp, rfl⟩
theorem bl_of {u : U} {v : V} {us : List U} (st : StOk K T M S H) (r : RU K M H v u) (e : blOf S u = some us) : ∃ i a vs, u = .ref i ∧ M.b[i]? = some a ∧ S[i]? = some (.bl us) ∧ v = .ref a ∧ H a = some (.lst vs) ∧ RUs K M H vs us := by
  unfold blOf at e
  split at e
  · rename_i i
    split at e
    · rename_i ws e2
      cases e
      obtain ⟨a, e3, e4⟩ := r
      obtain ⟨vs, h1, h2⟩ := st.box i a _ e3 e2
      exact ⟨i, a, vs, rfl, e3, e2, e4, h1, h2⟩
    · cases e
  · cases e
theorem px_box {es : List Expr} {pos : Pos} {xs : Xs} (ha : PA X es (tXs X.K T cl E c xs)) : PE X (.List es pos) (tX X.K T cl E c (.box xs)) :=
  pe_imp (pe_lst ha) fun σ H Q ⟨ρ, M, S, en, st, h⟩ => by
    unfold evX at h
    refine tXs_b en st h fun v M1 H1 S1 us g1 en1 st1 r1 h1 => ?_
    split at h1
    · rename_i ps e
      have rp := datas_of r1 e
      split at h1
      · rename_i hl
        refine ⟨by rw [rp.length, ← line_eq]; exact hl, fun p hp => ?_⟩
        exact h1 (.ref p) (M1.add p) _ (gr_box st1 hp) (st_box st1 hp rp) ⟨p, by show (M1.b ++ [p])[S1.length]? = _; rw [← st1.len, List.getElem?_append_right (Nat.le_refl _)]; simp, rfl⟩
      · exact h1.elim
    · split at h1
      case isFalse => exact h1.elim
      rename_i hl
      rw [Bool.and_eq_true, decide_eq_true_eq] at hl
      exact ⟨by rw [r1.length, ← line_eq]; exact hl.1, fun p hp => bl_new st1 r1 hp h1⟩
theorem px_idx {a b : Expr} {pos : Pos} {x y : Ev.X} (hu : X.A.units + 65 < cLine) (hs : isSlice b = false) (ha : PE X a (tX X.K T cl E c x)) (hb : PE X b (tX X.K T cl E c y)) : PE X (.Subscript a b pos) (tX X.K T cl E c (.idx x y)) :=
  pe_imp (pe_ix (idx_ok (T := T) (cl := cl) (E := E) hu) ha hb (fun _ _ => by cases b <;> first | rfl | cases hs)) fun σ H Q ⟨ρ, M, S, en, st, h⟩ => by
    unfold evX at h
    exact tX_b en st h fun v M1 H1 S1 u g1 en1 st1 r1 h1 => tX_b en1 st1 h1 fun w M2 H2 S2 u2 g2 _ st2 r2 h2 => ⟨M2, S2, u, u2, r1.mono g2, r2, st2, h2⟩
/-- a slice's part -/
def tPt (K : W.Frag) (T : List (Addr × Str)) (cl : Nat → Option Addr) (E : XK) (c : Cn) (ir : Xs) : TO := fun σ H Q => ∃ ρ M S, EnvOk K ρ σ M H ∧ StOk K T M S H ∧ Out K T cl E M H ((evXs c ir ρ S).bind fun us S1 => R.of S1 (optI us)) (fun _ _ (o o' : Option Int) => o = o') Q
theorem po_imp {e : Option Expr} {t t' : TO} (h : PO X e t) (i : ∀ σ H Q, t' σ H Q → t σ H Q) : PO X e t' := ⟨fun pins s σ H Q I q => h.run pins s σ H Q I (i σ H Q q)⟩
theorem pox_none : PO X none (tPt X.K T cl E c .nil) := po_imp po_none fun σ H Q ⟨ρ, M, S, en, st, h⟩ => by
  unfold evXs at h
  exact out_here (a := (none : Option Int)) st h rfl
theorem pox_some {e : Expr} {x : Ev.X} (ha : PE X e (tX X.K T cl E c x)) : PO X (some e) (tPt X.K T cl E c (.cons x .nil)) := po_imp (po_some ha) fun σ H Q ⟨ρ, M, S, en, st, h⟩ => by
  unfold evXs evXs at h
  rw [bind_assoc] at h
  refine tX_b en st h fun v M1 H1 S1 u g1 en1 st1 r1 h1 => ?_
  have h1 : Out X.K T cl E M1 H1 (R.of S1 (optI [u])) (fun _ _ (o o' : Option Int) => o = o') Q := h1
  unfold optI at h1
  split at h1
  · rename_i e; cases e
  · rename_i i e
    cases e
    cases (show Rp X.K M1 H1 v (.int i) from r1)
    exact ⟨i, rfl, out_here (a := some i) st1 h1 rfl⟩
  · exact h1.elim
theorem px_slc {a : Expr} {lo hi : Option Expr} {pos p2 : Pos} {x : Ev.X} {l h : Xs} (ha : PE X a (tX X.K T cl E c x)) (hl : PO X lo (tPt X.K T cl E c l)) (hh : PO X hi (tPt X.K T cl E c h)) : PE X (.Subscript a (.Slice lo hi none p2) pos) (tX X.K T cl E c (.slc x l h)) :=
  pe_imp (pe_slice (slc_ok (T := T)) ha hl hh) fun σ H Q ⟨ρ, M, S, en, st, q⟩ => by
    unfold evX at q
    refine tX_b en st q fun v M1 H1 S1 u g1 en1 st1 r1 q1 => ?_
    refine ⟨ρ, M1, S1, en1, st1, Out.mono (Out.bind (rel := fun _ _ (o o' : Option Int) => o = o') q1) fun o H2 ⟨M2, S2, o', g2, st2, e2, q2⟩ => ?_⟩
    cases (show o = o' from e2)
    refine ⟨ρ, M2, S2, en1.mono g2, st2, Out.mono (Out.bind (rel := fun _ _ (o o' : Option Int) => o = o') q2) fun o3 H3 ⟨M3, S3, o4, g3, st3, e3, q3⟩ => ?_⟩
    cases (show o3 = o4 from e3)
    obtain ⟨r, e4, w⟩ := out_data q3
    obtain ⟨p, e5, e6⟩ := bindO e4
    exact ⟨M3, S3, u, p, r, (r1.mono g2).mono g3, st3, e5, e6, w⟩
/-- x[::-1] -/
theorem px_rev {e : Expr} {k : Nat} {p1 p2 p3 pos : Pos} {x : Ev.X} (he : PE X e (tX X.K T cl E c x)) : PE X (.Subscript e (.Slice none none (some (.UnaryOp .USub (.Constant (.int 1) k p1) p2)) p3) pos) (tX X.K T cl E c (.rev x)) :=
  pe_imp (pe_revA (T := T) he) fun σ H Q ⟨ρ, M, S, en, st, h⟩ => by
    unfold evX at h
    refine tX_b en st h fun v M1 H1 S1 u g1 en1 st1 r1 h1 => ?_
    obtain ⟨r, e4, w⟩ := out_data h1
    obtain ⟨p, e5, e6⟩ := bindO e4
    exact ⟨M1, S1, p, r, rs_of r1 st1 e5, st1, e6, w⟩
/-! ### calls -/
theorem px_call {g : Cfg} {k l : Nat} {N : List Str} {sc : Scope} {fb : Fb} (G : Good g T cl c k l X N sc fb) (tk : L2N.Takes X fun d a _ H => E d a H) {f : Str} {i : Nat} {es : List Expr} {xs : Xs} {p pos : Pos} (ho : odd f = false) (hg : glB sc f = true) (hi : g.fnIx f = some i)
    (hp : plain es = true) (hn : es = [] → xs = .nil) (ha : PA X es (tXs X.K T cl E c xs)) : PE X (.Call (.Name f p) es [] pos) (tX X.K T cl E c (.call i xs)) := by
  obtain ⟨a, fd, ps, fn, e1, e2, e3, e4, e5, F, _⟩ := G.fns f i hi
  have hx : Passes (L2N.CX X.prog X.w) X E := L2N.passes_call tk fun _ _ _ _ z => z
  have fin : ∀ {M1 : Ms} {S1 : Store} {H1 : Hp} {v : List V} {us : List U} {Q : VK}, StOk X.K T M1 S1 H1 → RUs X.K M1 H1 v us → Out X.K T cl E M1 H1 (c.call i us S1) (RU X.K) Q → spC X.K T cl c.call i fn (v ++ []) H1 Q E := fun {M1 S1 H1 v us Q} st1 r1 h1 => by
    rw [List.append_nil]
    refine ⟨M1, S1, us, r1, st1, ?_, h1⟩
    by_cases hl : us.length = fn
    · exact hl
    · rw [G.ar i fn us S1 e1 hl] at h1
      exact h1.elim
  cases es with
  | nil =>
    have e := hn rfl
    subst e
    exact pe_imp (pe_call0 F G.room (gl_of G.scope hg) e3 e4 e5 .nil hx (odd_of ho).1) fun σ H Q ⟨ρ, M, S, en, st, h⟩ => fin (v := []) st .nil h
  | cons e r =>
    have hp' : starred e = false ∧ plain r = true := by
      unfold plain at hp
      rw [List.all_cons, Bool.and_eq_true] at hp
      exact ⟨by simpa using hp.1, hp.2⟩
    refine pe_imp (pe_call F G.room (gl_of G.scope hg) e3 e4 e5 .nil hx ha (odd_of ho).1 (star_of hp'.1) (back_plain hp'.2)) fun σ H Q ⟨ρ, M, S, en, st, h⟩ => ?_
    unfold evX at h
    exact tXs_b en st h fun v M1 H1 S1 us g1 en1 st1 r1 h1 => fin st1 r1 h1
/-- a built-in of one argument -/
theorem fin_blt {b : Blt} {x : Ev.X} {σ : L2.St} {H : Hp} {Q : VK} (h : tX K T cl E c (.blt b x) σ H Q) : tCons (tX K T cl E c x) tNil σ H fun vs H1 => rB K T b vs H1 Q := by
  obtain ⟨ρ, M, S, en, st, h⟩ := h
  unfold evX at h
  refine tX_b en st h fun v M1 H1 S1 u g1 en1 st1 r1 h1 => ?_
  obtain ⟨r, e, w⟩ := out_data h1
  obtain ⟨p, e1, e2⟩ := bindO e
  exact ⟨M1, S1, v, u, p, r, rfl, r1, st1, e1, e2, w⟩
theorem px_bltB {b : Blt} {f : Str} {id : String} {a : Expr} {x : Ev.X} {p pos : Pos} {sc : Scope} (hsc : X.env.scope = sc) (hc : CallR X (.builtin id) (rB X.K T b)) (ho : odd f = false) (hg : glB sc f = true) (hm : X.mg f = none) (hv : bootBuiltins f = some (.builtin id)) (hs : starred a = false) (ha : PE X a (tX X.K T cl E c x)) :
    PE X (.Call (.Name f p) [a] [] pos) (tX X.K T cl E c (.blt b x)) :=
  pe_imp (pe_callB hc (gl_of hsc hg) hm hv (pa_cons ha pa_nil (star_of hs)) (odd_of ho).2.2 (odd_of ho).1 (star_of hs) rfl) fun σ H Q h => fin_blt h
theorem px_bltT {b : Blt} {f : Str} {id : String} {a : Expr} {x : Ev.X} {p pos : Pos} {sc : Scope} (hsc : X.env.scope = sc) (hc : CallR X (.type id) (rB X.K T b)) (ho : odd f = false) (hg : glB sc f = true) (hm : X.mg f = none) (hv : bootBuiltins f = some (.type id)) (hs : starred a = false) (ha : PE X a (tX X.K T cl E c x)) :
    PE X (.Call (.Name f p) [a] [] pos) (tX X.K T cl E c (.blt b x)) :=
  pe_imp (pe_callTy hc (gl_of hsc hg) hm hv (pa_cons ha pa_nil (star_of hs)) (odd_of ho).2.2 (odd_of ho).1 (star_of hs) rfl) fun σ H Q h => fin_blt h
theorem blt_names : ∀ {f : Str} {b : Blt}, bltOf f = some b → f ∈ bltNames := fun {f b} h => by
  unfold bltOf at h
  repeat (split at h; (rename_i e; subst e; simp))
  cases h
theorem px_blt {g : Cfg} {k l : Nat} {N : List Str} {sc : Scope} {fb : Fb} (G : Good g T cl c k l X N sc fb) {b : Blt} {f : Str} {a : Expr} {x : Ev.X} {p pos : Pos} (ho : odd f = false) (hg : glB sc f = true) (hb : bltOf f = some b) (hs : starred a = false) (ha : PE X a (tX X.K T cl E c x)) :
    PE X (.Call (.Name f p) [a] [] pos) (tX X.K T cl E c (.blt b x)) := by
  have hm := G.blts f (blt_names hb)
  unfold bltOf at hb
  split at hb
  · rename_i e; subst e; cases hb; exact px_bltB G.scope blt_len ho hg hm (by decide +kernel) hs ha
  split at hb
  · rename_i e; subst e; cases hb; exact px_bltB G.scope (blt_all G.calm) ho hg hm (by decide +kernel) hs ha
  split at hb
  · rename_i e; subst e; cases hb; exact px_bltB G.scope (blt_sum G.calm) ho hg hm (by decide +kernel) hs ha
  split at hb
  · rename_i e; subst e; cases hb; exact px_bltT G.scope blt_int ho hg hm (by decide +kernel) hs ha
  split at hb
  · rename_i e; subst e; cases hb; exact px_bltT G.scope blt_bool ho hg hm (by decide +kernel) hs ha
  split at hb
  · rename_i e; subst e; cases hb; exact px_bltB G.scope blt_abs ho hg hm (by decide +kernel) hs ha
  split at hb
  · rename_i e; subst e; cases hb; exact px_bltT G.scope blt_tuple ho hg hm (by decide +kernel) hs ha
  split at hb
  · rename_i e; subst e; cases hb; exact px_bltT G.scope blt_list ho hg hm (by decide +kernel) hs ha
  split at hb
  · rename_i e; subst e; cases hb; exact px_bltB G.scope (blt_sorted G.calm (by have := G.room.un; omega)) ho hg hm (by decide +kernel) hs ha
  split at hb
  · rename_i e; subst e; cases hb; exact px_bltT G.scope blt_str ho hg hm (by decide +kernel) hs ha
  split at hb
  · rename_i e; subst e; cases hb; exact px_bltB G.scope (blt_min G.calm (by have := G.room.un; omega)) ho hg hm (by decide +kernel) hs ha
  split at hb
  · rename_i e; subst e; cases hb; exact px_bltB G.scope (blt_max G.calm (by have := G.room.un; omega)) ho hg hm (by decide +kernel) hs ha
  cases hb
/-- max(a, b) of two whole numbers -/
theorem px_max2 {g : Cfg} {k l : Nat} {N : List Str} {sc : Scope} {fb : Fb} (G : Good g T cl c k l X N sc fb) {a b : Expr} {x y : Ev.X} {p pos : Pos} (hg : glB sc "max" = true) (hs : starred a = false) (hs2 : starred b = false) (ha : PE X a (tX X.K T cl E c x)) (hb : PE X b (tX X.K T cl E c y)) :
    PE X (.Call (.Name "max" p) [a, b] [] pos) (tX X.K T cl E c (.max2 x y)) :=
  pe_imp (pe_callB (call_max2 G.calm) (gl_of G.scope hg) (G.blts _ (by simp)) (by decide +kernel) (pa_cons ha (pa_cons hb pa_nil (star_of hs2)) (star_of hs)) (by decide +kernel) (by decide +kernel) (star_of hs) (by rw [star_of hs2]; rfl)) fun σ H Q ⟨ρ, M, S, en, st, h⟩ => by
    unfold evX at h
    refine tX_b en st h fun v M1 H1 S1 u g1 en1 st1 r1 h1 => tX_b en1 st1 h1 fun w M2 H2 S2 u2 g2 _ st2 r2 h2 => ?_
    split at h2
    · rename_i i j
      cases (show Rp X.K M2 H2 v (.int i) from r1.mono g2)
      cases (show Rp X.K M2 H2 w (.int j) from r2)
      exact ⟨i, j, rfl, out_here st2 h2 (Rp.int _)⟩
    · exact h2.elim
/-- d.get(k, x) -/
theorem px_get {o a b : Expr} {x y z : Ev.X} {apos pos : Pos} (hu : X.A.units + 65 < cLine) (hs : starred a = false) (hs2 : starred b = false) (hbc : bareCall o = false) (hl : (apos.endLine == pos.line) = true) (ho : PE X o (tX X.K T cl E c x)) (ha : PE X a (tX X.K T cl E c y)) (hb : PE X b (tX X.K T cl E c z)) :
    PE X (.Call (.Attribute o "get" apos) [a, b] [] pos) (tX X.K T cl E c (.get x y z)) := by
  have hbase : attributeBase o "get" X.env (eval o X.env) = eval o X.env := by
    unfold attributeBase
    split
    · cases hbc
    · rfl
  have tr : starEach [a, b] X.env = [(false, eval a X.env), (false, eval b X.env)] := by rw [star_of hs, star_of hs2]; rfl
  refine pe_imp (pe_getD hu ho ha hb ⟨hbase, by rw [tr]; rfl, hl, by rw [tr]; rfl⟩) fun σ H Q ⟨ρ, M, S, en, st, h⟩ => ?_
  unfold evX at h
  refine tX_b en st h fun v M1 H1 S1 u g1 en1 st1 r1 h1 => ?_
  split at h1
  case isFalse => exact h1.elim
  rename_i hd
  obtain ⟨kvs1, e1⟩ := Option.isSome_iff_exists.mp hd
  obtain ⟨ad, rfl, d1⟩ := dct_of r1 st1 e1
  refine ⟨M1, _, ad, rfl, d1.ks, tX_b en1 st1 h1 fun w M2 H2 S2 u2 g2 en2 st2 r2 h2 => tX_b en2 st2 h2 fun w3 M3 H3 S3 u3 g3 _ st3 r3 h3 => ?_⟩
  cases e3 : dctOf S3 u with
  | none => rw [e3] at h3; exact h3.elim
  | some kvs =>
    rw [e3] at h3
    have h3 : Out X.K T cl E M3 H3 (R.of S3 (getOr kvs u2 u3)) (RU X.K) Q := h3
    cases e4 : getOr kvs u2 u3 with
    | none => rw [e4] at h3; exact h3.elim
    | some q =>
      rw [e4] at h3
      obtain ⟨ad2, e5, d3⟩ := dct_of ((r1.mono g2).mono g3) st3 e3
      cases e5
      unfold getOr at e4
      split at e4
      case h_2 => cases e4
      rename_i kk
      split at e4
      case isFalse => cases e4
      rename_i hk
      rw [Bool.and_eq_true] at hk
      cases e4
      exact ⟨M3, kvs, kk, u3, d3, hk.1, r2.mono g3, r3, fun v rv => (show Out X.K T cl E M3 H3 (.ok ((dFind kvs kk).getD u3) S3) (RU X.K) Q from h3) v M3 H3 (Gr.refl _ _) st3 rv⟩
/-- x.pop() -/
theorem px_pop {x : Str} {i : Nat} {p apos pos : Pos} (hi : X.N[i]? = some x) (hv : Vis X.env.scope x) (ho : odd x = false) (hl : (apos.endLine == pos.line) = true) : PE X (.Call (.Attribute (.Name x p) "pop" apos) [] [] pos) (tX X.K T cl E c (.pop i)) :=
  pe_imp (pe_bm0 F.plainAttrs_list F.slot_list_pop F.type_list_pop mt_pop (pe_var (i := i) hi hv (odd_of ho).1 (odd_of ho).2.1) rfl hl) fun σ H Q ⟨ρ, M, S, en, st, h⟩ => by
    unfold evX at h
    split at h
    case h_2 => exact h.elim
    rename_i b hb
    obtain ⟨w, e1, a, e2, rfl⟩ := en.at_ i _ hb
    refine ⟨_, e1, ?_⟩
    unfold popB at h
    split at h
    case h_2 => exact h.elim
    rename_i ds eb
    split at h
    case h_2 => exact h.elim
    rename_i d ed
    obtain ⟨xs, e5, r5⟩ := st.lst e2 eb
    have hm := List.mem_of_getElem? e2
    have e6 : ds[ds.length - 1]? = some d := by rw [← List.getLast?_eq_getElem?]; exact ed
    obtain ⟨v, e7, r7⟩ := r5.get e6
    have gw : Gr M H M (upd H a (.lst xs.dropLast)) := gr_wr M hm (fun ps z => by cases z) (lst_frz e5)
    have rd : RpA X.K M H xs.dropLast ds.dropLast := by
      rw [List.dropLast_eq_take, List.dropLast_eq_take, r5.length]
      exact r5.take _
    exact ⟨.inl ⟨rfl, xs, SqL.of e5⟩, a, xs, v, rfl, rfl, e5, by rw [r5.length]; exact e7, h v M _ gw (st_put st e2 e5 rd) (Rp.mono gw r7)⟩
/-- a + b, a new list that is changed later -/
theorem px_badd {a b : Expr} {pos : Pos} {x y : Ev.X} (ha : PE X a (tX X.K T cl E c x)) (hb : PE X b (tX X.K T cl E c y)) : PE X (.BinOp a .Add b pos) (tX X.K T cl E c (.badd x y)) :=
  pe_imp (pe_op op_cat ha hb) fun σ H Q ⟨ρ, M, S, en, st, h⟩ => by
    unfold evX at h
    refine tX_b en st h fun v M1 H1 S1 u g1 en1 st1 r1 h1 => tX_b en1 st1 h1 fun w M2 H2 S2 u2 g2 _ st2 r2 h2 => ?_
    unfold catB at h2
    split at h2
    case h_2 =>
      split at h2
      case h_2 => exact h2.elim
      rename_i us vs e1 e2
      split at h2
      case isFalse => exact h2.elim
      rename_i hz
      obtain ⟨i1, a1, xs, rfl, b1, s1, rfl, h3, r3⟩ := bl_of st2 (r1.mono g2) e1
      obtain ⟨i2, a2, ys, rfl, b2, s2, rfl, h4, r4⟩ := bl_of st2 r2 e2
      exact ⟨a1, a2, xs, ys, rfl, rfl, h3, h4, by rw [r3.length, r4.length, ← line_eq]; exact hz, fun p hp => bl_new st2 (r3.append r4) hp h2⟩
    rename_i as bs e1 e2
    split at h2
    case isFalse => exact h2.elim
    rename_i hz
    obtain ⟨a1, xs, rfl, h3, r3⟩ := rs_of (r1.mono g2) st2 e1
    obtain ⟨a2, ys, rfl, h4, r4⟩ := rs_of r2 st2 e2
    refine ⟨a1, a2, xs, ys, rfl, rfl, h3, h4, by rw [r3.length, r4.length, ← line_eq]; exact hz, fun p hp => ?_⟩
    have rr := r3.append r4
    exact h2 (.ref p) (M2.add p) _ (gr_box st2 hp) (st_box st2 hp rr) ⟨p, by show (M2.b ++ [p])[S2.length]? = _; rw [← st2.len, List.getElem?_append_right (Nat.le_refl _)]; simp, rfl⟩
/-- {}, changed later -/
theorem px_dnew0 {pos : Pos} : PE X (.Dict [] [] pos) (tX X.K T cl E c (.dnew .nil)) :=
  pe_imp pe_dnewD fun σ H Q ⟨ρ, M, S, en, st, h⟩ => by
    unfold evX evXs at h
    intro p o hp d
    have h : Out X.K T cl E M H (.ok (.ref S.length) (S ++ [.dct false []])) (RU X.K) Q := h
    exact h (.ref p) (M.add p) _ (gr_box st hp) (st_boxG st hp (.inl ⟨o, [], upd_same, d, .nil, .nil⟩) (fun q hq => nomatch hq)) ⟨p, by show (M.b ++ [p])[S.length]? = _; rw [← st.len, List.getElem?_append_right (Nat.le_refl _)]; simp, rfl⟩
/-- len(set(a)) -/
theorem px_lenset {g : Cfg} {k l : Nat} {N : List Str} {sc : Scope} {fb : Fb} (G : Good g T cl c k l X N sc fb) {f : Str} {a b : Expr} {x : Ev.X} {p pos : Pos} (hg : glB sc f = true) (h : setArg sc f a = some b) (hb : PE X b (tX X.K T cl E c x)) :
    PE X (.Call (.Name f p) [a] [] pos) (tX X.K T cl E c (.blt .lenset x)) := by
  unfold setArg at h
  split at h
  · split at h
    · rename_i hc
      simp only [Bool.and_eq_true, Bool.not_eq_true', decide_eq_true_eq] at hc
      obtain ⟨⟨⟨rfl, rfl⟩, h3⟩, h4⟩ := hc
      cases h
      refine pe_imp (pe_lenset (T := T) G.calm (by have := G.room.un; omega) (gl_of G.scope hg) (G.blts _ (by simp)) (gl_of G.scope h3) (G.blts _ (by simp)) hb (star_of h4)) fun σ H Q ⟨ρ, M, S, en, st, q⟩ => ?_
      unfold evX at q
      refine tX_b en st q fun v M1 H1 S1 u g1 en1 st1 r1 h1 => ?_
      obtain ⟨r, e, w⟩ := out_data h1
      obtain ⟨d, e1, e2⟩ := bindO e
      exact ⟨M1, S1, d, r, rs_of r1 st1 e1, st1, e2, w⟩
    · cases h
  · cases h
theorem px_isi {g : Cfg} {k l : Nat} {N : List Str} {sc : Scope} {fb : Fb} (G : Good g T cl c k l X N sc fb) {t : Str} {D : String} {a : Expr} {x : Ev.X} {p q pos : Pos} (hg : glB sc "isinstance" = true) (hgt : glB sc t = true) (ht : tyOf t = some D) (hs : starred a = false) (ha : PE X a (tX X.K T cl E c x)) :
    PE X (.Call (.Name "isinstance" p) [a, .Name t q] [] pos) (tX X.K T cl E c (.blt (.isi D) x)) := by
  have hD : D ∈ askT ∧ bootBuiltins t = some (.type D) ∧ t ∈ bltNames ∧ t ≠ "__name__" ∧ (t == ("__debug__" : Str)) = false := by
    unfold tyOf at ht
    split at ht
    · rename_i e; subst e; cases ht; exact ⟨by decide, by decide +kernel, by simp, by decide +kernel, by decide +kernel⟩
    split at ht
    · rename_i e; subst e; cases ht; exact ⟨by decide, by decide +kernel, by simp, by decide +kernel, by decide +kernel⟩
    split at ht
    · rename_i e; subst e; cases ht; exact ⟨by decide, by decide +kernel, by simp, by decide +kernel, by decide +kernel⟩
    split at ht
    · rename_i e; subst e; cases ht; exact ⟨by decide, by decide +kernel, by simp, by decide +kernel, by decide +kernel⟩
    split at ht
    · rename_i e; subst e; cases ht; exact ⟨by decide, by decide +kernel, by simp, by decide +kernel, by decide +kernel⟩
    cases ht
  refine pe_imp (pe_callB (blt_isi (T := T) hD.1) (gl_of G.scope hg) (G.blts _ (by simp)) (by decide +kernel) (pa_cons ha (pa_cons (pe_bltn (v := .ty D) (gl_of G.scope hgt) (G.blts t hD.2.2.1) hD.2.1 rfl hD.2.2.2.1 hD.2.2.2.2) pa_nil) (star_of hs)) (by decide +kernel) (by decide +kernel) (star_of hs) rfl) fun σ H Q ⟨ρ, M, S, en, st, h⟩ => ?_
  unfold evX at h
  refine tX_b en st h fun v M1 H1 S1 u g1 en1 st1 r1 h1 => ?_
  obtain ⟨r, e, w⟩ := out_data h1
  obtain ⟨p, e1, e2⟩ := bindO e
  exact ⟨M1, S1, v, u, p, r, rfl, r1, st1, e1, e2, w⟩
end
end Ev
end

section
set_option Elab.async false
set_option linter.all false
set_option autoImplicit false
set_option maxRecDepth 100000
set_option maxHeartbeats 4000000
/-! # Methods of texts, what is walked, targets, comprehensions -/
namespace Ev
open PySem PySem.Spec PyProof.Rows L2
section
variable {K : W.Frag} {T : List (Addr × Str)} {cl : Nat → Option Addr} {E : XK} {c : Cn} {X : Cx} {M : Ms} {H : Hp} {S : Store} {ρ : Rho} {σ : L2.St}
theorem fin_mth {m : Mth} (hm : ∀ p, seqM m p = false) {x y : Ev.X} {σ : L2.St} {H : Hp} {Q : VK} (h : tX K T cl E c (.mth m x (.cons y .nil)) σ H Q) : tM1 (rM K T m) (tX K T cl E c x) (tX K T cl E c y) σ H Q := by
  obtain ⟨ρ, M, S, en, st, h⟩ := h
  unfold evX at h
  refine tX_b en st h fun v M1 H1 S1 u g1 en1 st1 r1 h1 => ?_
  split at h1
  · rename_i z
    refine ⟨⟨z, (show Rp K M1 H1 v (.str z) from r1).rs.str⟩, ?_⟩
    unfold evXs at h1
    rw [bind_assoc] at h1
    refine tX_b en1 st1 h1 fun w M2 H2 S2 u2 g2 _ st2 r2 h2 => ?_
    rw [bind_assoc] at h2
    unfold evXs at h2
    have h2 : Out K T cl E M2 H2 (R.of S2 (((derefs S2 [u2]).bind fun ps => mthD m (.str z) ps).map U.d)) (RU K) Q := h2
    obtain ⟨r, e, w2⟩ := out_data h2
    obtain ⟨ps, e1, e2⟩ := bindO e
    exact ⟨M2, S2, .d (.str z), [u2], .str z, ps, r, r1.mono g2, .cons r2 .nil, st2, rfl, e1, e2, w2⟩
  · rw [if_neg] at h1
    · exact h1.elim
    · intro z
      obtain ⟨p, _, e⟩ := map_some z
      rw [hm p] at e
      cases e
/-- the receiver has come to u: what is asked of a rule for it -/
theorem mth_at {m : Mth} {x y : Ev.X} {u : U} {S1 : Store} {Q : VK} {kd : PyData → Bool} {Rq : V → Hp → Prop} (en : EnvOk K ρ σ M H) (st : StOk K T M S H) (e : evX c x ρ S = .ok u S1)
    (hR : ∀ {v M' H'}, StOk K T M' S1 H' → RU K M' H' v u → Rq v H') (hk : ∀ {S2 p q r}, deref S2 u = some p → mthD m p [q] = some r → kd p = true)
    (h : Out K T cl E M H ((evXs c (.cons y .nil) ρ S1).bind fun us S2 => R.of S2 (((deref S2 u).bind fun p => (derefs S2 us).bind fun ps => mthD m p ps).map U.d)) (RU K) Q) :
    tX K T cl E c x σ H fun v H1 => Rq v H1 ∧ tX K T cl E c y σ H1 fun w H2 => rMK K T m kd v [w] H2 Q := by
  refine ⟨ρ, M, S, en, st, ?_⟩
  rw [e]
  intro v M1 H1 g1 st1 r1
  refine ⟨hR st1 r1, ?_⟩
  have h1 := Out.later h g1
  unfold evXs at h1
  rw [bind_assoc] at h1
  refine tX_b (en.mono g1) st1 h1 fun w M2 H2 S2 u2 g2 _ st2 r2 h2 => ?_
  rw [bind_assoc] at h2
  unfold evXs at h2
  have h2 : Out K T cl E M2 H2 (R.of S2 (((deref S2 u).bind fun p => (derefs S2 [u2]).bind fun ps => mthD m p ps).map U.d)) (RU K) Q := h2
  obtain ⟨r, e1, w2⟩ := out_data h2
  obtain ⟨p, e2, e3⟩ := bindO e1
  obtain ⟨ps, e4, e5⟩ := bindO e3
  unfold derefs at e4
  obtain ⟨q, e6, e7⟩ := bindO e4
  cases e7
  exact ⟨M2, S2, w, p, q, r, rfl, rs_of (r1.mono g2) st2 e2, rs_of r2 st2 e6, st2, hk e2 e5, e5, w2⟩
theorem pe_or {e : Expr} {t t' : TE} (h : PE X e t) (h' : PE X e t') : PE X e (fun σ H Q => t σ H Q ∨ t' σ H Q) := ⟨fun pins s σ H Q I q => q.elim (h.run pins s σ H Q I) (h'.run pins s σ H Q I)⟩
theorem tyv_list {v : V} {u : U} {S1 : Store} {ds : List PyData} (st : StOk K T M S1 H) (r : RU K M H v u) (e : deref S1 u = some (.list ds)) : tyV K "list" v H := by
  obtain ⟨a, xs, rfl, h2, h3⟩ := (rs_of r st e)
  exact .inl ⟨rfl, xs, SqL.of h2⟩
theorem tup_is {pins : List (Addr × Obj)} {s : Shared} {a : Addr} {xs : List V} (I : Inv X pins σ H s) (h : TupAt X.K M H a xs) : s.TypeIs (.ref a) "tuple" ∧ ∀ b, Value.ref a = .ref b → ∃ ob, s.heap.get? b = some ob ∧ ob.dict = none := by
  rcases h with ⟨_, o, hd, h⟩ | ⟨o, its, n, h1, h2, h3, _⟩
  · obtain ⟨e, _, its, _, o2, e2, hc, _⟩ := I.hok a _ h
    rw [e] at e2
    cases e2
    exact ⟨⟨o, e, hc⟩, fun b z => by cases z; exact ⟨o, e, hd⟩⟩
  · have e := I.kIn a o h1
    exact ⟨⟨o, e, h2⟩, fun b z => by cases z; exact ⟨o, e, h3⟩⟩
/-- a method of a tuple -/
theorem pe_bmT {o e : Expr} {es : List Expr} {to : TE} {t : TA} {name : Str} {apos cpos : Pos} {id : String} {r : V → List V → Hp → VK → Prop} (slot : Slot "tuple" name id) (hty : typeOf (.builtin id) = pure (.type "method_descriptor")) (hm : MtR X id r) (ho : PE X o to) (ha : PA X (e :: es) t)
    (hbase : attributeBase o name X.env (eval o X.env) = eval o X.env)
    (hfew : ((backTo cpos (starEach (e :: es) X.env)).all (fun x => !x.1) && (backToKw cpos (keywordEach [] X.env)).all (fun x => x.1.isSome)
      && decide ((e :: es).length + ([] : List Keyword).length + (if ([] : List Keyword).isEmpty then 0 else 1) < 30)) = true)
    (hline : (apos.endLine == cpos.line) = true) (hs : starEach (e :: es) X.env = (false, eval e X.env) :: starEach es X.env) (hplain : (backTo cpos (starEach es X.env)).any (·.1) = false) :
    PE X (.Call (.Attribute o name apos) (e :: es) [] cpos) (fun σ H Q => to σ H fun x H1 => (∃ M a xs, x = .ref a ∧ TupAt X.K M H1 a xs) ∧ t σ H1 fun xs H2 => r x xs H2 Q) := by
  refine ⟨fun pins s σ H Q I h => ?_⟩
  refine wpAny_Call_method_late hbase hfew hline rfl (thn (ho.run pins s σ H _ I h) fun v s1 ⟨x, H1, I1, r1, ⟨M, a, xs, ex, ty⟩, q1⟩ => ?_)
  subst ex
  cases r1
  obtain ⟨h1, h2⟩ := tup_is I1 ty
  refine ⟨"tuple", id, F.plainAttrs_tuple, slot, hty, h1, h2, ?_⟩
  have hA := ha.run cpos pins s1 σ H1 _ I1 q1
  rw [hs] at hA ⊢
  refine Calls.callWith_builtin (by show (false || (backTo cpos (starEach es X.env)).any (·.1)) = false; rw [hplain] <;> rfl) (Calls.evalArgs_plain ?_)
  exact thn hA fun us s2 ⟨vs, H2, I2, r2, q2⟩ => hm pins s2 σ H2 (.ref a) vs (.ref a) us Q I2 rfl r2 q2
theorem few_one {a : Expr} {pos : Pos} (hs : starred a = false) : ((backTo pos (starEach [a] X.env)).all (fun x => !x.1) && (backToKw pos (keywordEach [] X.env)).all (fun x => x.1.isSome)
      && decide (([a] : List Expr).length + ([] : List Keyword).length + (if ([] : List Keyword).isEmpty then 0 else 1) < 30)) = true := by
  rw [star_of hs]
  rfl
theorem fin_seq {m : Mth} {x y : Ev.X} {Q : VK} {u : U} {S1 : Store} (hu : ∀ z, u ≠ .d (.str z)) (h : Out K T cl E M H (match u with
    | .d (.str z) => (evXs c (.cons y .nil) ρ S1).bind fun us S2 => R.of S2 (((derefs S2 us).bind fun ps => mthD m (.str z) ps).map U.d)
    | w => if ((deref S1 w).map (seqM m)) = some true then (evXs c (.cons y .nil) ρ S1).bind fun us S2 => R.of S2 (((deref S2 w).bind fun p => (derefs S2 us).bind fun ps => mthD m p ps).map U.d) else .bad) (RU K) Q) :
    ∃ p, deref S1 u = some p ∧ seqM m p = true ∧ Out K T cl E M H ((evXs c (.cons y .nil) ρ S1).bind fun us S2 => R.of S2 (((deref S2 u).bind fun p => (derefs S2 us).bind fun ps => mthD m p ps).map U.d)) (RU K) Q := by
  have h' : Out K T cl E M H (if ((deref S1 u).map (seqM m)) = some true then (evXs c (.cons y .nil) ρ S1).bind fun us S2 => R.of S2 (((deref S2 u).bind fun p => (derefs S2 us).bind fun ps => mthD m p ps).map U.d) else .bad) (RU K) Q := by
    split at h
    · exact absurd rfl (hu _)
    · exact h
  split at h'
  · rename_i hc
    obtain ⟨p, e1, e2⟩ := map_some hc
    exact ⟨p, e1, e2, h'⟩
  · exact h'.elim
theorem deref_ref (S : Store) (i : Nat) : deref S (.ref i) = match S[i]? with
    | some (.lst xs) => some (.list xs)
    | some (.dct _ kvs) => (derefKV S kvs).map .dict
    | _ => none := rfl
/-- the kinds of a receiver stay while the arguments are told -/
theorem kind_box {S1 S2 : Store} {u : U} {ds : List PyData} {p : PyData} (e : deref S1 u = some (.tuple ds)) (e2 : deref S2 u = some p) : p = .tuple ds := by
  cases u with
  | d q => cases e; cases e2; rfl
  | ref i =>
    rw [deref_ref] at e
    split at e
    · cases e
    · obtain ⟨z, _, e⟩ := map_some e
      cases e
    · cases e
  | _ => cases e
theorem deref_seq {S1 S2 : Store} {u : U} {ds : List PyData} {p : PyData} (e : deref S1 u = some (.list ds)) (e2 : deref S2 u = some p) : isListD p = true ∨ ∃ kvs, p = .dict kvs := by
  cases u with
  | d q =>
    have e : some q = some (.list ds) := e
    have e2 : some q = some p := e2
    cases e
    cases e2
    exact .inl rfl
  | ref i =>
    rw [deref_ref] at e2
    split at e2
    · cases e2; exact .inl rfl
    · obtain ⟨z, _, e2⟩ := map_some e2
      cases e2; exact .inr ⟨_, rfl⟩
    · cases e2
  | _ => cases e
theorem mth_sindex0 : MtR X "str.index" (rMK X.K T .index isStrD) := by
  intro pins s σ H x xs v us Q I rx rxs ⟨M, S, y, p, q, r, ex, rp, rq, st, hk, e, w⟩
  cases p with
  | str a => cases e
  | _ => cases hk
theorem px_count {o a : Expr} {x y : Ev.X} {apos pos : Pos} (hu : X.A.units + 65 < cLine) (hs : starred a = false) (hl : (apos.endLine == pos.line) = true) (hbase : attributeBase o "count" X.env (eval o X.env) = eval o X.env) (ho : PE X o (tX X.K T cl E c x)) (ha : PE X a (tX X.K T cl E c y)) :
    PE X (.Call (.Attribute o "count" apos) [a] [] pos) (tX X.K T cl E c (.mth .count x (.cons y .nil))) := by
  have A := pa_cons ha pa_nil (star_of hs)
  refine pe_imp (pe_or (pe_or (pe_m1 F.slot_str_count F.type_str_count (mth_scount (T := T)) ho ha (star_of hs) hbase hl)
    (pe_bmT F.slot_tuple_count F.type_tuple_count (mth_tcount (T := T) hu) ho A hbase (few_one hs) hl (star_of hs) rfl))
    (pe_bm F.plainAttrs_list F.slot_list_count F.type_list_count (mth_lcount (T := T) hu) ho A hbase (few_one hs) hl (star_of hs) rfl)) fun σ H Q ⟨ρ, M, S, en, st, h⟩ => ?_
  unfold evX at h
  cases e : evX c x ρ S with
  | bad => rw [e] at h; exact h.elim
  | exc k S1 => rw [e] at h; exact .inl (.inl ⟨ρ, M, S, en, st, by rw [e]; exact h⟩)
  | ok u S1 =>
    rw [e] at h
    by_cases hz : ∃ z, u = .d (.str z)
    · obtain ⟨z, rfl⟩ := hz
      refine .inl (.inl ?_)
      have h : Out X.K T cl E M H ((evXs c (.cons y .nil) ρ S1).bind fun us S2 => R.of S2 (((derefs S2 us).bind fun ps => mthD .count (.str z) ps).map U.d)) (RU X.K) Q := h
      exact mth_at (Rq := fun v _ => ∃ a, v = .str a) (kd := isStrD) (u := .d (.str z)) en st e (fun _ r => ⟨z, (show Rp X.K _ _ _ (.str z) from r).rs.str⟩) (fun e1 e2 => by cases e1; rfl) h
    · obtain ⟨p, e1, e2, h2⟩ := fin_seq (x := x) (fun z q => hz ⟨z, q⟩) h
      cases p with
      | tuple ds =>
        refine .inl (.inr ?_)
        exact mth_at (Rq := fun v H1 => ∃ M a xs, v = .ref a ∧ TupAt X.K M H1 a xs) (kd := isTupD) en st e (fun st' r => let ⟨a, xs, q1, q2, _⟩ := (rs_of r st' e1).tup; ⟨_, a, xs, q1, q2⟩) (fun e3 e4 => by rw [kind_box e1 e3]; rfl) h2
      | list ds =>
        refine .inr ?_
        exact mth_at (Rq := fun v H1 => tyV X.K "list" v H1) (kd := isListD) en st e (fun st' r => tyv_list st' r e1) (fun e3 e4 => by
          rcases deref_seq e1 e3 with z | ⟨kvs, rfl⟩
          · exact z
          · cases e4) h2
      | _ => cases e2
theorem px_index {o a : Expr} {x y : Ev.X} {apos pos : Pos} (hu : X.A.units + 65 < cLine) (hs : starred a = false) (hl : (apos.endLine == pos.line) = true) (hbase : attributeBase o "index" X.env (eval o X.env) = eval o X.env) (ho : PE X o (tX X.K T cl E c x)) (ha : PE X a (tX X.K T cl E c y)) :
    PE X (.Call (.Attribute o "index" apos) [a] [] pos) (tX X.K T cl E c (.mth .index x (.cons y .nil))) := by
  have A := pa_cons ha pa_nil (star_of hs)
  refine pe_imp (pe_or (pe_m1 F.slot_str_index F.type_str_index (mth_sindex0 (T := T)) ho ha (star_of hs) hbase hl) (pe_bm F.plainAttrs_list F.slot_list_index F.type_list_index (mth_lindex (T := T) hu) ho A hbase (few_one hs) hl (star_of hs) rfl)) fun σ H Q ⟨ρ, M, S, en, st, h⟩ => ?_
  unfold evX at h
  cases e : evX c x ρ S with
  | bad => rw [e] at h; exact h.elim
  | exc k S1 => rw [e] at h; exact .inl ⟨ρ, M, S, en, st, by rw [e]; exact h⟩
  | ok u S1 =>
    rw [e] at h
    by_cases hz : ∃ z, u = .d (.str z)
    · obtain ⟨z, rfl⟩ := hz
      have h : Out X.K T cl E M H ((evXs c (.cons y .nil) ρ S1).bind fun us S2 => R.of S2 (((derefs S2 us).bind fun ps => mthD .index (.str z) ps).map U.d)) (RU X.K) Q := h
      exact .inl (mth_at (Rq := fun v _ => ∃ a, v = .str a) (kd := isStrD) (u := .d (.str z)) en st e (fun _ r => ⟨z, (show Rp X.K _ _ _ (.str z) from r).rs.str⟩) (fun e1 e2 => by cases e1; rfl) h)
    · obtain ⟨p, e1, e2, h2⟩ := fin_seq (x := x) (fun z q => hz ⟨z, q⟩) h
      cases p with
      | list ds =>
        refine .inr ?_
        exact mth_at (Rq := fun v H1 => tyV X.K "list" v H1) (kd := isListD) en st e (fun st' r => tyv_list st' r e1) (fun e3 e4 => by
          rcases deref_seq e1 e3 with z | ⟨kvs, rfl⟩
          · exact z
          · cases e4) h2
      | _ => cases e2
theorem px_mth {k : Mth} {m : Str} {o a : Expr} {x y : Ev.X} {apos pos : Pos} (hu : X.A.units + 65 < cLine) (hm : mthOf m = some k) (hs : starred a = false) (hb : bareCall o = false) (hl : (apos.endLine == pos.line) = true) (ho : PE X o (tX X.K T cl E c x)) (ha : PE X a (tX X.K T cl E c y)) :
    PE X (.Call (.Attribute o m apos) [a] [] pos) (tX X.K T cl E c (.mth k x (.cons y .nil))) := by
  have hbase : attributeBase o m X.env (eval o X.env) = eval o X.env := by
    unfold attributeBase
    split
    · cases hb
    · rfl
  unfold mthOf at hm
  split at hm
  · rename_i e
    subst e; cases hm
    exact pe_imp (pe_m1 F.slot_str_join F.type_str_join (mth_join (T := T)) ho ha (star_of hs) hbase hl) fun σ H Q h => fin_mth (fun p => rfl) h
  split at hm
  · rename_i e
    subst e; cases hm
    exact pe_imp (pe_m1 F.slot_str_split F.type_str_split (mth_split (T := T)) ho ha (star_of hs) hbase hl) fun σ H Q h => fin_mth (fun p => rfl) h
  split at hm
  · rename_i e
    subst e; cases hm
    exact pe_imp (pe_m1 F.slot_str_strip F.type_str_strip (mth_strip (T := T)) ho ha (star_of hs) hbase hl) fun σ H Q h => fin_mth (fun p => rfl) h
  split at hm
  · rename_i e
    subst e; cases hm
    exact px_count hu hs hl hbase ho ha
  split at hm
  · rename_i e
    subst e; cases hm
    exact px_index hu hs hl hbase ho ha
  cases hm
/-! ### targets -/
/-- a target, by the little language's -/
def tTg (K : W.Frag) (T : List (Addr × Str)) (t : Tg) : TG := fun v σ H Q => ∃ ρ M S u ρ', EnvOk K ρ σ M H ∧ StOk K T M S H ∧ RU K M H v u ∧ bindT t u ρ = some ρ' ∧ ∀ σ', EnvOk K ρ' σ' M H → Q σ' H
/-- the items of a tuple of targets -/
def tTgs (K : W.Frag) (T : List (Addr × Str)) (t : Tg) : TGs := fun vs σ H Q => ∃ ρ M S ds ρ', EnvOk K ρ σ M H ∧ StOk K T M S H ∧ RpA K M H vs ds ∧ bindT t (.d (.tuple ds)) ρ = some ρ' ∧ ∀ σ', EnvOk K ρ' σ' M H → Q σ' H
/-- how many items a tuple of targets takes -/
def Tg.len : Tg → Nat
  | .nm _ => 0
  | .nil => 0
  | .cons _ r => r.len + 1
def Tg.isList : Tg → Bool
  | .nm _ => false
  | .nil => true
  | .cons _ r => r.isList
theorem bindT_len : ∀ {t : Tg} {ds : List PyData} {ρ ρ' : Rho}, t.isList = true → bindT t (.d (.tuple ds)) ρ = some ρ' → ds.length = t.len
  | .nm _, _, _, _, h, _ => by cases h
  | .nil, [], _, _, _, _ => rfl
  | .nil, _ :: _, _, _, _, h => by cases h
  | .cons a r, [], _, _, _, h => by cases h
  | .cons a r, d :: ds, ρ, ρ', h, e => by
    unfold bindT at e
    obtain ⟨ρ1, e1, e2⟩ := bindO e
    show ds.length + 1 = r.len + 1
    rw [bindT_len (t := r) h e2]
theorem bindT_it : ∀ {t : Tg} {ds : List PyData} {ρ : Rho}, t.isList = true → bindT t (.it ds) ρ = bindT t (.d (.tuple ds)) ρ
  | .nm _, _, _, h => by cases h
  | .nil, [], _, _ => rfl
  | .nil, _ :: _, _, _ => rfl
  | .cons a r, [], _, _ => rfl
  | .cons a r, d :: ds, ρ, h => by
    show ((bindT a (.d d) ρ).bind fun ρ' => bindT r (.it ds) ρ') = ((bindT a (.d d) ρ).bind fun ρ' => bindT r (.d (.tuple ds)) ρ')
    congr 1
    funext ρ'
    exact bindT_it (t := r) h
theorem pg_imp {e : Expr} {t t' : TG} (h : PG X e t) (i : ∀ v σ H Q, t' v σ H Q → t v σ H Q) : PG X e t' := ⟨fun pins s σ H v u Q I r q => h.run pins s σ H v u Q I r (i v σ H Q q)⟩
theorem pgs_imp {e : List Expr} {t t' : TGs} (h : PGs X e t) (i : ∀ v σ H Q, t' v σ H Q → t v σ H Q) : PGs X e t' := ⟨fun pins s σ H v u Q I r q => h.run pins s σ H v u Q I r (i v σ H Q q)⟩
theorem pgx_name {N : List Str} {sc : Scope} {fb : Fb} {x : Str} {i : Nat} {pos : Pos} (hN : X.N = N) (nd : N.Nodup) (hs : X.env.scope = sc) (hf : ∀ x, fb x = true → X.fn x = true ∨ X.env.scope.names.lookup x = some .local) (hl : locB sc x = true) (hb : fb x = true) (hi : ixOf N x = some i) : PG X (.Name x pos) (tTg X.K T (.nm i)) :=
  pg_imp (pg_name (i := i) (by rw [hN]; exact nd) (by rw [hN]; exact ix_of hi) (by rw [hs]; exact loc_of hl) (hf x hb)) fun v σ H Q ⟨ρ, M, S, u, ρ', en, st, r, e, q⟩ => by
    cases e
    exact q _ (en.set r)
/-- no star among the targets -/
theorem each_of {e : Expr} {es : List Expr} {env : Env} (h : starred e = false) : assignEach (e :: es) env = (false, assign e env) :: assignEach es env := by
  cases e <;> first | rfl | cases h
theorem pgsx_nil : PGs X [] (tTgs X.K T .nil) := pgs_imp pgs_nil fun v σ H Q ⟨ρ, M, S, ds, ρ', en, st, r, e, q⟩ => by
  cases ds with
  | nil =>
    cases e
    cases r
    exact ⟨rfl, q _ en⟩
  | cons d ds => cases e
theorem pgsx_cons {e : Expr} {es : List Expr} {a r : Tg} (hs : starred e = false) (h1 : PG X e (tTg X.K T a)) (h2 : PGs X es (tTgs X.K T r)) : PGs X (e :: es) (tTgs X.K T (.cons a r)) :=
  pgs_imp (pgs_cons h1 h2 (by rw [each_of hs]; rfl)) fun v σ H Q ⟨ρ, M, S, ds, ρ', en, st, ra, e, q⟩ => by
    cases ra with
    | nil => cases e
    | cons r1 r2 =>
      unfold bindT at e
      obtain ⟨ρ1, e1, e2⟩ := bindO e
      exact ⟨_, _, rfl, ρ, M, S, .d _, ρ1, en, st, r1, e1, fun σ1 en1 => ⟨ρ1, M, S, _, ρ', en1, st, r2, e2, q⟩⟩
theorem each_len {es : List Expr} {env : Env} : (assignEach es env).length = es.length := by
  induction es with
  | nil => rfl
  | cons e r ih => cases e <;> (show (assignEach r env).length + 1 = _; rw [ih]; rfl)
theorem each_plain {es : List Expr} {env : Env} (h : plain es = true) : (assignEach es env).findIdx? (·.1) = none := by
  rw [List.findIdx?_eq_none_iff]
  induction es with
  | nil => intro x hx; cases hx
  | cons e r ih =>
    unfold plain at h
    rw [List.all_cons, Bool.and_eq_true] at h
    rw [each_of (by simpa using h.1)]
    intro x hx
    rcases List.mem_cons.mp hx with hx | hx
    · rw [hx]
    · exact ih h.2 x hx
theorem pgx_tup {es : List Expr} {k : Nat} {pos : Pos} {t : Tg} (hc : X.calm = true) (hl : t.isList = true) (hn : t.len = es.length) (hp : plain es = true) (h : PGs X es (tTgs X.K T t)) : PG X (.Tuple es k pos) (tTg X.K T t) :=
  pg_imp (pg_tup (n := es.length) hc h each_len (each_plain hp)) fun v σ H Q ⟨ρ, M, S, u, ρ', en, st, r, e, q⟩ => by
    have hu : (∃ ds, u = .d (.tuple ds)) ∨ ∃ ds, u = .it ds := by
      cases t with
      | nm i => cases hl
      | nil =>
        unfold bindT at e
        split at e
        · exact .inl ⟨_, rfl⟩
        · exact .inr ⟨_, rfl⟩
        · cases e
      | cons a b =>
        unfold bindT at e
        split at e
        · exact .inl ⟨_, rfl⟩
        · exact .inr ⟨_, rfl⟩
        · cases e
    rcases hu with ⟨ds, rfl⟩ | ⟨ds, rfl⟩
    · obtain ⟨a, xs, e1, t1, r1⟩ := (show Rp X.K M H v (.tuple ds) from r).rs.tup
      exact ⟨a, xs, e1, t1.sq, by rw [r1.length, bindT_len hl e, hn], ρ, M, S, ds, ρ', en, st, r1, e, q⟩
    · obtain ⟨a, xs, e1, _, t1, r1⟩ := r
      rw [bindT_it hl] at e
      exact ⟨a, xs, e1, .inl (.inl t1), by rw [r1.length, bindT_len hl e, hn], ρ, M, S, ds, ρ', en, st, r1, e, q⟩
/-- targets, by the compiler -/
theorem tg_ok {N : List Str} {sc : Scope} {fb : Fb} (hN : X.N = N) (nd : N.Nodup) (hc : X.calm = true) (hs : X.env.scope = sc) (hf : ∀ x, fb x = true → X.fn x = true ∨ X.env.scope.names.lookup x = some .local) :
    ∀ n, (∀ e t, cT N sc fb n e = some t → PG X e (tTg X.K T t)) ∧ ∀ es t, cTs N sc fb n es = some t → PGs X es (tTgs X.K T t) ∧ t.isList = true ∧ t.len = es.length ∧ plain es = true := by
  intro n
  induction n with
  | zero => exact ⟨fun e t h => (by unfold cT at h; cases h), fun e t h => (by unfold cTs at h; cases h)⟩
  | succ n ih =>
    refine ⟨fun e t h => ?_, fun es t h => ?_⟩
    · unfold cT at h
      split at h
      · split at h
        · rename_i hx
          rw [Bool.and_eq_true] at hx
          obtain ⟨i, hi, rfl⟩ := map_some h
          exact pgx_name hN nd hs hf hx.1 hx.2 hi
        · cases h
      · obtain ⟨h1, h2, h3, h4⟩ := ih.2 _ _ h
        exact pgx_tup hc h2 h3 h4 h1
      · cases h
    · cases es with
      | nil =>
        unfold cTs at h
        cases h
        exact ⟨pgsx_nil, rfl, rfl, rfl⟩
      | cons e r =>
        unfold cTs at h
        split at h
        · cases h
        · rename_i hst
          obtain ⟨a, h1, h⟩ := bindO h
          obtain ⟨b, h2, rfl⟩ := map_some h
          obtain ⟨i1, i2, i3, i4⟩ := ih.2 _ _ h2
          refine ⟨pgsx_cons (by simpa using hst) (ih.1 _ _ h1) i1, i2, congrArg (· + 1) i3, ?_⟩
          show (!starred e && plain r) = true
          rw [i4]
          simp [hst]
/-! ### what is walked -/
/-- the items come, wherever one stands by then -/
def Feed (K : W.Frag) (M : Ms) (H : Hp) (J : L2.It) : Src → Prop
  | .fix us => ∀ M' H', Gr M H M' H' → ∀ i, (us[i]? = none → J.stop i H') ∧ ∀ u, us[i]? = some u → J.go i H' ∧ ∀ x H'', J.yld i H' x H'' → ∀ T S, StOk K T M' S H' → Gr M' H' M' H'' ∧ StOk K T M' S H'' ∧ RU K M' H'' x u
  | .live b => ∃ a, M.b[b]? = some a ∧ J = Itl K a
def tIt (K : W.Frag) (T : List (Addr × Str)) (cl : Nat → Option Addr) (E : XK) (c : Cn) (it : Ev.It) : TI := fun σ H R => ∃ ρ M S, EnvOk K ρ σ M H ∧ StOk K T M S H ∧ Out K T cl E M H (evIt c it ρ S) (fun M H J s => Feed K M H J s) R
theorem pi_imp {tg iter : Expr} {w w' : TI} (h : PI X tg iter w) (i : ∀ σ H R, w' σ H R → w σ H R) : PI X tg iter w' := ⟨fun pins s σ H R I q => h.run pins s σ H R I (i σ H R q)⟩
def iAny (K : W.Frag) (tl : TE) : TI := fun σ H R => tl σ H fun x H1 => (∃ a xs, x = .ref a ∧ SqL K H1 a xs ∧ R (Itl K a) H1) ∨ (∃ a xs, x = .ref a ∧ SqT K H1 a xs ∧ R (Itt K a) H1) ∨ ∃ z, x = .str z ∧ R (Its z) H1
theorem pi_any {tg l : Expr} {tl : TE} (hl : PE X l tl) : PI X tg l (iAny X.K tl) := by
  refine ⟨fun pins s σ H R I h => ?_⟩
  refine thn (hl.run pins s σ H _ I h) fun v s1 ⟨x, H1, I1, r1, q1⟩ => ?_
  rcases q1 with ⟨a, xs, e, hq, q⟩ | ⟨a, xs, e, hq, q⟩ | ⟨z, e, q⟩
  · subst e
    cases r1
    obtain ⟨its, rv, p, hz⟩ := I1.list hq
    refine wpAny_pyIter_list p.isList ?_
    exact pi_one (tk := s1.toks) I1 _ (turn_list a _) ⟨_, Heap.get?_push_size _ rfl, rfl, rfl⟩ q
  · subst e
    cases r1
    obtain ⟨its, rv, p, hz⟩ := I1.tuple hq
    refine wpAny_pyIter_tuple (show s1.heap.IsTuple a its.toArray from p) ?_
    exact pi_one (tk := s1.toks) I1 _ (turn_tuple a _) ⟨_, Heap.get?_push_size _ rfl, rfl, rfl⟩ q
  · subst e
    obtain ⟨t, rfl⟩ := r1
    cases ha : z.cps.all (· < 128)
    · exact wpAny_pyIter_wide ha (pi_one (tk := s1.toks) I1 _ (turn_str _ z t "str_iterator" (.inr rfl)) ⟨_, Heap.get?_push_size _ rfl, rfl, rfl⟩ q)
    · exact wpAny_pyIter_ascii ha (pi_one (tk := s1.toks) I1 _ (turn_str _ z t "str_ascii_iterator" (.inl rfl)) ⟨_, Heap.get?_push_size _ rfl, rfl, rfl⟩ q)
theorem feed_list {a : Addr} {xs : List V} {ds : List PyData} (n : a ∉ M) (h : H a = some (.lst xs)) (r : RpA K M H xs ds) : Feed K M H (Itl K a) (.fix (ds.map .d)) := by
  intro M' H' g i
  obtain ⟨n', h'⟩ := g.at_ h n fun ps z => by cases z
  have r' := r.mono g
  refine ⟨fun e => ⟨xs, SqL.of h', ?_⟩, fun u e => ?_⟩
  · rw [List.getElem?_eq_none_iff, List.length_map] at e
    rw [r.length]; exact e
  · rw [List.getElem?_map] at e
    obtain ⟨d, e1, rfl⟩ := map_some e
    obtain ⟨v, e2, r2⟩ := r'.get e1
    refine ⟨⟨xs, v, SqL.of h', e2⟩, fun x H'' ⟨eH, hx⟩ T S st => ?_⟩
    subst eH
    have := hx xs (SqL.of h')
    rw [e2] at this
    cases this
    exact ⟨Gr.refl _ _, st, r2⟩
theorem feed_tup {a : Addr} {xs : List V} {ds : List PyData} (t : TupAt K M H a xs) (r : RpA K M H xs ds) : Feed K M H (Itt K a) (.fix (ds.map .d)) := by
  intro M' H' g i
  have t' := t.mono g
  have r' := r.mono g
  refine ⟨fun e => ⟨xs, t'.sq, ?_⟩, fun u e => ?_⟩
  · rw [List.getElem?_eq_none_iff, List.length_map] at e
    rw [r.length]; exact e
  · rw [List.getElem?_map] at e
    obtain ⟨d, e1, rfl⟩ := map_some e
    obtain ⟨v, e2, r2⟩ := r'.get e1
    refine ⟨⟨xs, v, t'.sq, e2⟩, fun x H'' ⟨eH, hx⟩ T S st => ?_⟩
    subst eH
    have := hx xs t'.sq
    rw [e2] at this
    cases this
    exact ⟨Gr.refl _ _, st, r2⟩
theorem feed_scr {a : Addr} {ns : List Int} (t : ScrAt K M H a (ns.map V.int)) : Feed K M H (Itl K a) (.fix (ns.map fun n => U.d (.int n))) := by
  intro M' H' g i
  have t' : ScrAt K M' H' a (ns.map V.int) := t.imp (fun z => g.rd z.2 z.1 fun ps z => by cases z) id
  refine ⟨fun e => ⟨_, t'.sq, ?_⟩, fun u e => ?_⟩
  · rw [List.getElem?_eq_none_iff, List.length_map] at e
    rw [List.length_map]; exact e
  · rw [List.getElem?_map] at e
    obtain ⟨n, e1, rfl⟩ := map_some e
    refine ⟨⟨_, .int n, t'.sq, by rw [List.getElem?_map, e1]; rfl⟩, fun x H'' ⟨eH, hx⟩ T S st => ?_⟩
    subst eH
    have := hx _ t'.sq
    rw [List.getElem?_map, e1] at this
    cases this
    exact ⟨Gr.refl _ _, st, Rp.int n⟩
theorem feed_str {z : Str} : Feed K M H (Its z) (.fix (strItems z)) := by
  intro M' H' g i
  unfold strItems
  refine ⟨fun e => ?_, fun u e => ?_⟩
  · rw [List.getElem?_eq_none_iff, List.length_map, Array.length_toList] at e
    exact e
  · rw [List.getElem?_map, Array.getElem?_toList] at e
    obtain ⟨d, e1, rfl⟩ := map_some e
    refine ⟨(Array.getElem?_eq_some_iff.mp e1).1, fun x H'' ⟨eH, c, hx, ex⟩ T S st => ?_⟩
    subst eH
    rw [e1] at hx
    cases hx
    exact ⟨Gr.refl _ _, st, by rw [ex]; exact Rp.str _⟩
theorem snd_get {K : W.Frag} : ∀ {vs : List (V × V)} {us : List U}, RUs K M H (vs.map Prod.snd) us → ∀ {i : Nat} {u : U}, us[i]? = some u → ∃ q, vs[i]? = some q ∧ RU K M H q.2 u
  | [], _, .nil, i, u, e => by simp at e
  | q :: vs, _, .cons h r, 0, u, e => by simp at e; subst e; exact ⟨q, rfl, h⟩
  | q :: vs, _, .cons h r, i + 1, u, e => by
    obtain ⟨p, e1, e2⟩ := snd_get r (by simpa using e)
    exact ⟨p, by simpa using e1, e2⟩
/-- a dict that stands still: its keys -/
theorem feed_dk {a : Addr} {o : Obj} {vs : List (V × V)} {α : Type} {kvs : List (PyData × α)} (h : ∀ M' H', Gr M H M' H' → Rd H' a (DX a o)) (r : RpA K M H (vs.map Prod.fst) (kvs.map Prod.fst)) : Feed K M H (Itdk a o vs) (.fix (keyItems kvs)) := by
  intro M' H' g i
  have r' := r.mono g
  have h' := h M' H' g
  have hl : vs.length = kvs.length := by have := r.length; rwa [List.length_map, List.length_map] at this
  unfold keyItems
  refine ⟨fun e => ⟨h', ?_⟩, fun u e => ?_⟩
  · rw [List.getElem?_eq_none_iff, List.length_map] at e
    omega
  · rw [List.getElem?_map] at e
    obtain ⟨d, e1, rfl⟩ := map_some e
    obtain ⟨v, e2, r2⟩ := r'.get (i := i) (d := d.1) (by rw [List.getElem?_map, e1]; rfl)
    rw [List.getElem?_map] at e2
    obtain ⟨q, e3, e4⟩ := map_some e2
    refine ⟨⟨h', (List.getElem?_eq_some_iff.mp e3).1⟩, fun x H'' ⟨eH, y, hx⟩ T S st => ?_⟩
    subst eH
    rw [e3] at hx
    cases hx
    refine ⟨Gr.refl _ _, st, ?_⟩
    have e4 : x = v := e4
    rw [e4]
    exact r2
theorem prItems_at : ∀ {kvs : List (PyData × U)} {us : List U}, prItems kvs = some us → us.length = kvs.length ∧ ∀ (i : Nat) u, us[i]? = some u → ∃ k d, kvs[i]? = some (k, .d d) ∧ u = .it [k, d]
  | [], us, h => by cases h; exact ⟨rfl, fun i u e => by simp at e⟩
  | (k, w) :: r, us, h => by
    cases w with
    | d v =>
      have h : (prItems r).map (U.it [k, v] :: ·) = some us := h
      obtain ⟨zs, e1, rfl⟩ := map_some h
      obtain ⟨e2, e3⟩ := prItems_at e1
      refine ⟨by rw [List.length_cons, List.length_cons, e2], fun i u e => ?_⟩
      cases i with
      | zero => simp at e; subst e; exact ⟨k, v, rfl, rfl⟩
      | succ i => simpa using e3 i u (by simpa using e)
    | _ => cases h
/-- .. its pairs -/
theorem feed_di {a : Addr} {o : Obj} {vs : List (V × V)} {kvs : List (PyData × U)} {us : List U} (h : ∀ M' H', Gr M H M' H' → Rd H' a (DX a o)) (r : RpA K M H (vs.map Prod.fst) (kvs.map Prod.fst)) (q : RUs K M H (vs.map Prod.snd) (kvs.map Prod.snd)) (e : prItems kvs = some us) : Feed K M H (Itdi a o vs) (.fix us) := by
  intro M' H' g i
  have r' := r.mono g
  have q' := q.mono g
  have h' := h M' H' g
  have hl : vs.length = kvs.length := by have := r.length; rwa [List.length_map, List.length_map] at this
  obtain ⟨p1, p2⟩ := prItems_at e
  refine ⟨fun e => ⟨h', ?_⟩, fun u eu => ?_⟩
  · rw [List.getElem?_eq_none_iff] at e
    omega
  · obtain ⟨k, d, e1, rfl⟩ := p2 i u eu
    obtain ⟨v, e2, r2⟩ := r'.get (i := i) (d := k) (by rw [List.getElem?_map, e1]; rfl)
    rw [List.getElem?_map] at e2
    obtain ⟨z, e3, e4⟩ := map_some e2
    obtain ⟨z2, e5, r3⟩ := snd_get q' (i := i) (u := .d d) (by rw [List.getElem?_map, e1]; rfl)
    rw [e3] at e5
    cases e5
    refine ⟨⟨h', (List.getElem?_eq_some_iff.mp e3).1⟩, fun x H'' ⟨t, k', v', hx, ex, ht, eH⟩ T S st => ?_⟩
    subst eH ex
    rw [e3] at hx
    cases hx
    have gn := gr_new (o := HO.tup [k', v']) st ht
    refine ⟨gn, st_new st ht, t, _, rfl, st.free ht, upd_same, .cons ?_ (.cons ?_ .nil)⟩
    · have e4 : k' = v := e4
      subst e4
      exact r2.mono gn
    · exact (show Rp K M' H' v' d from r3).mono gn
theorem feed_rng {lo : Int} {n : Nat} : Feed K M H (Itr lo n) (.fix (rngItems lo n)) := by
  intro M' H' g i
  unfold rngItems
  refine ⟨fun e => ?_, fun u e => ?_⟩
  · rw [List.getElem?_eq_none_iff, List.length_map, List.length_range] at e
    exact e
  · rw [List.getElem?_map] at e
    obtain ⟨d, e1, rfl⟩ := map_some e
    obtain ⟨h1, h2⟩ := List.getElem?_eq_some_iff.mp e1
    rw [List.getElem_range] at h2
    subst h2
    rw [List.length_range] at h1
    refine ⟨h1, fun x H'' ⟨eH, ex⟩ T S st => ?_⟩
    subst eH
    exact ⟨Gr.refl _ _, st, by rw [ex]; exact Rp.int _⟩
theorem feed_rngC {lo : Int} {n : Nat} : Feed K M H (Itc lo (-1) n) (.fix ((List.range n).map fun k => U.d (.int (lo - (k : Nat))))) := by
  intro M' H' g i
  refine ⟨fun e => ?_, fun u e => ?_⟩
  · rw [List.getElem?_eq_none_iff, List.length_map, List.length_range] at e
    exact e
  · rw [List.getElem?_map] at e
    obtain ⟨d, e1, rfl⟩ := map_some e
    obtain ⟨h1, h2⟩ := List.getElem?_eq_some_iff.mp e1
    rw [List.getElem_range] at h2
    subst h2
    rw [List.length_range] at h1
    refine ⟨h1, fun x H'' ⟨eH, ex⟩ T S st => ?_⟩
    subst eH
    refine ⟨Gr.refl _ _, st, ?_⟩
    have : lo + (i : Int) * -1 = lo - (i : Int) := by omega
    rw [ex, this]
    exact Rp.int _
end
end Ev
end

section
set_option Elab.async false
set_option linter.all false
set_option autoImplicit false
set_option maxRecDepth 100000
set_option maxHeartbeats 4000000
/-! # enumerate over a list, a tuple, a text -/
namespace Ev
open PySem PySem.Spec PyProof.Rows L2
theorem meets_enumerate_newT (l : Addr) (items : Array Value) :
    Meets (Builtin.«enumerate.__new__» ⟨[.type "enumerate", .ref l], []⟩) (fun _ R s => s.heap.IsTuple l items ∧
      R (.ok (.ret (.ref (s.heap.push { cls := .type "tuple_iterator", data := .fields #[.ref l, .int 0 0] }).objs.size)))
        { s with heap := (s.heap.push { cls := .type "tuple_iterator", data := .fields #[.ref l, .int 0 0] }).push { cls := .type "enumerate", data := .fields #[.none, .bool false, .ref s.heap.objs.size, rawInt 0, .none, .none] } }) :=
  .of_wp fun prog w A R s h => by
    obtain ⟨hp, g, d, tk, os⟩ := s; obtain ⟨hl, h⟩ := h
    have hsub := sub_enumerate
    wp_walk
    refine wpAny_stack_any fun st => wpAny_pure ?_
    split
    · rename_i c _ _ _ _ _
      cases (c == Value.type "enumerate")
      · wp_walk using wpAny_pyIter_tuple hl
        exact ⟨_, rfl, h⟩
      · wp_walk using wpAny_pyIter_tuple hl
        exact ⟨_, rfl, h⟩
    · wp_walk using wpAny_pyIter_tuple hl
      exact ⟨_, rfl, h⟩
section
variable {prog : Program} {w : World} {A : Around} {E : Value → Shared → Prop} {s : Shared}
theorem call_enumerate_tuple {l : Addr} {items : Array Value} {Q : Value → Shared → Prop} (hL : s.heap.IsTuple l items)
    (h : ∀ h', IsEnum h' (s.heap.objs.size + 1) s.heap.objs.size 0 .none → h'.IsTupleIter s.heap.objs.size l 0 → h'.objs.size = s.heap.objs.size + 2 →
      (∀ b o, s.heap.get? b = some o → h'.get? b = some o) → Q (.ref (s.heap.objs.size + 1)) { s with heap := h' }) :
    wpAny (model prog w) A (call (.type "enumerate") [.ref l]) Q E s := by
  refine callType_new F.called_enumerate (by decide) (F.typeCall_enumerate_1 _) (F.newCall_enumerate_1 _) (fun obj => F.args_object_init_2 obj _) F.entry_enumerate_new
    (meets_enumerate_newT l items) ⟨hL, ?_⟩
  have hz : (s.heap.push { cls := .type "tuple_iterator", data := .fields #[.ref l, .int 0 0] }).objs.size = s.heap.objs.size + 1 := Heap.size_push ..
  show _ ∧ _
  rw [hz]
  have he : IsEnum ((s.heap.push { cls := .type "tuple_iterator", data := .fields #[.ref l, .int 0 0] }).push
      { cls := .type "enumerate", data := .fields #[.none, .bool false, .ref s.heap.objs.size, rawInt 0, .none, .none] }) (s.heap.objs.size + 1) s.heap.objs.size 0 .none := by
    have := Heap.get?_push_size (s.heap.push { cls := .type "tuple_iterator", data := .fields #[.ref l, .int 0 0] })
      (o := { cls := .type "enumerate", data := .fields #[.none, .bool false, .ref s.heap.objs.size, rawInt 0, .none, .none] }) rfl
    rw [hz] at this; exact this
  refine ⟨⟨_, he, rfl⟩, h _ he ⟨_, Heap.get?_push_of_some _ (Heap.get?_push_size _ rfl), rfl, rfl⟩ (by rw [Heap.size_push, hz]) fun b o x => Heap.get?_push_of_some _ (Heap.get?_push_of_some _ x)⟩
end
/-- the tuple at a, each item in a new pair -/
def Itet (K : W.Frag) (a : Addr) : L2.It :=
  ⟨fun i H => ∃ (xs : List V) (x : V), SqT K H a xs ∧ xs[i]? = some x, fun i H v H' => ∃ T x, v = .ref T ∧ H T = none ∧ H' = upd H T (.tup [.int (i : Nat), x]) ∧ ∀ xs, SqT K H a xs → xs[i]? = some x, fun i H => ∃ xs : List V, SqT K H a xs ∧ xs.length ≤ i⟩
/-- a text, each sign in a new pair -/
def Ites (x : Str) : L2.It :=
  ⟨fun i _ => i < x.cps.size, fun i H v H' => ∃ T c, v = .ref T ∧ H T = none ∧ H' = upd H T (.tup [.int (i : Nat), .str ⟨#[c]⟩]) ∧ x.cps[i]? = some c, fun i _ => x.cps.size ≤ i⟩
/-- a turn of enumerate, over what its iterator draws -/
theorem enum_turn {X : Cx} {pins : List (Addr × Obj)} {s : Shared} {σ : L2.St} {H : Hp} {E : Value → Shared → Prop} {elts : List Expr} {kk : Nat} {tpos : Pos} {e it : Addr} {fp : List Addr} {n i : Nat} {Pv : Nat → Value → Prop} {Sd : Nat → Heap → Prop} {old : Value} {yld : V → Hp → Prop} {tn : Heap → Prop}
    (D1 : Draws X.prog X.w X.A.in1 it fp n Pv Sd) (he : IsEnum s.heap e it ((i : Nat) : Int) old) (hst : Sd i s.heap) (hlt : i < n) (hne : e ≠ it) (hef : e ∉ fp) (I : Inv X pins σ H s) (hf : ∀ b ∈ [e, it], FpOk X pins H b)
    (hP : ∀ u, Pv i u → ∃ x, RelV x u ∧ yld (.ref s.heap.objs.size) (upd H s.heap.objs.size (.tup [.int (i : Nat), x])))
    (hT : ∀ h'' old', IsEnum h'' e it (((i + 1 : Nat) : Nat) : Int) old' → Sd (i + 1) h'' → tn h'') :
    wpAny (model X.prog X.w) X.A (pyNext (.ref e)) (fun r s1 => ∃ u, r = some u ∧
      wpAny (model X.prog X.w) X.A (letOwnedTupleGo (.Tuple elts kk tpos) (.ref e) u) (fun _ s2 => ∃ x H', Inv X pins σ H' s2 ∧ RelV x u ∧ yld x H' ∧ tn s2.heap ∧ ∀ b ∈ [e, it], H' b = none) E s1) E s := by
  have hel : e < s.heap.objs.size := Heap.lt_size he
  have hil : it < s.heap.objs.size := by obtain ⟨_, q⟩ := D1.live _ _ hst; exact Heap.lt_size q
  refine wpAny_pyNext_enum_itemD D1 he hst hlt hne hef fun u h' tk hPu ho hit' hT' hsz hk => ?_
  obtain ⟨x, ru, hy⟩ := hP u hPu
  refine ⟨_, rfl, wpAny_letOwnedTupleGo_enum (s := { s with heap := h', toks := tk + 1 }) ho fun h'' he' sb => ?_⟩
  have hT2 : h''.get? s.heap.objs.size = some { cls := .type "tuple", data := .seq #[.int i tk, u] } := (sb.2 _ (Nat.ne_of_gt hel)).trans hT'
  have new : ObjOk X.prog X.w (upd H s.heap.objs.size (.tup [.int (i : Nat), x])) h'' s.heap.objs.size (.tup [.int (i : Nat), x]) :=
    ⟨by show 2 ≤ sizeLine; decide, [.int i tk, u], .cons ⟨_, rfl⟩ (.cons ru .nil), ⟨_, hT2, rfl, _, rfl⟩⟩
  have I1 : Inv X pins σ (upd H s.heap.objs.size (.tup [.int (i : Nat), x])) { s with heap := h'', toks := tk + 1 } :=
    I.turnedNew (ch := [e, it]) (fun b ob hb q => (sb.2 b (fun z => hb (by simp [z]))).trans (hk b ob (fun z => hb (by simp [z])) (fun z => hb (by simp [z])) q)) hf (Nat.le_refl _) new
  refine ⟨.ref s.heap.objs.size, _, I1, rfl, hy, hT h'' u ?_ (D1.frame _ _ _ hit' fun b hb o q => (sb.2 b fun z => hef (z ▸ hb)).trans q), fun b hb => ?_⟩
  · have e1 : ((i + 1 : Nat) : Int) = (i : Int) + 1 := by omega
    rw [e1]; exact he'
  · have hb' : b < s.heap.objs.size := by
      have e' : b = e ∨ b = it := by simpa using hb
      rcases e' with z | z
      · rw [z]; exact hel
      · rw [z]; exact hil
    rw [upd_ne (Nat.ne_of_lt hb')]
    exact (hf b hb).1
theorem enum_endN {prog : Program} {w : World} {A : Around} {E : Value → Shared → Prop} {s : Shared} {e it : Addr} {i : Int} {old : Value} {Q : Option Value → Shared → Prop} (he : IsEnum s.heap e it i old)
    (hn : ∀ (Q : Value → Shared → Prop) (E : Value → Shared → Prop), (∀ h' x, Heap.ExtBut it s.heap h' → (∃ o, h'.get? x = some o ∧ o.cls = .type "StopIteration") → E (.ref x) { s with heap := h' }) → wpAny (model prog w) A.in1 (Builtin.SmallTypes.nextOf (.ref it)) Q E s)
    (hQ : ∀ h', Heap.ExtBut it s.heap h' → Q none { s with heap := h' }) : wpAny (model prog w) A (pyNext (.ref e)) Q E s := by
  have hT : s.TypeIs (.ref e) "enumerate" := ⟨_, he, rfl⟩
  unfold pyNext
  refine wpAny_bind (wpAny_attempt (wpAny_callSpecial?_slot (name := Str.ofString "__next__") hT F.slot_enumerate_next
    (wpAny_call_entry F.slot_enumerate_next hT F.entry_enumerate_next ?_ (F.args_enumerate_next_1 _))))
  show wpAny _ _ (field (.ref e) 2 >>= _) _ _ _
  refine wpAny_bind (wpAny_field he rfl (x := .ref it) rfl ?_)
  refine wpAny_bind (hn _ _ fun h' x he' hx' => ?_)
  obtain ⟨o, ho, hc⟩ := hx'
  refine wpAny_bind (wpAny_isInstance (T := "StopIteration") (b := true) ⟨o, ho, hc⟩ isSubtype_stop ?_)
  exact wpAny_pure (hQ _ he')
theorem turn_enumT {P : Program} {w : World} {K : W.Frag} {elts : List Expr} {kk : Nat} {tpos : Pos} (a e it : Addr) :
    Turn P w K (.Tuple elts kk tpos) (Itet K a) [e, it] e (fun i h => (∃ old, IsEnum h e it ((i : Nat) : Int) old) ∧ h.IsTupleIter it a i ∧ e ≠ it) where
  mem := by simp
  obj := fun i h st b hb => by
    obtain ⟨⟨old, he⟩, ⟨o, ho, hc, hd⟩, _⟩ := st
    have e' : b = e ∨ b = it := by simpa using hb
    rcases e' with z | z
    · rw [z]; exact ⟨_, he, fun v q => nomatch q⟩
    · rw [z]; exact ⟨o, ho, fun v q => by rw [hd] at q; cases q⟩
  keep := fun i h h' st k => let ⟨⟨old, he⟩, hi, hne⟩ := st; ⟨⟨old, k e (by simp) _ he⟩, hi.at fun o q => k it (by simp) o q, hne⟩
  item := by
    intro X hP hw hK hc i pins s σ H E I hf st hg
    subst hP hw hK
    obtain ⟨⟨old, he⟩, hit, hne⟩ := st
    obtain ⟨xs, x, hq, hx⟩ := hg
    obtain ⟨its, rv, p, hz⟩ := I.tuple hq
    obtain ⟨u, hu, ru⟩ := rv.get hx
    have hta : s.heap.IsTuple a its.toArray := p
    have hea : e ≠ a := fun z => by
      obtain ⟨o, e1, e2, _⟩ := id hta
      rw [← z, he] at e1
      cases e1
      exact absurd (Value.type.inj e2) (by decide)
    have hia : a ≠ it := fun z => by
      obtain ⟨o, e1, e2, _⟩ := id hta
      obtain ⟨o', e3, e4, _⟩ := id hit
      rw [z, e3] at e1
      cases e1
      rw [e4] at e2
      exact absurd e2 (by decide)
    exact enum_turn (yld := (Itet X.K a).yld i H) (tn := fun h => (∃ old, IsEnum h e it (((i + 1 : Nat) : Nat) : Int) old) ∧ h.IsTupleIter it a (i + 1) ∧ e ≠ it) (D1 := Draws.tuple (A := X.A.in1) (I.ok.hd hc) it a hia its.toArray) he ⟨hit, hta⟩ (by rw [List.size_toArray]; exact (List.getElem?_eq_some_iff.mp hu).1) hne (by simp [hne, hea]) I hf
      (fun u' hu' => ⟨x, by have e3 : its[i]? = some u' := by simpa using hu'
                            rw [hu] at e3; cases e3; exact ru, _, x, rfl, I.hok.fresh (Nat.le_refl _), rfl, fun ys hy => by rw [I.tuple_inj hy hq]; exact hx⟩)
      fun h'' old' h1 h2 => ⟨⟨old', h1⟩, h2.1, hne⟩
  done := by
    intro X hP hw hK hc i pins s σ H E I hf st hg
    subst hP hw hK
    obtain ⟨⟨old, he⟩, hit, hne⟩ := st
    obtain ⟨xs, hq, hx⟩ := hg
    obtain ⟨its, rv, p, hz⟩ := I.tuple hq
    obtain ⟨f0, f1, f2, f3, f4, f5⟩ := hf it (by simp)
    have hl := rv.length
    exact enum_endN he (fun Q E hE => wpAny_nextOf_tuple_end (I.ok.hd hc) hit (show s.heap.IsTuple a its.toArray from p) (by simp; omega) hE) fun h' eb => ⟨rfl, I.turned (t' := s.toks) (fun b o hb q => eb b o hb q) f0 f1 f3 f4 f5⟩
  self := fun A i s Q E st h => let ⟨⟨_, he⟩, _⟩ := st; wpAny_pyIter_enum he h
theorem turn_enumS {P : Program} {w : World} {K : W.Frag} {elts : List Expr} {kk : Nat} {tpos : Pos} (x : Str) (t : Tok) (e it : Addr) :
    Turn P w K (.Tuple elts kk tpos) (Ites x) [e, it] e (fun i h => (∃ old, IsEnum h e it ((i : Nat) : Int) old) ∧ h.IsStrIter it (strIterType x) x t i ∧ e ≠ it) where
  mem := by simp
  obj := fun i h st b hb => by
    obtain ⟨⟨old, he⟩, ⟨o, ho, hc, hd⟩, _⟩ := st
    have e' : b = e ∨ b = it := by simpa using hb
    rcases e' with z | z
    · rw [z]; exact ⟨_, he, fun v q => nomatch q⟩
    · rw [z]; exact ⟨o, ho, fun v q => by rw [hd] at q; cases q⟩
  keep := fun i h h' st k => let ⟨⟨old, he⟩, hi, hne⟩ := st; ⟨⟨old, k e (by simp) _ he⟩, (let ⟨o, ho, r⟩ := hi; ⟨o, k it (by simp) o ho, r⟩), hne⟩
  item := by
    intro X hP hw hK hc i pins s σ H E I hf st hg
    subst hP hw hK
    obtain ⟨⟨old, he⟩, hit, hne⟩ := st
    exact enum_turn (yld := (Ites x).yld i H) (tn := fun h => (∃ old, IsEnum h e it (((i + 1 : Nat) : Nat) : Int) old) ∧ h.IsStrIter it (strIterType x) x t (i + 1) ∧ e ≠ it) (D1 := Draws.text (A := X.A.in1) (I.ok.hd hc) it x t) he hit hg hne (by simp [hne]) I hf
      (fun u' ⟨c, tt, hu', ev⟩ => ⟨.str ⟨#[c]⟩, ⟨tt, ev⟩, _, c, rfl, I.hok.fresh (Nat.le_refl _), rfl, hu'⟩)
      fun h'' old' h1 h2 => ⟨⟨old', h1⟩, h2, hne⟩
  done := by
    intro X hP hw hK hc i pins s σ H E I hf st hg
    subst hP hw hK
    obtain ⟨⟨old, he⟩, hit, hne⟩ := st
    obtain ⟨f0, f1, f2, f3, f4, f5⟩ := hf it (by simp)
    have hx : x.cps[i]? = none := Array.getElem?_eq_none hg
    refine enum_endN he (fun Q E hE => ?_) fun h' eb => ⟨rfl, I.turned (t' := s.toks) (fun b o hb q => eb b o hb q) f0 f1 f3 f4 f5⟩
    unfold strIterType at hit
    split at hit
    · exact wpAny_nextOf_ascii_end (I.ok.hd hc) hit hx hE
    · exact wpAny_nextOf_wide_end (I.ok.hd hc) hit hx hE
  self := fun A i s Q E st h => let ⟨⟨_, he⟩, _⟩ := st; wpAny_pyIter_enum he h
/-- enumerate of what comes: a list, a tuple, a text -/
def iEnumA (K : W.Frag) (ta : TA) : TI := fun σ H R => ta σ H fun vs H1 =>
  (∃ a xs, vs = [.ref a] ∧ SqL K H1 a xs ∧ R (Ite K a) H1) ∨ (∃ a xs, vs = [.ref a] ∧ SqT K H1 a xs ∧ R (Itet K a) H1) ∨ (∃ x, vs = [.str x] ∧ R (Ites x) H1)
theorem pi_enumA {X : Cx} {e : Expr} {ta : TA} {p pos tpos : Pos} {elts : List Expr} {kk : Nat} (hg : Gl X "enumerate") (hm : X.mg "enumerate" = none) (ha : PA X [e] ta) (hs : starEach [e] X.env = [(false, eval e X.env)] := by rfl) :
    PI X (.Tuple elts kk tpos) (.Call (.Name "enumerate" p) [e] [] pos) (iEnumA X.K ta) := by
  refine ⟨fun pins s σ H R I h => ?_⟩
  refine Call_ (ld_blt I hg hm boot_enumerate (PyProof.Rows.callWith_type1 (thn (ha.run pos pins s σ H _ I h) fun us s1 ⟨vs, H1, I1, r1, q1⟩ => ?_) hs rfl))
  have hfp : ∀ b ∈ [s1.heap.objs.size + 1, s1.heap.objs.size], FpOk X pins H1 b := fun b hb => by
    have e' : b = s1.heap.objs.size + 1 ∨ b = s1.heap.objs.size := by simpa using hb
    have hle : s1.heap.objs.size ≤ b := by
      rcases e' with z | z
      · rw [z]; exact Nat.le_add_right _ _
      · rw [z]; exact Nat.le_refl _
    exact I1.fpOk hle (I1.hok.fresh hle)
  rcases q1 with ⟨a, xs, ex, hq, q⟩ | ⟨a, xs, ex, hq, q⟩ | ⟨x, ex, q⟩
  · subst ex
    cases r1 with
    | cons r rr =>
      cases rr
      cases r
      obtain ⟨its, rv, p', hz⟩ := I1.list hq
      refine call_enumerate_list p'.isList fun h' he hit hsz hk => wpAny_pyIter_enum he ?_
      exact ⟨s1.heap.objs.size + 1, [s1.heap.objs.size + 1, s1.heap.objs.size], _, _, H1, rfl, I1.kept (t' := s1.toks) hk, turn_enum a (s1.heap.objs.size + 1) s1.heap.objs.size, ⟨⟨.none, he⟩, hit, Nat.succ_ne_self _⟩, hfp, q⟩
  · subst ex
    cases r1 with
    | cons r rr =>
      cases rr
      cases r
      obtain ⟨its, rv, p', hz⟩ := I1.tuple hq
      refine call_enumerate_tuple p' fun h' he hit hsz hk => wpAny_pyIter_enum he ?_
      exact ⟨s1.heap.objs.size + 1, [s1.heap.objs.size + 1, s1.heap.objs.size], _, _, H1, rfl, I1.kept (t' := s1.toks) hk, turn_enumT a (s1.heap.objs.size + 1) s1.heap.objs.size, ⟨⟨.none, he⟩, hit, Nat.succ_ne_self _⟩, hfp, q⟩
  · subst ex
    cases r1 with
    | cons r rr =>
      cases rr
      obtain ⟨t, rfl⟩ := r
      refine call_enumerate_str fun h' he hit hsz hk => wpAny_pyIter_enum he ?_
      exact ⟨s1.heap.objs.size + 1, [s1.heap.objs.size + 1, s1.heap.objs.size], _, _, H1, rfl, I1.kept (t' := s1.toks) hk, turn_enumS x t (s1.heap.objs.size + 1) s1.heap.objs.size, ⟨⟨.none, he⟩, hit, Nat.succ_ne_self _⟩, hfp, q⟩
end Ev
end

section
set_option Elab.async false
set_option linter.all false
set_option autoImplicit false
set_option maxRecDepth 100000
set_option maxHeartbeats 4000000
/-! # What is walked, comprehensions -/
namespace Ev
open PySem PySem.Spec PyProof.Rows L2
section
variable {K : W.Frag} {T : List (Addr × Str)} {cl : Nat → Option Addr} {E : XK} {c : Cn} {X : Cx} {M : Ms} {H : Hp} {S : Store} {ρ : Rho} {σ : L2.St}
theorem b_okX {α β : Type} (a : α) (S : Store) (f : α → Store → R β) : (R.ok a S).bind f = f a S := rfl
theorem pi_or {tg iter : Expr} {w w' : TI} (h : PI X tg iter w) (h' : PI X tg iter w') : PI X tg iter (fun σ H R => w σ H R ∨ w' σ H R) := ⟨fun pins s σ H R I q => q.elim (h.run pins s σ H R I) (h'.run pins s σ H R I)⟩
/-- a dict that is walked is locked: what is to come of it -/
theorem dct_walk {a : Addr} {u : U} {kvs : List (PyData × U)} {S1 : Store} {mk : Addr → Obj → List (V × V) → L2.It} {us : List U} {R : L2.It → Hp → Prop} (st : StOk K T M S1 H) (r : RU K M H (.ref a) u) (e : dctOf S1 u = some kvs) (hk : dKeys kvs = true)
    (hf : ∀ {M' H' o vs}, (∀ M'' H'', Gr M' H' M'' H'' → Rd H'' a (DX a o)) → RpA K M' H' (vs.map Prod.fst) (kvs.map Prod.fst) → RUs K M' H' (vs.map Prod.snd) (kvs.map Prod.snd) → Feed K M' H' (mk a o vs) (.fix us))
    (h : Out K T cl E M H (.ok (.fix us) (lockD S1 u)) (fun M H J s => Feed K M H J s) R) :
    ∃ o vs ks, DObj a o vs ks ∧ ((Rd H a (DX a o) ∧ R (mk a o vs) H) ∨ (H a = some (DX a o) ∧ ∀ od, R (mk a o vs) (upd H a (.frz od (DX a o))))) := by
  have hkk : ∀ k, k ∈ kvs.map Prod.fst → dKey k = true := fun k hkm => by
    obtain ⟨q, hq, e⟩ := List.mem_map.mp hkm
    rw [← e]
    exact List.all_eq_true.mp hk q hq
  have nos : ∀ {ks : List PyData}, ks = kvs.map Prod.fst → ks ≠ [] → (∀ k, k ∈ ks → sKey k = true) → False := fun {ks} ek hn hs => by
    cases ks with
    | nil => exact hn rfl
    | cons k r =>
      have h1 := hs k List.mem_cons_self
      have h2 := hkk k (by rw [← ek]; exact List.mem_cons_self)
      obtain ⟨x, e⟩ := sKey_of h1
      rw [e] at h2
      cases h2
  cases u with
  | d p =>
    cases p with
    | dict ds =>
      cases e
      have e1 : (ds.map fun q => (q.1, U.d q.2)).map Prod.fst = ds.map Prod.fst := by rw [List.map_map]; rfl
      have e2 : (ds.map fun q => (q.1, U.d q.2)).map Prod.snd = (ds.map Prod.snd).map U.d := by rw [List.map_map, List.map_map]; rfl
      cases (show Rp K M H (.ref a) (.dict ds) from r) with
      | dct n h2 d r q =>
        exact ⟨_, _, _, d, .inl ⟨h2, h _ M H (Gr.refl _ _) st (hf (fun M'' H'' g => (g.rd h2 n DX_ne).2) (by rw [e1]; exact r) (by rw [e2]; exact rus_d q))⟩⟩
      | dks n h2 e k r q => exact (nos (ks := ds.map Prod.fst) e1.symm (fun z => e (map_nil z)) k).elim
    | _ => cases e
  | ref i =>
    obtain ⟨b, e1, e2⟩ := r
    cases e2
    obtain ⟨bx, e2, hb⟩ := st.lt e1
    have e' : (match S1[i]? with | some (.dct _ kvs) => some kvs | _ => none) = some kvs := e
    rw [e2] at e'
    cases bx with
    | dct lk ks =>
      cases e'
      have hS : lockD S1 (.ref i) = S1.set i (.dct true kvs) := by
        show (match S1[i]? with | some (.dct _ kvs) => S1.set i (.dct true kvs) | _ => S1) = _
        rw [e2]
      rw [hS] at h
      rcases hb with ⟨o, vs, h1, d, r, q⟩ | ⟨_, ws, h1, hn, k, r, q⟩
      case inr => exact (nos (ks := kvs.map Prod.fst) rfl (fun z => hn (map_nil z)) k).elim
      cases lk with
      | true =>
        rw [if_pos rfl] at h1
        obtain ⟨od, h1⟩ := h1
        refine ⟨o, vs, _, d, .inl ⟨.inr ⟨od, h1⟩, ?_⟩⟩
        have st' : StOk K T M (S1.set i (.dct true kvs)) H := by
          have : S1.set i (.dct true kvs) = S1 := by
            apply List.ext_getElem?
            intro j
            by_cases hj : i = j
            · subst hj
              rw [List.getElem?_set_self (List.getElem?_eq_some_iff.mp e2).1, e2]
            · rw [List.getElem?_set_ne hj]
          rw [this]
          exact st
        exact h _ M H (Gr.refl _ _) st' (hf (fun M'' H'' g => .inr ⟨od, g.frz _ _ _ h1⟩) r q)
      | false =>
        rw [if_neg (by decide)] at h1
        refine ⟨o, vs, _, d, .inr ⟨h1, fun od => ?_⟩⟩
        have nz : ∀ od u, H a ≠ some (.frz od u) := fun od u z => by
          rw [h1] at z
          exact DX_frz (Option.some.inj z)
        have gw : Gr M H M (upd H a (.frz od (DX a o))) := gr_wr M (List.mem_of_getElem? e1) (fun ps z => by cases z) nz
        exact h _ M _ gw (st_putG st e1 nz (fun ps z => by cases z) (.inl ⟨o, vs, ⟨od, upd_same⟩, d, r.mono gw, q.mono gw⟩) (show Box.below i (.dct false kvs) from st.old i _ e2)) (hf (fun M'' H'' g => .inr ⟨od, g.frz _ _ _ upd_same⟩) (r.mono gw) (q.mono gw))
    | _ => cases e'
  | _ => cases e
theorem dct_ref {u : U} {v : V} {S1 : Store} {kvs : List (PyData × U)} (st : StOk K T M S1 H) (r : RU K M H v u) (e : dctOf S1 u = some kvs) : ∃ a, v = .ref a := by
  obtain ⟨a, e1, _⟩ := dct_of r st e
  exact ⟨a, e1⟩
theorem pix_val {tg e : Expr} {x : Ev.X} (he : PE X e (tX X.K T cl E c x)) : PI X tg e (tIt X.K T cl E c (.val x)) :=
  pi_imp (pi_or (pi_any he) (pi_dk he)) fun σ H R ⟨ρ, M, S, en, st, h⟩ => by
    unfold evIt at h
    cases ex : evX c x ρ S with
    | bad => rw [ex] at h; exact h.elim
    | exc k S1 => rw [ex] at h; exact .inl ⟨ρ, M, S, en, st, by rw [ex]; exact h⟩
    | ok u S1 =>
    rw [ex] at h
    cases ed : dctOf S1 u with
    | some kvs =>
      right
      refine ⟨ρ, M, S, en, st, ?_⟩
      rw [ex]
      intro v M1 H1 g1 st1 r1
      have h1 := Out.later h g1
      rw [b_okX, ed] at h1
      have h1 : Out X.K T cl E M1 H1 (if dKeys kvs = true then .ok (.fix (keyItems kvs)) (lockD S1 u) else .bad) (fun M H J s => Feed X.K M H J s) R := h1
      split at h1
      case isFalse => exact h1.elim
      rename_i hk
      obtain ⟨a, rfl⟩ := dct_ref st1 r1 ed
      obtain ⟨o, vs, ks, d, q⟩ := dct_walk (mk := Itdk) st1 r1 ed hk (fun f r _ => feed_dk f r) h1
      exact ⟨a, o, vs, ks, rfl, d, q⟩
    | none =>
    left
    refine ⟨ρ, M, S, en, st, ?_⟩
    rw [ex]
    intro v M1 H1 g1 st1 r1
    have h1 := Out.later h g1
    rw [b_okX, ed] at h1
    have h1 : Out X.K T cl E M1 H1 (Ev.R.of S1 (srcU S1 u)) (fun M H J s => Feed X.K M H J s) R := h1
    obtain ⟨src, e, h2⟩ : ∃ src, srcU S1 u = some src ∧ ∀ J, Feed X.K M1 H1 J src → R J H1 := by
      cases e : srcU S1 u with
      | none => rw [e] at h1; exact h1.elim
      | some src =>
        rw [e] at h1
        exact ⟨src, rfl, fun J f => h1 J M1 H1 (Gr.refl _ _) st1 f⟩
    unfold srcU at e
    split at e
    · cases e
      cases (show Rp X.K M1 H1 v _ from r1) with
      | lst n hl ra => exact .inl ⟨_, _, rfl, SqL.of hl, h2 _ (feed_list n hl ra)⟩
    · cases e
      obtain ⟨a, xs, e1, t1, ra⟩ := (show Rp X.K M1 H1 v _ from r1).rs.tup
      exact .inr (.inl ⟨_, _, e1, t1.sq, h2 _ (feed_tup t1 ra)⟩)
    · cases e
      have e1 := (show Rp X.K M1 H1 v _ from r1).rs.str
      exact .inr (.inr ⟨_, e1, h2 _ feed_str⟩)
    · cases e
      obtain ⟨a, e1, t1⟩ := r1
      exact .inl ⟨a, _, e1, t1.sq, h2 _ (feed_scr t1)⟩
    · rename_i i
      split at e
      · rename_i ds e2
        cases e
        obtain ⟨a, e3, e4⟩ := r1
        obtain ⟨xs, e5, _⟩ := st1.lst e3 e2
        exact .inl ⟨_, _, e4, SqL.of e5, h2 _ ⟨a, e3, rfl⟩⟩
      · rename_i us e2
        cases e
        obtain ⟨a, e3, e4⟩ := r1
        obtain ⟨xs, e5, _⟩ := st1.box _ a _ e3 e2
        exact .inl ⟨_, _, e4, SqL.of e5, h2 _ ⟨a, e3, rfl⟩⟩
      · cases e
    · cases e
/-- d.items() -/
theorem pix_itm {o : Expr} {tes : List Expr} {tk : Nat} {apos pos tpos : Pos} {x : Ev.X} (hbc : bareCall o = false) (hl : (apos.endLine == pos.line) = true) (ho : PE X o (tX X.K T cl E c x)) :
    PI X (.Tuple tes tk tpos) (.Call (.Attribute o "items" apos) [] [] pos) (tIt X.K T cl E c (.itm x)) := by
  have hbase : attributeBase o "items" X.env (eval o X.env) = eval o X.env := by
    unfold attributeBase
    split
    · cases hbc
    · rfl
  refine pi_imp (pi_di ho hbase hl) fun σ H R ⟨ρ, M, S, en, st, h⟩ => ?_
  unfold evIt at h
  refine tX_b en st h fun v M1 H1 S1 u g1 en1 st1 r1 h1 => ?_
  cases ed : dctOf S1 u with
  | none => rw [ed] at h1; exact h1.elim
  | some kvs =>
    rw [ed] at h1
    dsimp only at h1
    cases ei : prItems kvs with
    | none => rw [ei] at h1; exact h1.elim
    | some us =>
      rw [ei] at h1
      dsimp only at h1
      split at h1
      case isFalse => exact h1.elim
      rename_i hk
      obtain ⟨a, rfl⟩ := dct_ref st1 r1 ed
      obtain ⟨o', vs, ks, d, q⟩ := dct_walk (mk := Itdi) st1 r1 ed hk (fun f r q => feed_di f r q ei) h1
      exact ⟨a, o', vs, ks, rfl, d, q⟩
theorem small_of {i : Int} (h : smallR i = true) : -(2 ^ 62) ≤ i ∧ i < 2 ^ 62 := by
  unfold smallR at h
  rw [Bool.and_eq_true, decide_eq_true_eq, decide_eq_true_eq] at h
  exact h
def Xs.len : Xs → Nat
  | .nil => 0
  | .cons _ r => r.len + 1
theorem evXs_chk (g : Cn) : ∀ (xs : Xs) (ρ : Rho) (S : Store), evXs g xs ρ S = (evXs g xs ρ S).bind fun us S1 => if us.length = xs.len then .ok us S1 else .bad
  | .nil, ρ, S => by unfold evXs; rfl
  | .cons a r, ρ, S => by
    have ih := evXs_chk g r
    unfold evXs
    cases evX g a ρ S with
    | ok x S1 =>
      show ((evXs g r ρ S1).bind fun xs S2 => R.ok (x :: xs) S2) = ((evXs g r ρ S1).bind fun xs S2 => R.ok (x :: xs) S2).bind _
      rw [bind_assoc, ih ρ S1]
      cases evXs g r ρ S1 with
      | ok xs S2 =>
        show (if xs.length = r.len then R.ok xs S2 else R.bad).bind _ = (if xs.length = r.len then R.ok xs S2 else R.bad).bind _
        split
        · rename_i e
          show R.ok (x :: xs) S2 = if (x :: xs).length = r.len + 1 then R.ok (x :: xs) S2 else R.bad
          rw [if_pos (by rw [List.length_cons, e])]
        · rfl
      | exc _ _ => rfl
      | bad => rfl
    | exc _ _ => rfl
    | bad => rfl
/-- arguments, counted -/
theorem tXs_n {α β : Type} {ir : Xs} {f : List U → Store → R α} {rel : Ms → Hp → β → α → Prop} {Q : β → Hp → Prop} (en : EnvOk K ρ σ M H) (st : StOk K T M S H) (h : Out K T cl E M H ((evXs c ir ρ S).bind f) rel Q) {G : List V → Hp → Prop}
    (q : ∀ v M1 H1 S1 u, Gr M H M1 H1 → EnvOk K ρ σ M1 H1 → StOk K T M1 S1 H1 → RUs K M1 H1 v u → u.length = ir.len → Out K T cl E M1 H1 (f u S1) rel Q → G v H1) : tXs K T cl E c ir σ H G := by
  rw [evXs_chk, bind_assoc] at h
  refine tXs_b en st h fun v M1 H1 S1 u g1 en1 st1 r1 h1 => ?_
  by_cases e : u.length = ir.len
  · rw [if_pos e] at h1
    exact q v M1 H1 S1 u g1 en1 st1 r1 e h1
  · rw [if_neg e] at h1
    exact h1.elim
theorem datas_len {S : Store} : ∀ {us : List U} {ps : List PyData}, datas S us = some ps → ps.length = us.length
  | [], _, e => by cases e; rfl
  | .d p :: r, _, e => by
    unfold datas at e
    obtain ⟨qs, e1, rfl⟩ := map_some e
    show qs.length + 1 = r.length + 1
    rw [datas_len e1]
  | .ref _ :: _, _, e => by cases e
  | .scr _ :: _, _, e => by cases e
  | .it _ :: _, _, e => by cases e
  | .obj _ :: _, _, e => by cases e
/-- the ints of a range -/
theorem fin_rng {xs : Xs} {σ : L2.St} {H : Hp} {G : L2.It → Hp → Prop} {G2 : List V → Hp → Prop} (h : tIt K T cl E c (.rng xs) σ H G)
    (q : ∀ M1 H1 vs (ps : List PyData) us, RpA K M1 H1 vs ps → ps.length = xs.len → rngD ps = some us → (∀ J, Feed K M1 H1 J (.fix us) → G J H1) → G2 vs H1) : tXs K T cl E c xs σ H G2 := by
  obtain ⟨ρ, M, S, en, st, h⟩ := h
  unfold evIt at h
  refine tXs_n en st h fun v M1 H1 S1 us g1 en1 st1 r1 hl h1 => ?_
  cases e : datas S1 us with
  | none => rw [e] at h1; exact h1.elim
  | some ps =>
    rw [e] at h1
    have h1 : Out K T cl E M1 H1 (R.of S1 ((rngD ps).map Src.fix)) (fun M H J s => Feed K M H J s) G := h1
    cases e2 : rngD ps with
    | none => rw [e2] at h1; exact h1.elim
    | some is =>
      rw [e2] at h1
      exact q M1 H1 v ps is (datas_of r1 e) (by rw [datas_len e, hl]) e2 fun J f => h1 J M1 H1 (Gr.refl _ _) st1 f
theorem rng1 {p : PyData} {us : List U} (h : rngD [p] = some us) : ∃ j, p = .int j ∧ (-(2 ^ 62) ≤ j ∧ j < 2 ^ 62) ∧ us = rngItems 0 j.toNat := by
  unfold rngD at h
  split at h
  · rename_i j e
    cases e
    split at h
    · rename_i hs
      cases h
      exact ⟨j, rfl, small_of hs, rfl⟩
    · cases h
  · rename_i e; cases e
  · rename_i e; cases e
  · cases h
theorem rng2 {p q : PyData} {us : List U} (h : rngD [p, q] = some us) : ∃ i j, p = .int i ∧ q = .int j ∧ (-(2 ^ 62) ≤ i ∧ i < 2 ^ 62) ∧ (-(2 ^ 62) ≤ j ∧ j < 2 ^ 62) ∧ us = rngItems i (j - i).toNat := by
  unfold rngD at h
  split at h
  · rename_i e; cases e
  · rename_i i j e
    cases e
    split at h
    · rename_i hs
      rw [Bool.and_eq_true] at hs
      cases h
      exact ⟨i, j, rfl, rfl, small_of hs.1, small_of hs.2, rfl⟩
    · cases h
  · rename_i e; cases e
  · cases h
theorem rng3 {p q r : PyData} {us : List U} (h : rngD [p, q, r] = some us) : ∃ i j, p = .int i ∧ q = .int j ∧ r = .int (-1) ∧ (-(2 ^ 62) ≤ i ∧ i < 2 ^ 62) ∧ (-(2 ^ 62) ≤ j ∧ j < 2 ^ 62) ∧ us = (List.range (i - j).toNat).map fun k => .d (.int (i - (k : Nat))) := by
  unfold rngD at h
  split at h
  · rename_i e; cases e
  · rename_i e; cases e
  · rename_i i j k e
    cases e
    split at h
    · rename_i hs
      rw [Bool.and_eq_true] at hs
      cases h
      obtain ⟨rfl, h1, h2⟩ := hs
      exact ⟨i, j, rfl, rfl, rfl, small_of h1, small_of h2, rfl⟩
    · cases h
  · cases h
theorem pix_rng1 {tg a : Expr} {p pos : Pos} {x : Ev.X} (hg : Gl X "range") (hm : X.mg "range" = none) (hs : starred a = false) (ha : PA X [a] (tXs X.K T cl E c (.cons x .nil))) :
    PI X tg (.Call (.Name "range" p) [a] [] pos) (tIt X.K T cl E c (.rng (.cons x .nil))) :=
  pi_imp (pi_range1 hg hm ha (star_of hs)) fun σ H G h => fin_rng h fun M1 H1 vs ps us r1 hl e q => by
    match ps, hl with
    | [p], _ =>
      obtain ⟨j, rfl, hj, rfl⟩ := rng1 e
      cases r1 with
      | cons r rr =>
        cases rr
        cases r
        exact ⟨j, rfl, hj.1, hj.2, q _ feed_rng⟩
theorem pix_rng2 {tg a b : Expr} {p pos : Pos} {x y : Ev.X} (hg : Gl X "range") (hm : X.mg "range" = none) (hs : starred a = false) (hs2 : starred b = false) (ha : PA X [a, b] (tXs X.K T cl E c (.cons x (.cons y .nil)))) :
    PI X tg (.Call (.Name "range" p) [a, b] [] pos) (tIt X.K T cl E c (.rng (.cons x (.cons y .nil)))) :=
  pi_imp (pi_range2 hg hm ha (by rw [star_of hs, star_of hs2]; rfl) (star_of hs2)) fun σ H G h => fin_rng h fun M1 H1 vs ps us r1 hl e q => by
    match ps, hl with
    | [p, p'], _ =>
      obtain ⟨i, j, rfl, rfl, hi, hj, rfl⟩ := rng2 e
      cases r1 with
      | cons r rr =>
        cases rr with
        | cons r' rr =>
          cases rr
          cases r
          cases r'
          exact ⟨i, j, rfl, ⟨hi.1, hi.2, hj.1, hj.2⟩, q _ feed_rng⟩
theorem pix_rng3 {tg a b d : Expr} {p pos : Pos} {x y z : Ev.X} (hg : Gl X "range") (hm : X.mg "range" = none) (hs : starred a = false) (hs2 : starred b = false) (hs3 : starred d = false) (ha : PA X [a, b, d] (tXs X.K T cl E c (.cons x (.cons y (.cons z .nil))))) :
    PI X tg (.Call (.Name "range" p) [a, b, d] [] pos) (tIt X.K T cl E c (.rng (.cons x (.cons y (.cons z .nil))))) :=
  pi_imp (pi_range3 hg hm ha (star_of hs) (by rw [star_of hs2, star_of hs3]; rfl)) fun σ H G h => fin_rng h fun M1 H1 vs ps us r1 hl e q => by
    match ps, hl with
    | [p, p', p''], _ =>
      obtain ⟨i, j, rfl, rfl, rfl, hi, hj, rfl⟩ := rng3 e
      cases r1 with
      | cons r rr =>
        cases rr with
        | cons r' rr =>
          cases rr with
          | cons r'' rr =>
            cases rr
            cases r
            cases r'
            cases r''
            exact ⟨i, j, -1, _, rfl, RgC.neg hi.1 hi.2 hj.1 hj.2, q _ feed_rngC⟩
theorem gr_tup {p : Addr} {xs : List V} (s : StOk K T M S H) (h : H p = none) : Gr M H M (upd H p (.tup xs)) := gr_new s h
/-- enumerate -/
theorem enm_at (ds : List PyData) : ∀ k i : Nat, (enmItems k ds)[i]? = (ds[i]?).map fun d => U.it [.int ((k + i : Nat) : Int), d] := by
  induction ds with
  | nil => intro k i; simp [enmItems]
  | cons d ds ih =>
    intro k i
    cases i with
    | zero => simp [enmItems]
    | succ i =>
      show (enmItems (k + 1) ds)[i]? = _
      rw [ih, List.getElem?_cons_succ]
      congr 1
      funext d
      have : k + 1 + i = k + (i + 1) := by omega
      rw [this]
theorem feed_enm {ds : List PyData} {J : L2.It} {xs : List V}
    (hJ : ∀ M' H', Gr M H M' H' → ∀ i, (xs.length ≤ i → J.stop i H') ∧ ∀ x, xs[i]? = some x → J.go i H' ∧ ∀ v H'', J.yld i H' v H'' → ∃ t, v = .ref t ∧ H' t = none ∧ H'' = upd H' t (.tup [.int (i : Nat), x]))
    (r : RpA K M H xs ds) : Feed K M H J (.fix (enmItems 0 ds)) := by
  intro M' H' g i
  have r' := r.mono g
  obtain ⟨j1, j2⟩ := hJ M' H' g i
  rw [enm_at ds 0 i, Nat.zero_add]
  refine ⟨fun e => j1 ?_, fun u e => ?_⟩
  · rw [Option.map_eq_none_iff, List.getElem?_eq_none_iff] at e
    rw [r.length]; exact e
  · obtain ⟨d, e1, rfl⟩ := map_some e
    obtain ⟨v, e2, r2⟩ := r'.get e1
    obtain ⟨j3, j4⟩ := j2 v e2
    refine ⟨j3, fun x H'' hy T S st => ?_⟩
    obtain ⟨t, ex, ht, eH⟩ := j4 x H'' hy
    subst eH ex
    exact ⟨gr_new st ht, st_new st ht, t, _, rfl, st.free ht, upd_same, .cons (.int _) (.cons (r2.mono (gr_new st ht)) .nil)⟩
theorem strP_rp (z : Str) : RpA K M H (z.cps.toList.map fun c => V.str ⟨#[c]⟩) (strP z) := by
  unfold strP
  induction z.cps.toList with
  | nil => exact .nil
  | cons c l ih => exact .cons (Rp.str _) ih
theorem pix_enm {a : Expr} {tes : List Expr} {tk : Nat} {p pos tpos : Pos} {x : Ev.X} (hg : Gl X "enumerate") (hm : X.mg "enumerate" = none) (hs : starred a = false) (ha : PE X a (tX X.K T cl E c x)) :
    PI X (.Tuple tes tk tpos) (.Call (.Name "enumerate" p) [a] [] pos) (tIt X.K T cl E c (.enm x)) :=
  pi_imp (pi_enumA hg hm (pa_cons ha pa_nil (star_of hs)) (star_of hs)) fun σ H G ⟨ρ, M, S, en, st, h⟩ => by
    unfold evIt at h
    refine tX_b en st h fun v M1 H1 S1 u g1 en1 st1 r1 h1 => ?_
    split at h1
    · rename_i ds
      cases (show Rp X.K M1 H1 v _ from r1) with
      | lst n hl ra =>
        refine .inl ⟨_, _, rfl, SqL.of hl, h1 _ M1 H1 (Gr.refl _ _) st1 (feed_enm (fun M' H' g i => ?_) ra)⟩
        obtain ⟨n', h'⟩ := g.at_ hl n fun ps z => by cases z
        exact ⟨fun e => ⟨_, SqL.of h', e⟩, fun x e => ⟨⟨_, x, SqL.of h', e⟩, fun v H'' ⟨t, y, ex, ht, eH, hx⟩ => ⟨t, ex, ht, by rw [eH, Option.some.inj (e.symm.trans (hx _ (SqL.of h')))]⟩⟩⟩
    · rename_i ds
      obtain ⟨a, xs, e1, t1, ra⟩ := (show Rp X.K M1 H1 v _ from r1).rs.tup
      rw [e1]
      refine .inr (.inl ⟨_, _, rfl, t1.sq, h1 _ M1 H1 (Gr.refl _ _) st1 (feed_enm (fun M' H' g i => ?_) ra)⟩)
      have t' := t1.mono g
      exact ⟨fun e => ⟨_, t'.sq, e⟩, fun x e => ⟨⟨_, x, t'.sq, e⟩, fun v H'' ⟨t, y, ex, ht, eH, hx⟩ => ⟨t, ex, ht, by rw [eH, Option.some.inj (e.symm.trans (hx _ t'.sq))]⟩⟩⟩
    · rename_i z
      have e1 := (show Rp X.K M1 H1 v _ from r1).rs.str
      rw [e1]
      refine .inr (.inr ⟨_, rfl, h1 _ M1 H1 (Gr.refl _ _) st1 (feed_enm (fun M' H' g i => ?_) (strP_rp z))⟩)
      refine ⟨fun e => ?_, fun x e => ?_⟩
      · show z.cps.size ≤ i
        rw [List.length_map, Array.length_toList] at e
        exact e
      · rw [List.getElem?_map, Array.getElem?_toList] at e
        obtain ⟨d, e2, rfl⟩ := map_some e
        refine ⟨(Array.getElem?_eq_some_iff.mp e2).1, fun v H'' ⟨t, c', ex, ht, eH, hx⟩ => ⟨t, ex, ht, ?_⟩⟩
        rw [eH, Option.some.inj (e2.symm.trans hx)]
    · exact h1.elim
theorem zip_at : ∀ (xs ys : List PyData) (i : Nat), (zipItems xs ys)[i]? = (xs[i]?).bind fun x => (ys[i]?).map fun y => U.it [x, y]
  | [], ys, i => by unfold zipItems; simp
  | x :: xs, [], i => by unfold zipItems; cases i <;> simp
  | x :: xs, y :: ys, 0 => by unfold zipItems; simp
  | x :: xs, y :: ys, i + 1 => by
    unfold zipItems
    rw [List.getElem?_cons_succ, zip_at xs ys i]
    simp
theorem feed_zip {a b : Addr} {xs ys : List V} {ds es : List PyData} {J : L2.It}
    (hJ : ∀ M' H', Gr M H M' H' → ∀ i, ((xs.length ≤ i ∨ ys.length ≤ i) → J.stop i H') ∧ ∀ x y, xs[i]? = some x → ys[i]? = some y → J.go i H' ∧ ∀ v H'', J.yld i H' v H'' → ∃ t, v = .ref t ∧ H' t = none ∧ H'' = upd H' t (.tup [x, y]))
    (r : RpA K M H xs ds) (q : RpA K M H ys es) : Feed K M H J (.fix (zipItems ds es)) := by
  intro M' H' g i
  have r' := r.mono g
  have q' := q.mono g
  obtain ⟨j1, j2⟩ := hJ M' H' g i
  rw [zip_at]
  refine ⟨fun e => j1 ?_, fun u e => ?_⟩
  · cases e1 : ds[i]? with
    | none => exact .inl (by rw [r.length]; exact List.getElem?_eq_none_iff.mp e1)
    | some d =>
      rw [e1] at e
      cases e2 : es[i]? with
      | none => exact .inr (by rw [q.length]; exact List.getElem?_eq_none_iff.mp e2)
      | some d' => rw [e2] at e; cases e
  · obtain ⟨d, e1, e⟩ := bindO e
    obtain ⟨d', e2, rfl⟩ := map_some e
    obtain ⟨v, e3, r2⟩ := r'.get e1
    obtain ⟨v', e4, q2⟩ := q'.get e2
    obtain ⟨j3, j4⟩ := j2 v v' e3 e4
    refine ⟨j3, fun x H'' y T S st => ?_⟩
    obtain ⟨t, rfl, ht, rfl⟩ := j4 x H'' y
    exact ⟨gr_new st ht, st_new st ht, t, _, rfl, st.free ht, upd_same, .cons (r2.mono (gr_new st ht)) (.cons (q2.mono (gr_new st ht)) .nil)⟩
theorem pix_zip {a b : Expr} {tes : List Expr} {tk : Nat} {p pos tpos : Pos} {x y : Ev.X} (hg : Gl X "zip") (hm : X.mg "zip" = none) (hs : starred a = false) (hs2 : starred b = false) (ha : PE X a (tX X.K T cl E c x)) (hb : PE X b (tX X.K T cl E c y)) :
    PI X (.Tuple tes tk tpos) (.Call (.Name "zip" p) [a, b] [] pos) (tIt X.K T cl E c (.zip x y)) :=
  pi_imp (RZ.pi_zipA hg hm (pa_cons ha (pa_cons hb pa_nil (star_of hs2)) (star_of hs)) (star_of hs) (by rw [star_of hs2]; rfl)) fun σ H G ⟨ρ, M, S, en, st, h⟩ => by
    unfold evIt at h
    refine tX_b en st h fun v M1 H1 S1 u g1 en1 st1 r1 h1 => tX_b en1 st1 h1 fun w M2 H2 S2 u2 g2 _ st2 r2 h2 => ?_
    have r1 := r1.mono g2
    split at h2
    · cases (show Rp X.K M2 H2 v _ from r1) with
      | lst n hl ra =>
        cases (show Rp X.K M2 H2 w _ from r2) with
        | lst n' hl' ra' =>
          refine ⟨_, _, _, _, rfl, .inl ⟨SqL.of hl, SqL.of hl', h2 _ M2 H2 (Gr.refl _ _) st2 (feed_zip (a := 0) (b := 0) (fun M' H' g i => ?_) ra ra')⟩⟩
          obtain ⟨_, h3⟩ := g.at_ hl n fun ps z => by cases z
          obtain ⟨_, h4⟩ := g.at_ hl' n' fun ps z => by cases z
          refine ⟨fun z => ⟨_, _, SqL.of h3, SqL.of h4, z⟩, fun x y ex ey => ⟨⟨_, _, x, y, SqL.of h3, SqL.of h4, ex, ey⟩, fun v H'' ⟨t, x', y', e1, e2, e3, e4, e5⟩ => ?_⟩⟩
          have e4 := e4 _ (SqL.of h3)
          have e5 := e5 _ (SqL.of h4)
          rw [ex] at e4
          rw [ey] at e5
          cases e4
          cases e5
          exact ⟨t, e1, e2, e3⟩
    · obtain ⟨a1, xs1, rfl, t1, ra⟩ := (show Rp X.K M2 H2 v _ from r1).rs.tup
      obtain ⟨a2, xs2, rfl, t2, ra'⟩ := (show Rp X.K M2 H2 w _ from r2).rs.tup
      refine ⟨_, _, _, _, rfl, .inr ⟨t1.sq, t2.sq, h2 _ M2 H2 (Gr.refl _ _) st2 (feed_zip (a := 0) (b := 0) (fun M' H' g i => ?_) ra ra')⟩⟩
      have h3 := (t1.mono g).sq
      have h4 := (t2.mono g).sq
      refine ⟨fun z => ⟨_, _, h3, h4, z⟩, fun x y ex ey => ⟨⟨_, _, x, y, h3, h4, ex, ey⟩, fun v H'' ⟨t, x', y', e1, e2, e3, e4, e5⟩ => ?_⟩⟩
      have e4 := e4 _ h3
      have e5 := e5 _ h4
      rw [ex] at e4
      rw [ey] at e5
      cases e4
      cases e5
      exact ⟨t, e1, e2, e3⟩
    · exact h2.elim
end
end Ev
end

section
set_option Elab.async false
set_option linter.all false
set_option autoImplicit false
set_option maxRecDepth 100000
set_option maxHeartbeats 4000000
/-! # Comprehensions -/
namespace Ev
open PySem PySem.Spec PyProof.Rows L2
/-- nobody takes an exception -/
abbrev noE : XK := fun _ _ _ => False
theorem wipe_at {σ : L2.St} : ∀ {vs : List Nat} {i : Nat}, i ∈ vs → i < σ.length → (L2.wipe σ vs)[i]? = some none
  | v :: vs, i, h, hl => by
    unfold L2.wipe
    by_cases e : v = i
    · subst e
      rw [List.getElem?_set_self (by rw [L2.wipe_length]; exact hl)]
    · rw [List.getElem?_set_ne e]
      exact wipe_at ((List.mem_cons.mp h).resolve_left fun z => e z.symm) hl
theorem wipe_out {σ : L2.St} : ∀ {vs : List Nat} {i : Nat}, i ∉ vs → (L2.wipe σ vs)[i]? = σ[i]?
  | [], _, _ => rfl
  | v :: vs, i, h => by
    unfold L2.wipe
    rw [List.getElem?_set_ne (fun e => h (by rw [e]; exact List.mem_cons_self))]
    exact wipe_out fun z => h (List.mem_cons_of_mem _ z)
theorem wipe_ext {σ τ : L2.St} {vs : List Nat} (hl : σ.length = τ.length) (h : ∀ i, i ∉ vs → σ[i]? = τ[i]?) : L2.wipe σ vs = L2.wipe τ vs := by
  apply List.ext_getElem?
  intro i
  by_cases hi : i ∈ vs
  · by_cases h2 : i < σ.length
    · rw [wipe_at hi h2, wipe_at hi (by rw [← hl]; exact h2)]
    · rw [List.getElem?_eq_none (by rw [L2.wipe_length]; omega), List.getElem?_eq_none (by rw [L2.wipe_length]; omega)]
  · rw [wipe_out hi, wipe_out hi, h i hi]
section
variable {K : W.Frag} {T : List (Addr × Str)} {cl : Nat → Option Addr} {E : XK} {c : Cn} {X : Cx} {M : Ms} {H : Hp} {S : Store} {ρ : Rho} {σ : L2.St}
/-- a target, and that it leaves the other slots alone -/
def tTw (K : W.Frag) (T : List (Addr × Str)) (t : Tg) : TG := fun v σ H Q => ∃ ρ M S u ρ', EnvOk K ρ σ M H ∧ StOk K T M S H ∧ RU K M H v u ∧ bindT t u ρ = some ρ' ∧ ∀ σ', EnvOk K ρ' σ' M H → σ'.length = σ.length → (∀ i, i ∉ t.slots → σ'[i]? = σ[i]?) → Q σ' H
def tTws (K : W.Frag) (T : List (Addr × Str)) (t : Tg) : TGs := fun vs σ H Q => ∃ ρ M S ds ρ', EnvOk K ρ σ M H ∧ StOk K T M S H ∧ RpA K M H vs ds ∧ bindT t (.d (.tuple ds)) ρ = some ρ' ∧ ∀ σ', EnvOk K ρ' σ' M H → σ'.length = σ.length → (∀ i, i ∉ t.slots → σ'[i]? = σ[i]?) → Q σ' H
theorem pgw_name {N : List Str} {sc : Scope} {fb : Fb} {x : Str} {i : Nat} {pos : Pos} (hN : X.N = N) (nd : N.Nodup) (hs : X.env.scope = sc) (hf : ∀ x, fb x = true → X.fn x = true ∨ X.env.scope.names.lookup x = some .local) (hl : locB sc x = true) (hb : fb x = true) (hi : ixOf N x = some i) : PG X (.Name x pos) (tTw X.K T (.nm i)) :=
  pg_imp (pg_name (i := i) (by rw [hN]; exact nd) (by rw [hN]; exact ix_of hi) (by rw [hs]; exact loc_of hl) (hf x hb)) fun v σ H Q ⟨ρ, M, S, u, ρ', en, st, r, e, q⟩ => by
    cases e
    refine q _ (en.set r) (by simp) fun j hj => ?_
    rw [List.getElem?_set_ne]
    rintro rfl
    exact hj (by simp [Tg.slots])
theorem pgsw_nil : PGs X [] (tTws X.K T .nil) := pgs_imp pgs_nil fun v σ H Q ⟨ρ, M, S, ds, ρ', en, st, r, e, q⟩ => by
  cases ds with
  | nil =>
    cases e
    cases r
    exact ⟨rfl, q _ en rfl fun _ _ => rfl⟩
  | cons d ds => cases e
theorem pgsw_cons {e : Expr} {es : List Expr} {a r : Tg} (hs : starred e = false) (h1 : PG X e (tTw X.K T a)) (h2 : PGs X es (tTws X.K T r)) : PGs X (e :: es) (tTws X.K T (.cons a r)) :=
  pgs_imp (pgs_cons h1 h2 (by rw [each_of hs]; rfl)) fun v σ H Q ⟨ρ, M, S, ds, ρ', en, st, ra, e, q⟩ => by
    cases ra with
    | nil => cases e
    | cons r1 r2 =>
      unfold bindT at e
      obtain ⟨ρ1, e1, e2⟩ := bindO e
      refine ⟨_, _, rfl, ρ, M, S, .d _, ρ1, en, st, r1, e1, fun σ1 en1 l1 w1 => ⟨ρ1, M, S, _, ρ', en1, st, r2, e2, fun σ2 en2 l2 w2 => q σ2 en2 (by rw [l2, l1]) fun i hi => ?_⟩⟩
      have hi : i ∉ a.slots ++ r.slots := hi
      rw [List.mem_append, not_or] at hi
      rw [w2 i hi.2, w1 i hi.1]
theorem pgw_tup {es : List Expr} {k : Nat} {pos : Pos} {t : Tg} (hc : X.calm = true) (hl : t.isList = true) (hn : t.len = es.length) (hp : plain es = true) (h : PGs X es (tTws X.K T t)) : PG X (.Tuple es k pos) (tTw X.K T t) :=
  pg_imp (pg_tup (n := es.length) hc h each_len (each_plain hp)) fun v σ H Q ⟨ρ, M, S, u, ρ', en, st, r, e, q⟩ => by
    have hu : (∃ ds, u = .d (.tuple ds)) ∨ ∃ ds, u = .it ds := by
      cases t with
      | nm i => cases hl
      | nil =>
        unfold bindT at e
        split at e
        · exact .inl ⟨_, rfl⟩
        · exact .inr ⟨_, rfl⟩
        · cases e
      | cons a b =>
        unfold bindT at e
        split at e
        · exact .inl ⟨_, rfl⟩
        · exact .inr ⟨_, rfl⟩
        · cases e
    obtain ⟨ds, a, xs, e1, t1, r1, e⟩ : ∃ ds a xs, v = .ref a ∧ SqT X.K H a xs ∧ RpA X.K M H xs ds ∧ bindT t (.d (.tuple ds)) ρ = some ρ' := by
      rcases hu with ⟨ds, rfl⟩ | ⟨ds, rfl⟩
      · obtain ⟨a, xs, e1, t1, r1⟩ := (show Rp X.K M H v (.tuple ds) from r).rs.tup
        exact ⟨ds, a, xs, e1, t1.sq, r1, e⟩
      · obtain ⟨a, xs, e1, _, t1, r1⟩ := r
        rw [bindT_it hl] at e
        exact ⟨ds, a, xs, e1, .inl (.inl t1), r1, e⟩
    exact ⟨a, xs, e1, t1, by rw [r1.length, bindT_len hl e, hn], ρ, M, S, ds, ρ', en, st, r1, e, q⟩
theorem tgw_ok {N : List Str} {sc : Scope} {fb : Fb} (hN : X.N = N) (nd : N.Nodup) (hc : X.calm = true) (hs : X.env.scope = sc) (hf : ∀ x, fb x = true → X.fn x = true ∨ X.env.scope.names.lookup x = some .local) :
    ∀ n, (∀ e t, cT N sc fb n e = some t → PG X e (tTw X.K T t)) ∧ ∀ es t, cTs N sc fb n es = some t → PGs X es (tTws X.K T t) ∧ t.isList = true ∧ t.len = es.length ∧ plain es = true := by
  intro n
  induction n with
  | zero => exact ⟨fun e t h => (by unfold cT at h; cases h), fun e t h => (by unfold cTs at h; cases h)⟩
  | succ n ih =>
    refine ⟨fun e t h => ?_, fun es t h => ?_⟩
    · unfold cT at h
      split at h
      · split at h
        · rename_i hx
          rw [Bool.and_eq_true] at hx
          obtain ⟨i, hi, rfl⟩ := map_some h
          exact pgw_name hN nd hs hf hx.1 hx.2 hi
        · cases h
      · obtain ⟨h1, h2, h3, h4⟩ := ih.2 _ _ h
        exact pgw_tup hc h2 h3 h4 h1
      · cases h
    · cases es with
      | nil =>
        unfold cTs at h
        cases h
        exact ⟨pgsw_nil, rfl, rfl, rfl⟩
      | cons e r =>
        unfold cTs at h
        split at h
        · cases h
        · rename_i hst
          obtain ⟨a, h1, h⟩ := bindO h
          obtain ⟨b, h2, rfl⟩ := map_some h
          obtain ⟨i1, i2, i3, i4⟩ := ih.2 _ _ h2
          refine ⟨pgsw_cons (by simpa using hst) (ih.1 _ _ h1) i1, i2, congrArg (· + 1) i3, ?_⟩
          show (!starred e && plain r) = true
          rw [i4]
          simp [hst]
/-! ### the comprehension -/
/-- its tests -/
def tCs (K : W.Frag) (T : List (Addr × Str)) (cl : Nat → Option Addr) (E : XK) (c : Cn) (xs : Xs) : TT := fun σ H Q => ∃ ρ M S, EnvOk K ρ σ M H ∧ StOk K T M S H ∧ Out K T cl E M H (evC c xs ρ S) eqB Q
theorem pts_imp {es : List Expr} {t t' : TT} (h : PTs X es t) (i : ∀ σ H Q, t' σ H Q → t σ H Q) : PTs X es t' := ⟨fun pins s σ H Q I q => h.run pins s σ H Q I (i σ H Q q)⟩
theorem ptsx_nil : PTs X [] (tCs X.K T cl E c .nil) := pts_imp pts_nil fun σ H Q ⟨ρ, M, S, en, st, h⟩ => by
  unfold evC at h
  exact out_here (a := true) st h rfl
theorem ptsx_one {e : Expr} {x : Ev.X} {r : Xs} (h : PT X e (tTr X.K T cl E c x)) : PTs X [e] (tCs X.K T cl E c (.cons x r)) := pts_imp (pts_one h) fun σ H Q ⟨ρ, M, S, en, st, h⟩ => by
  unfold evC at h
  exact ⟨ρ, M, S, en, st, h⟩
theorem out_noexc {α β : Type} {r : R α} {rel : Ms → Hp → β → α → Prop} {Q : β → Hp → Prop} (h : Out K T cl E M H (noexc r) rel Q) : Out K T cl noE M H r rel Q := by
  cases r with
  | ok a S => exact h
  | exc k S => exact h.elim
  | bad => exact h.elim
theorem out_noexcE {α β : Type} {r : R α} {rel : Ms → Hp → β → α → Prop} {Q : β → Hp → Prop} (h : Out K T cl E M H (noexc r) rel Q) : Out K T cl E M H r rel Q := by
  cases r with
  | ok a S => exact h
  | exc k S => exact h.elim
  | bad => exact h.elim
theorem out_noexcE_bind {α α' β : Type} {r : R α} {f : α → Store → R α'} {rel : Ms → Hp → β → α' → Prop} {Q : β → Hp → Prop} (h : Out K T cl E M H ((noexc r).bind f) rel Q) : Out K T cl E M H (r.bind f) rel Q := by
  cases r with
  | ok a S => exact h
  | exc k S => exact h.elim
  | bad => exact h.elim
theorem noexc_bind {α β : Type} (r : R α) (f : α → Store → R β) : noexc (r.bind f) = (noexc r).bind fun a S => noexc (f a S) := by cases r <;> rfl
/-- an evaluation behind another one, the end as from an earlier state -/
theorem Out.bindB {α α' β β' : Type} {M1 : Ms} {H1 : Hp} {r : R α} {f : α → Store → R α'} {rel : Ms → Hp → β → α → Prop} {rel' : Ms → Hp → β' → α' → Prop} {Q : β' → Hp → Prop}
    (h : Out K T cl E M1 H1 (r.bind f) rel' Q) (g : Gr M1 H1 M H) : Out K T cl E M H r rel fun b H2 => ∃ M2 S2 a, Gr M H M2 H2 ∧ StOk K T M2 S2 H2 ∧ rel M2 H2 b a ∧ Out K T cl E M1 H1 (f a S2) rel' Q := by
  cases r with
  | ok a S => exact fun b M2 H2 g2 s2 q => ⟨M2, S, a, g2, s2, q, h⟩
  | exc k S =>
    obtain ⟨C, hC, h⟩ := h
    exact ⟨C, hC, fun d M2 H2 hd g2 s2 => h d M2 H2 hd (g.trans g2) s2⟩
  | bad => exact h
/-! an object that nobody hands out is written -/
section
variable {D : Addr} {o : HO}
theorem TupAt.wrx {a : Addr} {xs : List V} (hD : D ∈ M) (h : TupAt K M H a xs) : TupAt K M (upd H D o) a xs := by
  rcases h with ⟨n, ob, d, h⟩ | h
  · exact .inl ⟨n, ob, d, by rw [upd_ne (fun z => n (by rw [z]; exact hD))]; exact h⟩
  · exact .inr h
theorem rd_wrx {a : Addr} {u : HO} (hn : a ≠ D) (h : Rd H a u) : Rd (upd H D o) a u := by
  rcases h with h | ⟨ob, h⟩
  · exact .inl (by rw [upd_ne hn]; exact h)
  · exact .inr ⟨ob, by rw [upd_ne hn]; exact h⟩
mutual
theorem Rp.wrx (hD : D ∈ M) : ∀ {v : V} {d : PyData}, Rp K M H v d → Rp K M (upd H D o) v d
  | _, _, .non => .non
  | _, _, .bl b => .bl b
  | _, _, .int i => .int i
  | _, _, .str x => .str x
  | _, _, .lst n h r => .lst n (by rw [upd_ne (fun z => n (by rw [z]; exact hD))]; exact h) (RpA.wrx hD r)
  | _, _, .tup h r => .tup (h.wrx hD) (RpA.wrx hD r)
  | _, _, .dct n h d r q => .dct n (rd_wrx (fun z => n (by rw [z]; exact hD)) h) d (RpA.wrx hD r) (RpA.wrx hD q)
  | _, _, .dks n h e k r q => .dks n (by rw [upd_ne (fun z => n (by rw [z]; exact hD))]; exact h) e k (RpA.wrx hD r) (RpA.wrx hD q)
theorem RpA.wrx (hD : D ∈ M) : ∀ {vs : List V} {ds : List PyData}, RpA K M H vs ds → RpA K M (upd H D o) vs ds
  | _, _, .nil => .nil
  | _, _, .cons h r => .cons (Rp.wrx hD h) (RpA.wrx hD r)
end
theorem RU.wrx {v : V} {u : U} (hD : D ∈ M) (h : RU K M H v u) : RU K M (upd H D o) v u := by
  cases u with
  | d p => exact Rp.wrx hD h
  | ref i => exact h
  | obj a => exact h
  | it ds =>
    obtain ⟨a, xs, e, n, q, r⟩ := h
    exact ⟨a, xs, e, n, by rw [upd_ne (fun z => n (by rw [z]; exact hD))]; exact q, r.wrx hD⟩
  | scr ns =>
    obtain ⟨a, e, q⟩ := h
    refine ⟨a, e, q.imp (fun z => ⟨z.1, ?_⟩) id⟩
    have : a ≠ D := fun y => z.1 (by rw [y]; exact hD)
    rcases z.2 with y | ⟨ob, y⟩
    · exact .inl (by rw [upd_ne this]; exact y)
    · exact .inr ⟨ob, by rw [upd_ne this]; exact y⟩
theorem RUs.wrx (hD : D ∈ M) : ∀ {vs : List V} {us : List U}, RUs K M H vs us → RUs K M (upd H D o) vs us
  | _, _, .nil => .nil
  | _, _, .cons h r => .cons (h.wrx hD) (RUs.wrx hD r)
theorem EnvOk.wrx (hD : D ∈ M) (e : EnvOk K ρ σ M H) : EnvOk K ρ σ M (upd H D o) := ⟨e.len, fun i u h => let ⟨v, h1, h2⟩ := e.at_ i u h; ⟨v, h1, h2.wrx hD⟩⟩
theorem StOk.wrxG {u : HO} (hD : D ∈ M.x) (he : H D = some u) (hu : ∀ ps, u ≠ .tbl ps) (hc : ∀ q, u ≠ LamX.CodeO D q) (ho : ∀ ps, o ≠ .tbl ps) (s : StOk K T M S H) : StOk K T M S (upd H D o) where
  len := s.len
  nd := s.nd
  box := fun i a b e1 e2 => by
    have hb := s.box i a b e1 e2
    have n : a ≠ D := fun z => (s.xt D hD).1 (by rw [← z]; exact List.mem_of_getElem? e1)
    cases b with
    | lst ds =>
      obtain ⟨zs, h1, h2⟩ := hb
      exact ⟨zs, by rw [upd_ne n]; exact h1, h2.wrx (.inr hD)⟩
    | dct lk kvs =>
      rcases hb with ⟨ob, vs, h1, d, r, q⟩ | ⟨l, ws, h1, e, k, r, q⟩
      · exact .inl ⟨ob, vs, by rw [upd_ne n]; exact h1, d, r.wrx (.inr hD), q.wrx (.inr hD)⟩
      · exact .inr ⟨l, ws, by rw [upd_ne n]; exact h1, e, k, r.wrx (.inr hD), q.wrx (.inr hD)⟩
    | ins c fs =>
      obtain ⟨dx, vs, h1, e, r⟩ := hb
      exact ⟨dx, vs, by rw [upd_ne n]; exact h1, e, r.wrx (.inr hD)⟩
    | bl us =>
      obtain ⟨zs, h1, h2⟩ := hb
      exact ⟨zs, by rw [upd_ne n]; exact h1, h2.wrx (.inr hD)⟩
    | exc c z l =>
      rcases l with _ | ⟨f, p⟩
      · obtain ⟨t, h1, m, h2⟩ := hb
        exact ⟨t, by rw [upd_ne n]; exact h1, m, by rw [upd_ne (fun y => m (by rw [y]; exact .inr hD))]; exact h2⟩
      · obtain ⟨dx, v, h1, m, h2, r⟩ := hb
        exact ⟨dx, v, by rw [upd_ne n]; exact h1, m, by rw [upd_ne (fun y => m (by rw [y]; exact .inr hD))]; exact h2, r.wrx (.inr hD)⟩
  xt := fun a ha => ⟨(s.xt a ha).1, by
    by_cases z : a = D
    · subst z
      exact ⟨_, upd_same, ho⟩
    · rw [upd_ne z]
      exact (s.xt a ha).2⟩
  tab := tab_wr s.tab he hu hc
  old := s.old
theorem StOk.wrx {xs ys : List V} (hD : D ∈ M.x) (he : H D = some (.lst xs)) (s : StOk K T M S H) : StOk K T M S (upd H D (.lst ys)) :=
  s.wrxG hD he (fun ps z => by cases z) (fun q => lst_code) fun ps z => by cases z
theorem gr_wrx {M1 : Ms} {H1 : Hp} (hD : H1 D = none) (ht : ∀ ps, o ≠ .tbl ps) (g : Gr M1 H1 M H) : Gr M1 H1 M (upd H D o) where
  pre := g.pre
  ext := g.ext
  keep := fun a u e n t => by rw [upd_ne (ne_of_none e hD)]; exact g.keep a u e n t
  new := g.new
  newb := g.newb
  dom := fun a z => g.dom a (upd_dom (.inl ht) z)
  frz := fun a od u e => by rw [upd_ne (ne_of_none e hD)]; exact g.frz a od u e
end
/-- the state of the loop: what has been made, what comes -/
def LcAt (K : W.Frag) (T : List (Addr × Str)) (cl : Nat → Option Addr) (c : Cn) (t : Tg) (tests : Xs) (e : Ev.X) (us : List U) (M1 : Ms) (H1 : Hp) (ρ : Rho) (σ : L2.St) (D : Addr) (Q : VK) (i n : Nat) (H : Hp) : Prop :=
  n = us.length - i ∧ i ≤ us.length ∧ ∃ M S acc ds, Gr M1 H1 M H ∧ D ∈ M.x ∧ StOk K T M S H ∧ EnvOk K ρ σ M H ∧ H D = some (.lst acc) ∧ RpA K M H acc ds ∧ acc.length ≤ i ∧
    Out K T cl noE M1 H1 ((compL t (fun ρ S => evC c tests ρ S) (fun ρ S => dataR (evX c e ρ S)) ρ (us.drop i) S).bind fun ys S2 => .ok (.d (.list (ds ++ ys))) S2) (RU K) Q
/-- .. over a list of the store -/
def LcAtB (K : W.Frag) (T : List (Addr × Str)) (cl : Nat → Option Addr) (c : Cn) (t : Tg) (tests : Xs) (e : Ev.X) (b : Nat) (M1 : Ms) (H1 : Hp) (ρ : Rho) (σ : L2.St) (D : Addr) (Q : VK) (i n : Nat) (H : Hp) : Prop :=
  i + n = 100000 ∧ ∃ M S acc ds, Gr M1 H1 M H ∧ D ∈ M.x ∧ StOk K T M S H ∧ EnvOk K ρ σ M H ∧ H D = some (.lst acc) ∧ RpA K M H acc ds ∧ acc.length ≤ i ∧
    Out K T cl noE M1 H1 ((compB t (fun ρ S => evC c tests ρ S) (fun ρ S => dataR (evX c e ρ S)) ρ b n i S).bind fun ys S2 => .ok (.d (.list (ds ++ ys))) S2) (RU K) Q
theorem RU.lessB {M' : Ms} {v : V} {u : U} (l : ∀ a, a ∈ M' → a ∈ M) (hb : ∀ (i : Nat) a, M.b[i]? = some a → M'.b[i]? = some a) (h : RU K M H v u) : RU K M' H v u := by
  cases u with
  | d p => exact Rp.less l h
  | ref i => obtain ⟨a, e, q⟩ := h; exact ⟨a, hb i a e, q⟩
  | scr ns =>
    obtain ⟨a, e, q⟩ := h
    exact ⟨a, e, q.imp (fun z => ⟨fun y => z.1 (l _ y), z.2⟩) id⟩
  | obj a => exact h
  | it ds =>
    obtain ⟨a, xs, e, n, q, r⟩ := h
    exact ⟨a, xs, e, fun y => n (l _ y), q, r.less l⟩
theorem RUs.lessB {M' : Ms} (l : ∀ a, a ∈ M' → a ∈ M) (hb : ∀ (i : Nat) a, M.b[i]? = some a → M'.b[i]? = some a) : ∀ {vs : List V} {us : List U}, RUs K M H vs us → RUs K M' H vs us
  | _, _, .nil => .nil
  | _, _, .cons h r => .cons (h.lessB l hb) (RUs.lessB l hb r)
theorem BoxOk.less {M' : Ms} {a : Addr} {b : Box} (l : ∀ a, a ∈ M' → a ∈ M) (hb : ∀ (i : Nat) a, M.b[i]? = some a → M'.b[i]? = some a) (h : BoxOk K M H a b) : BoxOk K M' H a b := by
  cases b with
  | lst ds => obtain ⟨xs, e, r⟩ := h; exact ⟨xs, e, r.less l⟩
  | dct lk kvs =>
    rcases h with ⟨o, vs, h1, d, r, q⟩ | ⟨k1, ws, h1, e, k, r, q⟩
    · exact .inl ⟨o, vs, h1, d, r.less l, q.lessB l hb⟩
    · exact .inr ⟨k1, ws, h1, e, k, r.less l, q.lessB l hb⟩
  | ins c fs =>
    obtain ⟨dx, vs, h1, e, r⟩ := h
    exact ⟨dx, vs, h1, e, r.lessB l hb⟩
  | bl us => obtain ⟨vs, e, r⟩ := h; exact ⟨vs, e, r.lessB l hb⟩
  | exc c z lm =>
    rcases lm with _ | ⟨f, p⟩
    · obtain ⟨t, h1, n, h2⟩ := h
      exact ⟨t, h1, fun y => n (l _ y), h2⟩
    · obtain ⟨dx, v, h1, n, h2, r⟩ := h
      exact ⟨dx, v, h1, fun y => n (l _ y), h2, r.less l⟩
theorem RUs.get : ∀ {vs : List V} {us : List U} {i : Nat} {d : U}, RUs K M H vs us → us[i]? = some d → ∃ v, vs[i]? = some v ∧ RU K M H v d
  | _, _, i, d, .nil, e => by simp at e
  | _, _, 0, d, .cons h r, e => by simp at e; subst e; exact ⟨_, rfl, h⟩
  | _, _, i + 1, d, .cons h r, e => by
    obtain ⟨v, h1, h2⟩ := RUs.get (i := i) r (by simpa using e)
    exact ⟨v, by simpa using h1, h2⟩
theorem lc_conv {own : List Nat} {it : Ev.It} {t : Tg} {tests : Xs} {e : Ev.X} (hsl : ∀ i, i ∈ t.slots → i ∈ own) {σ : L2.St} {H : Hp} {Q : VK} (h : tX K T cl E c (.lc own t it tests e) σ H Q) :
    tLc (tIt K T cl E c it) (tTw K T t) (tCs K T cl noE c tests) (tX K T cl noE c e) own σ H Q := by
  obtain ⟨ρ, M, S, en, st, h⟩ := h
  unfold evX at h
  refine ⟨ρ, M, S, en, st, Out.mono (Out.bind (rel := fun M H J s => Feed K M H J s) (out_noexcE_bind h)) fun J H1 ⟨M1, S1, src, g1, st1, fd, h1⟩ => ?_⟩
  intro D hD
  have en1 := (en.mono g1).wipe own
  cases src with
  | live b =>
    obtain ⟨a, ha, rfl⟩ := fd
    have h1 : Out K T cl E M1 H1 ((noexc (compB t (fun ρ S => evC c tests ρ S) (fun ρ S => dataR (evX c e ρ S)) (wipe ρ own) b 100000 0 S1)).bind fun ys S2 => .ok (U.d (.list ys)) S2) (RU K) Q := h1
    have h2 : Out K T cl noE M1 H1 ((compB t (fun ρ S => evC c tests ρ S) (fun ρ S => dataR (evX c e ρ S)) (wipe ρ own) b 100000 0 S1).bind fun ys S2 => .ok (U.d (.list ([] ++ ys))) S2) (RU K) Q := by
      cases e1 : compB t (fun ρ S => evC c tests ρ S) (fun ρ S => dataR (evX c e ρ S)) (wipe ρ own) b 100000 0 S1 with
      | ok ys S2 => rw [e1] at h1; exact h1
      | exc k S2 => rw [e1] at h1; exact h1.elim
      | bad => rw [e1] at h1; exact h1.elim
    refine ⟨fun i m H => LcAtB K T cl c t tests e b M1 H1 (wipe ρ own) (L2.wipe σ own) D Q i m H, ⟨100000, rfl, M1.hide D, S1, [], [], gr_hide st1 hD, List.mem_cons_self, st_hide st1 hD, en1.mono (gr_hide st1 hD), upd_same, .nil, Nat.le_refl _, h2⟩, ?_⟩
    rintro i m H ⟨him, M2, S2, acc, ds, g2, hDx, st2, en2, hacc, ra, hal, ho⟩
    cases m with
    | zero => unfold compB at ho; exact ho.elim
    | succ m =>
      unfold compB at ho
      cases eb : S2[b]? with
      | none => rw [eb] at ho; exact ho.elim
      | some bx =>
        rw [eb] at ho
        cases bx with
        | dct _ _ => exact ho.elim
        | ins _ _ => exact ho.elim
        | exc _ _ _ => exact ho.elim
        | lst vs =>
          have e3 := g2.get ha
          obtain ⟨xs, e4, r4⟩ := st2.lst e3 eb
          cases ei : vs[i]? with
          | none =>
            dsimp only at ho
            rw [ei] at ho
            left
            refine ⟨⟨xs, SqL.of e4, by rw [r4.length]; exact List.getElem?_eq_none_iff.mp ei⟩, ?_⟩
            have ho : Out K T cl noE M1 H1 (.ok (U.d (.list (ds ++ []))) S2) (RU K) Q := ho
            rw [List.append_nil] at ho
            have less : ∀ a, a ∈ (⟨M2.b, M1.x⟩ : Ms) → a ∈ M2 := fun a z => z.imp id (g2.ext a)
            refine ho (.ref D) ⟨M2.b, M1.x⟩ H ⟨g2.pre, fun _ z => z, g2.keep, fun a z => ?_, g2.newb, g2.dom, g2.frz⟩ ⟨st2.len, st2.nd, fun j a b e1 e2 => (st2.box j a b e1 e2).less less fun _ _ z => z, fun a ha => st2.xt a (g2.ext a ha), st2.tab, st2.old⟩ (.lst ?_ hacc (ra.less less))
            · rcases z with z | z
              · exact (g2.newb a z).imp .inl id
              · exact .inl (.inr z)
            · rintro (z | z)
              · exact (st2.xt D hDx).1 z
              · obtain ⟨o, eo, _⟩ := (st1.xt D z).2
                rw [hD] at eo
                cases eo
          | some u =>
            dsimp only at ho
            rw [ei] at ho
            right
            obtain ⟨v, e5, r5⟩ := r4.get ei
            refine ⟨⟨xs, v, SqL.of e4, e5⟩, fun H' => LcAtB K T cl c t tests e b M1 H1 (wipe ρ own) (L2.wipe σ own) D Q (i + 1) m H', fun H' w => ⟨m, by omega, w⟩, fun x H' ⟨eH, hx⟩ => ?_⟩
            subst eH
            have hx := hx xs (SqL.of e4)
            rw [e5] at hx
            cases hx
            dsimp only at ho
            split at ho
            · exact ho.elim
            · rename_i ρ1 eb
              refine ⟨_, M2, S2, .d u, ρ1, en2, st2, r5, eb, fun σ1 en4 hl1 hw1 => ⟨?_, ?_⟩⟩
              · rw [L2.wipe_length] at hl1
                refine wipe_ext hl1 fun j hj => ?_
                rw [hw1 j fun z => hj (hsl j z), wipe_out hj]
              · rw [bind_assoc] at ho
                refine ⟨ρ1, M2, S2, en4, st2, Out.mono (Out.bindB (rel := eqB) ho g2) fun b H3 ⟨M3, S3, b', g4, st4, eb', ho3⟩ => ?_⟩
                cases (show b = b' from eb')
                have acc4 := g4.keep D _ hacc (st2.xt D hDx).1 fun ps z => by cases z
                have hDx3 : D ∈ M3.x := g4.ext D hDx
                cases b with
                | false =>
                  rw [if_neg (by decide)]
                  rw [if_neg (by decide)] at ho3
                  exact ⟨by omega, M3, S3, acc, ds, g2.trans g4, hDx3, st4, en2.mono g4, acc4, ra.mono g4, by omega, ho3⟩
                | true =>
                  rw [if_pos rfl]
                  rw [if_pos rfl, bind_assoc] at ho3
                  unfold dataR at ho3
                  rw [bind_assoc] at ho3
                  refine ⟨ρ1, M3, S3, en4.mono g4, st4, Out.mono (Out.bindB (rel := RU K) ho3 (g2.trans g4)) fun y H4 ⟨M4, S4, w, g5, st5, ry, ho4⟩ => ?_⟩
                  have acc5 := g5.keep D _ acc4 (st4.xt D hDx3).1 fun ps z => by cases z
                  have hDx4 : D ∈ M4.x := g5.ext D hDx3
                  refine ⟨acc, acc5, by rw [sizeLine_eq]; omega, by omega, M4, S4, acc ++ [y], ?_⟩
                  cases w with
                  | d p =>
                    refine ⟨ds ++ [p], gr_wrx hD (fun ps z => by cases z) ((g2.trans g4).trans g5), hDx4, st5.wrx hDx4 acc5, ((en2.mono g4).mono g5).wrx (.inr hDx4), upd_same, (((ra.mono g4).mono g5).append (.cons ry .nil)).wrx (.inr hDx4), by rw [List.length_append]; simp; omega, ?_⟩
                    have ho4 : Out K T cl noE M1 H1 (((compB t (fun ρ S => evC c tests ρ S) (fun ρ S => dataR (evX c e ρ S)) (wipe ρ own) _ m (i + 1) S4).bind fun ys S3 => R.ok (p :: ys) S3).bind fun ys S2 => .ok (.d (.list (ds ++ ys))) S2) (RU K) Q := ho4
                    rw [bind_assoc] at ho4
                    simp only [List.append_assoc, List.singleton_append]
                    exact ho4
                  | ref j => exact ho4.elim
                  | scr ns => exact ho4.elim
                  | obj a => exact ho4.elim
                  | it ds => exact ho4.elim
        | bl vs =>
          have e3 := g2.get ha
          obtain ⟨xs, e4, r4⟩ := st2.box b a _ e3 eb
          cases ei : vs[i]? with
          | none =>
            dsimp only at ho
            rw [ei] at ho
            left
            refine ⟨⟨xs, SqL.of e4, by rw [r4.length]; exact List.getElem?_eq_none_iff.mp ei⟩, ?_⟩
            have ho : Out K T cl noE M1 H1 (.ok (U.d (.list (ds ++ []))) S2) (RU K) Q := ho
            rw [List.append_nil] at ho
            have less : ∀ a, a ∈ (⟨M2.b, M1.x⟩ : Ms) → a ∈ M2 := fun a z => z.imp id (g2.ext a)
            refine ho (.ref D) ⟨M2.b, M1.x⟩ H ⟨g2.pre, fun _ z => z, g2.keep, fun a z => ?_, g2.newb, g2.dom, g2.frz⟩ ⟨st2.len, st2.nd, fun j a b e1 e2 => (st2.box j a b e1 e2).less less fun _ _ z => z, fun a ha => st2.xt a (g2.ext a ha), st2.tab, st2.old⟩ (.lst ?_ hacc (ra.less less))
            · rcases z with z | z
              · exact (g2.newb a z).imp .inl id
              · exact .inl (.inr z)
            · rintro (z | z)
              · exact (st2.xt D hDx).1 z
              · obtain ⟨o, eo, _⟩ := (st1.xt D z).2
                rw [hD] at eo
                cases eo
          | some u =>
            dsimp only at ho
            rw [ei] at ho
            right
            obtain ⟨v, e5, r5⟩ := r4.get ei
            refine ⟨⟨xs, v, SqL.of e4, e5⟩, fun H' => LcAtB K T cl c t tests e b M1 H1 (wipe ρ own) (L2.wipe σ own) D Q (i + 1) m H', fun H' w => ⟨m, by omega, w⟩, fun x H' ⟨eH, hx⟩ => ?_⟩
            subst eH
            have hx := hx xs (SqL.of e4)
            rw [e5] at hx
            cases hx
            dsimp only at ho
            split at ho
            · exact ho.elim
            · rename_i ρ1 eb
              refine ⟨_, M2, S2, u, ρ1, en2, st2, r5, eb, fun σ1 en4 hl1 hw1 => ⟨?_, ?_⟩⟩
              · rw [L2.wipe_length] at hl1
                refine wipe_ext hl1 fun j hj => ?_
                rw [hw1 j fun z => hj (hsl j z), wipe_out hj]
              · rw [bind_assoc] at ho
                refine ⟨ρ1, M2, S2, en4, st2, Out.mono (Out.bindB (rel := eqB) ho g2) fun b H3 ⟨M3, S3, b', g4, st4, eb', ho3⟩ => ?_⟩
                cases (show b = b' from eb')
                have acc4 := g4.keep D _ hacc (st2.xt D hDx).1 fun ps z => by cases z
                have hDx3 : D ∈ M3.x := g4.ext D hDx
                cases b with
                | false =>
                  rw [if_neg (by decide)]
                  rw [if_neg (by decide)] at ho3
                  exact ⟨by omega, M3, S3, acc, ds, g2.trans g4, hDx3, st4, en2.mono g4, acc4, ra.mono g4, by omega, ho3⟩
                | true =>
                  rw [if_pos rfl]
                  rw [if_pos rfl, bind_assoc] at ho3
                  unfold dataR at ho3
                  rw [bind_assoc] at ho3
                  refine ⟨ρ1, M3, S3, en4.mono g4, st4, Out.mono (Out.bindB (rel := RU K) ho3 (g2.trans g4)) fun y H4 ⟨M4, S4, w, g5, st5, ry, ho4⟩ => ?_⟩
                  have acc5 := g5.keep D _ acc4 (st4.xt D hDx3).1 fun ps z => by cases z
                  have hDx4 : D ∈ M4.x := g5.ext D hDx3
                  refine ⟨acc, acc5, by rw [sizeLine_eq]; omega, by omega, M4, S4, acc ++ [y], ?_⟩
                  cases w with
                  | d p =>
                    refine ⟨ds ++ [p], gr_wrx hD (fun ps z => by cases z) ((g2.trans g4).trans g5), hDx4, st5.wrx hDx4 acc5, ((en2.mono g4).mono g5).wrx (.inr hDx4), upd_same, (((ra.mono g4).mono g5).append (.cons ry .nil)).wrx (.inr hDx4), by rw [List.length_append]; simp; omega, ?_⟩
                    have ho4 : Out K T cl noE M1 H1 (((compB t (fun ρ S => evC c tests ρ S) (fun ρ S => dataR (evX c e ρ S)) (wipe ρ own) _ m (i + 1) S4).bind fun ys S3 => R.ok (p :: ys) S3).bind fun ys S2 => .ok (.d (.list (ds ++ ys))) S2) (RU K) Q := ho4
                    rw [bind_assoc] at ho4
                    simp only [List.append_assoc, List.singleton_append]
                    exact ho4
                  | ref j => exact ho4.elim
                  | scr ns => exact ho4.elim
                  | obj a => exact ho4.elim
                  | it ds => exact ho4.elim
  | fix us =>
    have h1 : Out K T cl E M1 H1 (if us.length ≤ line then (noexc (compL t (fun ρ S => evC c tests ρ S) (fun ρ S => dataR (evX c e ρ S)) (wipe ρ own) us S1)).bind fun ys S2 => .ok (U.d (.list ys)) S2 else .bad) (RU K) Q := h1
    split at h1
    case isFalse => exact h1.elim
    rename_i hlen
    rw [line_eq] at hlen
    have h2 : Out K T cl noE M1 H1 ((compL t (fun ρ S => evC c tests ρ S) (fun ρ S => dataR (evX c e ρ S)) (wipe ρ own) us S1).bind fun ys S2 => .ok (U.d (.list ([] ++ ys))) S2) (RU K) Q := by
      cases e1 : compL t (fun ρ S => evC c tests ρ S) (fun ρ S => dataR (evX c e ρ S)) (wipe ρ own) us S1 with
      | ok ys S2 => rw [e1] at h1; exact h1
      | exc k S2 => rw [e1] at h1; exact h1.elim
      | bad => rw [e1] at h1; exact h1.elim
    refine ⟨fun i m H => LcAt K T cl c t tests e us M1 H1 (wipe ρ own) (L2.wipe σ own) D Q i m H, ⟨us.length, rfl, Nat.zero_le _, M1.hide D, S1, [], [], gr_hide st1 hD, List.mem_cons_self, st_hide st1 hD, en1.mono (gr_hide st1 hD), upd_same, .nil, Nat.le_refl _, h2⟩, ?_⟩
    rintro i m H ⟨rfl, hi, M2, S2, acc, ds, g2, hDx, st2, en2, hacc, ra, hal, ho⟩
    obtain ⟨f1, f2⟩ := fd M2 H g2 i
    by_cases hlt : i < us.length
    · right
      have hu : us[i]? = some us[i] := by simp [hlt]
      generalize us[i] = u at hu
      obtain ⟨f3, f4⟩ := f2 u hu
      refine ⟨f3, fun H' => LcAt K T cl c t tests e us M1 H1 (wipe ρ own) (L2.wipe σ own) D Q (i + 1) (us.length - (i + 1)) H', fun H' w => ⟨_, by omega, w⟩, fun x H' hy => ?_⟩
      obtain ⟨g3, st3, rx⟩ := f4 x H' hy T S2 st2
      have hd : us.drop i = u :: us.drop (i + 1) := by
        rw [List.drop_eq_getElem_cons hlt]
        have := hu
        simp [hlt] at this
        rw [this]
      rw [hd] at ho
      unfold compL at ho
      have en3 := en2.mono g3
      have g13 := g2.trans g3
      have nb : ∀ {Mx : Ms}, Gr M2 H' Mx H' → True := fun _ => trivial
      have acc3 := g3.keep D _ hacc (st2.xt D hDx).1 fun ps z => by cases z
      split at ho
      · exact ho.elim
      · rename_i ρ1 eb
        refine ⟨_, M2, S2, u, ρ1, en3, st3, rx, eb, fun σ1 en4 hl1 hw1 => ⟨?_, ?_⟩⟩
        · rw [L2.wipe_length] at hl1
          refine wipe_ext hl1 fun j hj => ?_
          rw [hw1 j fun z => hj (hsl j z), wipe_out hj]
        · rw [bind_assoc] at ho
          refine ⟨ρ1, M2, S2, en4, st3, Out.mono (Out.bindB (rel := eqB) ho g13) fun b H3 ⟨M3, S3, b', g4, st4, eb', ho3⟩ => ?_⟩
          cases (show b = b' from eb')
          have acc4 := g4.keep D _ acc3 (st3.xt D hDx).1 fun ps z => by cases z
          have hDx3 : D ∈ M3.x := g4.ext D hDx
          cases b with
          | false =>
            rw [if_neg (by decide)]
            rw [if_neg (by decide)] at ho3
            exact ⟨rfl, hlt, M3, S3, acc, ds, g13.trans g4, hDx3, st4, en3.mono g4, acc4, (ra.mono g3).mono g4, by omega, ho3⟩
          | true =>
            rw [if_pos rfl]
            rw [if_pos rfl, bind_assoc] at ho3
            unfold dataR at ho3
            rw [bind_assoc] at ho3
            refine ⟨ρ1, M3, S3, en4.mono g4, st4, Out.mono (Out.bindB (rel := RU K) ho3 (g13.trans g4)) fun y H4 ⟨M4, S4, w, g5, st5, ry, ho4⟩ => ?_⟩
            have acc5 := g5.keep D _ acc4 (st4.xt D hDx3).1 fun ps z => by cases z
            have hDx4 : D ∈ M4.x := g5.ext D hDx3
            refine ⟨acc, acc5, by omega, rfl, hlt, M4, S4, acc ++ [y], ?_⟩
            cases w with
            | d p =>
              refine ⟨ds ++ [p], gr_wrx hD (fun ps z => by cases z) ((g13.trans g4).trans g5), hDx4, st5.wrx hDx4 acc5, ((en3.mono g4).mono g5).wrx (.inr hDx4), upd_same, ((((ra.mono g3).mono g4).mono g5).append (.cons ry .nil)).wrx (.inr hDx4), by rw [List.length_append]; simp; omega, ?_⟩
              have ho4 : Out K T cl noE M1 H1 (((compL t (fun ρ S => evC c tests ρ S) (fun ρ S => dataR (evX c e ρ S)) (wipe ρ own) (us.drop (i + 1)) S4).bind fun ys S3 => R.ok (p :: ys) S3).bind fun ys S2 => .ok (.d (.list (ds ++ ys))) S2) (RU K) Q := ho4
              rw [bind_assoc] at ho4
              simp only [List.append_assoc, List.singleton_append]
              exact ho4
            | ref j => exact ho4.elim
            | scr ns => exact ho4.elim
            | obj a => exact ho4.elim
            | it ds => exact ho4.elim
    · left
      have ei : i = us.length := by omega
      have e0 : us[i]? = none := by rw [ei]; simp
      refine ⟨f1 e0, ?_⟩
      have hd : us.drop i = [] := by rw [ei]; simp
      rw [hd] at ho
      unfold compL at ho
      have ho : Out K T cl noE M1 H1 (.ok (U.d (.list (ds ++ []))) S2) (RU K) Q := ho
      rw [List.append_nil] at ho
      have less : ∀ a, a ∈ (⟨M2.b, M1.x⟩ : Ms) → a ∈ M2 := fun a z => z.imp id (g2.ext a)
      refine ho (.ref D) ⟨M2.b, M1.x⟩ H ⟨g2.pre, fun _ z => z, g2.keep, fun a z => ?_, g2.newb, g2.dom, g2.frz⟩ ⟨st2.len, st2.nd, fun j a b e1 e2 => (st2.box j a b e1 e2).less less fun _ _ z => z, fun a ha => st2.xt a (g2.ext a ha), st2.tab, st2.old⟩ (.lst ?_ hacc (ra.less less))
      · rcases z with z | z
        · exact (g2.newb a z).imp .inl id
        · exact .inl (.inr z)
      · rintro (z | z)
        · exact (st2.xt D hDx).1 z
        · obtain ⟨o, eo, _⟩ := (st1.xt D z).2
          rw [hD] at eo
          cases eo
theorem px_lc {elt tg iter : Expr} {ifs : List Expr} {scope : Scope} {own : List (Str × Nat)} {pos : Pos} {it : Ev.It} {t : Tg} {tests : Xs} {e : Ev.X} (hc : X.calm = true) (hN : X.N.Nodup) (hi : PI X tg iter (tIt X.K T cl E c it)) (ok : BlkOk X.N X.env.scope scope own)
    (hg : ∀ (s : Shared) (H : Hp) (C : Addr) (cl : List (Str × Addr)) (fp : List Addr), PG (X.blk s H scope (compEnvC scope cl C X.env) fp) tg (tTw X.K T t))
    (ht : ∀ (s : Shared) (H : Hp) (C : Addr) (cl' : List (Str × Addr)) (fp : List Addr), PTs (X.blk s H scope (compEnvC scope cl' C X.env) fp) ifs (tCs X.K T cl noE c tests))
    (he : ∀ (s : Shared) (H : Hp) (C : Addr) (cl' : List (Str × Addr)) (fp : List Addr), PE (X.blk s H scope (compEnvC scope cl' C X.env) fp) elt (tX X.K T cl noE c e)) (hs : ∀ x, foldedSetIterable iter X.env x = pure x) (hsl : ∀ i, i ∈ t.slots → i ∈ own.map (·.2)) :
    PE X (.ListComp elt [⟨tg, iter, ifs, 0⟩] scope pos) (tX X.K T cl E c (.lc (own.map (·.2)) t it tests e)) :=
  pe_imp (pe_lc hc hN hi ok hg ht he hs) fun σ H Q h => lc_conv hsl h
end
end Ev
end

section
set_option Elab.async false
set_option linter.all false
set_option autoImplicit false
set_option maxRecDepth 100000
set_option maxHeartbeats 4000000
/-! # Dict comprehensions, comprehensions with two loops, sorted(set(..)), dict displays -/
namespace Ev
open PySem PySem.Spec PyProof.Rows L2
section
variable {K : W.Frag} {T : List (Addr × Str)} {cl : Nat → Option Addr} {E : XK} {c : Cn} {X : Cx} {M : Ms} {H : Hp} {S : Store} {ρ : Rho} {σ : L2.St}
theorem RUs.dat : ∀ {ds : List PyData} {vs : List V}, RUs K M H vs (ds.map U.d) → RpA K M H vs ds
  | [], _, .nil => .nil
  | _ :: _, _, .cons a r => .cons a (RUs.dat r)
abbrev pU (q : PyData × PyData) : PyData × U := (q.1, U.d q.2)
theorem dFind_map (k : PyData) : ∀ acc : List (PyData × PyData), dFind (acc.map pU) k = (dFind acc k).map U.d
  | [] => rfl
  | q :: r => by
    show (if PyData.eqv q.1 k = true then some (U.d q.2) else dFind (r.map pU) k) = Option.map U.d (if PyData.eqv q.1 k = true then some q.2 else dFind r k)
    rw [dFind_map k r]
    split <;> rfl
theorem dPut_map (acc : List (PyData × PyData)) (k p : PyData) : dPut (acc.map pU) k (U.d p) = (dPut acc k p).map pU := by
  unfold dPut
  rw [dFind_map, Option.isSome_map]
  split
  · unfold dRepl
    rw [List.map_map, List.map_map]
    refine List.map_congr_left fun q _ => ?_
    show (if PyData.eqv q.1 k = true then _ else _) = pU (if PyData.eqv q.1 k = true then _ else _)
    split <;> rfl
  · rw [List.map_append]
    rfl
theorem pU_fst (acc : List (PyData × PyData)) : (acc.map pU).map Prod.fst = acc.map Prod.fst := by rw [List.map_map]; rfl
theorem pU_snd (acc : List (PyData × PyData)) : (acc.map pU).map Prod.snd = (acc.map Prod.snd).map U.d := by rw [List.map_map, List.map_map]; rfl
theorem dPut_len {α : Type} (kvs : List (PyData × α)) (k : PyData) (v : α) : (dPut kvs k v).length ≤ kvs.length + 1 := by
  unfold dPut
  split
  · unfold dRepl
    rw [List.length_map]
    omega
  · rw [List.length_append]
    exact Nat.le_refl _
/-! ### sorted(set(xs)) -/
theorem px_sortset {g : Cfg} {k l : Nat} {N : List Str} {sc : Scope} {fb : Fb} (G : Good g T cl c k l X N sc fb) {a b : Expr} {x : Ev.X} {p pos : Pos} (hg : glB sc "sorted" = true) (h : setOf sc a = some b) (hb : PE X b (tX X.K T cl E c x)) :
    PE X (.Call (.Name "sorted" p) [a] [] pos) (tX X.K T cl E c (.blt .sortset x)) := by
  unfold setOf at h
  split at h
  · split at h
    · rename_i hc
      simp only [Bool.and_eq_true, Bool.not_eq_true', decide_eq_true_eq] at hc
      obtain ⟨⟨rfl, h3⟩, h4⟩ := hc
      cases h
      refine pe_imp (pe_sortset (T := T) G.calm (by have := G.room.un; omega) (gl_of G.scope hg) (G.blts _ (by simp)) (gl_of G.scope h3) (G.blts _ (by simp)) hb (star_of h4)) fun σ H Q ⟨ρ, M, S, en, st, q⟩ => ?_
      unfold evX at q
      refine tX_b en st q fun v M1 H1 S1 u g1 en1 st1 r1 h1 => ?_
      obtain ⟨r, e, w⟩ := out_data h1
      obtain ⟨d, e1, e2⟩ := bindO e
      exact ⟨M1, S1, d, r, rs_of r1 st1 e1, st1, e2, w⟩
    · cases h
  · cases h
/-! ### {k: v for ..} -/
/-- the state of the loop: what stands in the dict, what comes -/
def DcAt (K : W.Frag) (T : List (Addr × Str)) (cl : Nat → Option Addr) (c : Cn) (t : Tg) (tests : Xs) (k v : Ev.X) (us : List U) (M1 : Ms) (H1 : Hp) (ρ : Rho) (σ : L2.St) (D : Addr) (Q : VK) (i n : Nat) (H : Hp) : Prop :=
  n = us.length - i ∧ i ≤ us.length ∧ ∃ M S o vs acc, Gr M1 H1 M H ∧ D ∈ M.x ∧ StOk K T M S H ∧ EnvOk K ρ σ M H ∧ H D = some (DX D o) ∧ DObj D o vs (acc.map Prod.fst) ∧ RpA K M H (vs.map Prod.fst) (acc.map Prod.fst) ∧ RpA K M H (vs.map Prod.snd) (acc.map Prod.snd) ∧ acc.length ≤ i ∧
    Out K T cl noE M1 H1 ((compD t (fun ρ S => evC c tests ρ S) (fun ρ S => dataR (evX c k ρ S)) (fun ρ S => dataR (evX c v ρ S)) ρ (us.drop i) acc S).bind fun kvs S2 => .ok (.d (.dict kvs)) S2) (RU K) Q
/-- what the loop made is handed on -/
theorem hand_on {M1 M2 : Ms} {H1 H2 : Hp} {S1 S2 : Store} {D : Addr} {p : PyData} {Q : VK} (hD : H1 D = none) (g : Gr M1 H1 M2 H2) (st1 : StOk K T M1 S1 H1) (st2 : StOk K T M2 S2 H2) (hDx : D ∈ M2.x) (ho : Out K T cl E M1 H1 (.ok (U.d p) S2) (RU K) Q)
    (r : D ∉ (⟨M2.b, M1.x⟩ : Ms) → (∀ a, a ∈ (⟨M2.b, M1.x⟩ : Ms) → a ∈ M2) → Rp K ⟨M2.b, M1.x⟩ H2 (.ref D) p) : Q (.ref D) H2 := by
  have less : ∀ a, a ∈ (⟨M2.b, M1.x⟩ : Ms) → a ∈ M2 := fun a z => z.imp id (g.ext a)
  refine ho (.ref D) ⟨M2.b, M1.x⟩ H2 ⟨g.pre, fun _ z => z, g.keep, fun a z => ?_, g.newb, g.dom, g.frz⟩ ⟨st2.len, st2.nd, fun j a b e1 e2 => (st2.box j a b e1 e2).less less fun _ _ z => z, fun a ha => st2.xt a (g.ext a ha), st2.tab, st2.old⟩ (r ?_ less)
  · rcases z with z | z
    · exact (g.newb a z).imp .inl id
    · exact .inl (.inr z)
  · rintro (z | z)
    · exact (st2.xt D hDx).1 z
    · obtain ⟨o, eo, _⟩ := (st1.xt D z).2
      rw [hD] at eo
      cases eo
theorem dc_conv {own : List Nat} {it : Ev.It} {t : Tg} {tests : Xs} {k v : Ev.X} (hsl : ∀ i, i ∈ t.slots → i ∈ own) {σ : L2.St} {H : Hp} {Q : VK} (h : tX K T cl E c (.dc own t it tests k v) σ H Q) :
    tDcN K (tIt K T cl E c it) (tTw K T t) (tCs K T cl noE c tests) (tX K T cl noE c k) (tX K T cl noE c v) own σ H Q := by
  obtain ⟨ρ, M, S, en, st, h⟩ := h
  unfold evX at h
  refine ⟨ρ, M, S, en, st, Out.mono (Out.bind (rel := fun M H J s => Feed K M H J s) (out_noexcE_bind h)) fun J H1 ⟨M1, S1, src, g1, st1, fd, h1⟩ => ?_⟩
  intro D o hD dob
  have en1 := (en.mono g1).wipe own
  cases src with
  | live b => exact h1.elim
  | fix us =>
    have h1 : Out K T cl E M1 H1 (if us.length ≤ line then (noexc (compD t (fun ρ S => evC c tests ρ S) (fun ρ S => dataR (evX c k ρ S)) (fun ρ S => dataR (evX c v ρ S)) (wipe ρ own) us [] S1)).bind fun kvs S2 => .ok (U.d (.dict kvs)) S2 else .bad) (RU K) Q := h1
    split at h1
    case isFalse => exact h1.elim
    rename_i hlen
    rw [line_eq] at hlen
    have h2 : Out K T cl noE M1 H1 ((compD t (fun ρ S => evC c tests ρ S) (fun ρ S => dataR (evX c k ρ S)) (fun ρ S => dataR (evX c v ρ S)) (wipe ρ own) us [] S1).bind fun kvs S2 => .ok (U.d (.dict kvs)) S2) (RU K) Q := by
      cases e1 : compD t (fun ρ S => evC c tests ρ S) (fun ρ S => dataR (evX c k ρ S)) (fun ρ S => dataR (evX c v ρ S)) (wipe ρ own) us [] S1 with
      | ok ys S2 => rw [e1] at h1; exact h1
      | exc k S2 => rw [e1] at h1; exact h1.elim
      | bad => rw [e1] at h1; exact h1.elim
    refine ⟨fun i m H => DcAt K T cl c t tests k v us M1 H1 (wipe ρ own) (L2.wipe σ own) D Q i m H, ⟨us.length, rfl, Nat.zero_le _, M1.hide D, S1, o, [], [], gr_hide st1 hD, List.mem_cons_self, st_hideG st1 hD DX_ne, en1.mono (gr_hide st1 hD), upd_same, dob, .nil, .nil, Nat.le_refl _, h2⟩, ?_⟩
    rintro i m H ⟨rfl, hi, M2, S2, o2, vs, acc, g2, hDx, st2, en2, hacc, dob2, ra, rb, hal, ho⟩
    obtain ⟨f1, f2⟩ := fd M2 H g2 i
    by_cases hlt : i < us.length
    · right
      have hu : us[i]? = some us[i] := by simp [hlt]
      generalize us[i] = u at hu
      obtain ⟨f3, f4⟩ := f2 u hu
      refine ⟨f3, fun H' => DcAt K T cl c t tests k v us M1 H1 (wipe ρ own) (L2.wipe σ own) D Q (i + 1) (us.length - (i + 1)) H', fun H' w => ⟨_, by omega, w⟩, fun x H' hy => ?_⟩
      obtain ⟨g3, st3, rx⟩ := f4 x H' hy T S2 st2
      have hd : us.drop i = u :: us.drop (i + 1) := by
        rw [List.drop_eq_getElem_cons hlt]
        have := hu
        simp [hlt] at this
        rw [this]
      rw [hd] at ho
      unfold compD at ho
      have en3 := en2.mono g3
      have g13 := g2.trans g3
      have acc3 := g3.keep D _ hacc (st2.xt D hDx).1 DX_ne
      split at ho
      · exact ho.elim
      · rename_i ρ1 eb
        refine ⟨_, M2, S2, u, ρ1, en3, st3, rx, eb, fun σ1 en4 hl1 hw1 => ⟨?_, ?_⟩⟩
        · rw [L2.wipe_length] at hl1
          refine wipe_ext hl1 fun j hj => ?_
          rw [hw1 j fun z => hj (hsl j z), wipe_out hj]
        · rw [bind_assoc] at ho
          refine ⟨ρ1, M2, S2, en4, st3, Out.mono (Out.bindB (rel := eqB) ho g13) fun b H3 ⟨M3, S3, b', g4, st4, eb', ho3⟩ => ?_⟩
          cases (show b = b' from eb')
          have acc4 := g4.keep D _ acc3 (st3.xt D hDx).1 DX_ne
          have hDx3 : D ∈ M3.x := g4.ext D hDx
          cases b with
          | false =>
            rw [if_neg (by decide)]
            rw [if_neg (by decide)] at ho3
            exact ⟨rfl, hlt, M3, S3, o2, vs, acc, g13.trans g4, hDx3, st4, en3.mono g4, acc4, dob2, (ra.mono g3).mono g4, (rb.mono g3).mono g4, by omega, ho3⟩
          | true =>
            rw [if_pos rfl]
            rw [if_pos rfl, bind_assoc] at ho3
            unfold dataR at ho3
            rw [bind_assoc] at ho3
            refine ⟨ρ1, M3, S3, en4.mono g4, st4, Out.mono (Out.bindB (rel := RU K) ho3 (g13.trans g4)) fun y H4 ⟨M4, S4, w, g5, st5, ry, ho4⟩ => ?_⟩
            have acc5 := g5.keep D _ acc4 (st4.xt D hDx3).1 DX_ne
            have hDx4 : D ∈ M4.x := g5.ext D hDx3
            cases w with
            | d x =>
              have ho4 : Out K T cl noE M1 H1 ((((evX c v ρ1 S4).bind fun u S => match u with
                  | .d p => R.ok p S
                  | _ => .bad).bind fun y S3 => if dKey x = true then compD t (fun ρ S => evC c tests ρ S) (fun ρ S => dataR (evX c k ρ S)) (fun ρ S => dataR (evX c v ρ S)) (wipe ρ own) (us.drop (i + 1)) (dPut acc x y) S3 else .bad).bind fun kvs S2 => .ok (U.d (.dict kvs)) S2) (RU K) Q := ho4
              rw [bind_assoc, bind_assoc] at ho4
              refine ⟨ρ1, M4, S4, (en4.mono g4).mono g5, st5, Out.mono (Out.bindB (rel := RU K) ho4 ((g13.trans g4).trans g5)) fun z H5 ⟨M5, S5, w2, g6, st6, rz, ho5⟩ => ?_⟩
              have acc6 := g6.keep D _ acc5 (st5.xt D hDx4).1 DX_ne
              have hDx5 : D ∈ M5.x := g6.ext D hDx4
              cases w2 with
              | d p =>
                have ho5 : Out K T cl noE M1 H1 ((if dKey x = true then compD t (fun ρ S => evC c tests ρ S) (fun ρ S => dataR (evX c k ρ S)) (fun ρ S => dataR (evX c v ρ S)) (wipe ρ own) (us.drop (i + 1)) (dPut acc x p) S5 else .bad).bind fun kvs S2 => .ok (U.d (.dict kvs)) S2) (RU K) Q := ho5
                split at ho5
                case isFalse => exact ho5.elim
                rename_i hk
                have ra6 := (((ra.mono g3).mono g4).mono g5).mono g6
                have rb6 := (((rb.mono g3).mono g4).mono g5).mono g6
                have ryk : Rp K M5 H5 y x := Rp.mono g6 ry
                refine ⟨M5, o2, vs, acc.map pU, x, .d p, acc6, by rw [pU_fst]; exact dob2, by rw [pU_fst]; exact ra6, by rw [pU_snd]; exact rus_d rb6, hk, by rw [List.length_map, sizeLine_eq]; rw [sizeLine_eq] at hlen; omega, ryk, rz, fun o' vs' d1 d2 d3 => ?_⟩
                rw [dPut_map, pU_fst] at d1 d2
                rw [dPut_map, pU_snd] at d3
                have d3 := RUs.dat d3
                obtain ⟨es, ep, edat, _⟩ := dob2.ent
                refine ⟨rfl, hlt, M5, S5, o', vs', dPut acc x p, gr_wrx hD DX_ne (((g13.trans g4).trans g5).trans g6), hDx5, st6.wrxG hDx5 acc6 DX_ne (fun q => DX_code ⟨es, ep, edat⟩) DX_ne, (((en3.mono g4).mono g5).mono g6).wrx (.inr hDx5), upd_same, d1, d2.wrx (.inr hDx5), d3.wrx (.inr hDx5), by have := dPut_len acc x p; omega, ho5⟩
              | ref j => exact ho5.elim
              | scr ns => exact ho5.elim
              | obj a => exact ho5.elim
              | it ds => exact ho5.elim
            | ref j => exact ho4.elim
            | scr ns => exact ho4.elim
            | obj a => exact ho4.elim
            | it ds => exact ho4.elim
    · left
      have ei : i = us.length := by omega
      have e0 : us[i]? = none := by rw [ei]; simp
      refine ⟨f1 e0, ?_⟩
      have hd : us.drop i = [] := by rw [ei]; simp
      rw [hd] at ho
      unfold compD at ho
      have ho : Out K T cl noE M1 H1 (.ok (U.d (.dict acc)) S2) (RU K) Q := ho
      exact hand_on hD g2 st1 st2 hDx ho fun nin less => .dct nin (.inl hacc) dob2 (ra.less less) (rb.less less)
theorem px_dc {kx vx tg iter : Expr} {ifs : List Expr} {scope : Scope} {own : List (Str × Nat)} {pos : Pos} {it : Ev.It} {t : Tg} {tests : Xs} {k v : Ev.X} (hu : X.A.units + 65 < cLine) (hc : X.calm = true) (hN : X.N.Nodup) (hi : PI X tg iter (tIt X.K T cl E c it)) (ok : BlkOk X.N X.env.scope scope own)
    (hg : EachB X scope fun Y => PG Y tg (tTw X.K T t)) (ht : EachB X scope fun Y => PTs Y ifs (tCs X.K T cl noE c tests)) (hk : EachB X scope fun Y => PE Y kx (tX X.K T cl noE c k)) (hv : EachB X scope fun Y => PE Y vx (tX X.K T cl noE c v)) (hs : ∀ x, foldedSetIterable iter X.env x = pure x) (hsl : ∀ i, i ∈ t.slots → i ∈ own.map (·.2)) :
    PE X (.DictComp kx vx [⟨tg, iter, ifs, 0⟩] scope pos) (tX X.K T cl E c (.dc (own.map (·.2)) t it tests k v)) :=
  pe_imp (pe_dcN hu hc hN hi ok hg ht hk hv hs) fun σ H Q h => dc_conv hsl h
/-! ### two loops -/
/-- the outer loop: what has been made, what comes -/
def LcAt2 (K : W.Frag) (T : List (Addr × Str)) (cl : Nat → Option Addr) (t : Tg) (f : Rho → Store → R (List PyData)) (us : List U) (M1 : Ms) (H1 : Hp) (ρ : Rho) (σ : L2.St) (D : Addr) (Q : VK) (i n : Nat) (H : Hp) : Prop :=
  n = us.length - i ∧ i ≤ us.length ∧ ∃ M S acc ds, Gr M1 H1 M H ∧ D ∈ M.x ∧ StOk K T M S H ∧ EnvOk K ρ σ M H ∧ H D = some (.lst acc) ∧ RpA K M H acc ds ∧ acc.length ≤ 4096 * i ∧
    Out K T cl noE M1 H1 ((comp2 t f ρ (us.drop i) S).bind fun ys S2 => .ok (.d (.list (ds ++ ys))) S2) (RU K) Q
/-- the inner one -/
def LcIn2 (K : W.Frag) (T : List (Addr × Str)) (cl : Nat → Option Addr) (c : Cn) (t t2 : Tg) (f : Rho → Store → R (List PyData)) (e : Ev.X) (us vs : List U) (M1 : Ms) (H1 : Hp) (ρ ρ2 : Rho) (σ σ2 : L2.St) (D : Addr) (Q : VK) (i j n : Nat) (H : Hp) : Prop :=
  n = vs.length - j ∧ j ≤ vs.length ∧ ∃ M S acc ds, Gr M1 H1 M H ∧ D ∈ M.x ∧ StOk K T M S H ∧ EnvOk K ρ σ M H ∧ EnvOk K ρ2 σ2 M H ∧ H D = some (.lst acc) ∧ RpA K M H acc ds ∧ acc.length ≤ 4096 * i + j ∧
    Out K T cl noE M1 H1 ((compL t2 (fun _ S => .ok true S) (fun ρ S => dataR (evX c e ρ S)) ρ2 (vs.drop j) S).bind fun ys S1 => (comp2 t f ρ (us.drop (i + 1)) S1).bind fun zs S2 => .ok (.d (.list (ds ++ (ys ++ zs)))) S2) (RU K) Q
/-- no tests -/
def tYes : TT := fun σ H Q => Q true H
theorem pts_yes : PTs X [] tYes := pts_imp pts_nil fun σ H Q h => h
/-- over a written text -/
def iTxt (z : Str) : TI := fun σ H R => R (Its z) H
theorem pi_txt {tg : Expr} {z : Str} {k : Nat} {pos : Pos} : PI X tg (.Constant (.str z) k pos) (iTxt z) := pi_imp (pi_any pe_str) fun σ H R h => .inr (.inr ⟨z, rfl, h⟩)
theorem lc2_conv {own own2 : List Nat} {it : Ev.It} {t t2 : Tg} {z : Str} {e : Ev.X} (hsl : ∀ i, i ∈ t.slots → i ∈ own) (hsl2 : ∀ i, i ∈ t2.slots → i ∈ own2) {σ : L2.St} {H : Hp} {Q : VK} (h : tX K T cl E c (.lc2 own t it own2 t2 z e) σ H Q) :
    tLc2 (tIt K T cl E c it) (tTw K T t) tYes (iTxt z) (tTw K T t2) tYes (tX K T cl noE c e) own own2 σ H Q := by
  obtain ⟨ρ, M, S, en, st, h⟩ := h
  unfold evX at h
  refine ⟨ρ, M, S, en, st, Out.mono (Out.bind (rel := fun M H J s => Feed K M H J s) (out_noexcE_bind h)) fun J H1 ⟨M1, S1, src, g1, st1, fd, h1⟩ => ?_⟩
  intro D hD
  have en1 := (en.mono g1).wipe own
  cases src with
  | live b => exact h1.elim
  | fix us =>
    have h1 : Out K T cl E M1 H1 (if us.length ≤ 4096 ∧ z.length ≤ 4096 then (noexc (comp2 t (fun ρ1 S1 => compL t2 (fun _ S => .ok true S) (fun ρ S => dataR (evX c e ρ S)) (wipe ρ1 own2) (strItems z) S1) (wipe ρ own) us S1)).bind fun ys S2 => .ok (U.d (.list ys)) S2 else .bad) (RU K) Q := h1
    split at h1
    case isFalse => exact h1.elim
    rename_i hlen
    obtain ⟨hlen, hlen2⟩ := hlen
    obtain ⟨vs, hvs⟩ : ∃ vs, vs = strItems z := ⟨_, rfl⟩
    have hvl : vs.length ≤ 4096 := by
      rw [hvs]
      unfold strItems
      rw [List.length_map, Array.length_toList]
      exact hlen2
    rw [← hvs] at h1
    obtain ⟨f, hf⟩ : ∃ f : Rho → Store → R (List PyData), f = fun ρ1 S1 => compL t2 (fun _ S => .ok true S) (fun ρ S => dataR (evX c e ρ S)) (wipe ρ1 own2) vs S1 := ⟨_, rfl⟩
    rw [← hf] at h1
    have h2 : Out K T cl noE M1 H1 ((comp2 t f (wipe ρ own) us S1).bind fun ys S2 => .ok (U.d (.list ([] ++ ys))) S2) (RU K) Q := by
      cases e1 : comp2 t f (wipe ρ own) us S1 with
      | ok ys S2 => rw [e1] at h1; exact h1
      | exc k S2 => rw [e1] at h1; exact h1.elim
      | bad => rw [e1] at h1; exact h1.elim
    refine ⟨fun i m H => LcAt2 K T cl t f us M1 H1 (wipe ρ own) (L2.wipe σ own) D Q i m H, ⟨us.length, rfl, Nat.zero_le _, M1.hide D, S1, [], [], gr_hide st1 hD, List.mem_cons_self, st_hide st1 hD, en1.mono (gr_hide st1 hD), upd_same, .nil, Nat.zero_le _, h2⟩, ?_⟩
    rintro i m H ⟨rfl, hi, M2, S2, acc, ds, g2, hDx, st2, en2, hacc, ra, hal, ho⟩
    obtain ⟨f1, f2⟩ := fd M2 H g2 i
    by_cases hlt : i < us.length
    · right
      have hu : us[i]? = some us[i] := by simp [hlt]
      generalize us[i] = u at hu
      obtain ⟨f3, f4⟩ := f2 u hu
      refine ⟨f3, fun H' => LcAt2 K T cl t f us M1 H1 (wipe ρ own) (L2.wipe σ own) D Q (i + 1) (us.length - (i + 1)) H', fun H' w => ⟨_, by omega, w⟩, fun x H' hy => ?_⟩
      obtain ⟨g3, st3, rx⟩ := f4 x H' hy T S2 st2
      have hd : us.drop i = u :: us.drop (i + 1) := by
        rw [List.drop_eq_getElem_cons hlt]
        have := hu
        simp [hlt] at this
        rw [this]
      rw [hd] at ho
      unfold comp2 at ho
      have en3 := en2.mono g3
      have g13 := g2.trans g3
      have acc3 := g3.keep D _ hacc (st2.xt D hDx).1 fun ps z => by cases z
      split at ho
      · exact ho.elim
      · rename_i ρ1 eb
        refine ⟨_, M2, S2, u, ρ1, en3, st3, rx, eb, fun σ1 en4 hl1 hw1 => ⟨?_, ?_⟩⟩
        · rw [L2.wipe_length] at hl1
          refine wipe_ext hl1 fun j hj => ?_
          rw [hw1 j fun z => hj (hsl j z), wipe_out hj]
        · unfold tYes
          dsimp only
          rw [if_pos rfl]
          unfold iTxt
          have ho3 : Out K T cl noE M1 H1 ((compL t2 (fun _ S => .ok true S) (fun ρ S => dataR (evX c e ρ S)) (wipe ρ1 own2) vs S2).bind fun ys S1 => (comp2 t f (wipe ρ own) (us.drop (i + 1)) S1).bind fun zs S2 => .ok (U.d (.list (ds ++ (ys ++ zs)))) S2) (RU K) Q := by
            have e0 : (fun (ys : List PyData) (S1 : Store) => ((comp2 t f (wipe ρ own) (us.drop (i + 1)) S1).bind fun zs S2 => R.ok (ys ++ zs) S2).bind fun ys S2 => R.ok (U.d (.list (ds ++ ys))) S2) = fun ys S1 => (comp2 t f (wipe ρ own) (us.drop (i + 1)) S1).bind fun zs S2 => .ok (U.d (.list (ds ++ (ys ++ zs)))) S2 := by
              funext ys S1
              rw [bind_assoc]
              rfl
            rw [bind_assoc, e0] at ho
            rw [hf] at ho ⊢
            exact ho
          refine ⟨fun j k H => LcIn2 K T cl c t t2 f e us vs M1 H1 (wipe ρ own) (wipe ρ1 own2) (L2.wipe σ own) (L2.wipe σ1 own2) D Q i j k H, ⟨vs.length, rfl, Nat.zero_le _, M2, S2, acc, ds, g13, hDx, st3, en3, en4.wipe own2, acc3, ra.mono g3, by omega, ho3⟩, ?_⟩
          rintro j k H5 ⟨rfl, hj, M5, S5, acc5, ds5, g15, hDx5, st5, en5, en6, hacc5, ra5, hal5, ho5⟩
          obtain ⟨f5, f6⟩ := (feed_str (K := K) (M := M5) (H := H5) (z := z)) M5 H5 (Gr.refl _ _) j
          rw [← hvs] at f5 f6
          by_cases hlt2 : j < vs.length
          · right
            have hu2 : vs[j]? = some vs[j] := by simp [hlt2]
            generalize vs[j] = u2 at hu2
            obtain ⟨f7, f8⟩ := f6 u2 hu2
            refine ⟨f7, fun H' => LcIn2 K T cl c t t2 f e us vs M1 H1 (wipe ρ own) (wipe ρ1 own2) (L2.wipe σ own) (L2.wipe σ1 own2) D Q i (j + 1) (vs.length - (j + 1)) H', fun H' w => ⟨_, by omega, w⟩, fun x H' hy => ?_⟩
            obtain ⟨g7, st7, rx2⟩ := f8 x H' hy T S5 st5
            have hd2 : vs.drop j = u2 :: vs.drop (j + 1) := by
              rw [List.drop_eq_getElem_cons hlt2]
              have := hu2
              simp [hlt2] at this
              rw [this]
            rw [hd2] at ho5
            unfold compL at ho5
            have acc7 := g7.keep D _ hacc5 (st5.xt D hDx5).1 fun ps z => by cases z
            split at ho5
            · exact ho5.elim
            · rename_i ρ2 eb2
              refine ⟨_, M5, S5, u2, ρ2, en6.mono g7, st7, rx2, eb2, fun σ2 en8 hl2 hw2 => ⟨?_, ?_⟩⟩
              · rw [L2.wipe_length] at hl2
                refine wipe_ext hl2 fun j hj => ?_
                rw [hw2 j fun z => hj (hsl2 j z), wipe_out hj]
              · rw [if_pos rfl]
                have ho6 : Out K T cl noE M1 H1 ((((evX c e ρ2 S5).bind fun u S => match u with
                    | .d p => R.ok p S
                    | _ => .bad).bind fun y S2 => (compL t2 (fun _ S => .ok true S) (fun ρ S => dataR (evX c e ρ S)) (wipe ρ1 own2) (vs.drop (j + 1)) S2).bind fun ys S3 => .ok (y :: ys) S3).bind fun ys S1 => (comp2 t f (wipe ρ own) (us.drop (i + 1)) S1).bind fun zs S2 => .ok (U.d (.list (ds5 ++ (ys ++ zs)))) S2) (RU K) Q := ho5
                rw [bind_assoc, bind_assoc] at ho6
                refine ⟨ρ2, M5, S5, en8, st7, Out.mono (Out.bindB (rel := RU K) ho6 (g15.trans g7)) fun y H8 ⟨M8, S8, w, g8, st8, ry, ho8⟩ => ?_⟩
                have acc8 := g8.keep D _ acc7 (st7.xt D hDx5).1 fun ps z => by cases z
                have hDx8 : D ∈ M8.x := g8.ext D hDx5
                refine ⟨acc5, acc8, by rw [sizeLine_eq]; omega, rfl, hlt2, M8, S8, acc5 ++ [y], ?_⟩
                cases w with
                | d p =>
                  refine ⟨ds5 ++ [p], gr_wrx hD (fun ps z => by cases z) ((g15.trans g7).trans g8), hDx8, st8.wrx hDx8 acc8, ((en5.mono g7).mono g8).wrx (.inr hDx8), ((en6.mono g7).mono g8).wrx (.inr hDx8), upd_same, (((ra5.mono g7).mono g8).append (.cons ry .nil)).wrx (.inr hDx8), by rw [List.length_append]; simp; omega, ?_⟩
                  have ho9 : Out K T cl noE M1 H1 (((compL t2 (fun _ S => .ok true S) (fun ρ S => dataR (evX c e ρ S)) (wipe ρ1 own2) (vs.drop (j + 1)) S8).bind fun ys S3 => R.ok (p :: ys) S3).bind fun ys S1 => (comp2 t f (wipe ρ own) (us.drop (i + 1)) S1).bind fun zs S2 => .ok (U.d (.list (ds5 ++ (ys ++ zs)))) S2) (RU K) Q := ho8
                  rw [bind_assoc] at ho9
                  simp only [List.append_assoc, List.singleton_append]
                  exact ho9
                | ref j => exact ho8.elim
                | scr ns => exact ho8.elim
                | obj a => exact ho8.elim
                | it ds => exact ho8.elim
          · left
            have ej : j = vs.length := by omega
            have e0 : vs[j]? = none := by rw [ej]; simp
            refine ⟨f5 e0, rfl, hlt, M5, S5, acc5, ds5, g15, hDx5, st5, en5, hacc5, ra5, by omega, ?_⟩
            have hd2 : vs.drop j = [] := by rw [ej]; simp
            rw [hd2] at ho5
            unfold compL at ho5
            exact ho5
    · left
      have ei : i = us.length := by omega
      have e0 : us[i]? = none := by rw [ei]; simp
      refine ⟨f1 e0, ?_⟩
      have hd : us.drop i = [] := by rw [ei]; simp
      rw [hd] at ho
      unfold comp2 at ho
      have ho : Out K T cl noE M1 H1 (.ok (U.d (.list (ds ++ []))) S2) (RU K) Q := ho
      rw [List.append_nil] at ho
      exact hand_on hD g2 st1 st2 hDx ho fun nin less => .lst nin hacc (ra.less less)
end
end Ev
end

section
set_option Elab.async false
set_option linter.all false
set_option autoImplicit false
set_option maxRecDepth 100000
set_option maxHeartbeats 4000000
set_option profiler true
set_option profiler.threshold 3000
/-! # Dict displays -/
namespace Ev
open PySem PySem.Spec PyProof.Rows L2
section
variable {K : W.Frag} {T : List (Addr × Str)} {cl : Nat → Option Addr} {E : XK} {c : Cn} {X : Cx} {M : Ms} {H : Hp} {S : Store} {ρ : Rho} {σ : L2.St}
/-- the pairs, keys and values by turns -/
def flatX : List (Ev.X × Ev.X) → Xs
  | [] => .nil
  | q :: r => .cons q.1 (.cons q.2 (flatX r))
def flatV : List (V × V) → List V
  | [] => []
  | q :: r => q.1 :: q.2 :: flatV r
abbrev trsOf (K : W.Frag) (T : List (Addr × Str)) (cl : Nat → Option Addr) (E : XK) (c : Cn) (ps : List (Ev.X × Ev.X)) : List (TE × TE) := ps.map fun q => (tX K T cl E c q.1, tX K T cl E c q.2)
/-- an evaluation behind another one, its end known, the rest as from an earlier state -/
theorem Out.bindE {α α' β β' : Type} {M1 : Ms} {H1 : Hp} {r : R α} {f : α → Store → R α'} {rel : Ms → Hp → β → α → Prop} {rel' : Ms → Hp → β' → α' → Prop} {Q : β' → Hp → Prop}
    (h : Out K T cl E M1 H1 (r.bind f) rel' Q) (g : Gr M1 H1 M H) : Out K T cl E M H r rel fun b H2 => ∃ M2 S2 a, r = .ok a S2 ∧ Gr M H M2 H2 ∧ StOk K T M2 S2 H2 ∧ rel M2 H2 b a ∧ Out K T cl E M1 H1 (f a S2) rel' Q := by
  cases r with
  | ok a S => exact fun b M2 H2 g2 s q => ⟨M2, S, a, rfl, g2, s, q, h⟩
  | exc c S =>
    obtain ⟨C, hC, h⟩ := h
    exact ⟨C, hC, fun d M2 H2 hd g2 s2 => h d M2 H2 hd (g.trans g2) s2⟩
  | bad => exact h
theorem tX_e {α β : Type} {M1 : Ms} {H1 : Hp} {ir : Ev.X} {f : U → Store → R α} {rel : Ms → Hp → β → α → Prop} {Q : β → Hp → Prop} (en : EnvOk K ρ σ M H) (st : StOk K T M S H) (g : Gr M1 H1 M H) (h : Out K T cl E M1 H1 ((evX c ir ρ S).bind f) rel Q) {G : VK}
    (q : ∀ v M2 H2 S2 u, evX c ir ρ S = .ok u S2 → Gr M H M2 H2 → EnvOk K ρ σ M2 H2 → StOk K T M2 S2 H2 → RU K M2 H2 v u → Out K T cl E M1 H1 (f u S2) rel Q → G v H2) : tX K T cl E c ir σ H G :=
  ⟨ρ, M, S, en, st, Out.mono (Out.bindE h g) fun v H1 ⟨M1, S1, u, e, g1, st1, r1, h1⟩ => q v M1 H1 S1 u e g1 (en.mono g1) st1 r1 h1⟩
theorem pairs_b {α β : Type} {Mb : Ms} {Hb : Hp} {rel : Ms → Hp → β → α → Prop} {Q : β → Hp → Prop} : ∀ (ps : List (Ev.X × Ev.X)) {M : Ms} {H : Hp} {S : Store} {f : List U → Store → R α} {G : List (V × V) → Hp → Prop}, EnvOk K ρ σ M H → StOk K T M S H → Gr Mb Hb M H → Out K T cl E Mb Hb ((evXs c (flatX ps) ρ S).bind f) rel Q →
    (∀ vs M1 H1 S1 us, evXs c (flatX ps) ρ S = .ok us S1 → Gr M H M1 H1 → StOk K T M1 S1 H1 → RUs K M1 H1 (flatV vs) us → Out K T cl E Mb Hb (f us S1) rel Q → G vs H1) → tPairs (trsOf K T cl E c ps) σ H G
  | [], M, H, S, f, G, en, st, g, h, q => by
    unfold flatX evXs at h
    exact q [] M H S [] (by unfold flatX evXs; rfl) (Gr.refl _ _) st .nil h
  | p :: r, M, H, S, f, G, en, st, g, h, q => by
    unfold flatX evXs evXs at h
    rw [bind_assoc] at h
    refine tX_e en st g h fun v1 M1 H1 S1 u1 e1 g1 en1 st1 r1 h1 => ?_
    rw [bind_assoc, bind_assoc] at h1
    refine tX_e en1 st1 (g.trans g1) h1 fun v2 M2 H2 S2 u2 e2 g2 en2 st2 r2 h2 => ?_
    rw [bind_assoc] at h2
    refine pairs_b r en2 st2 ((g.trans g1).trans g2) h2 fun vs M3 H3 S3 us e3 g3 st3 r3 h3 => ?_
    refine q ((v1, v2) :: vs) M3 H3 S3 (u1 :: u2 :: us) ?_ ((g1.trans g2).trans g3) st3 (.cons ((r1.mono g2).mono g3) (.cons (r2.mono g3) r3)) h3
    unfold flatX evXs evXs
    rw [e1]
    show ((evX c p.2 ρ S1).bind fun x S1 => _).bind _ = _
    rw [e2]
    show ((evXs c (flatX r) ρ S2).bind fun x S1 => _).bind _ = _
    rw [e3]
    rfl
/-- what they are -/
theorem pairs_r : ∀ {vs : List (V × V)} {us : List U} {kvs : List (PyData × U)}, RUs K M H (flatV vs) us → pairsU us = some kvs → RpA K M H (vs.map Prod.fst) (kvs.map Prod.fst) ∧ RUs K M H (vs.map Prod.snd) (kvs.map Prod.snd)
  | [], us, kvs, r, e => by
    cases r
    cases e
    exact ⟨.nil, .nil⟩
  | q :: vs, us, kvs, r, e => by
    match us, r, e with
    | u1 :: u2 :: us, .cons r1 (.cons r2 r), e =>
      cases u1 with
      | d k =>
        unfold pairsU at e
        obtain ⟨ks, e1, rfl⟩ := map_some e
        obtain ⟨h1, h2⟩ := pairs_r r e1
        exact ⟨.cons r1 h1, .cons r2 h2⟩
      | _ => cases e
/-- a pair is put into a dict whose keys are texts -/
theorem put_s {x : Str} {v : V} {u : U} {kvs : List (PyData × U)} {ws : List (Key × V)} (hs : ∀ k, k ∈ kvs.map Prod.fst → sKey k = true) (r : RpA K M H (ws.map fun q => kV q.1) (kvs.map Prod.fst)) (qv : RUs K M H (ws.map Prod.snd) (kvs.map Prod.snd)) (rv : RU K M H v u) :
    (∀ k, k ∈ (dPut kvs (.str x) u).map Prod.fst → sKey k = true) ∧ RpA K M H ((putK ws (.inr x) v).map fun q => kV q.1) ((dPut kvs (.str x) u).map Prod.fst) ∧ RUs K M H ((putK ws (.inr x) v).map Prod.snd) ((dPut kvs (.str x) u).map Prod.snd) := by
  obtain ⟨i1, i2, i3⟩ := keys_s (x := x) hs r qv rv
  unfold dPut putK
  rw [i1]
  by_cases ha : (ws.any fun kv => decide (kv.1 = Sum.inr x)) = true
  · rw [if_pos ha, if_pos ha, repl_keys]
    exact ⟨hs, by rw [i3]; exact r, i2⟩
  · rw [if_neg ha, if_neg ha]
    refine ⟨fun k hk => ?_, ?_, ?_⟩
    · rw [List.map_append] at hk
      rcases List.mem_append.mp hk with hk | hk
      · exact hs k hk
      · have : k = .str x := by simpa using hk
        rw [this]; rfl
    · rw [List.map_append, List.map_append]
      exact r.append (.cons (Rp.str x) .nil)
    · rw [List.map_append, List.map_append]
      exact qv.append (.cons rv .nil)
theorem puts_s : ∀ {more : List (PyData × U)} {ms : List (Key × V)} {kvs : List (PyData × U)} {ws : List (Key × V)}, (∀ k, k ∈ kvs.map Prod.fst → sKey k = true) → RpA K M H (ws.map fun q => kV q.1) (kvs.map Prod.fst) → RUs K M H (ws.map Prod.snd) (kvs.map Prod.snd) →
    (∀ k, k ∈ more.map Prod.fst → sKey k = true) → RpA K M H (ms.map fun q => kV q.1) (more.map Prod.fst) → RUs K M H (ms.map Prod.snd) (more.map Prod.snd) →
    (∀ k, k ∈ (dPuts kvs more).map Prod.fst → sKey k = true) ∧ RpA K M H ((mergeK ws ms).map fun q => kV q.1) ((dPuts kvs more).map Prod.fst) ∧ RUs K M H ((mergeK ws ms).map Prod.snd) ((dPuts kvs more).map Prod.snd)
  | [], [], _, _, h1, h2, h3, _, _, _ => ⟨h1, h2, h3⟩
  | [], _ :: _, _, _, _, _, _, _, r, _ => nomatch r
  | _ :: _, [], _, _, _, _, _, _, r, _ => nomatch r
  | (k, u) :: more, (i, v) :: ms, kvs, ws, h1, h2, h3, h4, r, q => by
    cases r with
    | cons r1 r2 =>
      cases q with
      | cons q1 q2 =>
        obtain ⟨z, e⟩ := sKey_of (h4 k List.mem_cons_self)
        have e : k = .str z := e
        subst e
        have e2 : i = .inr z := by
          cases i with
          | inl i => cases r1
          | inr t => cases r1; rfl
        subst e2
        obtain ⟨a1, a2, a3⟩ := put_s (x := z) h1 h2 h3 q1
        exact puts_s (more := more) (ms := ms) (kvs := dPut kvs (.str z) u) (ws := putK ws (.inr z) v) a1 a2 a3 (fun c hc => h4 c (List.mem_cons_of_mem _ hc)) r2 q2
theorem dPut_ne {α : Type} {kvs : List (PyData × α)} {k : PyData} {v : α} : dPut kvs k v ≠ [] := by
  unfold dPut
  split
  · rename_i h
    cases kvs with
    | nil => cases h
    | cons q r => intro z; cases z
  · intro z
    exact List.cons_ne_nil _ _ (List.append_eq_nil_iff.mp z).2
theorem dPuts_ne {α : Type} : ∀ {more kvs : List (PyData × α)}, (kvs ≠ [] ∨ more ≠ []) → dPuts kvs more ≠ []
  | [], kvs, h => h.elim id fun z => absurd rfl z
  | q :: r, kvs, _ => dPuts_ne (more := r) (.inl dPut_ne)
/-! ### an object that was kept back is a box -/
theorem st_show {S : Store} {p : Addr} {x : List Addr} {b : Box} (st : StOk K T M S H) (hp : p ∈ M.x) (hx : ∀ a, a ∈ x → a ∈ M.x ∧ a ≠ p) (ok : BoxOk K ⟨M.b ++ [p], x⟩ H p b) (bel : b.below S.length) : StOk K T ⟨M.b ++ [p], x⟩ (S ++ [b]) H where
  len := by show (M.b ++ [p]).length = _; simp [st.len]
  nd := by
    show (M.b ++ [p]).Nodup
    rw [List.nodup_append]
    refine ⟨st.nd, by simp, fun a ha c hc => ?_⟩
    have e : c = p := by simpa using hc
    subst e
    rintro rfl
    exact (st.xt _ hp).1 ha
  box := fun i a c e1 e2 => by
    have e3 : (M.b ++ [p])[i]? = some a := e1
    by_cases hi : i < M.b.length
    · rw [List.getElem?_append_left hi] at e3
      rw [List.getElem?_append_left (by rw [← st.len]; exact hi)] at e2
      refine (st.box i a c e3 e2).less (fun d hd => ?_) fun j d e => ?_
      · rcases hd with hd | hd
        · rcases List.mem_append.mp hd with hd | hd
          · exact .inl hd
          · have : d = p := by simpa using hd
            rw [this]; exact .inr hp
        · exact .inr (hx d hd).1
      · show (M.b ++ [p])[j]? = some d
        rw [List.getElem?_append_left (List.getElem?_eq_some_iff.mp e).1]
        exact e
    · have hi' : i = M.b.length := by
        have := (List.getElem?_eq_some_iff.mp e3).1
        simp at this
        omega
      subst hi'
      rw [List.getElem?_append_right (Nat.le_refl _)] at e3
      rw [List.getElem?_append_right (by rw [st.len]; exact Nat.le_refl _)] at e2
      simp at e3
      rw [st.len] at e2
      simp at e2
      subst e3 e2
      exact ok
  xt := fun a ha => ⟨fun z => by
    rcases List.mem_append.mp z with z | z
    · exact (st.xt a (hx a ha).1).1 z
    · have e : a = p := by simpa using z
      exact (hx a ha).2 e, (st.xt a (hx a ha).1).2⟩
  tab := st.tab
  old := fun i c e => by
    by_cases hi : i < S.length
    · rw [List.getElem?_append_left hi] at e
      exact st.old i c e
    · have hl := (List.getElem?_eq_some_iff.mp e).1
      rw [List.length_append] at hl
      have hi' : i = S.length := by simp at hl; omega
      subst hi'
      rw [List.getElem?_append_right (Nat.le_refl _)] at e
      simp at e
      subst e
      exact bel
theorem gr_show {M2 : Ms} {H2 : Hp} {p : Addr} {o o' : HO} (hp : H p = none) (g : Gr (M.hide p) (upd H p o) M2 H2) (ho : ∀ ps, o ≠ .tbl ps) (ho' : ∀ ps, o' ≠ .tbl ps) : Gr M H ⟨M2.b ++ [p], M.x⟩ (upd H2 p o') where
  pre := g.pre.trans (List.prefix_append _ _)
  ext := fun _ z => z
  keep := fun a u e n t => by
    have na := ne_of_none e hp
    rw [upd_ne na]
    exact g.keep a u (by rw [upd_ne na]; exact e) n t
  new := fun a z => by
    rcases z with z | z
    · rcases List.mem_append.mp z with z | z
      · rcases g.newb a z with q | q
        · exact .inl (.inl q)
        · exact .inr (upd_dom (.inl ho) q)
      · have e : a = p := by simpa using z
        rw [e]
        exact .inr (.inl hp)
    · exact .inl (.inr z)
  newb := fun a z => by
    rcases List.mem_append.mp z with z | z
    · rcases g.newb a z with q | q
      · exact .inl q
      · exact .inr (upd_dom (.inl ho) q)
    · have e : a = p := by simpa using z
      rw [e]
      exact .inr (.inl hp)
  dom := fun a z => upd_dom (.inl ho) (g.dom a (upd_dom (.inl ho') z))
  frz := fun a od u e => by
    have na := ne_of_none e hp
    rw [upd_ne na]
    exact g.frz a od u (by rw [upd_ne na]; exact e)
/-- {k: v}, k a tuple -/
def tDisp1 (K : W.Frag) (tk tv : TE) : TE := fun σ H Q => ∀ p o, H p = none → DObj p o [] [] → tk σ (upd H p (DX p o)) fun y H1 => tv σ H1 fun z H2 => H2 p = some (DX p o) ∧ ∃ M k u, dKey k = true ∧ Rp K M H2 y k ∧ RU K M H2 z u ∧
  ∀ o' vs', DObj p o' vs' [k] → RpA K M H2 (vs'.map Prod.fst) [k] → RUs K M H2 (vs'.map Prod.snd) [u] → Q (.ref p) (upd H2 p (DX p o'))
theorem pe_disp1 {k v : Expr} {pos : Pos} {tk tv : TE} (hu : X.A.units + 65 < cLine) (hk : PE X k tk) (hv : PE X v tv) : PE X (.Dict [some k] [v] pos) (tDisp1 X.K tk tv) := by
  refine ⟨fun pins s σ H Q I h => ?_⟩
  have room : (nestedKind X.prog X.w).room X.A := by
    show X.A.units + 8 < cLine
    omega
  have fresh := I.hok.fresh (Nat.le_refl s.heap.objs.size)
  have I1 := I.laid (a := s.heap.objs.size) (o := DX s.heap.objs.size { cls := .type "dict", data := .dict #[] }) (t' := s.toks) (h' := s.heap.push { cls := .type "dict", data := .dict #[] }) (fun _ _ q => Heap.get?_push_of_some _ q) (Nat.le_refl _) (DX_ok (Heap.get?_push_size _ rfl))
  have sys : (s.heap.objs.size == sysModules) = false := beq_eq_false_iff_ne.mpr (Ne.symm (Nat.ne_of_lt I.big))
  have h := h _ _ fresh (dobj_nil (h := s.heap) sys rfl)
  rw [arm_eval_Dict]
  have eq : (evalEachOpt [some k] X.env).zip ((evalEach [v] X.env).map fun v => do let x ← v; standAt pos; pure x) = (pairTrees [some k] [v] X.env pos).map fun p => (some p.1, p.2) := rfl
  rw [eq, dictDisplay_pairs (pairTrees [some k] [v] X.env pos) (by intro z; cases z) (by show (1 : Nat) < 17; decide)]
  refine wpAny_bind (wpAny_standAt (wpAny_bind ?_))
  refine wpAny_subDictH (knd := nestedKind X.prog X.w) (Q := fun d s' => wpAny (model X.prog X.w) X.A (pure (Value.ref d)) (EP X pins σ Q) X.xe s') room (by show (1 : Nat) ≤ 15; decide) ?_
  refine pairTrees_cons_walk (thn (hk.run pins _ σ _ _ I1 h) fun u1 s1 ⟨y, H1, I2, ry, q1⟩ => thn (hv.run pins s1 σ H1 _ I2 q1) fun u2 s2 ⟨z, H2, I3, rz, e, M, kd, u, hkd, rk, ru, q2⟩ => pairTrees_nil_walk ?_)
  obtain ⟨b, rfl, rfl, hb⟩ := key_at I3 rk hkd ry
  obtain ⟨es, ep, e1, e2, e3, _⟩ := dh_of (M := M) (vs := []) (ks := []) I3 (.inl e) (dobj_nil (h := s.heap) sys rfl) .nil
  have ex : xsOf es.toList [] = [] := by cases es.toList <;> rfl
  rw [ex] at e3
  refine ⟨[(nkD kd, b, u2)], ⟨rfl, rfl, hb, True.intro⟩, e3, fun h' tk hm hs => ?_⟩
  have hm : h'.DictOfH (nestedKind X.prog X.w) s.heap.objs.size (storedH (xsOf es.toList []) (nkD kd) b u2) := by rw [ex]; exact hm
  obtain ⟨o', vs', g1, g2, g3, g4⟩ := put_obj (kvs := []) sys e2 (fun c hc => by cases hc) hkd (by rw [sizeLine_eq]; decide) .nil .nil rk rz ru hm
  have ek : (dPut ([] : List (PyData × U)) kd u) = [(kd, u)] := rfl
  rw [ek] at g2 g3 g4
  exact wpAny_pure ⟨.ref s.heap.objs.size, _, d_write I3 (by rw [e]; exact True.intro) hs ⟨o', g1⟩ (DX_ok g1), rfl, q2 o' vs' g2 g3 g4⟩
theorem kws_of : ∀ {vs : List (V × V)} {kvs : List (PyData × U)}, RpA K M H (vs.map Prod.fst) (kvs.map Prod.fst) → (∀ k, k ∈ kvs.map Prod.fst → sKey k = true) → ∃ ms : List (Key × V), vs = ms.map (fun kv => (kV kv.1, kv.2))
  | [], _, _, _ => ⟨[], rfl⟩
  | _ :: _, [], r, _ => nomatch r
  | (v1, v2) :: vs, (k, u) :: kvs, r, h => by
    cases r with
    | cons r1 r2 =>
      obtain ⟨z, e⟩ := sKey_of (h k List.mem_cons_self)
      have e : k = .str z := e
      subst e
      have e2 : v1 = .str z := by cases r1; rfl
      subst e2
      obtain ⟨ms, e3⟩ := kws_of r2 fun c hc => h c (List.mem_cons_of_mem _ hc)
      exact ⟨(.inr z, v2) :: ms, by rw [List.map_cons, e3]; rfl⟩
theorem below_puts : ∀ {more kvs : List (PyData × U)} {n : Nat}, (∀ q, q ∈ kvs → ∀ j, q.2 = .ref j → j < n) → (∀ q, q ∈ more → ∀ j, q.2 = .ref j → j < n) → ∀ q, q ∈ dPuts kvs more → ∀ j, q.2 = .ref j → j < n
  | [], _, _, h, _ => h
  | p :: r, kvs, n, h1, h2 => by
    refine below_puts (more := r) (kvs := dPut kvs p.1 p.2) (fun q hq j ej => ?_) fun q hq => h2 q (List.mem_cons_of_mem _ hq)
    unfold dPut at hq
    split at hq
    · unfold dRepl at hq
      obtain ⟨q', hq', e⟩ := List.mem_map.mp hq
      split at e
      · subst e; exact h2 p List.mem_cons_self j ej
      · subst e; exact h1 _ hq' j ej
    · rcases List.mem_append.mp hq with hq | hq
      · exact h1 _ hq j ej
      · rw [List.mem_singleton.mp hq] at ej
        exact h2 p List.mem_cons_self j ej
theorem rus_ref : ∀ {vs : List (V × V)} {kvs : List (PyData × U)}, RUs K M H (vs.map Prod.snd) (kvs.map Prod.snd) → ∀ q, q ∈ kvs → ∀ j, q.2 = .ref j → j < M.b.length
  | [], [], _, q, hq, _, _ => by cases hq
  | [], _ :: _, r, _, _, _, _ => nomatch r
  | _ :: _, [], r, _, _, _, _ => nomatch r
  | v :: vs, k :: kvs, r, q, hq, j, ej => by
    cases r with
    | cons r1 r2 =>
      rcases List.mem_cons.mp hq with z | z
      · subst z
        rw [ej] at r1
        obtain ⟨a, e, _⟩ := r1
        exact (List.getElem?_eq_some_iff.mp e).1
      · exact rus_ref r2 q z j ej
theorem new_ref {b : List Addr} {x : List Addr} {p : Addr} {n : Nat} (h : b.length = n) : ∃ a, (⟨b ++ [p], x⟩ : Ms).b[n]? = some a ∧ V.ref p = .ref a := ⟨p, by show (b ++ [p])[n]? = _; rw [← h, List.getElem?_append_right (Nat.le_refl _)]; simp, rfl⟩
section
variable {M2 : Ms} {H2 : Hp} {p : Addr} {o : HO}
theorem hid_x (st : StOk K T M S H) (hp : H p = none) (g : Gr (M.hide p) (upd H p o) M2 H2) : ∀ a, a ∈ M.x → a ∈ M2.x ∧ a ≠ p := fun a ha => ⟨g.ext a (List.mem_cons_of_mem _ ha), fun z => by
  obtain ⟨u, eo, _⟩ := (st.xt a ha).2
  rw [z, hp] at eo
  cases eo⟩
theorem show_le (st : StOk K T M S H) (hp : H p = none) (g : Gr (M.hide p) (upd H p o) M2 H2) : ∀ a, a ∈ (⟨M2.b ++ [p], M.x⟩ : Ms) → a ∈ M2 := fun a ha => by
  rcases ha with ha | ha
  · rcases List.mem_append.mp ha with ha | ha
    · exact .inl ha
    · have : a = p := by simpa using ha
      rw [this]
      exact .inr (g.ext p List.mem_cons_self)
  · exact .inr (g.ext a (List.mem_cons_of_mem _ ha))
theorem show_pre {x : List Addr} : ∀ (i : Nat) a, M2.b[i]? = some a → (⟨M2.b ++ [p], x⟩ : Ms).b[i]? = some a := fun i a e => by
  show (M2.b ++ [p])[i]? = some a
  rw [List.getElem?_append_left (List.getElem?_eq_some_iff.mp e).1]
  exact e
end
theorem px_dnew {keys : List (Option Expr)} {values : List Expr} {pos : Pos} {ps : List (Ev.X × Ev.X)} (hu : X.A.units + 65 < cLine) (h : PPs X pos keys values (trsOf X.K T cl E c ps)) (hall : keys.all (·.isSome) = true) (hl : keys.length = values.length) (hn : ps.length = keys.length) (h0 : keys ≠ []) (h15 : keys.length ≤ 15)
    (h1 : ∀ k v, keys = [some k] → values = [v] → ∃ a b, ps = [(a, b)] ∧ PE X k (tX X.K T cl E c a) ∧ PE X v (tX X.K T cl E c b)) : PE X (.Dict keys values pos) (tX X.K T cl E c (.dnew (flatX ps))) := by
  have P1 : PE X (.Dict keys values pos) (fun σ H Q => ∃ k v a b, keys = [some k] ∧ values = [v] ∧ ps = [(a, b)] ∧ tDisp1 X.K (tX X.K T cl E c a) (tX X.K T cl E c b) σ H Q) := by
    refine ⟨fun pins s σ H Q I ⟨k, v, a, b, e1, e2, e3, q⟩ => ?_⟩
    obtain ⟨a', b', e4, p1, p2⟩ := h1 k v e1 e2
    rw [e3] at e4
    cases e4
    subst e1 e2
    exact (pe_disp1 hu p1 p2).run pins s σ H Q I q
  refine pe_imp (pe_or (pe_disp h hall hl h0 h15) P1) fun σ H Q ⟨ρ, M, S, en, st, q⟩ => ?_
  unfold evX at q
  have fin : ∀ {us : List U} {S1 : Store} {M1 : Ms} {H1 : Hp}, Out X.K T cl E M1 H1 (match pairsU us with
      | some kvs => if (dispOk kvs && dispKind kvs) = true then Ev.R.ok (U.ref S1.length) (S1 ++ [.dct false (dPuts [] kvs)]) else .bad
      | none => .bad) (RU X.K) Q → ∃ kvs, pairsU us = some kvs ∧ kvs.length ≤ 15 ∧ dispKind kvs = true ∧ Out X.K T cl E M1 H1 (.ok (U.ref S1.length) (S1 ++ [.dct false (dPuts [] kvs)])) (RU X.K) Q := fun {us S1 M1 H1} h => by
    split at h
    case h_2 => exact h.elim
    rename_i kvs e
    split at h
    case isFalse => exact h.elim
    rename_i hc
    rw [Bool.and_eq_true] at hc
    obtain ⟨h1, h2⟩ := hc
    unfold dispOk at h1
    rw [Bool.and_eq_true, decide_eq_true_eq] at h1
    exact ⟨kvs, e, h1.1, h2, h⟩
  -- which kind of keys
  by_cases kind : ∃ us S1 kvs, evXs c (flatX ps) ρ S = .ok us S1 ∧ pairsU us = some kvs ∧ ¬ ((kvs.all fun q => sKey q.1) && !kvs.isEmpty) = true ∧ dispKind kvs = true
  · right
    obtain ⟨us, S1, kvs, e1, e2, e3, e4⟩ := kind
    have e5 : dKeys kvs = true ∧ kvs.length ≤ 1 := by
      unfold dispKind at e4
      rw [Bool.or_eq_true, Bool.and_eq_true, decide_eq_true_eq] at e4
      exact e4.resolve_right e3
    have fl : ∀ (ps : List (Ev.X × Ev.X)) {S : Store} {us : List U} {S1 : Store}, evXs c (flatX ps) ρ S = .ok us S1 → us.length = 2 * ps.length := by
      intro ps
      induction ps with
      | nil => intro S us S1 e; unfold flatX evXs at e; cases e; rfl
      | cons p r ih =>
        intro S us S1 e
        unfold flatX evXs evXs at e
        cases ea : evX c p.1 ρ S with
        | bad => rw [ea] at e; cases e
        | exc _ _ => rw [ea] at e; cases e
        | ok u1 S2 =>
          rw [ea] at e
          have e : (((evX c p.2 ρ S2).bind fun x S1 => (evXs c (flatX r) ρ S1).bind fun xs S2 => R.ok (x :: xs) S2).bind fun xs S2 => R.ok (u1 :: xs) S2) = .ok us S1 := e
          cases eb : evX c p.2 ρ S2 with
          | bad => rw [eb] at e; cases e
          | exc _ _ => rw [eb] at e; cases e
          | ok u2 S3 =>
            rw [eb] at e
            have e : (((evXs c (flatX r) ρ S3).bind fun xs S2 => R.ok (u2 :: xs) S2).bind fun xs S2 => R.ok (u1 :: xs) S2) = .ok us S1 := e
            cases ed : evXs c (flatX r) ρ S3 with
            | bad => rw [ed] at e; cases e
            | exc _ _ => rw [ed] at e; cases e
            | ok us' S4 =>
              rw [ed] at e
              cases e
              have := ih ed
              simp only [List.length_cons]
              omega
    have pl : ∀ (n : Nat) (us : List U) (kvs : List (PyData × U)), us.length ≤ n → pairsU us = some kvs → us.length = 2 * kvs.length := by
      intro n
      induction n with
      | zero =>
        intro us kvs h e
        cases us with
        | nil => cases e; rfl
        | cons _ _ => simp at h
      | succ n ih =>
        intro us kvs h e
        match us, e with
        | [], e => cases e; rfl
        | [.d k], e => cases e
        | .d k :: v :: r, e =>
          unfold pairsU at e
          obtain ⟨ks, e1, rfl⟩ := map_some e
          have := ih r ks (by simp at h; omega) e1
          simp only [List.length_cons]
          omega
        | .ref _ :: _, e => cases e
        | .scr _ :: _, e => cases e
        | .obj _ :: _, e => cases e
        | .it _ :: _, e => cases e
    have hlen : ps.length ≤ 1 := by
      have h1 := fl ps e1
      have h2 := pl _ us kvs (Nat.le_refl _) e2
      omega
    obtain ⟨k, v, ek, ev⟩ : ∃ k v, keys = [some k] ∧ values = [v] := by
      match keys, values, h0, hl, hall, hn with
      | [some k], [v], _, _, _, _ => exact ⟨k, v, rfl, rfl⟩
      | [none], _, _, _, z, _ => cases z
      | [some k], [], _, z, _, _ => cases z
      | [some k], _ :: _ :: _, _, z, _, _ => cases z
      | _ :: _ :: _, _, _, _, _, z => simp at z; omega
    obtain ⟨a, b, ep, _, _⟩ := h1 k v ek ev
    subst ep
    refine ⟨k, v, a, b, ek, ev, rfl, fun p o hp dob => ?_⟩
    have g0 : Gr M H (M.hide p) (upd H p (DX p o)) := gr_hide st hp
    have en0 := en.mono g0
    have st0 : StOk X.K T (M.hide p) S (upd H p (DX p o)) := st_hideG st hp DX_ne
    let G : List (V × V) → Hp → Prop := fun vs H2 => match vs with
      | [(y, z)] => H2 p = some (DX p o) ∧ ∃ M k u, dKey k = true ∧ Rp X.K M H2 y k ∧ RU X.K M H2 z u ∧
        ∀ o' vs', DObj p o' vs' [k] → RpA X.K M H2 (vs'.map Prod.fst) [k] → RUs X.K M H2 (vs'.map Prod.snd) [u] → Q (.ref p) (upd H2 p (DX p o'))
      | _ => True
    have main : tPairs (trsOf X.K T cl E c [(a, b)]) σ (upd H p (DX p o)) G := by
      refine pairs_b [(a, b)] en0 st0 g0 q fun vs M2 H2 S2 us2 ee g2 st2 r2 h2 => ?_
      rw [e1] at ee
      cases ee
      obtain ⟨kvs', e6, _, _, h3⟩ := fin h2
      rw [e2] at e6
      cases e6
      obtain ⟨rp, ru⟩ := pairs_r r2 e2
      have hDx : p ∈ M2.x := g2.ext p List.mem_cons_self
      have hp2 := g2.keep p _ upd_same (st0.xt p List.mem_cons_self).1 DX_ne
      match vs, kvs, rp, ru, e5, e2, h3 with
      | [], _, _, _, _, _, _ => exact True.intro
      | _ :: _ :: _, _, _, _, _, _, _ => exact True.intro
      | [(y, z)], [(kd, u)], .cons rk .nil, .cons rz .nil, e5, e2, h3 =>
        have hkd : dKey kd = true := by
          have := e5.1
          unfold dKeys at this
          simpa using this
        refine ⟨hp2, M2, kd, u, hkd, rk, rz, fun o' vs' d1 d2 d3 => ?_⟩
        obtain ⟨es, ep, edat, _⟩ := dob.ent
        have st3 : StOk X.K T M2 _ (upd H2 p (DX p o')) := st2.wrxG hDx hp2 DX_ne (fun q => DX_code ⟨es, ep, edat⟩) DX_ne
        refine h3 (.ref p) ⟨M2.b ++ [p], M.x⟩ _ (gr_show hp g2 DX_ne DX_ne) (st_show st3 hDx (hid_x st hp g2) (.inl ⟨o', vs', upd_same, d1, (d2.wrx (.inr hDx)).less (show_le st hp g2), (d3.wrx (.inr hDx)).lessB (show_le st hp g2) show_pre⟩) ?_) (new_ref st2.len)
        intro q hq j ej
        have hq : q = (kd, u) := by
          have : q ∈ [(kd, u)] := hq
          simpa using this
        rw [hq] at ej
        have ej : u = .ref j := ej
        rw [ej] at rz
        obtain ⟨a, e, _⟩ := rz
        rw [← st2.len]
        exact (List.getElem?_eq_some_iff.mp e).1
    exact main
  · left
    intro p hp
    have g0 : Gr M H (M.hide p) (upd H p (.dK [])) := gr_hide st hp
    have nt : ∀ ps, HO.dK [] ≠ .tbl ps := fun ps z => by cases z
    have en0 := en.mono g0
    have st0 : StOk X.K T (M.hide p) S (upd H p (.dK [])) := st_hideG st hp nt
    refine pairs_b ps en0 st0 g0 q fun vs M2 H2 S2 us ee g2 st2 r2 h2 => ?_
    obtain ⟨kvs, e6, e7, e8, h3⟩ := fin h2
    have hk : ((kvs.all fun q => sKey q.1) && !kvs.isEmpty) = true := Classical.byContradiction fun z => kind ⟨us, S2, kvs, ee, e6, z, e8⟩
    rw [Bool.and_eq_true, List.all_eq_true] at hk
    obtain ⟨rp, ru⟩ := pairs_r r2 e6
    have hs : ∀ k, k ∈ kvs.map Prod.fst → sKey k = true := fun k hkm => by
      obtain ⟨q, hq, e⟩ := List.mem_map.mp hkm
      rw [← e]
      exact hk.1 q hq
    have hDx : p ∈ M2.x := g2.ext p List.mem_cons_self
    have hp2 := g2.keep p _ upd_same (st0.xt p List.mem_cons_self).1 nt
    obtain ⟨ms, ems⟩ := kws_of rp hs
    subst ems
    have rp' : RpA X.K M2 H2 (ms.map fun q => kV q.1) (kvs.map Prod.fst) := by rw [List.map_map] at rp; exact rp
    have ru' : RUs X.K M2 H2 (ms.map Prod.snd) (kvs.map Prod.snd) := by rw [List.map_map] at ru; exact ru
    have hml : ms.length ≤ 15 := by
      have := rp'.length
      rw [List.length_map, List.length_map] at this
      omega
    refine ⟨hp2, ms, rfl, hml, ?_⟩
    obtain ⟨a1, a2, a3⟩ := puts_s (kvs := []) (ws := []) (more := kvs) (ms := ms) (fun k hk => by cases hk) .nil .nil hs rp' ru'
    have st3 : StOk X.K T M2 S2 (upd H2 p (.dK (mergeK [] ms))) := st2.wrxG hDx hp2 nt (fun q z => by unfold LamX.CodeO at z; cases z) fun ps z => by cases z
    have hne : dPuts [] kvs ≠ [] := dPuts_ne (.inr fun z => by rw [z] at hk; exact absurd hk.2 (by decide))
    refine h3 (.ref p) ⟨M2.b ++ [p], M.x⟩ _ (gr_show hp g2 nt fun ps z => by cases z) (st_show st3 hDx (hid_x st hp g2) (.inr ⟨rfl, _, upd_same, hne, a1, (a2.wrx (.inr hDx)).less (show_le st hp g2), (a3.wrx (.inr hDx)).lessB (show_le st hp g2) show_pre⟩) ?_) (new_ref st2.len)
    exact below_puts (fun q hq => by cases hq) fun q hq j ej => by
      rw [← st2.len]
      exact rus_ref ru q hq j ej
end
end Ev
end

section
set_option Elab.async false
set_option linter.all false
set_option autoImplicit false
set_option maxRecDepth 100000
set_option maxHeartbeats 4000000
/-! # Errors held as values; lists of values of any kind -/
namespace Ev
open PySem PySem.Spec PyProof.Rows L2
section
variable {fs ex : List Addr} {H : Hp} {h h' : Heap} {a t : Addr} {o u : HO}
theorem upd2_ne {b : Addr} (h1 : b ≠ a) (h2 : b ≠ t) : upd (upd H t u) a o b = H b := by rw [upd_ne h1, upd_ne h2]
theorem Un.laid2 (k : ∀ b v, h.get? b = some v → h'.get? b = some v) (hp : h.get? a = none) (hq : h.get? t = none) (hn : H a = none) (hm : H t = none) : Un fs ex H (upd (upd H t u) a o) h h' where
  keep := fun b v q _ _ _ => k b v q
  slot := fun b v q _ _ _ => ⟨v.slots, k b v q⟩
  free := fun b v q n _ => by rw [upd2_ne (fun z => by rw [z, hp] at q; cases q) (fun z => by rw [z, hq] at q; cases q)]; exact n
  there := fun b v q _ => ⟨v, k b v q⟩
  tups := fun b xs q => by rw [upd2_ne (ne_of_none q hn) (ne_of_none q hm)]; exact q
  frzs := fun b v xs q => by rw [upd2_ne (ne_of_none q hn) (ne_of_none q hm)]; exact q
  tbls := fun b ps q => ⟨#[], by rw [upd2_ne (ne_of_none q hn) (ne_of_none q hm), q]; simp⟩
theorem HOk.laid2 {P : Program} {w : World} (x : HOk P w H h) (k : ∀ b v, h.get? b = some v → h'.get? b = some v) (hn : H a = none) (hm : H t = none) (n1 : ObjOk P w (upd (upd H t u) a o) h' a o) (n2 : ObjOk P w (upd (upd H t u) a o) h' t u) : HOk P w (upd (upd H t u) a o) h' := fun b v e => by
  by_cases hb : b = a
  · subst hb
    rw [upd_same] at e
    cases e
    exact n1
  · rw [upd_ne hb] at e
    by_cases hc : b = t
    · subst hc
      rw [upd_same] at e
      cases e
      exact n2
    · rw [upd_ne hc] at e
      exact (x b v e).stay (fun c v _ q => k c v q) (fun c q => by rw [upd2_ne (ne_of_none q hn) (ne_of_none q hm)]; exact q) fun c xs q => by rw [upd2_ne (ne_of_none q hn) (ne_of_none q hm)]; exact q
end
theorem Inv.laid2 {X : Cx} {pins : List (Addr × Obj)} {σ : L2.St} {H : Hp} {s : Shared} {h' : Heap} {a t : Addr} {o u : HO} {t' : Nat} (I : Inv X pins σ H s) (k : ∀ b v, s.heap.get? b = some v → h'.get? b = some v) (hp : s.heap.get? a = none) (hq : s.heap.get? t = none) (hn : H a = none) (hm : H t = none)
    (n1 : ObjOk X.prog X.w (upd (upd H t u) a o) h' a o) (n2 : ObjOk X.prog X.w (upd (upd H t u) a o) h' t u) : Inv X pins σ (upd (upd H t u) a o) { s with heap := h', toks := t' } :=
  I.un (Un.laid2 k hp hq hn hm) (HOk.laid2 I.hok k hn hm n1 n2)
theorem exT_ok {P : Program} {w : World} {H : Hp} {h : Heap} {a C t : Addr} (e : h.get? a = some (PySem.HandSPX.excO C t)) : ObjOk P w H h a (ExT a C t) := ⟨e, ⟨_, e⟩, fun _ _ q k => k _ q⟩
/-- C("m"): the object, the tuple of what it was made of -/
theorem pe_mkx {X : Cx} {C : Addr} {x : Str} {e : Expr} {ta : TE} {p pos : Pos} (q : W.excIn X.K C [.type "ValueError", .type "Exception", .type "BaseException", .type "object"] "ValueError.__new__" = true) (gC : X.mg x = some (.ref C)) (kC : W.keepIn X.K (.ref C) = true) (hg : Gl X x)
    (he : PE X e ta) (hs : starEach [e] X.env = (false, eval e X.env) :: starEach [] X.env) (hdb : (x == ("__debug__" : Str)) = false) :
    PE X (.Call (.Name x p) [e] [] pos) (fun σ H Q => ta σ H fun v H1 => ∀ a t, H1 a = none → H1 t = none → t ≠ a → Q (.ref a) (upd (upd H1 t (.tup [v])) a (ExT a C t))) := by
  refine ⟨fun pins s σ H Q I h => ?_⟩
  refine wpAny_Call_Name_kw (ld_glob I hg gC ?_ hdb)
  refine W.callWith_K (h₀ := X.base) I.ok.mod.kin kC ?_ hs (by rfl)
  rw [hs]
  show wpAny _ _ (spliced ((false, eval e X.env) :: backTo pos (starEach [] X.env))) _ _ s
  refine Calls.spliced_cons (thn (he.run pins s σ H _ I h) fun u s1 ⟨v, H1, I1, r1, q1⟩ => ?_)
  refine Calls.spliced_nil ⟨I1.kIn, ?_⟩
  show wpAny _ _ (call (.ref C) [u]) _ _ _
  obtain ⟨bm, N, nm, qn, bs, hdct, sn, sub, ab, col, dd, k0, k1, k2, k3, k5, mN, hC, hN, hni, T⟩ := exc_obj I1.kIn q
  refine wpAny_call_exc_subT F.excBase_ValueError T hC hN hni (fun h' a hm => ?_) (by show 1 ≤ sizeLine; rw [sizeLine_eq]; omega)
  obtain ⟨t, ht, hnt, htt⟩ := hm.there
  have hn : H1 a = none := I1.hok.gone hm.new
  have hn2 : H1 t = none := I1.hok.gone hnt
  have ne : t ≠ a := fun z => by
    rw [z, ht] at htt
    cases htt
  refine ⟨.ref a, upd (upd H1 t (.tup [v])) a (ExT a C t), Inv.laid2 I1 hm.keeps hm.new hnt hn hn2 (exT_ok ht) ⟨by rw [sizeLine_eq]; exact Nat.le_of_ble_eq_true rfl, [u], .cons r1 .nil, ?_⟩, rfl, q1 a t hn hn2 ne⟩
  exact ⟨_, htt, rfl, 0, rfl⟩
/-- C(e) as a value: the class's own maker keeps what it gets under f -/
theorem pe_tm {X : Cx} {x f : Str} {C fI : Addr} {k : Nat} {e : Expr} {te : TE} {p pos : Pos} (D : TmDef X.prog X.K X.mg C fI f) (iC : W.findIn X.K (.ref C) "__init__" = some (some (.ref fI))) (tI : W.typeIn X.K (.ref fI) = some (.type "function"))
    (hr : Room k X.A) (hg : Gl X x) (hm : X.mg x = some (.ref C)) (he : PE X e te) (hdb : (x == ("__debug__" : Str)) = false) (hst : starEach [e] X.env = (false, eval e X.env) :: starEach [] X.env) :
    PE X (.Call (.Name x p) [e] [] pos) (fun σ H Q => te σ H fun v H1 => ∀ a d, H1 a = none → H1 d = none → d ≠ a → Q (.ref a) (upd (upd H1 d (exd d [(f, v)])) a (exo a C (some d)))) := by
  refine ⟨fun pins s σ H Q I h => ?_⟩
  have T := D.oex
  obtain ⟨nm, q, N, bs, bm, sn, sub, ab, col, dd, k0, k1, k2, k3, k5, hC, hbm⟩ := T.cls
  refine wpAny_Call_Name_kw (ld_glob I hg hm ?_ hdb)
  have ha : PA X [e] (tCons te tNil) := pa_cons he pa_nil hst
  refine W.callWith_K (h₀ := X.base) I.ok.mod.kin T.kC (thn (ha.run pos pins s σ H (fun vs H1 => match vs with | [v] => (∀ a d, H1 a = none → H1 d = none → d ≠ a → Q (.ref a) (upd (upd H1 d (exd d [(f, v)])) a (exo a C (some d)))) | _ => False) I ?_) fun us s1 ⟨vs, H1, I1, r1, q0⟩ => ⟨I1.kIn, ?_⟩) hst rfl
  · exact h
  obtain ⟨v, ev, q1⟩ : ∃ v, vs = [v] ∧ ∀ a d, H1 a = none → H1 d = none → d ≠ a → Q (.ref a) (upd (upd H1 d (exd d [(f, v)])) a (exo a C (some d))) := by
    match vs, q0 with
    | [v], q => exact ⟨v, rfl, q⟩
  subst ev
  cases r1 with
  | @cons _ u _ ur ru rn =>
    cases rn
    show wpAny _ _ (call (.ref C) [u]) _ _ _
    obtain ⟨hp, g, dr, tk, os⟩ := s1
    have hsz : hp.objs.size ≤ hp.objs.size + 1 := Nat.le_succ _
    have hn : H1 (hp.objs.size + 1) = none := I1.hok.fresh hsz
    have kk : ∀ b o, hp.get? b = some o → ((hp.push (W.kdv_tup [u])).push (PySem.HandSPX.excO C hp.objs.size)).get? b = some o := fun b o e => Heap.get?_push_of_some _ (Heap.get?_push_of_some _ e)
    have hget : ((hp.push (W.kdv_tup [u])).push (PySem.HandSPX.excO C hp.objs.size)).get? (hp.objs.size + 1) = some (PySem.HandSPX.excO C hp.objs.size) := by heap_get
    have I2 : Inv X pins σ (upd H1 (hp.objs.size + 1) (exo (hp.objs.size + 1) C none)) ⟨(hp.push (W.kdv_tup [u])).push (PySem.HandSPX.excO C hp.objs.size), g, dr, tk, os⟩ :=
      I1.laid (t' := tk) (a := hp.objs.size + 1) (o := exo (hp.objs.size + 1) C none) (h' := (hp.push (W.kdv_tup [u])).push (PySem.HandSPX.excO C hp.objs.size)) kk hsz (exo_ok hget)
    have ha0 : X.base.get? (hp.objs.size + 1) = none := by
      cases z : X.base.get? (hp.objs.size + 1) with
      | none => rfl
      | some o =>
        exact absurd (Heap.lt_size (I1.bk _ _ z)) (Nat.not_lt.mpr (Nat.le_succ _))
    refine wpAny_call (PySem.HandSPX.call_own F.excBase_ValueError (fun Y => PySem.HandSPX.refsVE_contains Y bm hbm) (I1.kIn _ _ hC) (W.looks_findIn I1.kIn iC) (fun self => W.bind_fn I1.kIn self tI) (by show 1 ≤ sizeLine; rw [sizeLine_eq]; omega)
      (tm_init I1.mod (fun b o e => kk b o (I1.bk b o e)) D (by rw [make_depth]; have := hr.dp; omega) hget ha0 fun h' tk' dx t2 k dn dne hx hns => ?_))
    refine ⟨rfl, ?_⟩
    generalize (hp.push (W.kdv_tup [u])).push (PySem.HandSPX.excO C hp.objs.size) = hp2 at *
    have e1 : upd H1 (hp.objs.size + 1) (exo (hp.objs.size + 1) C none) (hp.objs.size + 1) = some (exo (hp.objs.size + 1) C none) := upd_same
    have hnd : upd H1 (hp.objs.size + 1) (exo (hp.objs.size + 1) C none) dx = none := I2.hok.fresh dn
    have nd : ∀ {b : Addr} {o : Obj}, hp2.get? b = some o → b ≠ dx := fun {b o} q => Nat.ne_of_lt (Nat.lt_of_lt_of_le (Heap.lt_size q) dn)
    have na : ∀ {b : Addr}, upd H1 (hp.objs.size + 1) (exo (hp.objs.size + 1) C none) b = none → b ≠ hp.objs.size + 1 := fun {b} n z => by
      rw [z, e1] at n
      cases n
    let a : Addr := hp.objs.size + 1
    let Ha : Hp := upd H1 a (exo a C none)
    let H2 : Hp := upd (upd Ha dx (exd dx [(f, v)])) a (exo a C (some dx))
    have un : Un X.fs [] Ha H2 hp2 h' := {
      keep := fun b o q n _ _ => k b o (na n) q
      slot := fun b o q n _ _ => ⟨o.slots, k b o (na n) q⟩
      free := fun b o q n _ => by
        show upd (upd Ha dx (exd dx [(f, v)])) a (exo a C (some dx)) b = none
        rw [upd_ne (na n), upd_ne (nd q)]
        exact n
      there := fun b o q _ => by
        by_cases hb : b = a
        · exact ⟨_, by rw [hb]; exact hx⟩
        · exact ⟨o, k b o hb q⟩
      tups := fun b xs q => by
        show upd (upd Ha dx (exd dx [(f, v)])) a (exo a C (some dx)) b = _
        rw [upd_ne (at_ne e1 q exo_tup), upd_ne (ne_of_none q hnd)]
        exact q
      frzs := fun b o w q => by
        show upd (upd Ha dx (exd dx [(f, v)])) a (exo a C (some dx)) b = _
        rw [upd_ne (at_ne e1 q exo_frz), upd_ne (ne_of_none q hnd)]
        exact q
      tbls := fun b ps q => ⟨#[], by
        show upd (upd Ha dx (exd dx [(f, v)])) a (exo a C (some dx)) b = _
        rw [upd_ne (at_ne e1 q exo_tbl), upd_ne (ne_of_none q hnd), q]
        simp⟩ }
    have ed0 : ObjOk X.prog X.w H2 h' dx (exd dx [(f, v)]) := exd_ok hns (relO_put (fs := []) ru fun g => True.intro)
    have hok : HOk X.prog X.w H2 h' := fun b o q => by
      have q : upd (upd Ha dx (exd dx [(f, v)])) a (exo a C (some dx)) b = some o := q
      by_cases hb : b = a
      · rw [hb, upd_same] at q
        cases q
        rw [hb]
        exact exo_ok hx
      · rw [upd_ne hb] at q
        by_cases hd : b = dx
        · rw [hd, upd_same] at q
          cases q
          rw [hd]
          exact ed0
        · rw [upd_ne hd] at q
          exact (I2.hok b o q).stay (fun c w hc z => k c w (by
              rcases hc with hc | hc
              · rw [hc]
                exact hb
              · exact at_ne e1 hc exo_own) z)
            (fun c hc => by
              show upd (upd Ha dx (exd dx [(f, v)])) a (exo a C (some dx)) c = _
              rw [upd_ne (at_ne e1 hc exo_own), upd_ne (ne_of_none hc hnd)]
              exact hc) (fun c xs hc => by
              show upd (upd Ha dx (exd dx [(f, v)])) a (exo a C (some dx)) c = _
              rw [upd_ne (at_ne e1 hc exo_tup), upd_ne (ne_of_none hc hnd)]
              exact hc)
    have ea2 : H2 a = some (exo a C (some dx)) := upd_same
    have ed2 : H2 dx = some (exd dx [(f, v)]) := by
      show upd (upd Ha dx (exd dx [(f, v)])) a (exo a C (some dx)) dx = _
      rw [upd_ne dne, upd_same]
    have hd1 : H1 dx = none := by
      have z := hnd
      rw [upd_ne dne] at z
      exact z
    have eH : H2 = upd (upd H1 dx (exd dx [(f, v)])) a (exo a C (some dx)) := by
      funext b
      show upd (upd Ha dx (exd dx [(f, v)])) a (exo a C (some dx)) b = _
      by_cases ha : b = a
      · rw [ha, upd_same, upd_same]
      · rw [upd_ne ha, upd_ne ha]
        by_cases hb : b = dx
        · rw [hb, upd_same, upd_same]
        · rw [upd_ne hb, upd_ne hb]
          exact upd_ne ha
    have q2 := q1 a dx hn hd1 dne
    rw [← eH] at q2
    exact ⟨.ref a, H2, I2.un (t' := tk') un hok, rfl, q2⟩
/-- .. and what it has kept -/
theorem pe_limx {X : Cx} {e : Expr} {te : TE} {f : Str} {C : Addr} {pos : Pos} (T : XfC X.K C) (hno : W.findIn X.K (.ref C) f = some none) (he : PE X e te) (hb : attributeBase e f X.env (eval e X.env) = eval e X.env) :
    PE X (.Attribute e f pos) (fun σ H Q => te σ H fun x H1 => ∃ a dx v, x = .ref a ∧ H1 a = some (exo a C (some dx)) ∧ H1 dx = some (exd dx [(f, v)]) ∧ Q v H1) := by
  refine ⟨fun pins s σ H Q I h => attr_of hb (thn (he.run pins s σ H _ I h) fun u s1 hh => ?_)⟩
  obtain ⟨x, H1, I1, rx, a, dx, v, ex, ea, ed, q⟩ := hh
  subst ex
  obtain rfl : u = Value.ref a := rx
  obtain ⟨t1, h3⟩ := exo_at I1.hok ea
  obtain ⟨mA, hns, rel⟩ := exd_at I1.hok ed
  obtain ⟨od, ho, hl⟩ := lookIn_ns hns
  obtain ⟨u, hu, ru⟩ := RelO.some_of (v := v) (o := mA f) (by have := rel f; simpa [List.lookup] using this)
  have J : W.InstAt s1.heap a _ C (some od) := ⟨h3, rfl, rfl, ho⟩
  exact HandSPX.exc_get I1.kIn J T.ga T.gg T.exC (W.findObj_own T.hdC hno rfl (by rw [hl, hu])) (handed_of ru) ⟨v, H1, I1.tok _, ru, q⟩
section
variable {K : W.Frag} {T : List (Addr × Str)} {cl : Nat → Option Addr} {E : XK} {c : Cn} {X : Cx} {M : Ms} {H : Hp} {S : Store} {ρ : Rho} {σ : L2.St}
theorem px_bls {es : List Expr} {pos : Pos} {xs : Xs} (ha : PA X es (tXs X.K T cl E c xs)) : PE X (.List es pos) (tX X.K T cl E c (.bls xs)) :=
  pe_imp (pe_lst ha) fun σ H Q ⟨ρ, M, S, en, st, h⟩ => by
    unfold evX at h
    refine tXs_b en st h fun v M1 H1 S1 us g1 en1 st1 r1 h1 => ?_
    split at h1
    case isFalse => exact h1.elim
    rename_i hl
    rw [Bool.and_eq_true, decide_eq_true_eq] at hl
    exact ⟨by rw [r1.length, ← line_eq]; exact hl.1, fun p hp => bl_new st1 r1 hp h1⟩
theorem px_bix {a b : Expr} {pos : Pos} {x y : Ev.X} (hs : isSlice b = false) (ha : PE X a (tX X.K T cl E c x)) (hb : PE X b (tX X.K T cl E c y)) : PE X (.Subscript a b pos) (tX X.K T cl E c (.bix x y)) :=
  pe_imp (pe_ix ix_list ha hb (fun _ _ => by cases b <;> first | rfl | cases hs)) fun σ H Q ⟨ρ, M, S, en, st, h⟩ => by
    unfold evX at h
    refine tX_b en st h fun v M1 H1 S1 u g1 en1 st1 r1 h1 => tX_b en1 st1 h1 fun w M2 H2 S2 u2 g2 _ st2 r2 h2 => ?_
    split at h2
    case h_2 => exact h2.elim
    rename_i us j e
    obtain ⟨i1, a1, xs, rfl, b1, s1, rfl, h3, r3⟩ := bl_of st2 (r1.mono g2) e
    cases (show Rp X.K M2 H2 w (.int j) from r2)
    cases e4 : L2.atI us j with
    | none => rw [e4] at h2; exact h2.elim
    | some d =>
      rw [e4] at h2
      obtain ⟨z, e5, r5⟩ := atI_map (R := RU X.K M2 H2) r3.length (fun j d hd => r3.get hd) e4
      exact ⟨a1, xs, j, z, rfl, rfl, SqL.of h3, e5, out_here st2 h2 r5⟩
theorem px_bln {g : Cfg} {k l : Nat} {N : List Str} {sc : Scope} {fb : Fb} (G : Good g T cl c k l X N sc fb) {a : Expr} {x : Ev.X} {p pos : Pos} (hg : glB sc "len" = true) (hs : starred a = false) (ha : PE X a (tX X.K T cl E c x)) :
    PE X (.Call (.Name "len" p) [a] [] pos) (tX X.K T cl E c (.bln x)) := by
  refine pe_imp (pe_callB call_len_seq (gl_of G.scope hg) (G.blts _ (by simp)) (by decide +kernel) (pa_cons ha pa_nil (star_of hs)) (by decide +kernel) (by decide +kernel) (star_of hs) rfl) fun σ H Q ⟨ρ, M, S, en, st, h⟩ => ?_
  unfold evX at h
  refine tX_b en st h fun v M1 H1 S1 u g1 en1 st1 r1 h1 => ?_
  split at h1
  case h_2 => exact h1.elim
  rename_i us e
  obtain ⟨i1, a1, xs, rfl, b1, s1, rfl, h3, r3⟩ := bl_of st1 r1 e
  exact ⟨a1, xs, rfl, .inl (SqL.of h3), out_here st1 h1 (by rw [r3.length]; exact Rp.int _)⟩
theorem exc_at {u : U} {v : V} {q : Str × Str × Option (Str × PyData)} (st : StOk K T M S H) (r : RU K M H v u) (e : excAt S u = some q) : ∃ a, v = .ref a ∧ BoxOk K M H a (.exc q.1 q.2.1 q.2.2) := by
  unfold excAt at e
  split at e
  · rename_i i
    split at e
    · rename_i c z l e2
      cases e
      obtain ⟨a, e3, e4⟩ := r
      exact ⟨a, e4, st.box i a _ e3 e2⟩
    · cases e
  · cases e
theorem px_mkx {g : Cfg} {k l : Nat} {N : List Str} {sc : Scope} {fb : Fb} (G : Good g T cl c k l X N sc fb) (xo : XOk g.hn X.prog X.K X.mg) {C : Str} {a : Expr} {x : Ev.X} {p pos : Pos} (hC : C ∈ g.hn.xC) (hg : glB sc C = true) (ho : odd C = false) (hs : starred a = false) (ha : PE X a (tX X.K T cl E c x)) :
    PE X (.Call (.Name C p) [a] [] pos) (tX X.K T cl E c (.mkx C x)) := by
  obtain ⟨e1, e2, e3⟩ := xo.cs C hC
  refine pe_imp (pe_mkx e3 e1 e2 (gl_of G.scope hg) ha (star_of hs) (odd_of ho).1) fun σ H Q ⟨ρ, M, S, en, st, h⟩ => ?_
  unfold evX at h
  refine tX_b en st h fun v M1 H1 S1 u g1 en1 st1 r1 h1 => ?_
  split at h1
  case h_2 => exact h1.elim
  rename_i z
  cases (show Rp X.K M1 H1 v (.str z) from r1)
  intro a t ha ht ne
  have s2 : StOk X.K T M1 S1 (upd H1 t (.tup [.str z])) := st_new st1 ht
  have g2 := gr_new (o := .tup [.str z]) st1 ht
  have ha2 : upd H1 t (.tup [.str z]) a = none := by rw [upd_ne (Ne.symm ne)]; exact ha
  refine h1 (.ref a) (M1.add a) _ (g2.trans (gr_box s2 ha2)) (st_boxG s2 ha2 ⟨t, upd_same, ?_, by rw [upd_ne ne, upd_same]⟩ True.intro) ⟨a, by show (M1.b ++ [a])[S1.length]? = _; rw [← st1.len, List.getElem?_append_right (Nat.le_refl _)]; simp, rfl⟩
  rintro (z | z)
  · rcases List.mem_append.mp z with z | z
    · exact st1.free ht (.inl z)
    · exact ne (by simpa using z)
  · exact st1.free ht (.inr z)
/-- the object of an error that is held: what it is in the heap -/
theorem exc_inst {pins : List (Addr × Obj)} {s : Shared} {a : Addr} {cn z : Str} {l : Option (Str × PyData)} (I : Inv X pins σ H s) (h : BoxOk X.K M H a (.exc cn z l)) : ∃ ox od, W.InstAt s.heap a ox (He.ga X.K cn) od := by
  rcases l with _ | ⟨f, p⟩
  · obtain ⟨t, h1, _⟩ := h
    obtain ⟨h2, _⟩ := (show ObjOk X.prog X.w H s.heap a (ExT a (He.ga X.K cn) t) from I.hok a _ h1)
    exact ⟨_, none, excO_inst h2⟩
  · obtain ⟨dx, v, h1, n, h2, r⟩ := h
    obtain ⟨t1, h3⟩ := exo_at I.hok h1
    obtain ⟨mA, hns, rel⟩ := exd_at I.hok h2
    obtain ⟨od, ho, hl⟩ := lookIn_ns hns
    exact ⟨_, some od, h3, rfl, rfl, ho⟩
/-- isinstance(a, D) -/
theorem call_isX {cv : Value} {tb : List (Str × Bool)} {v : V} (hv : ∀ u, RelV v u → u = cv) (F : ∀ c b, tb.lookup c = some b → L2.ExcC X.K (He.ga X.K c) ∧ W.kitOne X.K (.ref (He.ga X.K c)) cv = some b) :
    CallR X (.builtin "isinstance") (fun xs H Q => ∃ M a cn z l b, xs = [.ref a, v] ∧ BoxOk X.K M H a (.exc cn z l) ∧ tb.lookup cn = some b ∧ Q (.bl b) H) := by
  intro pins s σ H xs us Q I r ⟨M, a, cn, z, l, b, e1, hb, e2, q⟩
  subst e1
  cases r with
  | cons rx rr =>
    cases rr with
    | cons rt rr =>
      cases rr
      cases rx
      have ec := hv _ rt
      subst ec
      obtain ⟨f1, f2⟩ := F cn b e2
      obtain ⟨ox, od, J⟩ := exc_inst I hb
      exact W.kia_one (W.kitx_exc (by obtain ⟨cd, hc, _⟩ := W.any_some f1.hd; rw [hc]; rfl) f1.hg f1.hk f1.hs f1.ha f1.hn f1.ht f1.hm) I.kIn J f2 (fun z => nomatch z) fun tk => ⟨.bl b, H, I.kept (t' := tk) fun _ _ z => z, rfl, q⟩
theorem px_isX {g : Cfg} {k l : Nat} {N : List Str} {sc : Scope} {fb : Fb} (G : Good g T cl c k l X N sc fb) (xo : XOk g.hn X.prog X.K X.mg) {D : Str} {tb : List (Str × Bool)} {a : Expr} {x : Ev.X} {p q pos : Pos} (hD : g.hn.xT.lookup D = some tb) (hg : glB sc "isinstance" = true) (hgd : glB sc D = true) (ho : odd D = false) (hs : starred a = false) (ha : PE X a (tX X.K T cl E c x)) :
    PE X (.Call (.Name "isinstance" p) [a, .Name D q] [] pos) (tX X.K T cl E c (.isX tb x)) := by
  obtain ⟨v, cv, e1, e2, e3, e4⟩ := xo.ts D tb hD
  have hn : PE X (.Name D q) (tC v) := by
    rcases e1 with e1 | ⟨e1, e5, e6⟩
    · exact pe_glob (gl_of G.scope hgd) e1 e2 (odd_of ho).1
    · exact pe_bltn (gl_of G.scope hgd) e1 e5 e2 e6 (odd_of ho).1
  refine pe_imp (pe_callB (call_isX e3 e4) (gl_of G.scope hg) (G.blts _ (by simp)) (by decide +kernel) (pa_cons ha (pa_cons hn pa_nil rfl) (star_of hs)) (by decide +kernel) (by decide +kernel) (star_of hs) rfl) fun σ H Q ⟨ρ, M, S, en, st, h⟩ => ?_
  unfold evX at h
  refine tX_b en st h fun w M1 H1 S1 u g1 en1 st1 r1 h1 => ?_
  cases ex : excAt S1 u with
  | none => rw [ex] at h1; exact h1.elim
  | some t =>
    rw [ex] at h1
    obtain ⟨a1, rfl, hb⟩ := exc_at st1 r1 ex
    have h2 : Out X.K T cl E M1 H1 (R.of S1 ((tb.lookup t.1).map fun b => U.d (.bool b))) (RU X.K) Q := h1
    cases el : tb.lookup t.1 with
    | none => rw [el] at h2; exact h2.elim
    | some b =>
      rw [el] at h2
      exact ⟨M1, a1, t.1, t.2.1, t.2.2, b, rfl, hb, el, out_here st1 h2 (Rp.bl _)⟩
theorem px_mkt {g : Cfg} {k l : Nat} {N : List Str} {sc : Scope} {fb : Fb} (G : Good g T cl c k l X N sc fb) (xo : XOk g.hn X.prog X.K X.mg) {C f : Str} {a : Expr} {x : Ev.X} {p pos : Pos} (hC : g.hn.xM.lookup C = some f) (hg : glB sc C = true) (ho : odd C = false) (hs : starred a = false) (ha : PE X a (tX X.K T cl E c x)) :
    PE X (.Call (.Name C p) [a] [] pos) (tX X.K T cl E c (.mkt C f x)) := by
  obtain ⟨e1, e2, fI, e3, e4, e5⟩ := xo.ms C f hC
  refine pe_imp (pe_tm e3 e4 e5 G.room (gl_of G.scope hg) e1 ha (odd_of ho).1 (star_of hs)) fun σ H Q ⟨ρ, M, S, en, st, h⟩ => ?_
  unfold evX at h
  refine tX_b en st h fun v M1 H1 S1 u g1 en1 st1 r1 h1 => ?_
  split at h1
  case h_2 => exact h1.elim
  rename_i q
  intro a t ha ht ne
  have s2 : StOk X.K T M1 S1 (upd H1 t (exd t [(f, v)])) := st_new st1 ht
  have g2 := gr_new (o := exd t [(f, v)]) st1 ht
  have ha2 : upd H1 t (exd t [(f, v)]) a = none := by rw [upd_ne (Ne.symm ne)]; exact ha
  have g3 := g2.trans (gr_box (o := exo a (He.ga X.K C) (some t)) s2 ha2)
  refine h1 (.ref a) (M1.add a) _ g3 (st_boxG s2 ha2 ⟨t, v, upd_same, ?_, by rw [upd_ne ne, upd_same], Rp.mono g3 r1⟩ True.intro) ⟨a, by show (M1.b ++ [a])[S1.length]? = _; rw [← st1.len, List.getElem?_append_right (Nat.le_refl _)]; simp, rfl⟩
  rintro (z | z)
  · rcases List.mem_append.mp z with z | z
    · exact st1.free ht (.inl z)
    · exact ne (by simpa using z)
  · exact st1.free ht (.inr z)
theorem px_limx {g : Cfg} (xo : XOk g.hn X.prog X.K X.mg) {C f : Str} {e : Expr} {x : Ev.X} {pos : Pos} (hC : g.hn.xM.lookup C = some f) (hb : ∀ whole, attributeBase e f X.env whole = whole) (ha : PE X e (tX X.K T cl E c x)) :
    PE X (.Attribute e f pos) (tX X.K T cl E c (.limx C f x)) := by
  obtain ⟨e1, e2, fI, e3, e4, e5⟩ := xo.ms C f hC
  refine pe_imp (pe_limx e2 e3.fld ha (hb _)) fun σ H Q ⟨ρ, M, S, en, st, h⟩ => ?_
  unfold evX at h
  refine tX_b en st h fun v M1 H1 S1 u g1 en1 st1 r1 h1 => ?_
  split at h1
  case h_2 => exact h1.elim
  rename_i c' z' f' p' ex
  split at h1
  case isFalse => exact h1.elim
  rename_i hc
  obtain ⟨rfl, rfl⟩ := hc
  obtain ⟨a1, rfl, dx, w, h2, n, h3, r3⟩ := exc_at st1 r1 ex
  exact ⟨a1, dx, w, rfl, h2, h3, out_here st1 h1 r3⟩
theorem call_strx {cs : List Str} (F : ∀ c, c ∈ cs → W.findIn X.K (.ref (He.ga X.K c)) "__str__" = some (some (.builtin "BaseException.__str__")) ∧ W.subIn X.K (.ref (He.ga X.K c)) (.type "BaseException") = some true) (hu : X.A.units + 2 < cLine) :
    CallR X (.type "str") (fun xs H Q => ∃ M a cn z, xs = [.ref a] ∧ cn ∈ cs ∧ BoxOk X.K M H a (.exc cn z none) ∧ Q (.str z) H) := by
  intro pins s σ H xs us Q I r ⟨M, a, cn, z, e1, hc, hb, q⟩
  subst e1
  obtain ⟨t, h1, n, h2⟩ := hb
  obtain ⟨u, rfl, rx⟩ := vals1 r
  obtain rfl : u = Value.ref a := rx
  obtain ⟨h3, _⟩ := (show ObjOk X.prog X.w H s.heap a (ExT a (He.ga X.K cn) t) from I.hok a _ h1)
  obtain ⟨_, its, r2, o, ht, hcl, m, hd⟩ := (show ObjOk X.prog X.w H s.heap t (.tup [.str z]) from I.hok t _ h2)
  obtain ⟨w, rfl, tk, rfl⟩ := vals1 r2
  obtain ⟨f1, f2⟩ := F cn hc
  exact PySem.P.str_of_C_one hu (K := X.K) ⟨I.kIn, _, _, h3, rfl, rfl, rfl⟩ ⟨o, m, ht, hcl, hd⟩ f1 f2 ⟨.str z, H, I, ⟨tk, rfl⟩, q⟩
theorem px_strx {g : Cfg} {k l : Nat} {N : List Str} {sc : Scope} {fb : Fb} (G : Good g T cl c k l X N sc fb) (xo : XOk g.hn X.prog X.K X.mg) {a : Expr} {x : Ev.X} {p pos : Pos} (hg : glB sc "str" = true) (hs : starred a = false) (ha : PE X a (tX X.K T cl E c x)) :
    PE X (.Call (.Name "str" p) [a] [] pos) (tX X.K T cl E c (.strx g.hn.xS x)) := by
  refine pe_imp (pe_callTy (call_strx xo.ss (by have := G.room.un; omega)) (gl_of G.scope hg) (G.blts _ (by simp)) (by decide +kernel) (pa_cons ha pa_nil (star_of hs)) (by decide +kernel) (by decide +kernel) (star_of hs) rfl) fun σ H Q ⟨ρ, M, S, en, st, h⟩ => ?_
  unfold evX at h
  refine tX_b en st h fun v M1 H1 S1 u g1 en1 st1 r1 h1 => ?_
  split at h1
  case h_2 => exact h1.elim
  rename_i c' z' ex
  split at h1
  case isFalse => exact h1.elim
  rename_i hc
  obtain ⟨a1, rfl, hb⟩ := exc_at st1 r1 ex
  exact ⟨M1, a1, c', z', rfl, hc, hb, out_here st1 h1 (Rp.str _)⟩
end
end Ev
end

section
set_option Elab.async false
set_option linter.all false
set_option autoImplicit false
set_option maxRecDepth 100000
set_option maxHeartbeats 4000000
/-! # A lambda handed to the def that tells the error; all expressions -/
namespace Ev
open PySem PySem.Spec PyProof.Rows L2
section
variable {T : List (Addr × Str)} {cl : Nat → Option Addr} {E : XK} {c : Cn} {X : Cx} {g : Cfg} {N : List Str} {sc : Scope} {fb : Fb} {k l : Nat}
/-- in a comprehension's block -/
theorem Good.blk (G : Good g T cl c k l X N sc fb) (s : Shared) (H : Hp) (scope : Scope) (C : Addr) (cells : List (Str × Addr)) (fp : List Addr) : Good g T cl c k l (X.blk s H scope (compEnvC scope cells C X.env) fp) N (relS scope sc) (fbBlk scope (relS scope sc)) where
  names := G.names
  nd := G.nd
  scope := by rw [← G.scope]; rfl
  calm := G.calm
  room := G.room
  fbk := fun x h => by
    unfold fbBlk at h
    rw [Bool.or_eq_true, decide_eq_true_eq, decide_eq_true_eq] at h
    refine h.imp (fun z => ?_) fun z => ?_
    · show (scope.names.lookup x == some .cell) = true
      rw [z]
      decide
    · rw [← G.scope] at z
      exact z
  fns := G.fns
  low := fun lf e => ⟨(G.low lf e).1, fun hl => (G.low lf e).2 hl⟩
  clss := G.clss
  clst := G.clst
  nms := G.nms
  errs := G.errs
  ar := G.ar
  arL := G.arL
  blts := G.blts
  cons := G.cons
  xok := G.xok
theorem takes_no {X : Cx} : L2N.Takes X (fun d a _ H => noE d a H) := takesN0
/-- in a lambda's body -/
theorem Good.lam (G : Good g T cl c k l X N sc fb) {lf : CF} (hl : c.low = some lf) (A : Around) (outer : List Env) (s : Shared) (H : Hp) (E : XK) (scope : Scope) (f c' : Addr) (hr : Room l (A.deeper (LamX.lamEnv X scope s.heap.objs.size f c'))) :
    Good g T cl ⟨lf, none, c.nm⟩ l l (lamN X A outer s H E scope f c') N scope (fun _ => false) where
  names := G.names
  nd := G.nd
  scope := rfl
  calm := rfl
  room := hr
  fbk := fun x h => by cases h
  fns := fun x f h => by
    obtain ⟨a, fd, ps, fn, e1, e2, e3, e4, e5, F, F2⟩ := G.fns x f h
    exact ⟨a, fd, ps, fn, e1, e2, e3, e4, e5, F2 lf hl, fun lf' z => by cases z⟩
  low := fun lf' z => by cases z
  clss := G.clss
  clst := G.clst
  nms := G.nms
  errs := G.errs
  ar := G.arL lf hl
  arL := fun lf' z => by cases z
  blts := G.blts
  cons := G.cons
  xok := G.xok
theorem takes_lam {A : Around} {outer : List Env} {s : Shared} {H : Hp} {scope : Scope} {f c' : Addr} : L2N.Takes (lamN X A outer s H E scope f c') (fun d a _ H => E d a H) := L2N.takes_of rfl rfl rfl rfl
/-- x(lambda: body) -/
theorem px_err {x : Str} {body : Expr} {scope : Scope} {p lpos pos : Pos} {ir : Ev.X} (G : Good g T cl c k l X N sc fb) (hx : g.errs x = true) (hlm : g.lam = true) (hg : glB sc x = true) (ho : odd x = false) (hL : LamX.lamSB sc scope = true)
    (hb : ∀ lf, c.low = some lf → ∀ (A : Around) (outer : List Env) (s : Shared) (H : Hp) (E : XK) (f c' : Addr), Room l (A.deeper (LamX.lamEnv X scope s.heap.objs.size f c')) → PE (lamN X A outer s H E scope f c') body (tX X.K T cl E ⟨lf, none, c.nm⟩ ir)) :
    PE X (.Call (.Name x p) [.Lambda ⟨[], [], none, [], [], none, []⟩ body scope lpos] [] pos) (tX X.K T cl E c (.err ir)) := by
  cases hl : c.low with
  | none =>
    refine ⟨fun pins s σ H Q I ⟨ρ, M, S, en, st, h⟩ => ?_⟩
    unfold evX at h
    rw [hl] at h
    exact h.elim
  | some lf =>
    obtain ⟨gA, pg, bg, sg, dV, kV, doc, pm, cdv, ct, oc, an, od, osl, Ng, a, e1, e2, e3, e4, e5, e6, e7, e8, e9, e10⟩ := G.errs x hx
    obtain ⟨hlk, hlam⟩ := G.low lf hl
    obtain ⟨cA, P, t1, t2, t3, t4⟩ := hlam hlm
    have hr : Room (l + 2) X.A := G.room.mono hlk
    refine pe_imp (pe_lamN (T := T) (TT := TTerr X.K T cl c.nm) (t := fun E' => tX X.K T cl E' ⟨lf, none, c.nm⟩ ir) (k := l) (gl_of G.scope hg) e1 e2 e3 e4 e5 e6 e7 e8
      (e10 X rfl rfl rfl rfl rfl (hr.mono (by omega)) _) t1 t2 t3 t4 hr (LamX.lamS_by (by rw [G.scope]; exact hL)) rfl (fun q cl pm cv ctv => rfl) (hb lf hl) (odd_of ho).1 (odd_of e9).1 (odd_of e9).2.1) fun σ H Q ⟨ρ, M, S, en, st, h⟩ => ?_
    refine ⟨st.tab, fun H1 hx1 ht1 => ?_⟩
    have g1 : Gr M H M H1 := gr_ext hx1
    have st1 := st_ext st hx1 ht1
    refine ⟨ρ, M, S, en.mono g1, st1, ?_⟩
    unfold evX at h
    rw [hl] at h
    have h := Out.later h g1
    dsimp only at h
    cases e : evX ⟨lf, none, c.nm⟩ ir ρ S with
    | ok u S1 =>
      rw [e] at h
      exact fun v M2 H2 g2 st2 r2 => h (.str ⟨#[]⟩) M2 H2 g2 st2 (Rp.str _)
    | exc i S1 =>
      rw [e] at h
      dsimp only at h
      cases ez : c.nm i with
      | none => rw [ez] at h; exact h.elim
      | some z =>
        rw [ez] at h
        obtain ⟨C, ec⟩ := G.nms i z ez
        exact ⟨C, ec, fun d M2 H2 hd g2 st2 => ⟨M2, S1, C, i, z, hd, st2, rfl, ec, ez, fun M3 H3 g3 st3 => h (.str z) M3 H3 (g2.trans g3) st3 (Rp.str _)⟩⟩
    | bad =>
      rw [e] at h
      exact h.elim
end
end Ev
end

section
set_option Elab.async false
set_option linter.all false
set_option autoImplicit false
set_option maxRecDepth 100000
set_option maxHeartbeats 4000000
/-! # All expressions -/
namespace Ev
open PySem PySem.Spec PyProof.Rows L2
/-- a list comprehension -/
def isLc : Expr → Bool
  | .ListComp _ _ _ _ => true
  | _ => false
def isBoolE : Expr → Bool
  | .BoolOp _ _ _ => true
  | _ => false
section
variable {T : List (Addr × Str)} {cl : Nat → Option Addr} {E : XK} {c : Cn} {X : Cx} {g : Cfg} {N : List Str} {sc : Scope} {fb : Fb} {k l : Nat}
/-- what the compiler's answer promises -/
def EOk (T : List (Addr × Str)) (cl : Nat → Option Addr) (E : XK) (c : Cn) (X : Cx) (e : Expr) (ir : Ev.X) : Prop :=
  PE X e (tX X.K T cl E c ir) ∧ PT X e (tTr X.K T cl E c ir) ∧ (isBoolE e = true → PW X e (tTr X.K T cl E c ir)) ∧
    (isLc e = true → ∀ (i : Nat) (y : Str) (py spos : Pos), X.N[i]? = some y → X.env.scope.names.lookup y = some .local → swapsWith e (some (.Name y py)) spos.line X.env = pure true → PS X (.Assign [.Name y py] e spos) (tAsg (tX X.K T cl E c ir) (gName i)))
theorem ps_imp {st : Stmt} {t t' : TS} (h : PS X st t) (i : ∀ D σ H, t' D σ H → t D σ H) : PS X st t' := ⟨fun pins s σ H D I q => h.run pins s σ H D I (i D σ H q)⟩
theorem eok_plain {e : Expr} {ir : Ev.X} (hb : isBoolE e = false) (hc : isLc e = false) (he : ∀ whole, isTrue e X.env whole = (do let v ← whole; standAt e.pos; holding [v] (truthy v))) (h : PE X e (tX X.K T cl E c ir)) : EOk T cl E c X e ir :=
  ⟨h, pt_plain h he, fun z => (by rw [hb] at z; cases z), fun z => by rw [hc] at z; cases z⟩
theorem cL_ok {f : Expr → Option Ev.X} (h : ∀ e ir, f e = some ir → PE X e (tX X.K T cl E c ir)) : ∀ {es : List Expr} {xs : Xs}, cL f es = some xs → PA X es (tXs X.K T cl E c xs)
  | [], xs, e => by unfold cL at e; cases e; exact pax_nil
  | a :: r, xs, e => by
    unfold cL at e
    split at e
    · cases e
    · rename_i hs
      obtain ⟨x, e1, e⟩ := bindO e
      obtain ⟨ys, e2, rfl⟩ := map_some e
      exact pax_cons (by simpa using hs) (h _ _ e1) (cL_ok h e2)
theorem cL_nil {f : Expr → Option Ev.X} {xs : Xs} (h : cL f [] = some xs) : xs = .nil := by unfold cL at h; cases h; rfl
theorem cO_ok {f : Expr → Option Ev.X} (h : ∀ e ir, f e = some ir → PE X e (tX X.K T cl E c ir)) : ∀ {o : Option Expr} {xs : Xs}, cO f o = some xs → PO X o (tPt X.K T cl E c xs)
  | none, xs, e => by unfold cO at e; cases e; exact pox_none
  | some a, xs, e => by
    unfold cO at e
    obtain ⟨x, e1, rfl⟩ := map_some e
    exact pox_some (h _ _ e1)
theorem fold_ok {e : Expr} (h : isSet e = false) : ∀ x, foldedSetIterable e X.env x = pure x := fun x => by
  cases e <;> first | rfl | cases h
theorem own_ix {scope : Scope} : True := trivial
theorem isi_name {f : Str} (h : decide (f = "isinstance") = true) : f = "isinstance" := of_decide_eq_true h
/-- what the hints tell -/
theorem cX_ok (G : Good g T cl c k l X N sc fb) {f : Expr → Option Ev.X} (ie : ∀ e ir, f e = some ir → PE X e (tX X.K T cl E c ir)) {e : Expr} {ir : Ev.X} (h : cX g.hn sc f e = some ir) : EOk T cl E c X e ir := by
  unfold cX at h
  split at h
  · split at h
    · cases h
    rename_i hc
    simp only [Bool.or_eq_true, Bool.not_eq_true', not_or, Bool.not_eq_true, Bool.not_eq_false] at hc
    obtain ⟨⟨h1, h2⟩, h3⟩ := hc
    split at h
    · rename_i hC
      obtain ⟨x, e1, rfl⟩ := map_some h
      exact eok_plain rfl rfl (fun _ => rfl) (px_mkx G G.xok hC h3 h2 h1 (ie _ _ e1))
    split at h
    · rename_i z hz
      obtain ⟨x, e1, rfl⟩ := map_some h
      exact eok_plain rfl rfl (fun _ => rfl) (px_mkt G G.xok hz h3 h2 h1 (ie _ _ e1))
    split at h
    · rename_i hC
      subst hC
      obtain ⟨x, e1, rfl⟩ := map_some h
      exact eok_plain rfl rfl (fun _ => rfl) (px_bln G h3 h1 (ie _ _ e1))
    split at h
    · rename_i hC
      subst hC
      obtain ⟨x, e1, rfl⟩ := map_some h
      exact eok_plain rfl rfl (fun _ => rfl) (px_strx G G.xok h3 h1 (ie _ _ e1))
    · cases h
  · split at h
    · cases h
    rename_i hc
    simp only [Bool.or_eq_true, Bool.not_eq_true', not_or, Bool.not_eq_true, Bool.not_eq_false, decide_eq_false_iff_not, Classical.not_not] at hc
    obtain ⟨⟨⟨⟨h1, h2⟩, h3⟩, h4⟩, rfl⟩ := hc
    obtain ⟨tb, e0, h⟩ := bindO h
    obtain ⟨x, e1, rfl⟩ := map_some h
    exact eok_plain rfl rfl (fun _ => rfl) (px_isX G G.xok e0 h3 h4 h2 h1 (ie _ _ e1))
  · obtain ⟨xs, e1, rfl⟩ := map_some h
    exact eok_plain rfl rfl (fun _ => rfl) (px_bls (cL_ok ie e1))
  · split at h
    · cases h
    rename_i hs
    obtain ⟨x, e1, h⟩ := bindO h
    obtain ⟨y, e2, rfl⟩ := map_some h
    exact eok_plain rfl rfl (fun _ => rfl) (px_bix (by simpa using hs) (ie _ _ e1) (ie _ _ e2))
  · split at h
    · rename_i z hz
      split at h
      · rename_i hm
        subst hm
        obtain ⟨x, e1, rfl⟩ := map_some h
        exact eok_plain rfl rfl (fun _ => rfl) (px_limx G.xok hz (fun _ => rfl) (ie _ _ e1))
      · cases h
    · cases h
  · cases h
theorem cE_ok (T : List (Addr × Str)) (cl : Nat → Option Addr) (g : Cfg) (N : List Str) : ∀ n, (∀ {c : Cn} {k l : Nat} {X : Cx} {sc : Scope} {fb : Fb} {E : XK}, Good g T cl c k l X N sc fb → L2N.Takes X (fun d a _ H => E d a H) → ∀ e ir, cE g N n sc fb e = some ir → EOk T cl E c X e ir) ∧
    (∀ {c : Cn} {k l : Nat} {X : Cx} {sc : Scope} {fb : Fb} {E : XK}, Good g T cl c k l X N sc fb → L2N.Takes X (fun d a _ H => E d a H) → ∀ tg e ir, cI g N n sc fb (isTup tg) e = some ir → PI X tg e (tIt X.K T cl E c ir)) := by
  intro n
  induction n with
  | zero => exact ⟨fun _ _ e ir h => (by unfold cE at h; cases h), fun _ _ tg e ir h => (by unfold cI at h; cases h)⟩
  | succ n ih =>
    obtain ⟨ihE, ihI⟩ := ih
    refine ⟨fun {c k l X sc fb E} G tk e ir h => ?_, fun {c k l X sc fb E} G tk tg e ir h => ?_⟩
    · have hu : X.A.units + 65 < cLine := by have := G.room.un; omega
      have ie : ∀ e ir, cE g N n sc fb e = some ir → PE X e (tX X.K T cl E c ir) := fun e ir h => (ihE G tk e ir h).1
      unfold cE at h
      split at h
      · exact cX_ok G ie h
      rename_i hnh
      clear hnh
      split at h
      · cases h; exact eok_plain rfl rfl (fun _ => rfl) (px_con pe_int fun _ _ => .int _)
      · cases h; exact eok_plain rfl rfl (fun _ => rfl) (px_con pe_bl fun _ _ => .bl _)
      · cases h; exact eok_plain rfl rfl (fun _ => rfl) (px_con pe_non fun _ _ => .non)
      · cases h; exact eok_plain rfl rfl (fun _ => rfl) (px_con pe_str fun _ _ => .str _)
      · split at h
        · cases h
        · rename_i ho
          have ho := by simpa using ho
          split at h
          · rename_i hv
            obtain ⟨i, hi, rfl⟩ := map_some h
            exact eok_plain rfl rfl (fun _ => rfl) (px_loc G.names G.scope ho hv hi)
          · split at h
            · rename_i hg
              obtain ⟨p, hp, rfl⟩ := map_some h
              obtain ⟨u, v, e1, e2, e3⟩ := G.cons _ _ hp
              exact eok_plain rfl rfl (fun _ => rfl) (px_con (pe_glob (gl_of G.scope hg) e1 e2 (odd_of ho).1) e3)
            · cases h
      · obtain ⟨x, h1, h⟩ := bindO h
        obtain ⟨y, h2, rfl⟩ := map_some h
        exact eok_plain rfl rfl (fun _ => rfl) (px_bin (ie _ _ h1) (ie _ _ h2))
      · obtain ⟨x, h1, rfl⟩ := map_some h
        exact eok_plain rfl rfl (fun _ => rfl) (px_neg (ie _ _ h1))
      · obtain ⟨x, h1, rfl⟩ := map_some h
        exact ⟨px_not (ie _ _ h1), pt_not' (ihE G tk _ _ h1).2.1, fun z => (by cases z), fun z => by cases z⟩
      · split at h
        · cases h
        · rename_i hm
          obtain ⟨x, h1, h⟩ := bindO h
          obtain ⟨y, h2, rfl⟩ := map_some h
          have hm := by simpa using hm
          exact ⟨px_cmp hu hm (ie _ _ h1) (ie _ _ h2), pt_cmp' hu hm (ie _ _ h1) (ie _ _ h2), fun z => (by cases z), fun z => by cases z⟩
      · split at h
        · cases h
        · rename_i hm
          obtain ⟨x, h1, h⟩ := bindO h
          obtain ⟨y, h2, h⟩ := bindO h
          obtain ⟨z, h3, rfl⟩ := map_some h
          have hm := by simpa using hm
          exact ⟨px_chn hu hm (ie _ _ h1) (ie _ _ h2) (ie _ _ h3), pt_chn' hu hm (ie _ _ h1) (ie _ _ h2) (ie _ _ h3), fun z => (by cases z), fun z => by cases z⟩
      · have q := ihE G tk _ _ h
        exact ⟨pe_one q.1, (pw_and1 q.2.1).pt, fun _ => pw_and1 q.2.1, fun z => by cases z⟩
      · obtain ⟨x, h1, h⟩ := bindO h
        obtain ⟨y, h2, rfl⟩ := map_some h
        have qa := ihE G tk _ _ h1
        have qb := ihE G tk _ _ h2
        have w := pw_and' qa.2.1 (qb.2.2.1 rfl)
        exact ⟨px_and qa.1 qb.1, w.pt, fun _ => w, fun z => by cases z⟩
      · have q := ihE G tk _ _ h
        exact ⟨pe_one q.1, (pw_or1 q.2.1).pt, fun _ => pw_or1 q.2.1, fun z => by cases z⟩
      · obtain ⟨x, h1, h⟩ := bindO h
        obtain ⟨y, h2, rfl⟩ := map_some h
        have qa := ihE G tk _ _ h1
        have qb := ihE G tk _ _ h2
        have w := pw_or' qa.2.1 (qb.2.2.1 rfl)
        exact ⟨px_or qa.1 qb.1, w.pt, fun _ => w, fun z => by cases z⟩
      · obtain ⟨x, h1, h⟩ := bindO h
        obtain ⟨y, h2, h⟩ := bindO h
        obtain ⟨z, h3, rfl⟩ := map_some h
        have q1 := ihE G tk _ _ h1
        have q2 := ihE G tk _ _ h2
        have q3 := ihE G tk _ _ h3
        exact ⟨px_ife q1.2.1 q2.1 q3.1, pt_ife' q1.2.1 q2.2.1 q3.2.1, fun z => (by cases z), fun z => by cases z⟩
      · obtain ⟨xs, h1, rfl⟩ := map_some h
        exact eok_plain rfl rfl (fun _ => rfl) (px_lst (cL_ok ie h1))
      · obtain ⟨xs, h1, rfl⟩ := map_some h
        exact eok_plain rfl rfl (fun _ => rfl) (px_tup (cL_ok ie h1))
      · obtain ⟨x, h1, rfl⟩ := map_some h
        exact eok_plain rfl rfl (fun _ => rfl) (px_rev (ie _ _ h1))
      · obtain ⟨x, h1, h⟩ := bindO h
        obtain ⟨y, h2, h⟩ := bindO h
        obtain ⟨z, h3, rfl⟩ := map_some h
        exact eok_plain rfl rfl (fun _ => rfl) (px_slc (ie _ _ h1) (cO_ok ie h2) (cO_ok ie h3))
      · split at h
        · cases h
        · rename_i hs
          obtain ⟨x, h1, h⟩ := bindO h
          obtain ⟨y, h2, rfl⟩ := map_some h
          exact eok_plain rfl rfl (fun _ => rfl) (px_idx hu (by simpa using hs) (ie _ _ h1) (ie _ _ h2))
      · -- a comprehension
        split at h
        · rename_i elt tg it ifs kk scope pos hc
          simp only [Bool.and_eq_true, decide_eq_true_eq, Bool.not_eq_true'] at hc
          obtain ⟨⟨⟨hc1, hc2⟩, hc3⟩, hc4⟩ := hc
          subst hc2
          obtain ⟨i, h1, h⟩ := bindO h
          obtain ⟨t, h2, h⟩ := bindO h
          split at h
          · cases h
          · rename_i hsl
            have hsl := by simpa using hsl
            obtain ⟨cs, h3, h⟩ := bindO h
            obtain ⟨x, h4, rfl⟩ := map_some h
            have hcalm := G.calm
            have Gb := fun s H C cells fp => G.blk s H scope C cells fp
            have pG : ∀ (s : Shared) (H : Hp) (C : Addr) (cells : List (Str × Addr)) (fp : List Addr), PG (X.blk s H scope (compEnvC scope cells C X.env) fp) tg (tTw X.K T t) := fun s H C cells fp =>
              (tgw_ok (Gb s H C cells fp).names G.nd hcalm (Gb s H C cells fp).scope (Gb s H C cells fp).fbk n).1 _ _ h2
            have pT : ∀ (s : Shared) (H : Hp) (C : Addr) (cells : List (Str × Addr)) (fp : List Addr), PTs (X.blk s H scope (compEnvC scope cells C X.env) fp) ifs (tCs X.K T cl noE c cs) := fun s H C cells fp => by
              cases ifs with
              | nil =>
                cases cL_nil h3
                exact ptsx_nil
              | cons a r =>
                cases r with
                | cons b r => simp at hc4
                | nil =>
                  unfold cL at h3
                  split at h3
                  · cases h3
                  · obtain ⟨z, h5, h3⟩ := bindO h3
                    obtain ⟨ys, h6, rfl⟩ := map_some h3
                    exact ptsx_one (ihE (Gb s H C cells fp) takes_no _ _ h5).2.1
            have pX : ∀ (s : Shared) (H : Hp) (C : Addr) (cells : List (Str × Addr)) (fp : List Addr), PE (X.blk s H scope (compEnvC scope cells C X.env) fp) elt (tX X.K T cl noE c x) := fun s H C cells fp => (ihE (Gb s H C cells fp) takes_no _ _ h4).1
            have hN : X.N.Nodup := by rw [G.names]; exact G.nd
            have hB : BlkOk X.N X.env.scope scope (ownOf N scope) := blkOk_by (by rw [G.names, G.scope]; exact hc1)
            have hsl : ∀ i, i ∈ t.slots → i ∈ (ownOf N scope).map (·.2) := fun j hj => by
              have := hsl j hj
              simpa using this
            have main := px_lc (pos := pos) (E := E) (c := c) hcalm hN (ihI G tk tg it i h1) hB pG pT pX (fold_ok hc3) hsl
            exact ⟨main, pt_plain main fun _ => rfl, fun z => (by cases z), fun _ j y py spos hj hl hsw =>
              ps_imp (ps_setLc hcalm hN hj hl hsw (ihI G tk tg it i h1) hB pG pT pX (fold_ok hc3)) fun D σ H q => lc_conv hsl q⟩
        · cases h
      · -- two loops
        split at h
        · rename_i elt tg it kk tg1 z kz pz k1 scope pos hc
          simp only [Bool.and_eq_true, decide_eq_true_eq, Bool.not_eq_true'] at hc
          obtain ⟨⟨⟨hc1, hc2⟩, hc4⟩, hc3⟩ := hc
          subst hc2 hc4
          obtain ⟨i, h1, h⟩ := bindO h
          obtain ⟨t, h2, h⟩ := bindO h
          obtain ⟨t1, h5, h⟩ := bindO h
          split at h
          · cases h
          · rename_i hsl
            have hsl := by simpa using hsl
            obtain ⟨x, h4, rfl⟩ := map_some h
            have hcalm := G.calm
            have Gb := fun s H C cells fp => G.blk s H scope C cells fp
            have pG : ∀ (s : Shared) (H : Hp) (C : Addr) (cells : List (Str × Addr)) (fp : List Addr), PG (X.blk s H scope (compEnvC scope cells C X.env) fp) tg (tTw X.K T t) := fun s H C cells fp =>
              (tgw_ok (Gb s H C cells fp).names G.nd hcalm (Gb s H C cells fp).scope (Gb s H C cells fp).fbk n).1 _ _ h2
            have pG1 : ∀ (s : Shared) (H : Hp) (C : Addr) (cells : List (Str × Addr)) (fp : List Addr), PG (X.blk s H scope (compEnvC scope cells C X.env) fp) tg1 (tTw X.K T t1) := fun s H C cells fp =>
              (tgw_ok (Gb s H C cells fp).names G.nd hcalm (Gb s H C cells fp).scope (Gb s H C cells fp).fbk n).1 _ _ h5
            have pX : ∀ (s : Shared) (H : Hp) (C : Addr) (cells : List (Str × Addr)) (fp : List Addr), PE (X.blk s H scope (compEnvC scope cells C X.env) fp) elt (tX X.K T cl noE c x) := fun s H C cells fp => (ihE (Gb s H C cells fp) takes_no _ _ h4).1
            have hN : X.N.Nodup := by rw [G.names]; exact G.nd
            have hB : BlkOk X.N X.env.scope scope (ownOf N scope) := blkOk_by (by rw [G.names, G.scope]; exact hc1)
            have hsl1 : ∀ i, i ∈ t.slots → i ∈ (ownOf N scope).map (·.2) := fun j hj => by
              have := hsl.1 j hj
              simpa using this
            have hsl2 : ∀ i, i ∈ t1.slots → i ∈ (ownOf N scope).map (·.2) := fun j hj => by
              have := hsl.2 j hj
              simpa using this
            have main : PE X (.ListComp elt [⟨tg, it, [], 0⟩, ⟨tg1, .Constant (.str z) kz pz, [], 0⟩] scope pos) (tX X.K T cl E c (.lc2 ((ownOf N scope).map (·.2)) t i t1.slots t1 z x)) := pe_imp (pe_lc2 hcalm hN (ihI G tk tg it i h1) hB hsl2 pG (fun _ _ _ _ _ => pts_yes) (fun _ _ _ _ _ => pi_txt) pG1 (fun _ _ _ _ _ => pts_yes) pX (fold_ok hc3)) fun σ H Q h => lc2_conv (E := E) hsl1 (fun i hi => hi) h
            exact ⟨main, pt_plain main fun _ => rfl, fun z => (by cases z), fun _ j y py spos hj hl hsw =>
              ps_imp (ps_setLc2 hcalm hN hj hl hsw (ihI G tk tg it i h1) hB hsl2 pG (fun _ _ _ _ _ => pts_yes) (fun _ _ _ _ _ => pi_txt) pG1 (fun _ _ _ _ _ => pts_yes) pX (fold_ok hc3)) fun D σ H q => lc2_conv hsl1 (fun i hi => hi) q⟩
        · cases h
      · -- a dict comprehension
        split at h
        · rename_i kx vx tg it ifs kk scope pos hc
          simp only [Bool.and_eq_true, decide_eq_true_eq, Bool.not_eq_true'] at hc
          obtain ⟨⟨⟨hc1, hc2⟩, hc3⟩, hc4⟩ := hc
          subst hc2
          obtain ⟨i, h1, h⟩ := bindO h
          obtain ⟨t, h2, h⟩ := bindO h
          split at h
          · cases h
          · rename_i hsl
            have hsl := by simpa using hsl
            obtain ⟨cs, h3, h⟩ := bindO h
            obtain ⟨a, h4, h⟩ := bindO h
            obtain ⟨b, h6, rfl⟩ := map_some h
            have hcalm := G.calm
            have Gb := fun s H C cells fp => G.blk s H scope C cells fp
            have pG : EachB X scope fun Y => PG Y tg (tTw X.K T t) := fun s H C cells fp =>
              (tgw_ok (Gb s H C cells fp).names G.nd hcalm (Gb s H C cells fp).scope (Gb s H C cells fp).fbk n).1 _ _ h2
            have pT : EachB X scope fun Y => PTs Y ifs (tCs X.K T cl noE c cs) := fun s H C cells fp => by
              cases ifs with
              | nil =>
                cases cL_nil h3
                exact ptsx_nil
              | cons a r =>
                cases r with
                | cons b r => simp at hc4
                | nil =>
                  unfold cL at h3
                  split at h3
                  · cases h3
                  · obtain ⟨z, h5, h3⟩ := bindO h3
                    obtain ⟨ys, h6, rfl⟩ := map_some h3
                    exact ptsx_one (ihE (Gb s H C cells fp) takes_no _ _ h5).2.1
            have pK : EachB X scope fun Y => PE Y kx (tX X.K T cl noE c a) := fun s H C cells fp => (ihE (Gb s H C cells fp) takes_no _ _ h4).1
            have pV : EachB X scope fun Y => PE Y vx (tX X.K T cl noE c b) := fun s H C cells fp => (ihE (Gb s H C cells fp) takes_no _ _ h6).1
            have hN : X.N.Nodup := by rw [G.names]; exact G.nd
            have hB : BlkOk X.N X.env.scope scope (ownOf N scope) := blkOk_by (by rw [G.names, G.scope]; exact hc1)
            have hsl : ∀ i, i ∈ t.slots → i ∈ (ownOf N scope).map (·.2) := fun j hj => by
              have := hsl j hj
              simpa using this
            exact eok_plain rfl rfl (fun _ => rfl) (px_dc hu hcalm hN (ihI G tk tg it i h1) hB pG pT pK pV (fold_ok hc3) hsl)
        · cases h
      · -- a lambda handed over
        split at h
        · rename_i hc
          simp only [Bool.and_eq_true, Bool.not_eq_true'] at hc
          obtain ⟨⟨⟨⟨h1, h2⟩, h3⟩, h4⟩, h5⟩ := hc
          split at h
          · obtain ⟨x, h6, rfl⟩ := map_some h
            exact eok_plain rfl rfl (fun _ => rfl) (px_err G h1 h2 h3 h4 h5 fun lf hl A outer s H E f c' hr => (ihE (G.lam hl A outer s H E _ f c' hr) takes_lam _ _ h6).1)
          · cases h
        · cases h
      · -- a call
        split at h
        · cases h
        · rename_i hc
          simp only [Bool.or_eq_true, Bool.not_eq_true', not_or, Bool.not_eq_true, Bool.not_eq_false] at hc
          obtain ⟨h1, h2⟩ := hc
          split at h
          · rename_i i hi
            split at h
            · cases h
            · obtain ⟨xs, h3, rfl⟩ := map_some h
              exact eok_plain rfl rfl (fun _ => rfl) (px_call G tk h1 h2 hi (cL_plain h3) (fun e => by subst e; exact cL_nil h3) (cL_ok ie h3))
          · split at h
            · split at h
              · cases h
              · rename_i hs
                split at h
                · rename_i b hset
                  obtain ⟨x, h4, rfl⟩ := map_some h
                  exact eok_plain rfl rfl (fun _ => rfl) (px_lenset G h2 hset (ie _ _ h4))
                · split at h
                  · rename_i b hset
                    split at hset
                    · rename_i ef
                      subst ef
                      obtain ⟨x, h4, rfl⟩ := map_some h
                      exact eok_plain rfl rfl (fun _ => rfl) (px_sortset G h2 hset (ie _ _ h4))
                    · cases hset
                  · obtain ⟨b, h3, h⟩ := bindO h
                    obtain ⟨x, h4, rfl⟩ := map_some h
                    exact eok_plain rfl rfl (fun _ => rfl) (px_blt G h1 h2 h3 (by simpa using hs) (ie _ _ h4))
            · split at h
              · rename_i hc
                simp only [Bool.and_eq_true, Bool.not_eq_true', decide_eq_true_eq] at hc
                obtain ⟨⟨h3, h4⟩, h5⟩ := hc
                subst h3
                obtain ⟨x, h6, h⟩ := bindO h
                obtain ⟨y, h7, rfl⟩ := map_some h
                exact eok_plain rfl rfl (fun _ => rfl) (px_max2 G h2 h4 h5 (ie _ _ h6) (ie _ _ h7))
              · split at h
                · split at h
                  · rename_i hc
                    simp only [Bool.and_eq_true, Bool.not_eq_true', decide_eq_true_eq] at hc
                    obtain ⟨⟨h3, h4⟩, h5⟩ := hc
                    subst h3
                    obtain ⟨D, h6, h⟩ := bindO h
                    obtain ⟨x, h7, rfl⟩ := map_some h
                    exact eok_plain rfl rfl (fun _ => rfl) (px_isi G h2 h4 h6 h5 (ie _ _ h7))
                  · cases h
                · cases h
            · cases h
      · split at h
        · cases h
        · rename_i hc
          simp only [Bool.or_eq_true, Bool.not_eq_true', not_or, Bool.not_eq_true, Bool.not_eq_false, decide_eq_true_eq, decide_eq_false_iff_not, Classical.not_not] at hc
          obtain ⟨⟨⟨⟨h1, h2⟩, h3⟩, h4⟩, h5⟩ := hc
          subst h5
          obtain ⟨x, h6, h⟩ := bindO h
          obtain ⟨y, h7, h⟩ := bindO h
          obtain ⟨z, h8, rfl⟩ := map_some h
          exact eok_plain rfl rfl (fun _ => rfl) (px_get hu h1 h2 h3 h4 (ie _ _ h6) (ie _ _ h7) (ie _ _ h8))
      · split at h
        · rename_i hc
          simp only [Bool.and_eq_true, Bool.not_eq_true', decide_eq_true_eq] at hc
          obtain ⟨⟨⟨h1, h2⟩, h3⟩, h4⟩ := hc
          subst h1
          obtain ⟨i, hi, rfl⟩ := map_some h
          exact eok_plain rfl rfl (fun _ => rfl) (px_pop (by rw [G.names]; exact ix_of hi) (by rw [G.scope]; exact vis_of h2) h3 h4)
        · cases h
      · split at h
        · cases h
        · rename_i hc
          simp only [Bool.or_eq_true, Bool.not_eq_true', not_or, Bool.not_eq_true, Bool.not_eq_false] at hc
          obtain ⟨⟨h1, h2⟩, h3⟩ := hc
          obtain ⟨m, h4, h⟩ := bindO h
          obtain ⟨x, h5, h⟩ := bindO h
          obtain ⟨y, h6, rfl⟩ := map_some h
          exact eok_plain rfl rfl (fun _ => rfl) (px_mth (by have := G.room.un; omega) h4 h1 h2 h3 (ie _ _ h5) (ie _ _ h6))
      · cases h
    · have ie : ∀ e ir, cE g N n sc fb e = some ir → PE X e (tX X.K T cl E c ir) := fun e ir h => (ihE G tk e ir h).1
      have val : ∀ {e ir}, (cE g N n sc fb e).map Ev.It.val = some ir → PI X tg e (tIt X.K T cl E c ir) := fun {e ir} h => by
        obtain ⟨x, h1, rfl⟩ := map_some h
        exact pix_val (ie _ _ h1)
      have hr : X.mg "range" = none := G.blts _ (by simp)
      unfold cI at h
      split at h
      · split at h
        · rename_i hc
          simp only [Bool.and_eq_true, Bool.not_eq_true', decide_eq_true_eq] at hc
          obtain ⟨⟨h1, h2⟩, h3⟩ := hc
          subst h1
          obtain ⟨x, h4, rfl⟩ := map_some h
          exact pix_rng1 (gl_of G.scope h2) hr h3 (pax_cons h3 (ie _ _ h4) pax_nil)
        · split at h
          · rename_i hc
            simp only [Bool.and_eq_true, Bool.not_eq_true', decide_eq_true_eq] at hc
            obtain ⟨⟨⟨h1, h2⟩, h3⟩, h4⟩ := hc
            subst h1
            obtain ⟨x, h5, rfl⟩ := map_some h
            unfold isTup at h4
            split at h4
            · exact pix_enm (gl_of G.scope h2) (G.blts _ (by simp)) h3 (ie _ _ h5)
            · cases h4
          · exact val h
      · split at h
        · rename_i hc
          simp only [Bool.and_eq_true, Bool.not_eq_true', decide_eq_true_eq] at hc
          obtain ⟨⟨⟨h1, h2⟩, h3⟩, h4⟩ := hc
          subst h1
          obtain ⟨x, h5, h⟩ := bindO h
          obtain ⟨y, h6, rfl⟩ := map_some h
          exact pix_rng2 (gl_of G.scope h2) hr h3 h4 (pax_cons h3 (ie _ _ h5) (pax_cons h4 (ie _ _ h6) pax_nil))
        · split at h
          · rename_i hc
            simp only [Bool.and_eq_true, Bool.not_eq_true', decide_eq_true_eq] at hc
            obtain ⟨⟨⟨⟨h1, h2⟩, h3⟩, h4⟩, h5⟩ := hc
            subst h1
            obtain ⟨x, h6, h⟩ := bindO h
            obtain ⟨y, h7, rfl⟩ := map_some h
            unfold isTup at h5
            split at h5
            · exact pix_zip (gl_of G.scope h2) (G.blts _ (by simp)) h3 h4 (ie _ _ h6) (ie _ _ h7)
            · cases h5
          · exact val h
      · split at h
        · rename_i hc
          simp only [Bool.and_eq_true, Bool.not_eq_true', decide_eq_true_eq] at hc
          obtain ⟨⟨⟨⟨h1, h2⟩, h3⟩, h4⟩, h5⟩ := hc
          subst h1
          obtain ⟨x, h6, h⟩ := bindO h
          obtain ⟨y, h7, h⟩ := bindO h
          obtain ⟨z, h8, rfl⟩ := map_some h
          exact pix_rng3 (gl_of G.scope h2) hr h3 h4 h5 (pax_cons h3 (ie _ _ h6) (pax_cons h4 (ie _ _ h7) (pax_cons h5 (ie _ _ h8) pax_nil)))
        · exact val h
      · split at h
        · rename_i hc
          simp only [Bool.and_eq_true, Bool.not_eq_true', decide_eq_true_eq] at hc
          obtain ⟨⟨⟨h1, h2⟩, h3⟩, h4⟩ := hc
          subst h1
          obtain ⟨x, h5, rfl⟩ := map_some h
          unfold isTup at h2
          split at h2
          · exact pix_itm h3 h4 (ie _ _ h5)
          · cases h2
        · exact val h
      · exact val h
end
end Ev
end

section
set_option Elab.async false
set_option linter.all false
set_option autoImplicit false
set_option maxRecDepth 100000
set_option maxHeartbeats 4000000
/-! # Statements: the compiler -/
namespace Ev
open PySem
def scF (sc : Scope) : Bool := decide (sc.kind = .function)
def locL (sc : Scope) (x : Str) : Bool := decide (sc.names.lookup x = some .local)
def anyStar (vs : List Expr) : Bool := vs.any fun | .Starred .. => true | _ => false
def swNames (sc : Scope) (ts : List Expr) : List Str := ts.filterMap fun
  | .Name id pos => if (sc.names.lookup id == some .local && pos.line == (ts.head?.map (·.pos.line)).getD 0) = true then some id else none
  | _ => none
def sw (a b c d e : Bool) (names : List Str) : Option (Option (List Str)) :=
  if a = true then some none else if b = true then some none else if c = true then some none else if d = true then some none else if e = true then none else some (some names)
/-- a pair of names that is stored from the right; none: not told -/
def swapB (sc : Scope) (ts vs : List Expr) : Option (Option (List Str)) :=
  sw (!(ts.length == 2 || ts.length == 3) || vs.length != ts.length || (if sc.kind.isAnnotationScope then ScopeKind.function else sc.kind) != .function) (anyStar vs)
    ((swNames sc ts).length != ts.length || (swNames sc ts).eraseDups.length != (swNames sc ts).length) (vs.all (foldedForSure 8)) (vs.all (constantsAlone 8)) (swNames sc ts)
theorem swap_eq (env : Env) (ts vs : List Expr) (k k2 : Nat) (tp p2 : Pos) : swappedStores [.Tuple ts k tp] (.Tuple vs k2 p2) env =
    if (!(ts.length == 2 || ts.length == 3) || vs.length != ts.length || (if env.scope.kind.isAnnotationScope then ScopeKind.function else env.scope.kind) != .function) = true then pure none
    else if anyStar vs = true then pure none
    else if ((swNames env.scope ts).length != ts.length || (swNames env.scope ts).eraseDups.length != (swNames env.scope ts).length) = true then pure none
    else if vs.all (foldedForSure 8) = true then pure none
    else if vs.all (constantsAlone 8) = true then (do unsupported "assign.tuple-of-constant-expressions:order-of-the-stores"; return some (swNames env.scope ts))
    else pure (some (swNames env.scope ts)) := rfl
theorem swap_of {env : Env} {ts vs : List Expr} {k k2 : Nat} {tp p2 : Pos} {r : Option (List Str)} (h : swapB env.scope ts vs = some r) : swappedStores [.Tuple ts k tp] (.Tuple vs k2 p2) env = pure r := by
  rw [swap_eq]
  unfold swapB at h
  generalize (!(ts.length == 2 || ts.length == 3) || vs.length != ts.length || (if env.scope.kind.isAnnotationScope then ScopeKind.function else env.scope.kind) != .function) = a at h ⊢
  generalize anyStar vs = b at h ⊢
  generalize swNames env.scope ts = ns at h ⊢
  generalize (ns.length != ts.length || ns.eraseDups.length != ns.length) = c at h ⊢
  generalize vs.all (foldedForSure 8) = d at h ⊢
  generalize vs.all (constantsAlone 8) = e at h ⊢
  unfold sw at h
  cases a <;> cases b <;> cases c <;> cases d <;> cases e <;> first | (cases h; rfl) | cases h
def isTupE : Expr → Bool
  | .Tuple _ _ _ => true
  | _ => false
/-- a dict's value: a list that is written is one that is changed in place -/
def cW (g : Cfg) (N : List Str) (n : Nat) (sc : Scope) (e : Expr) : Option X :=
  match e with
  | .List es _ => (cL (cE g N n sc fbDef) es).map .box
  | _ => cE g N n sc fbDef e
/-- the pairs of a display -/
def cPs (g : Cfg) (N : List Str) (n : Nat) (sc : Scope) : List (Option Expr) → List Expr → Option (List (X × X))
  | [], [] => some []
  | some k :: ks, v :: vs => (cE g N n sc fbDef k).bind fun a => (cW g N n sc v).bind fun b => (cPs g N n sc ks vs).map fun r => (a, b) :: r
  | _, _ => none
/-- the slots of names, one beside another -/
def nmsL (N : List Str) (sc : Scope) : List Expr → Option (List Nat)
  | [] => some []
  | .Name x _ :: r => if locB sc x = true then (ixOf N x).bind fun i => (nmsL N sc r).map fun is => i :: is else none
  | _ :: _ => none
/-- is one of the names that of a list changed in place? -/
def anyBx (g : Cfg) (ts : List Expr) : Bool := ts.any fun | .Name x _ => decide (x ∈ g.bx) | _ => false
/-- a list that is changed in place, made where its name stands -/
def cV (g : Cfg) (N : List Str) (n : Nat) (sc : Scope) (bx : Bool) (e : Expr) : Option X :=
  if bx = true then match e with
    | .List es _ => (cL (cE g N n sc fbDef) es).map .box
    | .Dict [] [] _ => some (.dnew .nil)
    | .Dict (k :: ks) vs _ => if (decide ((k :: ks).length = vs.length) && decide ((k :: ks).length ≤ 15)) = true then (cPs g N n sc (k :: ks) vs).map fun ps => .dnew (flatX ps) else none
    | .BinOp a .Add b _ => (cE g N n sc fbDef a).bind fun x => (cE g N n sc fbDef b).map fun y => .badd x y
    | _ => cE g N n sc fbDef e
  else cE g N n sc fbDef e
/-- the values of an assignment to names -/
def cVs (g : Cfg) (N : List Str) (n : Nat) (sc : Scope) : List Expr → List Expr → Option Xs
  | [], [] => some .nil
  | .Name x _ :: ts, v :: vs => if starred v = true then none else (cV g N n sc (decide (x ∈ g.bx)) v).bind fun a => (cVs g N n sc ts vs).map fun r => .cons a r
  | _, _ => none
mutual
def cS (g : Cfg) (N : List Str) (sc : Scope) : Nat → Stmt → Option St
  | 0, _ => none
  | n + 1, s => match s with
    | .Assign [.Name x _] e _ => if (locB sc x && !isComp e) = true then (ixOf N x).bind fun i => (cV g N n sc (decide (x ∈ g.bx)) e).map fun y => .set i y
        else if (locB sc x && isLc e) = true then (ixOf N x).bind fun i => (cE g N n sc fbDef e).map fun y => .set i y else none
    | .Assign [.Tuple ts k tp] (.Tuple vs k2 p2) _ => match swapB sc ts vs with
        | none => none
        | some none => if (anyBx g ts && decide (ts.length ≤ 1000)) = true then (nmsL N sc ts).bind fun is => (cVs g N n sc ts vs).map fun y => .par is y else (cE g N n sc fbDef (.Tuple vs k2 p2)).bind fun y => (cT N sc fbDef n (.Tuple ts k tp)).map fun t => .sett t y
        | some (some names) => match ts, vs with
          | [.Name x _, .Name y _], [a, b] => if (locL sc x && locL sc y && !starred a && !starred b && decide (names = [x, y])) = true then
              (ixOf N x).bind fun i => (ixOf N y).bind fun j => if i = j then none else (cV g N n sc (decide (x ∈ g.bx)) a).bind fun u => (cV g N n sc (decide (y ∈ g.bx)) b).map fun v => .par [i, j] (.cons u (.cons v .nil)) else none
          | [.Name x _, .Name y _, .Name z _], [a, b, d] => if (locL sc x && locL sc y && locL sc z && !starred a && !starred b && !starred d && decide (names = [x, y, z])) = true then
              (ixOf N x).bind fun i => (ixOf N y).bind fun j => (ixOf N z).bind fun l => if i = j ∨ i = l ∨ j = l then none else
              (cV g N n sc (decide (x ∈ g.bx)) a).bind fun u => (cV g N n sc (decide (y ∈ g.bx)) b).bind fun v => (cV g N n sc (decide (z ∈ g.bx)) d).map fun w => .par [i, j, l] (.cons u (.cons v (.cons w .nil))) else none
          | _, _ => none
    | .Assign [.Tuple ts k tp] e _ => if isTupE e = true then none else (cE g N n sc fbDef e).bind fun y => (cT N sc fbDef n (.Tuple ts k tp)).map fun t => .sett t y
    | .Assign [.Subscript (.Name x _) k _] e _ => if (visB sc x && !odd x && !isSlice k) = true then (ixOf N x).bind fun i => (cE g N n sc fbDef k).bind fun q => (cE g N n sc fbDef e).map fun y => .seti i q y else none
    | .Expr (.Call (.Attribute (.Name x _) m apos) [a] [] cpos) _ => if (decide (m = "append") && visB sc x && !odd x && !starred a && (apos.endLine == cpos.line)) = true then
        (ixOf N x).bind fun i => (cE g N n sc fbDef a).map fun y => .app i y else none
    | .Expr (.Call (.Attribute (.Subscript (.Name x q1) k q2) m apos) [a] [] cpos) _ => if (decide (m = "append") && !isSlice k && !starred a && (apos.endLine == cpos.line)) = true then
        (cE g N n sc fbDef (.Subscript (.Name x q1) k q2)).bind fun o => (cE g N n sc fbDef a).map fun y => .appx o y else none
    | .Expr e _ => if isComp e = true then none else (cE g N n sc fbDef e).map .exp
    | .Return none _ => some .retN
    | .Return (some e) _ => (cV g N n sc g.keep e).map .ret
    | .If c a b _ => (cE g N n sc fbDef c).bind fun z => (cSs g N sc n a).bind fun x => (cSs g N sc n b).map fun y => .iff z x y
    | .For tg it b [] _ => if isSet it = true then none else (cI g N n sc fbDef (isTup tg) it).bind fun i => (cT N sc fbDef n tg).bind fun t => (cSs g N sc n b).map fun y => .forr t i y
    | .While c b [] _ => (cE g N n sc fbDef c).bind fun z => (cSs g N sc n b).map fun y => .whil z y
    | .Raise (some (.Call (.Name x _) [.Constant (.str _) _ _] [] _)) none _ => if (glB sc x && !odd x) = true then (g.clIx x).map fun i => .rais i .nil else none
    | .Raise (some (.Call (.Name x _) [e] [] _)) none _ => if (glB sc x && !odd x && !starred e) = true then (g.clTx x).bind fun i => (cE g N n sc fbDef e).map fun y => .rais i (.cons y .nil) else none
    | .Pass _ => some .pass
    | _ => none
def cSs (g : Cfg) (N : List Str) (sc : Scope) : Nat → List Stmt → Option Sts
  | 0, _ => none
  | _ + 1, [] => some .nil
  | n + 1, s :: r => (cS g N sc n s).bind fun a => (cSs g N sc n r).map fun b => .cons a b
end
end Ev
end

section
set_option Elab.async false
set_option linter.all false
set_option autoImplicit false
set_option maxRecDepth 100000
set_option maxHeartbeats 4000000
/-! # Statements -/
namespace Ev
open PySem PySem.Spec PyProof.Rows L2
/-- how a statement's end stands -/
def relF (K : W.Frag) : Ms → Hp → (L2.St ⊕ V) → F → Prop
  | M, H, .inl σ, .nx ρ => EnvOk K ρ σ M H
  | M, H, .inr v, .rt u => RU K M H v u
  | _, _, _, _ => False
def endF (D : Ends) : (L2.St ⊕ V) → Hp → Prop
  | .inl σ, H => D.nx σ H
  | .inr v, H => D.rt v H
def tS (K : W.Frag) (T : List (Addr × Str)) (cl : Nat → Option Addr) (E : XK) (c : Cn) (ir : Ev.St) : TS := fun D σ H => ∃ ρ M S, EnvOk K ρ σ M H ∧ StOk K T M S H ∧ Out K T cl E M H (evS c ir ρ S) (relF K) (endF D)
def tSs (K : W.Frag) (T : List (Addr × Str)) (cl : Nat → Option Addr) (E : XK) (c : Cn) (ir : Sts) : TS := fun D σ H => ∃ ρ M S, EnvOk K ρ σ M H ∧ StOk K T M S H ∧ Out K T cl E M H (evSs c ir ρ S) (relF K) (endF D)
section
variable {K : W.Frag} {T : List (Addr × Str)} {cl : Nat → Option Addr} {E : XK} {c : Cn} {X : Cx} {M : Ms} {H : Hp} {S : Store} {ρ : Rho} {σ : L2.St}
theorem pss_imp {st : List Stmt} {t t' : TS} (h : PSs X st t) (i : ∀ D σ H, t' D σ H → t D σ H) : PSs X st t' := ⟨fun pins s σ H D I q => h.run pins s σ H D I (i D σ H q)⟩
/-- the next statement -/
theorem end_nx {ρ' : Rho} {σ' : L2.St} {D : Ends} (st : StOk K T M S H) (h : Out K T cl E M H (.ok (.nx ρ') S) (relF K) (endF D)) (en : EnvOk K ρ' σ' M H) : D.nx σ' H := h (.inl σ') M H (Gr.refl _ _) st en
theorem end_rt {u : U} {v : V} {D : Ends} (st : StOk K T M S H) (h : Out K T cl E M H (.ok (.rt u) S) (relF K) (endF D)) (r : RU K M H v u) : D.rt v H := h (.inr v) M H (Gr.refl _ _) st r
/-- a statement behind another one -/
theorem seq_of {r : R F} {f : Rho → Store → R F} {D : Ends} (h : Out K T cl E M H (r.bind fun a S1 => match a with
      | .nx ρ1 => f ρ1 S1
      | .rt u => .ok (.rt u) S1) (relF K) (endF D)) {G : L2.St → Hp → Prop}
    (q : ∀ ρ1 σ1 M1 H1 S1, Gr M H M1 H1 → StOk K T M1 S1 H1 → EnvOk K ρ1 σ1 M1 H1 → Out K T cl E M1 H1 (f ρ1 S1) (relF K) (endF D) → G σ1 H1) {b k : L2.St → Hp → Prop} :
    Out K T cl E M H r (relF K) (endF { D with nx := G, bk := b, ct := k }) := by
  refine Out.mono (Out.bind (rel := relF K) h) fun x H1 ⟨M1, S1, a, g1, st1, r1, h1⟩ => ?_
  cases x with
  | inl σ1 =>
    cases a with
    | nx ρ1 => exact q ρ1 σ1 M1 H1 S1 g1 st1 r1 h1
    | rt u => exact r1.elim
  | inr v =>
    cases a with
    | nx ρ1 => exact r1.elim
    | rt u => exact (show Out K T cl E M1 H1 (.ok (.rt u) S1) (relF K) (endF D) from h1) (.inr v) M1 H1 (Gr.refl _ _) st1 r1
theorem ssx_nil : PSs X [] (tSs X.K T cl E c .nil) := pss_imp pss_nil fun D σ H ⟨ρ, M, S, en, st, h⟩ => by
  unfold evSs at h
  exact end_nx st h en
theorem ssx_cons {s : Stmt} {r : List Stmt} {a : Ev.St} {b : Sts} (h1 : PS X s (tS X.K T cl E c a)) (h2 : PSs X r (tSs X.K T cl E c b)) : PSs X (s :: r) (tSs X.K T cl E c (.cons a b)) :=
  pss_imp (pss_cons h1 h2) fun D σ H ⟨ρ, M, S, en, st, h⟩ => by
    unfold evSs at h
    exact ⟨ρ, M, S, en, st, seq_of h fun ρ1 σ1 M1 H1 S1 g1 st1 en1 h1 => ⟨ρ1, M1, S1, en1, st1, h1⟩⟩
/-! ### simple statements -/
theorem swp_no {e : Expr} {t : Option Expr} {l : Nat} {env : Env} (h : isComp e = false) : swapsWith e t l env = pure false := by
  cases e <;> first | rfl | cases h
theorem conv_set {i : Nat} {y : Ev.X} {D : Ends} {σ : L2.St} {H : Hp} (h : tS K T cl E c (.set i y) D σ H) : tAsg (tX K T cl E c y) (gName i) D σ H := by
  obtain ⟨ρ, M, S, en, st, h⟩ := h
  unfold evS at h
  exact tX_b en st h fun v M1 H1 S1 u g1 en1 st1 r1 h1 => end_nx st1 h1 (en1.set r1)
theorem sx_set {i : Nat} {x : Str} {e : Expr} {y : Ev.X} {pos pos' : Pos} (hN : X.N.Nodup) (hi : X.N[i]? = some x) (hx : L2.Loc X.env.scope x) (hf : X.fn x = true ∨ X.env.scope.names.lookup x = some .local) (hc : isComp e = false) (he : PE X e (tX X.K T cl E c y)) :
    PS X (.Assign [.Name x pos'] e pos) (tS X.K T cl E c (.set i y)) :=
  ps_imp (ps_set hN hi hx he (swp_no hc) hf) fun D σ H h => conv_set h
/-- a comprehension -/
theorem sx_setLc {i : Nat} {x : Str} {e : Expr} {y : Ev.X} {pos pos' : Pos} (hN : X.N.Nodup) (hi : X.N[i]? = some x) (hx : L2.Loc X.env.scope x) (hf : X.fn x = true ∨ X.env.scope.names.lookup x = some .local) (hc : isLc e = true) (he : EOk T cl E c X e y) :
    PS X (.Assign [.Name x pos'] e pos) (tS X.K T cl E c (.set i y)) := by
  by_cases hsw : swapsWith e (some (.Name x pos')) pos.line X.env = pure true
  · by_cases hl : X.env.scope.names.lookup x = some .local
    · exact ps_imp (he.2.2.2 hc i x pos' pos hi hl hsw) fun D σ H h => conv_set h
    · refine ps_imp (ps_set hN hi hx he.1 ?_ hf) fun D σ H h => conv_set h
      have e1 : X.env.kindOf x = some .local ↔ X.env.scope.names.lookup x = some .local := Iff.rfl
      cases e <;> first | cases hc | skip
      all_goals
        show (pure (X.env.blockKind == .function && X.env.kindOf x == some .local && _ && _) : Sem Bool) = pure false
        rw [show (X.env.kindOf x == some NameKind.local) = false from by simpa using fun z => hl (e1.mp z)]
        simp
  · refine ps_imp (ps_set hN hi hx he.1 ?_ hf) fun D σ H h => conv_set h
    cases e <;> first | cases hc | skip
    all_goals
      have key : ∀ b : Bool, (pure b : Sem Bool) ≠ pure true → (pure b : Sem Bool) = pure false := fun b z => by
        cases b
        · rfl
        · exact absurd rfl z
      exact key _ hsw
theorem swS_tup {e : Expr} {ts : List Expr} {k : Nat} {tp : Pos} {l : Nat} {env : Env} : swapsWithSole [.Tuple ts k tp] e l env = pure false := by
  cases e <;> rfl
theorem swS_sub {e a b : Expr} {tp : Pos} {l : Nat} {env : Env} : swapsWithSole [.Subscript a b tp] e l env = pure false := by
  cases e <;> rfl
theorem swp_plain {e : Expr} {ts : List Expr} {k : Nat} {tp : Pos} {env : Env} (h : isTupE e = false) : swappedStores [.Tuple ts k tp] e env = pure none := by
  cases e <;> first | rfl | cases h
theorem swp_sub {e a b : Expr} {tp : Pos} {env : Env} : swappedStores [.Subscript a b tp] e env = pure none := by
  cases e <;> rfl
theorem sx_sett {ts : List Expr} {k : Nat} {tp pos : Pos} {e : Expr} {t : Tg} {y : Ev.X} (hw : swappedStores [.Tuple ts k tp] e X.env = pure none) (he : PE X e (tX X.K T cl E c y)) (hg : PG X (.Tuple ts k tp) (tTw X.K T t)) :
    PS X (.Assign [.Tuple ts k tp] e pos) (tS X.K T cl E c (.sett t y)) :=
  ps_imp (ps_asg he hg swS_tup hw rfl) fun D σ H ⟨ρ, M, S, en, st, h⟩ => by
    unfold evS at h
    refine tX_b en st h fun v M1 H1 S1 u g1 en1 st1 r1 h1 => ?_
    cases e1 : bindT t u ρ with
    | none => rw [e1] at h1; exact h1.elim
    | some ρ' =>
      rw [e1] at h1
      exact ⟨ρ, M1, S1, u, ρ', en1, st1, r1, e1, fun σ' en' _ _ => end_nx st1 h1 en'⟩
theorem sx_par2 {x y : Str} {i j : Nat} {a b : Expr} {px py pt pos : Pos} {kt k2 : Nat} {pt2 : Pos} {u v : Ev.X} (hc : X.calm = true) (hN : X.N.Nodup) (hi : X.N[i]? = some x) (hj : X.N[j]? = some y) (hij : i ≠ j) (hx : X.env.scope.names.lookup x = some .local) (hy : X.env.scope.names.lookup y = some .local)
    (ha : PA X [a, b] (tXs X.K T cl E c (.cons u (.cons v .nil)))) (hw : swappedStores [.Tuple [.Name x px, .Name y py] kt pt] (.Tuple [a, b] k2 pt2) X.env = pure (some [x, y])) :
    PS X (.Assign [.Tuple [.Name x px, .Name y py] kt pt] (.Tuple [a, b] k2 pt2) pos) (tS X.K T cl E c (.par [i, j] (.cons u (.cons v .nil)))) :=
  ps_imp (ps_par hc hN hi hj hij hx hy ha hw swS_tup) fun D σ H ⟨ρ, M, S, en, st, h⟩ => by
    unfold evS at h
    refine tXs_n en st h fun vs M1 H1 S1 us g1 en1 st1 r1 hl h1 => ?_
    cases r1 with
    | nil => cases hl
    | cons r1 rr =>
      cases rr with
      | nil => cases hl
      | cons r2 rr =>
        cases rr with
        | nil => exact ⟨_, _, rfl, end_nx st1 h1 ((en1.set r1).set r2)⟩
        | cons r3 rr => cases hl
theorem sx_par3 {x y z : Str} {i j l : Nat} {a b d : Expr} {px py pz pt pos : Pos} {kt k2 : Nat} {pt2 : Pos} {u v w : Ev.X} (hc : X.calm = true) (hN : X.N.Nodup) (hi : X.N[i]? = some x) (hj : X.N[j]? = some y) (hl : X.N[l]? = some z) (hij : i ≠ j) (hil : i ≠ l) (hjl : j ≠ l)
    (hx : X.env.scope.names.lookup x = some .local) (hy : X.env.scope.names.lookup y = some .local) (hz : X.env.scope.names.lookup z = some .local)
    (ha : PA X [a, b, d] (tXs X.K T cl E c (.cons u (.cons v (.cons w .nil))))) (hw : swappedStores [.Tuple [.Name x px, .Name y py, .Name z pz] kt pt] (.Tuple [a, b, d] k2 pt2) X.env = pure (some [x, y, z])) :
    PS X (.Assign [.Tuple [.Name x px, .Name y py, .Name z pz] kt pt] (.Tuple [a, b, d] k2 pt2) pos) (tS X.K T cl E c (.par [i, j, l] (.cons u (.cons v (.cons w .nil))))) :=
  ps_imp (ps_par3 hc hN hi hj hl hij hil hjl hx hy hz ha hw swS_tup) fun D σ H ⟨ρ, M, S, en, st, h⟩ => by
    unfold evS at h
    refine tXs_n en st h fun vs M1 H1 S1 us g1 en1 st1 r1 hl h1 => ?_
    cases r1 with
    | nil => cases hl
    | cons r1 rr =>
      cases rr with
      | nil => cases hl
      | cons r2 rr =>
        cases rr with
        | nil => cases hl
        | cons r3 rr =>
          cases rr with
          | nil => exact ⟨_, _, _, rfl, end_nx st1 h1 (((en1.set r1).set r2).set r3)⟩
          | cons r4 rr => cases hl
/-- names, one behind another -/
def setV : List Nat → List V → L2.St → L2.St
  | i :: is, v :: vs, σ => setV is vs (σ.set i (some v))
  | _, _, σ => σ
def gsNames : List Nat → TGs := fun is vs σ H Q => vs.length = is.length ∧ Q (setV is vs σ) H
theorem setSlots_ok : ∀ {is : List Nat} {us : List U} {vs : List V} {ρ ρ' : Rho} {σ : L2.St}, EnvOk K ρ σ M H → RUs K M H vs us → setSlots is us ρ = some ρ' → vs.length = is.length ∧ EnvOk K ρ' (setV is vs σ) M H
  | [], [], _, _, _, _, en, .nil, e => by cases e; exact ⟨rfl, en⟩
  | i :: is, u :: us, _, _, _, _, en, .cons r rs, e => by
    obtain ⟨h1, h2⟩ := setSlots_ok (en.set r) rs (show setSlots is us (_) = some _ from e)
    exact ⟨congrArg (· + 1) h1, h2⟩
  | [], _ :: _, _, _, _, _, _, _, e => nomatch e
  | _ :: _, [], _, _, _, _, _, _, e => nomatch e
theorem pgs_names {N : List Str} {sc : Scope} (hN : X.N.Nodup) (ix : ∀ {x : Str} {i : Nat}, ixOf N x = some i → X.N[i]? = some x) (loc : ∀ {x : Str}, locB sc x = true → L2.Loc X.env.scope x) (fn : ∀ x, X.fn x = true ∨ X.env.scope.names.lookup x = some .local) :
    ∀ {ts : List Expr} {is : List Nat}, nmsL N sc ts = some is → PGs X ts (gsNames is) ∧ plain ts = true ∧ is.length = ts.length
  | [], is, e => by
    cases e
    exact ⟨pgs_imp pgs_nil fun v σ H Q ⟨h1, h2⟩ => ⟨List.length_eq_zero_iff.mp h1, by rw [List.length_eq_zero_iff.mp h1] at h2; exact h2⟩, rfl, rfl⟩
  | t :: ts, is, e => by
    unfold nmsL at e
    split at e
    · rename_i heq
      cases heq
    · rename_i x pos r heq
      cases heq
      split at e
      · rename_i hl
        obtain ⟨i, hi, e⟩ := bindO e
        obtain ⟨js, hj, rfl⟩ := map_some e
        obtain ⟨h1, h2, h3⟩ := pgs_names hN ix loc fn hj
        refine ⟨pgs_imp (pgs_cons (pg_name hN (ix hi) (loc hl) (fn x)) h1 (by rfl)) fun v σ H Q ⟨q1, q2⟩ => ?_, by show (!starred (.Name x pos) && plain ts) = true; rw [h2]; rfl, congrArg (· + 1) h3⟩
        cases v with
        | nil => cases q1
        | cons v vs => exact ⟨v, vs, rfl, by simpa using q1, q2⟩
      · cases e
    · cases e
/-- names = values, through a tuple -/
theorem sx_parT {ts vs : List Expr} {k k2 : Nat} {tp p2 pos : Pos} {is : List Nat} {y : Xs} (hc : X.calm = true) (hw : swappedStores [.Tuple ts k tp] (.Tuple vs k2 p2) X.env = pure none) (ha : PA X vs (tXs X.K T cl E c y)) (hg : PGs X ts (gsNames is)) (hp : plain ts = true) (hl : is.length = ts.length) (hs : is.length ≤ 1000) :
    PS X (.Assign [.Tuple ts k tp] (.Tuple vs k2 p2) pos) (tS X.K T cl E c (.par is y)) :=
  ps_imp (ps_asg (pe_tupF ha) (pg_tup (n := ts.length) hc hg each_len (each_plain hp)) swS_tup hw rfl) fun D σ H ⟨ρ, M, S, en, st, h⟩ => by
    unfold evS at h
    refine tXs_n en st h fun vs M1 H1 S1 us g1 en1 st1 r1 hl1 h1 => ?_
    cases e : setSlots is us ρ with
    | none => rw [e] at h1; exact h1.elim
    | some ρ' =>
      rw [e] at h1
      have h1 : Out X.K T cl E M1 H1 (.ok (.nx ρ') S1) (relF X.K) (endF D) := h1
      obtain ⟨e1, _⟩ := setSlots_ok en1 r1 e
      refine ⟨by rw [e1, sizeLine_eq]; omega, fun q o od hq => ?_⟩
      have g2 : Gr M1 H1 M1 (upd H1 q (.frz o (.tup vs))) := gr_new st1 hq
      refine ⟨q, vs, rfl, .inl (.inr ⟨o, upd_same⟩), by rw [e1, hl], e1, ?_⟩
      exact h1 (.inl _) M1 _ g2 (st_new st1 hq) (setSlots_ok (en1.mono g2) (r1.mono g2) e).2
/-- x[k] = e -/
theorem sx_seti {x : Str} {i : Nat} {k e : Expr} {px p pos : Pos} {q y : Ev.X} (hu : X.A.units + 65 < cLine) (hi : X.N[i]? = some x) (hv : Vis X.env.scope x) (ho : odd x = false) (hk : isSlice k = false) (he : PE X e (tX X.K T cl E c y)) (hq : PE X k (tX X.K T cl E c q)) :
    PS X (.Assign [.Subscript (.Name x px) k p] e pos) (tS X.K T cl E c (.seti i q y)) :=
  ps_imp (ps_asg he (pg_sub (pe_var (i := i) hi hv (odd_of ho).1 (odd_of ho).2.1) hq (set_put hu) (fun v => by cases k <;> first | rfl | cases hk)) swS_sub swp_sub rfl) fun D σ H ⟨ρ, M, S, en, st, h⟩ => by
    unfold evS at h
    split at h
    case h_2 => exact h.elim
    rename_i b hb
    refine tX_b en st h fun v M1 H1 S1 u g1 en1 st1 r1 h1 => ?_
    obtain ⟨w, e1, a, e2, rfl⟩ := en1.at_ i _ hb
    refine ⟨_, e1, tX_b en1 st1 h1 fun w M2 H2 S2 u2 g2 en2 st2 r2 h2 => ?_⟩
    unfold putL at h2
    split at h2
    case h_2 => exact h2.elim
    rename_i p kd
    have e3 := g2.get e2
    have hm := List.mem_of_getElem? e3
    split at h2
    · rename_i ds eb
      split at h2
      case h_2 => exact h2.elim
      rename_i j
      cases r2
      split at h2
      case h_2 => exact h2.elim
      rename_i m em
      obtain ⟨xs, e4, r4⟩ := st2.lst e3 eb
      refine .inl ⟨a, xs, j, m, rfl, rfl, e4, by rw [r4.length]; exact em, ?_⟩
      have gw : Gr M2 H2 M2 (upd H2 a (.lst (xs.set m v))) := gr_wr M2 hm (fun ps z => by cases z) (lst_frz e4)
      have r5 : RpA X.K M2 H2 (xs.set m v) (ds.set m p) := RpA.set ((show Rp X.K M1 H1 v p from r1).mono g2) m r4
      exact h2 (.inl σ) M2 _ gw (st_put st2 e3 e4 r5) (en2.mono gw)
    · rename_i kvs eb
      split at h2
      case isFalse => exact h2.elim
      rename_i hk
      rw [Bool.and_eq_true, decide_eq_true_eq] at hk
      obtain ⟨bx, e4, hbx⟩ := st2.lt e3
      rw [eb] at e4
      cases e4
      have rv : RU X.K M2 H2 v (.d p) := RU.mono g2 r1
      have bel : Box.below b (.dct false (dPut kvs kd (.d p))) := fun q hq j ej => by
        have old := st2.old b _ eb
        unfold dPut at hq
        split at hq
        · unfold dRepl at hq
          obtain ⟨q', hq', e⟩ := List.mem_map.mp hq
          split at e
          · subst e; cases ej
          · subst e; exact old _ hq' j ej
        · rcases List.mem_append.mp hq with hq | hq
          · exact old _ hq j ej
          · rw [List.mem_singleton.mp hq] at ej
            cases ej
      rcases hbx with ⟨o, vs, h1', d, r, qv⟩ | ⟨_, ws, h1', hn, hs, r, qv⟩
      · rw [if_neg (by decide)] at h1'
        refine .inr (.inl ⟨M2, a, o, vs, kvs, kd, .d p, rfl, h1', d, r, qv, hk.1, by rw [← line_eq]; exact hk.2, r2, rv, fun o' vs' d' r' q' => ?_⟩)
        have nz : ∀ od u, H2 a ≠ some (.frz od u) := fun od u z => by
          rw [h1'] at z
          exact DX_frz (Option.some.inj z)
        have gw : Gr M2 H2 M2 (upd H2 a (DX a o')) := gr_wr M2 hm DX_ne nz
        exact h2 (.inl σ) M2 _ gw (st_putG st2 e3 nz DX_ne (.inl ⟨o', vs', upd_same, d', r'.mono gw, q'.mono gw⟩) bel) (en2.mono gw)
      · obtain ⟨x, rfl⟩ := sKey_of (dKind_s hk.1 hn hs)
        have ew : w = .str x := by cases r2; rfl
        subst ew
        have hl : ws.length = kvs.length := by have := r.length; rwa [List.length_map, List.length_map] at this
        refine .inr (.inr ⟨a, ws, x, rfl, rfl, h1', by rw [hl, ← line_eq]; exact hk.2, ?_⟩)
        have nz : ∀ od u, H2 a ≠ some (.frz od u) := fun od u z => by
          rw [h1'] at z
          cases z
        have gw : Gr M2 H2 M2 (upd H2 a (.dK (putK ws (.inr x) v))) := gr_wr M2 hm (fun ps z => by cases z) nz
        obtain ⟨i1, i2, i3⟩ := keys_s (x := x) hs r qv rv
        have keep : (dPut kvs (.str x) (U.d p)) ≠ [] := by
          unfold dPut
          split
          · unfold dRepl
            intro z
            exact hn (map_nil z)
          · intro z
            exact hn (List.append_eq_nil_iff.mp z).1
        have rel : (∀ k, k ∈ (dPut kvs (.str x) (U.d p)).map Prod.fst → sKey k = true) ∧ RpA X.K M2 H2 ((putK ws (.inr x) v).map fun q => kV q.1) ((dPut kvs (.str x) (U.d p)).map Prod.fst) ∧ RUs X.K M2 H2 ((putK ws (.inr x) v).map Prod.snd) ((dPut kvs (.str x) (U.d p)).map Prod.snd) := by
          unfold dPut putK
          rw [i1]
          by_cases ha : (ws.any fun kv => decide (kv.1 = Sum.inr x)) = true
          · rw [if_pos ha, if_pos ha, repl_keys]
            exact ⟨hs, by rw [i3]; exact r, i2⟩
          · rw [if_neg ha, if_neg ha]
            refine ⟨fun k hk => ?_, ?_, ?_⟩
            · rw [List.map_append] at hk
              rcases List.mem_append.mp hk with hk | hk
              · exact hs k hk
              · have : k = .str x := by simpa using hk
                rw [this]; rfl
            · rw [List.map_append, List.map_append]
              exact r.append (.cons (Rp.str x) .nil)
            · rw [List.map_append, List.map_append]
              exact qv.append (.cons rv .nil)
        exact h2 (.inl σ) M2 _ gw (st_putG st2 e3 nz (fun ps z => by cases z) (.inr ⟨rfl, _, upd_same, keep, rel.1, rel.2.1.mono gw, rel.2.2.mono gw⟩) bel) (en2.mono gw)
    · exact h2.elim
/-- x.append(a) -/
theorem sx_app {x : Str} {i : Nat} {a : Expr} {px apos cpos pos : Pos} {y : Ev.X} (hi : X.N[i]? = some x) (hv : Vis X.env.scope x) (ho : odd x = false) (hs : starred a = false) (hl : (apos.endLine == cpos.line) = true) (ha : PE X a (tX X.K T cl E c y)) :
    PS X (.Expr (.Call (.Attribute (.Name x px) "append" apos) [a] [] cpos) pos) (tS X.K T cl E c (.app i y)) :=
  ps_imp (ps_expr (pe_bm PySem.F.plainAttrs_list PySem.F.slot_list_append PySem.F.type_list_append mt_append (pe_var (i := i) hi hv (odd_of ho).1 (odd_of ho).2.1) (pa_cons ha pa_nil (star_of hs)) rfl (by rw [star_of hs]; rfl) hl (star_of hs) rfl)) fun D σ H ⟨ρ, M, S, en, st, h⟩ => by
    unfold evS at h
    split at h
    case h_2 => exact h.elim
    rename_i b hb
    obtain ⟨w, e1, a, e2, rfl⟩ := en.at_ i _ hb
    obtain ⟨bx, e3, hbx⟩ := st.lt e2
    split at h
    case isFalse => exact h.elim
    rename_i hli
    have hty : ∃ xs, H a = some (.lst xs) := by
      unfold isLst at hli
      rw [e3] at hli
      cases bx with
      | lst ds => obtain ⟨xs, h1, _⟩ := hbx; exact ⟨xs, h1⟩
      | dct _ _ => cases hli
      | ins _ _ => cases hli
      | bl _ => cases hli
      | exc _ _ _ => cases hli
    obtain ⟨xs0, hxs0⟩ := hty
    refine ⟨_, e1, ?_, tX_b en st h fun v M1 H1 S1 u g1 en1 st1 r1 h1 => ?_⟩
    · exact .inl ⟨rfl, xs0, SqL.of hxs0⟩
    · unfold appL at h1
      split at h1
      case h_2 => exact h1.elim
      rename_i p
      split at h1
      case h_2 => exact h1.elim
      rename_i ds eb
      split at h1
      case isFalse => exact h1.elim
      rename_i hlen
      have e4 := g1.get e2
      obtain ⟨xs, e5, r5⟩ := st1.lst e4 eb
      have hm := List.mem_of_getElem? e4
      refine ⟨a, xs, v, rfl, rfl, e5, by rw [r5.length, ← line_eq]; exact hlen, ?_⟩
      have gw : Gr M1 H1 M1 (upd H1 a (.lst (xs ++ [v]))) := gr_wr M1 hm (fun ps z => by cases z) (lst_frz e5)
      exact h1 (.inl σ) M1 _ gw (st_put st1 e4 e5 (r5.append (.cons r1 .nil))) (en1.mono gw)
/-- o.append(a) -/
theorem sx_appx {o a : Expr} {apos cpos pos : Pos} {x y : Ev.X} (hb : attributeBase o "append" X.env (eval o X.env) = eval o X.env) (ho : PE X o (tX X.K T cl E c x)) (hs : starred a = false) (hl : (apos.endLine == cpos.line) = true) (ha : PE X a (tX X.K T cl E c y)) :
    PS X (.Expr (.Call (.Attribute o "append" apos) [a] [] cpos) pos) (tS X.K T cl E c (.appx x y)) :=
  ps_imp (ps_expr (pe_bm PySem.F.plainAttrs_list PySem.F.slot_list_append PySem.F.type_list_append mt_append ho (pa_cons ha pa_nil (star_of hs)) hb (by rw [star_of hs]; rfl) hl (star_of hs) rfl)) fun D σ H ⟨ρ, M, S, en, st, h⟩ => by
    unfold evS at h
    refine tX_b en st h fun w M0 H0 S0 u0 g0 en0 st0 r0 h0 => ?_
    split at h0
    case h_2 => exact h0.elim
    rename_i b
    obtain ⟨a, e2, rfl⟩ := r0
    obtain ⟨bx, e3, hbx⟩ := st0.lt e2
    split at h0
    case isFalse => exact h0.elim
    rename_i hli
    have hty : ∃ xs, H0 a = some (.lst xs) := by
      unfold isLst at hli
      rw [e3] at hli
      cases bx with
      | lst ds => obtain ⟨xs, h1, _⟩ := hbx; exact ⟨xs, h1⟩
      | dct _ _ => cases hli
      | ins _ _ => cases hli
      | bl _ => cases hli
      | exc _ _ _ => cases hli
    obtain ⟨xs0, hxs0⟩ := hty
    refine ⟨.inl ⟨rfl, xs0, SqL.of hxs0⟩, tX_b en0 st0 h0 fun v M1 H1 S1 u g1 en1 st1 r1 h1 => ?_⟩
    unfold appL at h1
    split at h1
    case h_2 => exact h1.elim
    rename_i p
    split at h1
    case h_2 => exact h1.elim
    rename_i ds eb
    split at h1
    case isFalse => exact h1.elim
    rename_i hlen
    have e4 := g1.get e2
    obtain ⟨xs, e5, r5⟩ := st1.lst e4 eb
    have hm := List.mem_of_getElem? e4
    refine ⟨a, xs, v, rfl, rfl, e5, by rw [r5.length, ← line_eq]; exact hlen, ?_⟩
    have gw : Gr M1 H1 M1 (upd H1 a (.lst (xs ++ [v]))) := gr_wr M1 hm (fun ps z => by cases z) (lst_frz e5)
    exact h1 (.inl σ) M1 _ gw (st_put st1 e4 e5 (r5.append (.cons r1 .nil))) (en1.mono gw)
theorem sx_exp {e : Expr} {y : Ev.X} {pos : Pos} (hc : isComp e = false) (he : PE X e (tX X.K T cl E c y)) : PS X (.Expr e pos) (tS X.K T cl E c (.exp y)) :=
  ps_imp (ps_expr he (swp_no hc)) fun D σ H ⟨ρ, M, S, en, st, h⟩ => by
    unfold evS at h
    exact tX_b en st h fun v M1 H1 S1 u g1 en1 st1 r1 h1 => end_nx st1 h1 en1
theorem sx_ret {e : Expr} {y : Ev.X} {pos : Pos} (he : PE X e (tX X.K T cl E c y)) : PS X (.Return (some e) pos) (tS X.K T cl E c (.ret y)) :=
  ps_imp (ps_ret he) fun D σ H ⟨ρ, M, S, en, st, h⟩ => by
    unfold evS at h
    exact tX_b en st h fun v M1 H1 S1 u g1 en1 st1 r1 h1 => end_rt st1 h1 r1
theorem sx_retN {pos : Pos} : PS X (.Return none pos) (tS X.K T cl E c .retN) :=
  ps_imp ps_retN fun D σ H ⟨ρ, M, S, en, st, h⟩ => by
    unfold evS at h
    exact end_rt (u := .d .none) st h Rp.non
theorem sx_pass {pos : Pos} : PS X (.Pass pos) (tS X.K T cl E c .pass) :=
  ps_imp ps_pass fun D σ H ⟨ρ, M, S, en, st, h⟩ => by
    unfold evS at h
    exact end_nx st h en
theorem sx_if {d : Expr} {a b : List Stmt} {pos : Pos} {z : Ev.X} {x y : Sts} (hd : PT X d (tTr X.K T cl E c z)) (ha : PSs X a (tSs X.K T cl E c x)) (hb : PSs X b (tSs X.K T cl E c y)) : PS X (.If d a b pos) (tS X.K T cl E c (.iff z x y)) :=
  ps_imp (ps_if hd ha hb) fun D σ H ⟨ρ, M, S, en, st, h⟩ => by
    unfold evS at h
    refine tTr_b en st h fun k M1 H1 S1 g1 en1 st1 h1 => ?_
    cases k with
    | true => exact ⟨ρ, M1, S1, en1, st1, h1⟩
    | false => exact ⟨ρ, M1, S1, en1, st1, h1⟩
theorem sx_raise {g : Cfg} {k l : Nat} {N : List Str} {sc : Scope} {fb : Fb} (G : Good g T cl c k l X N sc fb) (tk : L2N.Takes X fun d a _ H => E d a H) {x m : Str} {i j : Nat} {p p2 p3 pos : Pos} (hg : glB sc x = true) (ho : odd x = false) (hi : g.clIx x = some i) :
    PS X (.Raise (some (.Call (.Name x p) [.Constant (.str m) j p2] [] p3)) none pos) (tS X.K T cl E c (.rais i .nil)) := by
  obtain ⟨C, e1, e2, e3, e4, e5, e6⟩ := G.clss x i hi
  refine ps_imp (L2N.ps_raise G.calm tk (L2N.pmk_own PySem.F.excBase_ValueError e4 e2 e3 (raises_own e5 e6) (gl_of G.scope hg) (odd_of ho).1)) fun D σ H ⟨ρ, M, S, en, st, h⟩ => ?_
  unfold evS evXs at h
  obtain ⟨C', e7, h1⟩ : ∃ C', cl i = some C' ∧ ∀ d M' H', Dic d H' → Gr M H M' H' → StOk X.K T M' S H' → E (.ref C') d H' := h
  rw [e1] at e7
  cases e7
  exact h1 none M H dic_none (Gr.refl _ _) st
theorem sx_raiseT {g : Cfg} {k l : Nat} {N : List Str} {sc : Scope} {fb : Fb} (G : Good g T cl c k l X N sc fb) (tk : L2N.Takes X fun d a _ H => E d a H) {x : Str} {i : Nat} {e : Expr} {y : Ev.X} {p p3 pos : Pos} (hg : glB sc x = true) (ho : odd x = false) (hi : g.clTx x = some i)
    (he : PE X e (tX X.K T cl E c y)) (hs : starred e = false) : PS X (.Raise (some (.Call (.Name x p) [e] [] p3)) none pos) (tS X.K T cl E c (.rais i (.cons y .nil))) := by
  obtain ⟨C, f, fI, e1, e2, e3, e4, e5⟩ := G.clst x i hi
  refine ps_imp (L2N.ps_raise G.calm tk (pmk_tm e3 e4 e5 G.room (gl_of G.scope hg) e2 he (odd_of ho).1 (star_of hs))) fun D σ H ⟨ρ, M, S, en, st, h⟩ => ?_
  unfold evS evXs evXs at h
  rw [bind_assoc] at h
  refine tX_b en st h fun v M1 H1 S1 u g1 en1 st1 r1 h1 => ?_
  refine ⟨v, rfl, fun d hd => ?_⟩
  obtain ⟨C', e7, h2⟩ : ∃ C', cl i = some C' ∧ ∀ d M' H', Dic d H' → Gr M1 H1 M' H' → StOk X.K T M' S1 H' → E (.ref C') d H' := h1
  rw [e1] at e7
  cases e7
  exact h2 (some d) M1 _ (fun dd z => by cases z; exact ⟨_, upd_same⟩) (gr_new st1 hd) (st_new st1 hd)
/-! ### loops -/
theorem sx_while {d : Expr} {b : List Stmt} {pos : Pos} {z : Ev.X} {y : Sts} (hp : PassesOwn (model X.prog X.w) X.A X.env X.xe) (hd : PT X d (tTr X.K T cl E c z)) (hb : PSs X b (tSs X.K T cl E c y)) : PS X (.While d b [] pos) (tS X.K T cl E c (.whil z y)) :=
  ps_imp (ps_while hp hd hb) fun D σ H ⟨ρ, M, S, en, st, h⟩ => by
    unfold evS at h
    refine ⟨fun m σ H => ∃ ρ M S, EnvOk X.K ρ σ M H ∧ StOk X.K T M S H ∧ Out X.K T cl E M H (loopW (fun ρ S => truR (evX c z ρ S)) (fun ρ S => evSs c y ρ S) m ρ S) (relF X.K) (endF D), ⟨1000000, ρ, M, S, en, st, h⟩, ?_⟩
    rintro m σ H ⟨ρ, M, S, en, st, h⟩
    cases m with
    | zero => unfold loopW at h; exact h.elim
    | succ m =>
      unfold loopW at h
      refine tTr_b en st h fun k M1 H1 S1 g1 en1 st1 h1 => ?_
      cases k with
      | false =>
        rw [if_neg (by decide)]
        rw [if_neg (by decide)] at h1
        exact end_nx st1 h1 en1
      | true =>
        rw [if_pos rfl]
        rw [if_pos rfl] at h1
        refine ⟨fun σ' H' => ∃ ρ M S, EnvOk X.K ρ σ' M H' ∧ StOk X.K T M S H' ∧ Out X.K T cl E M H' (loopW (fun ρ S => truR (evX c z ρ S)) (fun ρ S => evSs c y ρ S) m ρ S) (relF X.K) (endF D), fun σ' H' q => ⟨m, by omega, q⟩, ρ, M1, S1, en1, st1, ?_⟩
        exact seq_of (f := fun ρ2 S2 => loopW (fun ρ S => truR (evX c z ρ S)) (fun ρ S => evSs c y ρ S) m ρ2 S2) h1 fun ρ1 σ1 M2 H2 S2 g2 st2 en2 h2 => ⟨ρ1, M2, S2, en2, st2, h2⟩
theorem sx_for {tg iter : Expr} {b : List Stmt} {pos : Pos} {it : Ev.It} {t : Tg} {y : Sts} (hp : PassesOwn (model X.prog X.w) X.A X.env X.xe) (hc : X.calm = true) (hi : PI X tg iter (tIt X.K T cl E c it)) (hg : PG X tg (tTw X.K T t)) (hb : PSs X b (tSs X.K T cl E c y)) (hs : ∀ x, foldedSetIterable iter X.env x = pure x) :
    PS X (.For tg iter b [] pos) (tS X.K T cl E c (.forr t it y)) :=
  ps_imp (ps_for hp hc hi hg hb hs) fun D σ H ⟨ρ, M, S, en, st, h⟩ => by
    unfold evS at h
    refine ⟨ρ, M, S, en, st, Out.mono (Out.bind (rel := fun M H J s => Feed X.K M H J s) h) fun J H1 ⟨M1, S1, src, g1, st1, fd, h1⟩ => ?_⟩
    have en1 := en.mono g1
    cases src with
    | fix us =>
      have h1 : Out X.K T cl E M1 H1 (loopL t (fun ρ S => evSs c y ρ S) us ρ S1) (relF X.K) (endF D) := h1
      refine ⟨fun i m σ H => m = us.length - i ∧ i ≤ us.length ∧ ∃ ρ M S, Gr M1 H1 M H ∧ EnvOk X.K ρ σ M H ∧ StOk X.K T M S H ∧ Out X.K T cl E M H (loopL t (fun ρ S => evSs c y ρ S) (us.drop i) ρ S) (relF X.K) (endF D), ⟨us.length, rfl, Nat.zero_le _, ρ, M1, S1, Gr.refl _ _, en1, st1, h1⟩, ?_⟩
      rintro i m σ H ⟨rfl, hi, ρ, M, S, g, en, st, h⟩
      obtain ⟨f1, f2⟩ := fd M H g i
      by_cases hlt : i < us.length
      · right
        have hu : us[i]? = some us[i] := by simp [hlt]
        have hd : us.drop i = us[i] :: us.drop (i + 1) := List.drop_eq_getElem_cons hlt
        rw [hd] at h
        generalize us[i] = u at hu h
        obtain ⟨f3, f4⟩ := f2 u hu
        refine ⟨f3, fun σ' H' => ∃ ρ M S, Gr M1 H1 M H' ∧ EnvOk X.K ρ σ' M H' ∧ StOk X.K T M S H' ∧ Out X.K T cl E M H' (loopL t (fun ρ S => evSs c y ρ S) (us.drop (i + 1)) ρ S) (relF X.K) (endF D), fun σ' H' q => ⟨_, by omega, rfl, hlt, q⟩, fun x H' hy => ?_⟩
        obtain ⟨g2, st2, rx⟩ := f4 x H' hy T S st
        have h := Out.later h g2
        unfold loopL at h
        split at h
        · exact h.elim
        · rename_i ρ1 eb
          refine ⟨ρ, M, S, u, ρ1, en.mono g2, st2, rx, eb, fun σ1 en3 _ _ => ⟨ρ1, M, S, en3, st2, ?_⟩⟩
          exact seq_of (f := fun ρ2 S2 => loopL t (fun ρ S => evSs c y ρ S) (us.drop (i + 1)) ρ2 S2) h fun ρ4 σ4 M4 H4 S4 g4 st4 en4 h4 => ⟨ρ4, M4, S4, (g.trans g2).trans g4, en4, st4, h4⟩
      · left
        have ei : i = us.length := by omega
        have hd : us.drop i = [] := by rw [ei]; simp
        rw [hd] at h
        unfold loopL at h
        exact ⟨f1 (by rw [ei]; simp), end_nx st h en⟩
    | live bi =>
      obtain ⟨a, ha, rfl⟩ := fd
      have h1 : Out X.K T cl E M1 H1 (loopB t (fun ρ S => evSs c y ρ S) bi 1000000 0 ρ S1) (relF X.K) (endF D) := h1
      refine ⟨fun i m σ H => ∃ ρ M S, Gr M1 H1 M H ∧ EnvOk X.K ρ σ M H ∧ StOk X.K T M S H ∧ Out X.K T cl E M H (loopB t (fun ρ S => evSs c y ρ S) bi m i ρ S) (relF X.K) (endF D), ⟨1000000, ρ, M1, S1, Gr.refl _ _, en1, st1, h1⟩, ?_⟩
      rintro i m σ H ⟨ρ, M, S, g, en, st, h⟩
      cases m with
      | zero => unfold loopB at h; exact h.elim
      | succ m =>
        unfold loopB at h
        split at h
        case h_2 => exact h.elim
        rename_i ds eb
        have e3 := g.get ha
        obtain ⟨xs, e4, r4⟩ := st.lst e3 eb
        split at h
        · rename_i ei
          left
          refine ⟨⟨xs, SqL.of e4, ?_⟩, end_nx st h en⟩
          rw [r4.length]
          exact List.getElem?_eq_none_iff.mp ei
        · rename_i d ei
          right
          obtain ⟨v, e5, r5⟩ := r4.get ei
          refine ⟨⟨xs, v, SqL.of e4, e5⟩, fun σ' H' => ∃ ρ M S, Gr M1 H1 M H' ∧ EnvOk X.K ρ σ' M H' ∧ StOk X.K T M S H' ∧ Out X.K T cl E M H' (loopB t (fun ρ S => evSs c y ρ S) bi m (i + 1) ρ S) (relF X.K) (endF D), fun σ' H' q => ⟨m, by omega, q⟩, fun x H' ⟨eH, hx⟩ => ?_⟩
          subst eH
          have := hx xs (SqL.of e4)
          rw [e5] at this
          cases this
          split at h
          · exact h.elim
          · rename_i ρ1 eb2
            refine ⟨ρ, M, S, .d d, ρ1, en, st, r5, eb2, fun σ1 en3 _ _ => ⟨ρ1, M, S, en3, st, ?_⟩⟩
            exact seq_of (f := fun ρ2 S2 => loopB t (fun ρ S => evSs c y ρ S) bi m (i + 1) ρ2 S2) h fun ρ4 σ4 M4 H4 S4 g4 st4 en4 h4 => ⟨ρ4, M4, S4, g.trans g4, en4, st4, h4⟩
end
end Ev
end

section
set_option Elab.async false
set_option linter.all false
set_option autoImplicit false
set_option maxRecDepth 100000
set_option maxHeartbeats 4000000
/-! # All statements -/
namespace Ev
open PySem PySem.Spec PyProof.Rows L2
section
variable {T : List (Addr × Str)} {cl : Nat → Option Addr} {E : XK} {c : Cn} {X : Cx} {g : Cfg} {N : List Str} {sc : Scope} {k l : Nat}
theorem cW_ok (G : Good g T cl c k l X N sc fbDef) (tk : L2N.Takes X fun d a _ H => E d a H) {n : Nat} {e : Expr} {y : Ev.X} (h : cW g N n sc e = some y) : PE X e (tX X.K T cl E c y) := by
  have ih := fun e y h => ((cE_ok T cl g N n).1 G tk e y h).1
  unfold cW at h
  split at h
  · obtain ⟨xs, h1, rfl⟩ := map_some h
    exact px_box (cL_ok ih h1)
  · exact ih _ _ h
theorem cPs_ok (G : Good g T cl c k l X N sc fbDef) (tk : L2N.Takes X fun d a _ H => E d a H) {n : Nat} {pos : Pos} : ∀ {ks : List (Option Expr)} {vs : List Expr} {ps : List (Ev.X × Ev.X)}, cPs g N n sc ks vs = some ps →
    PPs X pos ks vs (trsOf X.K T cl E c ps) ∧ ps.length = ks.length ∧ (ks.all (·.isSome)) = true ∧ ∀ k v, ks = [some k] → vs = [v] → ∃ a b, ps = [(a, b)] ∧ PE X k (tX X.K T cl E c a) ∧ PE X v (tX X.K T cl E c b)
  | [], [], ps, h => by
    unfold cPs at h
    cases h
    exact ⟨pps_nil, rfl, rfl, fun k v e => by cases e⟩
  | some a :: ks, b :: vs, ps, h => by
    unfold cPs at h
    obtain ⟨x, h1, h⟩ := bindO h
    obtain ⟨y, h2, h⟩ := bindO h
    obtain ⟨r, h3, rfl⟩ := map_some h
    obtain ⟨i1, i2, i3, i4⟩ := cPs_ok G tk h3
    have pa := ((cE_ok T cl g N n).1 G tk _ _ h1).1
    have pb := cW_ok G tk h2
    refine ⟨pps_cons pa pb i1, congrArg (· + 1) i2, by rw [List.all_cons, i3]; rfl, fun k v e1 e2 => ?_⟩
    cases e1
    cases e2
    unfold cPs at h3
    cases h3
    exact ⟨x, y, rfl, pa, pb⟩
  | none :: _, _ :: _, _, h => by unfold cPs at h; cases h
  | [], _ :: _, _, h => by unfold cPs at h; cases h
  | some _ :: _, [], _, h => by unfold cPs at h; cases h
  | none :: _, [], _, h => by unfold cPs at h; cases h
theorem cV_ok (G : Good g T cl c k l X N sc fbDef) (tk : L2N.Takes X fun d a _ H => E d a H) {n : Nat} {bx : Bool} {e : Expr} {y : Ev.X} (h : cV g N n sc bx e = some y) : PE X e (tX X.K T cl E c y) := by
  have ih := fun e y h => ((cE_ok T cl g N n).1 G tk e y h).1
  unfold cV at h
  split at h
  · split at h
    · obtain ⟨xs, h1, rfl⟩ := map_some h
      exact px_box (cL_ok ih h1)
    · cases h
      exact px_dnew0
    · split at h
      · rename_i hc
        rw [Bool.and_eq_true, decide_eq_true_eq, decide_eq_true_eq] at hc
        obtain ⟨ps, h1, rfl⟩ := map_some h
        obtain ⟨i1, i2, i3, i4⟩ := cPs_ok (E := E) (pos := _) G tk h1
        exact px_dnew (by have := G.room.un; omega) i1 i3 hc.1 i2 (fun z => by cases z) hc.2 i4
      · cases h
    · obtain ⟨x, h1, h⟩ := bindO h
      obtain ⟨y, h2, rfl⟩ := map_some h
      exact px_badd (ih _ _ h1) (ih _ _ h2)
    · exact ih _ _ h
  · exact ih _ _ h
theorem cVs_ok (G : Good g T cl c k l X N sc fbDef) (tk : L2N.Takes X fun d a _ H => E d a H) {n : Nat} : ∀ {ts vs : List Expr} {y : Xs}, cVs g N n sc ts vs = some y → PA X vs (tXs X.K T cl E c y)
  | [], [], y, h => by
    unfold cVs at h
    cases h
    exact pax_nil
  | t :: ts, v :: vs, y, h => by
    unfold cVs at h
    split at h
    · rename_i e _; cases e
    · rename_i x q ts' v' vs' e1 e2
      cases e1
      cases e2
      split at h
      · cases h
      · rename_i hs
        obtain ⟨a, h1, h⟩ := bindO h
        obtain ⟨r, h2, rfl⟩ := map_some h
        exact pax_cons (by simpa using hs) (cV_ok G tk h1) (cVs_ok G tk h2)
    · cases h
  | [], _ :: _, _, h => by
    unfold cVs at h
    cases h
  | t :: _, [], _, h => by
    unfold cVs at h
    cases t <;> cases h
theorem loc_local {x : Str} (h : locL sc x = true) : sc.names.lookup x = some .local := of_decide_eq_true h
theorem cS_ok (G : Good g T cl c k l X N sc fbDef) (tk : L2N.Takes X fun d a _ H => E d a H) (hp : PassesOwn (model X.prog X.w) X.A X.env X.xe) :
    ∀ n, (∀ s ir, cS g N sc n s = some ir → PS X s (tS X.K T cl E c ir)) ∧ ∀ ss ir, cSs g N sc n ss = some ir → PSs X ss (tSs X.K T cl E c ir) := by
  have hN : X.N.Nodup := by rw [G.names]; exact G.nd
  have ix : ∀ {x : Str} {i : Nat}, ixOf N x = some i → X.N[i]? = some x := fun h => by rw [G.names]; exact ix_of h
  have loc : ∀ {x : Str}, locB sc x = true → L2.Loc X.env.scope x := fun h => by rw [G.scope]; exact loc_of h
  have vis : ∀ {x : Str}, visB sc x = true → Vis X.env.scope x := fun h => by rw [G.scope]; exact vis_of h
  have lcl : ∀ {x : Str}, locL sc x = true → X.env.scope.names.lookup x = some .local := fun h => by rw [G.scope]; exact loc_local h
  intro n
  induction n with
  | zero => exact ⟨fun s ir h => (by unfold cS at h; cases h), fun s ir h => (by unfold cSs at h; cases h)⟩
  | succ n ih =>
    obtain ⟨ih1, ih2⟩ := ih
    have ieo := fun e y h => (cE_ok T cl g N n).1 G tk e y h
    have ie : ∀ e y, cE g N n sc fbDef e = some y → PE X e (tX X.K T cl E c y) := fun e y h => (ieo e y h).1
    have iI := fun tg e y h => (cE_ok T cl g N n).2 G tk tg e y h
    have iT : ∀ e t, cT N sc fbDef n e = some t → PG X e (tTw X.K T t) := (tgw_ok G.names G.nd G.calm G.scope G.fbk n).1
    refine ⟨fun s ir h => ?_, fun ss ir h => ?_⟩
    · unfold cS at h
      split at h
      · -- name = e
        split at h
        · rename_i hc
          simp only [Bool.and_eq_true, Bool.not_eq_true'] at hc
          obtain ⟨i, hi, h⟩ := bindO h
          obtain ⟨y, hy, rfl⟩ := map_some h
          exact sx_set hN (ix hi) (loc hc.1) (G.fbk _ rfl) hc.2 (cV_ok G tk hy)
        · split at h
          · rename_i hc
            obtain ⟨i, hi, h⟩ := bindO h
            obtain ⟨y, hy, rfl⟩ := map_some h
            rw [Bool.and_eq_true] at hc
            exact sx_setLc hN (ix hi) (loc hc.1) (G.fbk _ rfl) hc.2 (ieo _ _ hy)
          · cases h
      · -- names = values
        split at h
        · cases h
        · rename_i hs
          split at h
          · rename_i hb
            rw [Bool.and_eq_true, decide_eq_true_eq] at hb
            obtain ⟨is, hi, h⟩ := bindO h
            obtain ⟨y, hy, rfl⟩ := map_some h
            obtain ⟨p1, p2, p3⟩ := pgs_names hN ix loc (fun x => G.fbk x rfl) hi
            exact sx_parT G.calm (swap_of (by rw [G.scope]; exact hs)) (cVs_ok G tk hy) p1 p2 p3 (by rw [p3]; exact hb.2)
          · obtain ⟨y, hy, h⟩ := bindO h
            obtain ⟨t, ht, rfl⟩ := map_some h
            exact sx_sett (swap_of (by rw [G.scope]; exact hs)) (ie _ _ hy) (iT _ _ ht)
        · rename_i names hs
          have hsw := fun k k2 tp p2 => swap_of (env := X.env) (k := k) (k2 := k2) (tp := tp) (p2 := p2) (by rw [G.scope]; exact hs)
          split at h
          · split at h
            · rename_i hc
              simp only [Bool.and_eq_true, Bool.not_eq_true', decide_eq_true_eq] at hc
              obtain ⟨⟨⟨⟨h1, h2⟩, h3⟩, h4⟩, h5⟩ := hc
              subst h5
              obtain ⟨i, hi, h⟩ := bindO h
              obtain ⟨j, hj, h⟩ := bindO h
              split at h
              · cases h
              · rename_i hij
                obtain ⟨u, hu, h⟩ := bindO h
                obtain ⟨v, hv, rfl⟩ := map_some h
                exact sx_par2 G.calm hN (ix hi) (ix hj) hij (lcl h1) (lcl h2) (pax_cons h3 (cV_ok G tk hu) (pax_cons h4 (cV_ok G tk hv) pax_nil)) (hsw _ _ _ _)
            · cases h
          · split at h
            · rename_i hc
              simp only [Bool.and_eq_true, Bool.not_eq_true', decide_eq_true_eq] at hc
              obtain ⟨⟨⟨⟨⟨⟨h1, h2⟩, h3⟩, h4⟩, h5⟩, h6⟩, h7⟩ := hc
              subst h7
              obtain ⟨i, hi, h⟩ := bindO h
              obtain ⟨j, hj, h⟩ := bindO h
              obtain ⟨m, hm, h⟩ := bindO h
              split at h
              · cases h
              · rename_i hij
                obtain ⟨u, hu, h⟩ := bindO h
                obtain ⟨v, hv, h⟩ := bindO h
                obtain ⟨w, hw, rfl⟩ := map_some h
                exact sx_par3 G.calm hN (ix hi) (ix hj) (ix hm) (fun z => hij (.inl z)) (fun z => hij (.inr (.inl z))) (fun z => hij (.inr (.inr z))) (lcl h1) (lcl h2) (lcl h3)
                  (pax_cons h4 (cV_ok G tk hu) (pax_cons h5 (cV_ok G tk hv) (pax_cons h6 (cV_ok G tk hw) pax_nil))) (hsw _ _ _ _)
            · cases h
          · cases h
      · split at h
        · cases h
        · rename_i hc
          obtain ⟨y, hy, h⟩ := bindO h
          obtain ⟨t, ht, rfl⟩ := map_some h
          exact sx_sett (swp_plain (by simpa using hc)) (ie _ _ hy) (iT _ _ ht)
      · split at h
        · rename_i hc
          simp only [Bool.and_eq_true, Bool.not_eq_true'] at hc
          obtain ⟨i, hi, h⟩ := bindO h
          obtain ⟨q, hq, h⟩ := bindO h
          obtain ⟨y, hy, rfl⟩ := map_some h
          exact sx_seti (by have := G.room.un; omega) (ix hi) (vis hc.1.1) hc.1.2 hc.2 (ie _ _ hy) (ie _ _ hq)
        · cases h
      · split at h
        · rename_i hc
          simp only [Bool.and_eq_true, Bool.not_eq_true', decide_eq_true_eq] at hc
          obtain ⟨⟨⟨⟨h1, h2⟩, h3⟩, h4⟩, h5⟩ := hc
          subst h1
          obtain ⟨i, hi, h⟩ := bindO h
          obtain ⟨y, hy, rfl⟩ := map_some h
          exact sx_app (ix hi) (vis h2) h3 h4 h5 (ie _ _ hy)
        · cases h
      · split at h
        · rename_i hc
          simp only [Bool.and_eq_true, Bool.not_eq_true', decide_eq_true_eq] at hc
          obtain ⟨⟨⟨h1, h2⟩, h3⟩, h4⟩ := hc
          subst h1
          obtain ⟨o, ho, h⟩ := bindO h
          obtain ⟨y, hy, rfl⟩ := map_some h
          exact sx_appx rfl (ie _ _ ho) h3 h4 (ie _ _ hy)
        · cases h
      · split at h
        · cases h
        · rename_i hc
          obtain ⟨y, hy, rfl⟩ := map_some h
          exact sx_exp (by simpa using hc) (ie _ _ hy)
      · cases h; exact sx_retN
      · obtain ⟨y, hy, rfl⟩ := map_some h
        exact sx_ret (cV_ok G tk hy)
      · obtain ⟨z, hz, h⟩ := bindO h
        obtain ⟨x, hx, h⟩ := bindO h
        obtain ⟨y, hy, rfl⟩ := map_some h
        exact sx_if (ieo _ _ hz).2.1 (ih2 _ _ hx) (ih2 _ _ hy)
      · split at h
        · cases h
        · rename_i hs
          obtain ⟨i, hi, h⟩ := bindO h
          obtain ⟨t, ht, h⟩ := bindO h
          obtain ⟨y, hy, rfl⟩ := map_some h
          exact sx_for hp G.calm (iI _ _ _ hi) (iT _ _ ht) (ih2 _ _ hy) (fold_ok (by simpa using hs))
      · obtain ⟨z, hz, h⟩ := bindO h
        obtain ⟨y, hy, rfl⟩ := map_some h
        exact sx_while hp (ieo _ _ hz).2.1 (ih2 _ _ hy)
      · split at h
        · rename_i hc
          simp only [Bool.and_eq_true, Bool.not_eq_true'] at hc
          obtain ⟨i, hi, rfl⟩ := map_some h
          exact sx_raise G tk hc.1 hc.2 hi
        · cases h
      · split at h
        · rename_i hc
          simp only [Bool.and_eq_true, Bool.not_eq_true'] at hc
          obtain ⟨i, hi, h⟩ := bindO h
          obtain ⟨y, hy, rfl⟩ := map_some h
          exact sx_raiseT G tk hc.1.1 hc.1.2 hi (ie _ _ hy) hc.2
        · cases h
      · cases h; exact sx_pass
      · cases h
    · cases ss with
      | nil =>
        unfold cSs at h
        cases h
        exact ssx_nil
      | cons s r =>
        unfold cSs at h
        obtain ⟨a, ha, h⟩ := bindO h
        obtain ⟨b, hb, rfl⟩ := map_some h
        exact ssx_cons (ih1 _ _ ha) (ih2 _ _ hb)
end
end Ev
end

section
set_option Elab.async false
set_option linter.all false
set_option autoImplicit false
set_option maxRecDepth 100000
set_option maxHeartbeats 4000000
/-! # Defs: what is called does what the little language says -/
namespace Ev
open PySem PySem.Spec PyProof.Rows L2
section
variable {K : W.Frag} {T : List (Addr × Str)} {cl : Nat → Option Addr} {E : XK} {M : Ms} {H : Hp} {S : Store}
/-- the boxes made meanwhile are forgotten -/
def Ms.cut (M' M : Ms) : Ms := ⟨M.b, M'.x⟩
theorem cut_less {M' : Ms} (hp : M.b <+: M'.b) : ∀ a, a ∈ M'.cut M → a ∈ M' := fun a z => by
  rcases z with z | z
  · exact .inl (hp.subset z)
  · exact .inr z
theorem gr_cut {M' : Ms} {H' : Hp} (g : Gr M H M' H') : Gr M H (M'.cut M) H' where
  pre := List.prefix_refl _
  ext := g.ext
  keep := g.keep
  new := fun a z => by
    rcases z with z | z
    · exact .inl (.inl z)
    · exact g.new a (.inr z)
  newb := fun a z => .inl z
  dom := g.dom
  frz := g.frz
theorem st_cut {M' : Ms} {H' : Hp} {S' : Store} (st : StOk K T M S H) (g : Gr M H M' H') (s : StOk K T M' S' H') : StOk K T (M'.cut M) (S'.take S.length) H' where
  len := by
    show M.b.length = _
    rw [List.length_take, ← s.len, st.len]
    have := List.IsPrefix.length_le g.pre
    rw [st.len] at this
    omega
  nd := st.nd
  box := fun i a b e1 e2 => by
    have e1' : M.b[i]? = some a := e1
    have hi : i < S.length := by rw [← st.len]; exact (List.getElem?_eq_some_iff.mp e1').1
    rw [List.getElem?_take_of_lt hi] at e2
    have hb := s.box i a b (g.get e1') e2
    have ho := s.old i b e2
    have keep : ∀ (j : Nat) a, j < i → M'.b[j]? = some a → M.b[j]? = some a := fun j a hj e => by
      obtain ⟨c, hc⟩ : ∃ c, M.b[j]? = some c := ⟨M.b[j]'(by rw [st.len]; omega), by simp⟩
      have := g.get hc
      rw [e] at this
      cases this
      exact hc
    have vals : ∀ {vs : List V} {us : List U}, RUs K M' H' vs us → (∀ u, u ∈ us → ∀ j, u = .ref j → j < i) → RUs K (M'.cut M) H' vs us := fun {vs us} r => by
      induction r with
      | nil => intro _; exact .nil
      | cons h1 _ ih =>
        intro hj
        refine .cons ?_ (ih fun u hu => hj u (List.mem_cons_of_mem _ hu))
        rename_i v _ u _ _
        cases u with
        | d p => exact Rp.less (cut_less g.pre) h1
        | ref j =>
          obtain ⟨a, e, q⟩ := h1
          exact ⟨a, keep j a (hj _ List.mem_cons_self j rfl) e, q⟩
        | scr ns =>
          obtain ⟨a, e, q⟩ := h1
          exact ⟨a, e, q.imp (fun z => ⟨fun y => z.1 (cut_less g.pre _ y), z.2⟩) id⟩
        | obj a => exact h1
        | it ds =>
          obtain ⟨a, xs, e, n, q, r⟩ := h1
          exact ⟨a, xs, e, fun y => n (cut_less g.pre _ y), q, r.less (cut_less g.pre)⟩
    cases b with
    | lst ds =>
      obtain ⟨xs, e, r⟩ := hb
      exact ⟨xs, e, r.less (cut_less g.pre)⟩
    | dct lk kvs =>
      have hv : ∀ u, u ∈ kvs.map Prod.snd → ∀ j, u = .ref j → j < i := fun u hu j e => by
        obtain ⟨q, hq, e2⟩ := List.mem_map.mp hu
        exact ho q hq j (e2.trans e)
      rcases hb with ⟨o, vs, h1, d, r, q⟩ | ⟨k1, ws, h1, e, k, r, q⟩
      · exact .inl ⟨o, vs, h1, d, r.less (cut_less g.pre), vals q hv⟩
      · exact .inr ⟨k1, ws, h1, e, k, r.less (cut_less g.pre), vals q hv⟩
    | ins c fs =>
      obtain ⟨dx, vs, h1, e, r⟩ := hb
      refine ⟨dx, vs, h1, e, vals r fun u hu j ej => ?_⟩
      obtain ⟨q, hq, e2⟩ := List.mem_map.mp hu
      exact ho q hq j (e2.trans ej)
    | bl us =>
      obtain ⟨vs, h1, r⟩ := hb
      exact ⟨vs, h1, vals r ho⟩
    | exc c z l =>
      rcases l with _ | ⟨f, p⟩
      · obtain ⟨t, h1, n, h2⟩ := hb
        exact ⟨t, h1, fun y => n (cut_less g.pre _ y), h2⟩
      · obtain ⟨dx, v, h1, n, h2, r⟩ := hb
        exact ⟨dx, v, h1, fun y => n (cut_less g.pre _ y), h2, r.less (cut_less g.pre)⟩
  xt := fun a ha => by
    obtain ⟨n, o⟩ := s.xt a ha
    exact ⟨fun z => n (g.pre.subset z), o⟩
  tab := s.tab
  old := fun i b e => by
    by_cases hi : i < S.length
    · rw [List.getElem?_take_of_lt hi] at e
      exact s.old i b e
    · rw [List.getElem?_take_eq_none (by omega)] at e
      cases e
theorem rp_cut {M' : Ms} {H' : Hp} {v : V} {p : PyData} (hp : M.b <+: M'.b) (h : Rp K M' H' v p) : Rp K (M'.cut M) H' v p := h.less (cut_less hp)
/-- a def's end -/
theorem out_finish {keep : Bool} {r : R F} {Q : VK} (st : StOk K T M S H) (h : Out K T cl E M H (finish keep S.length r) (RU K) Q) : Out K T cl E M H r (relF K) (endF { nx := fun _ H' => Q .non H', rt := Q }) := by
  cases r with
  | bad => exact h
  | exc c S1 =>
    obtain ⟨C, e, h⟩ := h
    exact ⟨C, e, fun d M' H' hd g s => h d _ H' hd (gr_cut g) (st_cut st g s)⟩
  | ok f S1 =>
    cases f with
    | nx ρ' =>
      intro x M' H' g s q
      cases x with
      | inr v => exact q.elim
      | inl σ' => exact h .non _ H' (gr_cut g) (st_cut st g s) Rp.non
    | rt u =>
      intro x M' H' g s q
      cases x with
      | inl σ' => exact q.elim
      | inr v =>
        have q : RU K M' H' v u := q
        cases u with
        | d p =>
          have h : Out K T cl E M H (.ok (.d p) (if keep = true then S1 else S1.take S.length)) (RU K) Q := h
          cases keep with
          | true => exact h v M' H' g s q
          | false => exact h v _ H' (gr_cut g) (st_cut st g s) (rp_cut g.pre q)
        | scr ns => exact h.elim
        | obj a => exact h.elim
        | it ds => exact h.elim
        | ref i =>
          cases keep with
          | true => exact h v M' H' g s q
          | false =>
            have h : Out K T cl E M H (if i < S.length then .ok (.ref i) (S1.take S.length) else match deref S1 (.ref i) with
              | some p => if newOnly S.length S1 i = true then .ok (.d p) (S1.take S.length) else .bad
              | none => .bad) (RU K) Q := h
            obtain ⟨a, e1, rfl⟩ := q
            split at h
            · rename_i hi
              refine h (.ref a) _ H' (gr_cut g) (st_cut st g s) ⟨a, ?_, rfl⟩
              obtain ⟨b, hb⟩ : ∃ b, M.b[i]? = some b := ⟨M.b[i]'(by rw [st.len]; exact hi), by simp [st.len, hi]⟩
              have := g.get hb
              rw [e1] at this
              cases this
              exact hb
            · rename_i hi
              split at h
              · rename_i p ep
                split at h
                case isFalse => exact h.elim
                rename_i hnew
                refine h (.ref a) _ H' (gr_cut g) (st_cut st g s) ?_
                have rs := rs_of (K := K) (T := T) (M := M') (S := S1) (H := H') (v := .ref a) (u := .ref i) ⟨a, e1, rfl⟩ s ep
                have na : a ∉ M'.cut M := by
                  rintro (z | z)
                  · obtain ⟨j, hj⟩ := List.getElem?_of_mem z
                    have hl : j < S.length := by rw [← st.len]; exact (List.getElem?_eq_some_iff.mp hj).1
                    have := nd_ix s.nd e1 (g.get hj)
                    omega
                  · exact (s.xt a z).1 (List.mem_of_getElem? e1)
                cases p with
                | list ds =>
                  obtain ⟨a', xs, e2, h2, r2⟩ := rs
                  cases e2
                  exact .lst na h2 (r2.less (cut_less g.pre))
                | none => cases rs.none
                | bool b => cases rs.bool
                | int b => cases rs.int
                | str b => cases rs.str
                | tuple ds =>
                  obtain ⟨b, hb, hbx⟩ := s.lt e1
                  cases b with
                  | lst ds => simp only [deref, hb] at ep; cases ep
                  | dct lk kvs =>
                    simp only [deref, hb] at ep
                    obtain ⟨z, _, e⟩ := map_some ep
                    cases e
                  | ins _ _ => simp only [deref, hb] at ep; cases ep
                  | bl _ => simp only [deref, hb] at ep; cases ep
                  | exc _ _ _ => simp only [deref, hb] at ep; cases ep
                | dict ds =>
                  obtain ⟨b, hb, hbx⟩ := s.lt e1
                  cases b with
                  | lst ds => simp only [deref, hb] at ep; cases ep
                  | ins _ _ => simp only [deref, hb] at ep; cases ep
                  | bl _ => simp only [deref, hb] at ep; cases ep
                  | exc _ _ _ => simp only [deref, hb] at ep; cases ep
                  | dct lk kvs =>
                    simp only [deref, hb] at ep
                    obtain ⟨z, ez, e⟩ := map_some ep
                    cases e
                    unfold newOnly at hnew
                    rw [hb] at hnew
                    have hnew := List.all_eq_true.mp hnew
                    have vals : ∀ {kvs : List (PyData × U)} {ds : List (PyData × PyData)} {ws : List V}, derefKV S1 kvs = some ds → (∀ q, q ∈ kvs → ∀ j, q.2 = .ref j → S.length ≤ j) → RUs K M' H' ws (kvs.map Prod.snd) → RpA K (M'.cut M) H' ws (ds.map Prod.snd) := fun {kvs} => by
                      induction kvs with
                      | nil =>
                        intro ds ws e _ r
                        cases e
                        cases r
                        exact .nil
                      | cons q r ih =>
                        intro ds ws e hj ru
                        unfold derefKV at e
                        obtain ⟨p, e1, e⟩ := bindO e
                        obtain ⟨zs, e2, rfl⟩ := map_some e
                        cases ru with
                        | cons r1 r2 =>
                          refine .cons ?_ (ih e2 (fun q hq => hj q (List.mem_cons_of_mem _ hq)) r2)
                          have hj := hj q List.mem_cons_self
                          obtain ⟨k, u⟩ := q
                          cases u with
                          | d x =>
                            cases e1
                            exact Rp.less (cut_less g.pre) r1
                          | ref j =>
                            obtain ⟨c, ec, rfl⟩ := r1
                            obtain ⟨bj, ej, hbj⟩ := s.lt ec
                            have e1 : (match S1[j]? with | some (.lst xs) => some (PyData.list xs) | _ => none) = some p := e1
                            rw [ej] at e1
                            cases bj with
                            | lst xs =>
                              cases e1
                              obtain ⟨ys, g1, g2⟩ := hbj
                              refine .lst ?_ g1 (g2.less (cut_less g.pre))
                              rintro (z | z)
                              · obtain ⟨m, hm⟩ := List.getElem?_of_mem z
                                have hl : m < S.length := by rw [← st.len]; exact (List.getElem?_eq_some_iff.mp hm).1
                                have := nd_ix s.nd ec (g.get hm)
                                have := hj j rfl
                                omega
                              · exact (s.xt _ z).1 (List.mem_of_getElem? ec)
                            | _ => cases e1
                          | _ => cases e1
                    have hj : ∀ q, q ∈ kvs → ∀ j, q.2 = .ref j → S.length ≤ j := fun q hq j e => by
                      have := hnew q hq
                      rw [e] at this
                      exact of_decide_eq_true this
                    have ek := derefKV_keys ez
                    rcases hbx with ⟨o, vs, h1, d, r, q⟩ | ⟨k1, ws, h1, e, k, r, q⟩
                    · exact .dct na (Rd_if h1) (by rw [ek]; exact d) (by rw [ek]; exact r.less (cut_less g.pre)) (vals ez hj q)
                    · exact .dks na h1 (fun z => e (map_nil (by rw [← ek, z]; rfl))) (by rw [ek]; exact k) (by rw [ek]; exact r.less (cut_less g.pre)) (vals ez hj q)
              · exact h.elim
/-- a def's names, at its start -/
theorem env_start {nn : Nat} {N : List Str} {vs : List V} {us : List U} (hn : N.length = nn) (hl : us.length ≤ nn) (r : RUs K M H vs us) : EnvOk K (start nn us) (L2.start N vs) M H := by
  have e := r.length
  refine ⟨?_, fun i u h => ?_⟩
  · unfold start L2.start
    simp
    omega
  · unfold start at h
    unfold L2.start
    by_cases hi : i < us.length
    · rw [List.getElem?_append_left (by simpa using hi), List.getElem?_map] at h
      obtain ⟨u', e1, e2⟩ := map_some h
      cases e2
      have key : ∀ {vs : List V} {us : List U} {i : Nat} {u : U}, RUs K M H vs us → us[i]? = some u → ∃ v, vs[i]? = some v ∧ RU K M H v u := fun {vs us i u} r => by
        induction r generalizing i with
        | nil => intro h; simp at h
        | cons h1 _ ih =>
          intro h
          cases i with
          | zero => simp at h; subst h; exact ⟨_, rfl, h1⟩
          | succ i => simpa using ih (i := i) (by simpa using h)
      obtain ⟨v, e3, r3⟩ := key r e1
      refine ⟨v, ?_, r3⟩
      rw [List.getElem?_append_left (by simp; omega), List.getElem?_map, e3]
      rfl
    · rw [List.getElem?_append_right (by simpa using hi), List.getElem?_replicate] at h
      split at h <;> cases h
end
end Ev
end

section
set_option Elab.async false
set_option linter.all false
set_option autoImplicit false
set_option maxRecDepth 100000
set_option maxHeartbeats 4000000
/-! # All defs of a program's table -/
namespace Ev
open PySem PySem.Spec PyProof.Rows L2
/-- hints of a def: names that hold errors; that hold lists of values of any kind -/
structure Hi where
  xn : List Str := []
  blx : List Str := []
/-- a def: its name, its text, all its names (the parameters first), its parameters; the names of lists that are changed in place; lambdas are made; a list is handed back that is changed in place -/
structure Row where
  nm : Str
  st : Stmt
  N : List Str
  ps : List Str
  bx : List Str
  lam : Bool
  keep : Bool
  hi : Hi
def Row.cfg (g : Cfg) (r : Row) : Cfg := { g with bx := r.bx, lam := r.lam, keep := r.keep, hn := { g.hn with xn := r.hi.xn, blx := r.hi.blx } }
def Row.ir (g : Cfg) (r : Row) : Option Fn := (cSs (r.cfg g) r.N (defScope r.st) 1000 (defBody r.st)).map fun b => ⟨r.ps.length, r.N.length, r.keep, b⟩
/-- how the arguments of a def bind -/
def Row.Bnd (r : Row) : Prop := ∀ (kV doc pm : Value) (an : Option Addr) (cdv ct : Value) (us : List Value), us.length = r.ps.length → bindArgs (W.fnOf r.nm r.nm (defArgs r.st) (defBody r.st) (defScope r.st) .none kV doc pm an cdv ct) ⟨us, []⟩ = pure (r.ps.zip us)
/-- what the program's top has laid -/
structure Lay (g : Cfg) (rows : List Row) (tab : Tab) (T : List (Addr × Str)) (cl : Nat → Option Addr) (P : Program) (w : World) (K : W.Frag) (mg : Str → Option Value) (base : Heap) : Prop where
  ir : ∀ (i : Nat) r, rows[i]? = some r → ∃ fn, tab.fns[i]? = some fn ∧ r.ir g = some fn
  sc : ∀ r, r ∈ rows → FnScope r.N r.ps (defScope r.st)
  bnd : ∀ r, r ∈ rows → r.Bnd
  fn : ∀ r, r ∈ rows → ∃ f fd, mg r.nm = some (.ref f) ∧ FunD K r.nm r.nm (defArgs r.st) (defBody r.st) (defScope r.st) [] [] f fd
  lam : ∀ r, r ∈ rows → r.lam = true → ∀ f fd, mg r.nm = some (.ref f) → FunD K r.nm r.nm (defArgs r.st) (defBody r.st) (defScope r.st) [] [] f fd → ∃ cA Pt, fd.code = .ref cA ∧ LamX.TabB base mg cA Pt ∧ (Pt, r.nm ++ ".<locals>." ++ "<lambda>") ∈ T ∧ ∀ p ∈ T, p.1 = Pt → p.2 = r.nm ++ ".<locals>." ++ "<lambda>"
  ix : ∀ x i, g.fnIx x = some i → ∃ r, rows[i]? = some r ∧ r.nm = x
  np : ∀ i, g.np i = (rows[i]?).map (·.ps.length)
  clss : ∀ x i, g.clIx x = some i → ∃ C, cl i = some C ∧ mg x = some (.ref C) ∧ W.keepIn K (.ref C) = true ∧ W.excIn K C [.type "ValueError", .type "Exception", .type "BaseException", .type "object"] "ValueError.__new__" = true ∧ W.subIn K (.ref C) (.type "BaseException") = some true ∧ W.typeIn K (.ref C) = some (.type "type")
  clst : ∀ x i, g.clTx x = some i → ∃ C f fI, cl i = some C ∧ mg x = some (.ref C) ∧ TmDef P K mg C fI f ∧ W.findIn K (.ref C) "__init__" = some (some (.ref fI)) ∧ W.typeIn K (.ref fI) = some (.type "function")
  nms : ∀ i z, tab.nm i = some z → ∃ C, cl i = some C
  errs : ∀ x, g.errs x = true → ErrDef T cl tab.nm P w K mg base x
  blts : ∀ x, x ∈ bltNames → mg x = none
  cons : ∀ x p, g.con x = some p → ∃ u v, mg x = some u ∧ RelV v u ∧ ∀ M H, Rp K M H v p
  xok : ∀ r, r ∈ rows → XOk (r.cfg g).hn P K mg
section
variable {g : Cfg} {rows : List Row} {tab : Tab} {T : List (Addr × Str)} {cl : Nat → Option Addr} {P : Program} {w : World} {K : W.Frag} {mg : Str → Option Value} {base : Heap}
/-- calls that come to nothing -/
theorem fn_bad {cf : CF} {i k n : Nat} {f : Addr} {fd : FuncData} {ps : List Str} (hl : ps.length = n) (h : ∀ us S, cf i us S = .bad) : FnOk P w K mg base (L2N.CX P w) k f fd ps (spC K T cl cf i n) :=
  ⟨fun vs H Q E ⟨M, S, us, _, _, _, q⟩ => (by rw [h] at q; exact q.elim), fun A outer s H args us vs Q E _ _ _ _ ⟨M, S, us', _, _, _, q⟩ => by rw [h] at q; exact q.elim⟩
/-- a table of calls of one depth keeps its word -/
def All (g : Cfg) (rows : List Row) (T : List (Addr × Str)) (cl : Nat → Option Addr) (P : Program) (w : World) (K : W.Frag) (mg : Str → Option Value) (base : Heap) (k : Nat) (cf : CF) : Prop :=
  ∀ (i : Nat) r, rows[i]? = some r → ∀ f fd, mg r.nm = some (.ref f) → FunD K r.nm r.nm (defArgs r.st) (defBody r.st) (defScope r.st) [] [] f fd → FnOk P w K mg base (L2N.CX P w) k f fd r.ps (spC K T cl cf i r.ps.length)
theorem all_bad {k : Nat} {cf : CF} (h : ∀ i us S, cf i us S = .bad) : All g rows T cl P w K mg base k cf := fun i r hr f fd _ _ => fn_bad rfl fun us S => h i us S
/-- a body that is walked in the context of its def -/
theorem good_of (L : Lay g rows tab T cl P w K mg base) {n : Nat} {c : Cn} {r : Row} (hr : r ∈ rows) {f : Addr} {fd : FuncData} (hf : mg r.nm = some (.ref f)) (F : FunD K r.nm r.nm (defArgs r.st) (defBody r.st) (defScope r.st) [] [] f fd)
    (hc : All g rows T cl P w K mg base (n + 2) c.call) (hl : ∀ lf, c.low = some lf → All g rows T cl P w K mg base n lf) (hnm : c.nm = tab.nm)
    (ar : ∀ (i m : Nat) us S, g.np i = some m → us.length ≠ m → c.call i us S = .bad) (arL : ∀ lf, c.low = some lf → ∀ (i m : Nat) us S, g.np i = some m → us.length ≠ m → lf i us S = .bad)
    {A : Around} {outer : List Env} {s : Shared} {H : Hp} {E : XK} {cdv : Value} (hcd : fd.code = cdv) (hR : Room (n + 2) (A.deeper (envOfC r.nm (defScope r.st) s.heap.objs.size f cdv))) :
    Good (r.cfg g) T cl c (n + 2) n (cxOf (L2N.CX P w) P w K mg base r.N r.nm (defScope r.st) f cdv A outer s H E) r.N (defScope r.st) fbDef where
  names := rfl
  nd := (L.sc r hr).nd
  scope := rfl
  calm := rfl
  room := hR
  fbk := fun _ _ => .inl rfl
  fns := fun x i hi => by
    obtain ⟨r', h1, h2⟩ := L.ix x i hi
    have hm := List.mem_of_getElem? h1
    obtain ⟨f', fd', h3, F'⟩ := L.fn r' hm
    refine ⟨f', fd', r'.ps, r'.ps.length, ?_, rfl, by rw [← h2]; exact h3, F'.kp, F'.bindsN (L.bnd r' hm), hc i r' h1 f' fd' h3 F', fun lf e => hl lf e i r' h1 f' fd' h3 F'⟩
    show g.np i = _
    rw [L.np, h1]
    rfl
  low := fun lf e => ⟨Nat.le_refl _, fun z => by
    obtain ⟨cA, Pt, h1, h2, h3, h4⟩ := L.lam r hr z f fd hf F
    refine ⟨cA, Pt, h2, ?_, h3, h4⟩
    show cdv = _
    rw [← hcd, h1]⟩
  clss := L.clss
  clst := L.clst
  nms := by rw [hnm]; exact L.nms
  errs := by rw [hnm]; exact L.errs
  ar := ar
  arL := arL
  blts := L.blts
  cons := L.cons
  xok := L.xok r hr
theorem runF_ar {c : Cn} (L : Lay g rows tab T cl P w K mg base) (i m : Nat) (us : List U) (S : Store) (h : g.np i = some m) (hl : us.length ≠ m) : runF tab c i us S = .bad := by
  rw [L.np] at h
  obtain ⟨r, e1, rfl⟩ := map_some h
  obtain ⟨fn, e2, e3⟩ := L.ir i r e1
  unfold Row.ir at e3
  obtain ⟨b, _, rfl⟩ := map_some e3
  unfold runF
  rw [e2]
  exact if_neg hl
/-- one depth more -/
theorem all_run (L : Lay g rows tab T cl P w K mg base) {n : Nat} {c : Cn} (hc : All g rows T cl P w K mg base (n + 2) c.call) (hl : ∀ lf, c.low = some lf → All g rows T cl P w K mg base n lf) (hnm : c.nm = tab.nm)
    (ar : ∀ (i m : Nat) us S, g.np i = some m → us.length ≠ m → c.call i us S = .bad) (arL : ∀ lf, c.low = some lf → ∀ (i m : Nat) us S, g.np i = some m → us.length ≠ m → lf i us S = .bad) : All g rows T cl P w K mg base (n + 3) (runF tab c) := by
  intro i r hi f fd hf F
  have hr := List.mem_of_getElem? hi
  obtain ⟨fn, e2, e3⟩ := L.ir i r hi
  have S := L.sc r hr
  obtain ⟨oc, od, dV, kV, doc, pm, an, cdv, ct, osl, efd, lk, hcd, _, _⟩ := F.ex
  have hcode : fd.code = cdv := by rw [efd]
  subst efd
  unfold Row.ir at e3
  obtain ⟨b, e4, e5⟩ := map_some e3
  have hpl : r.ps.length ≤ r.N.length := by
    have := congrArg List.length S.pre
    rw [List.length_take] at this
    omega
  refine fn_of lk hcd S (fun vs H Q E ⟨M, S', us, ru, _, hl', _⟩ => by rw [ru.length, hl']) fun A outer s H vs Q E hR ⟨M, S', us, ru, st, hl', q⟩ => ?_
  have G := good_of L (c := c) hr hf F hc hl hnm ar arL (A := A) (outer := outer) (s := s) (H := H) (E := E) hcode hR
  refine ⟨_, (cS_ok G (L2N.takes_of rfl rfl rfl rfl) (passes_of rfl) 1000).2 _ _ e4, start r.N.length us, M, S', env_start rfl (by omega) ru, st, out_finish (keep := r.keep) st ?_⟩
  unfold runF at q
  rw [e2, ← e5] at q
  dsimp only at q
  rw [if_pos hl'] at q
  exact q
theorem all_ok (L : Lay g rows tab T cl P w K mg base) : ∀ n, (All g rows T cl P w K mg base (n + 2) (callP tab n).a ∧ All g rows T cl P w K mg base (n + 1) (callP tab n).b ∧ All g rows T cl P w K mg base n (callP tab n).c) ∧
    (∀ (i m : Nat) us S, g.np i = some m → us.length ≠ m → (callP tab n).a i us S = .bad) ∧ (∀ (i m : Nat) us S, g.np i = some m → us.length ≠ m → (callP tab n).b i us S = .bad) ∧ ∀ (i m : Nat) us S, g.np i = some m → us.length ≠ m → (callP tab n).c i us S = .bad := by
  intro n
  induction n with
  | zero => exact ⟨⟨all_bad fun _ _ _ => rfl, all_bad fun _ _ _ => rfl, all_bad fun _ _ _ => rfl⟩, fun _ _ _ _ _ _ => rfl, fun _ _ _ _ _ _ => rfl, fun _ _ _ _ _ _ => rfl⟩
  | succ n ih =>
    obtain ⟨⟨h1, h2, h3⟩, a1, a2, a3⟩ := ih
    have low : ∀ lf, (cnN tab n).low = some lf → lf = (callP tab n).c := fun lf e => by cases e; rfl
    exact ⟨⟨all_run L (c := cnN tab n) h1 (fun lf e => by rw [low lf e]; exact h3) rfl a1 (fun lf e => by rw [low lf e]; exact a3), h1, h2⟩, fun i m us S h hl => runF_ar L i m us S h hl, a1, a2⟩
/-- the law's def -/
theorem law_ok (L : Lay g rows tab T cl P w K mg base) {i n : Nat} {r : Row} (hi : rows[i]? = some r) {f : Addr} {fd : FuncData} (hf : mg r.nm = some (.ref f)) (F : FunD K r.nm r.nm (defArgs r.st) (defBody r.st) (defScope r.st) [] [] f fd) :
    FnOk P w K mg base (L2N.CX P w) (n + 2) f fd r.ps (spC K T cl (callN tab n) i r.ps.length) := (all_ok L n).1.1 i r hi f fd hf F
end
end Ev
end

section
set_option Elab.async false
set_option linter.all false
set_option autoImplicit false
set_option maxRecDepth 100000
set_option maxHeartbeats 4000000
/-! # What is to be asked of the class with a maker; a hook that sees the statics too -/
namespace Ev
open PySem PySem.Spec PyProof.Rows L2
theorem tm_binds {nm qual : Str} {n1 n2 : Option Expr} {q1 q2 : Pos} {body : List Stmt} {scope : Scope} {kV doc pm cdv ct : Value} {an : Option Addr} {cc : Addr} (a v : Value) :
    bindArgs (W.ksFn nm qual ⟨[], [⟨"self", n1, q1⟩, ⟨"limit", n2, q2⟩], none, [], [], none, []⟩ body scope .none kV doc pm an cdv ct cc) ⟨[a, v], []⟩ = pure [(("self" : Str), a), (("limit" : Str), v)] := by first | rfl | kernel_rfl
def eqVN : Value → Bool
  | .none => true
  | _ => false
def tmCode (file : Str) (K : W.Frag) (cda : Addr) : Bool := match K.lookup cda with
  | some ⟨_, _, .fields vs, _⟩ => (match (vs[2]? : Option Value) with
    | some (.str z _) => decide (z = file)
    | _ => false)
  | _ => false
def tmCell (K : W.Frag) (cc C : Addr) : Bool := match K.lookup cc with
  | some ⟨_, _, .cell (some (.ref D)), _⟩ => decide (D = C)
  | _ => false
def tmScope (sc : Scope) (x y : Str) : Bool :=
  decide (sc.names.lookup ("super" : Str) = some .globalImplicit) && decide (sc.names.lookup ("__class__" : Str) = some .free) && decide (sc.names.lookup x = some .local) && decide (sc.names.lookup y = some .local) && decide (sc.kind = .function) && !sc.isCoroutine && !sc.isGenerator &&
  (sc.names.all fun z => decide (z.2 ≠ .cell)) && !(x == ("__debug__" : Str)) && !(y == ("__debug__" : Str)) && decide (y ≠ x)
def tmBody (f x y : Str) : List Stmt → Bool
  | [.Expr (.Call (.Attribute (.Call (.Name s _) [] [] _) i p2) [.Constant (.str _) _ _] [] p4) _, .Assign [.Attribute (.Name x1 _) f1 _] (.Name y1 _) _] => decide (s = "super") && decide (i = "__init__") && decide (x1 = x) && decide (y1 = y) && decide (f1 = f) && (p2.endLine == p4.line)
  | _ => false
def tmFun (file : Str) (K : W.Frag) (C fI : Addr) (f : Str) : Bool := match K.lookup fI with
  | some ⟨_, _, .func fd, _⟩ => (match fd.params, fd.body, fd.closure, fd.code with
    | ⟨[], [a1, a2], none, [], [], none, []⟩, .stmts b, [(c, cc)], .ref cda => decide (c = "__class__") && decide (a1.arg = "self") && decide (a2.arg = "limit") && tmBody f a1.arg a2.arg b && tmScope fd.scope a1.arg a2.arg && W.codeIn K (.ref cda) fd.qualname && tmCode file K cda && tmCell K cc C && eqVN fd.defaults && decide (fd.globals = mainGlobals) && decide (fd.builtins = builtinsNs)
    | _, _, _, _ => false)
  | _ => false
def tmCls (K : W.Frag) (C : Addr) : Bool := match K.lookup C with
  | some ⟨.type t, _, .cls cd, sl⟩ => decide (t = "type") && (match cd.mro, sl.toList with
    | .ref D :: bm, [_, _, _, _, some (.builtin n), _] => decide (D = C) && decide (n = "ValueError.__new__") && cd.hasDict && !cd.hasDel && PySem.HandSPX.refsVE bm
    | _, _ => false)
  | _ => false
def tmB (file : Str) (K : W.Frag) (C fI : Addr) (f : Str) : Bool :=
  tmCls K C && decide (W.findIn K (.ref C) "__setattr__" = some (some (.builtin "object.__setattr__"))) && decide (W.subIn K (.ref C) (.type "BaseException") = some true) && decide (W.typeIn K (.ref C) = some (.type "type")) && W.keepIn K (.ref C) &&
  decide (W.ks_superIn K C C "__init__" = some (some (.builtin "ValueError.__init__"))) && decide (W.subIn K (.ref C) (.type "ValueError") = some true) && decide (W.mroIn K C (.ref C) = some true) && decide (W.nsIn K cStatics "thirdparty.any" = some none) && decide (W.findIn K (.ref C) f = some none) &&
  tmFun file K C fI f && decide (W.findIn K (.ref C) "__init__" = some (some (.ref fI))) && decide (W.typeIn K (.ref fI) = some (.type "function"))
theorem eqVN_ok {v : Value} (h : eqVN v = true) : v = .none := by cases v <;> first | rfl | cases h
theorem tmCls_ok {K : W.Frag} {C : Addr} (h : tmCls K C = true) : ∃ nm q N bs bm sn sub ab col dd k0 k1 k2 k3 k5, K.lookup C = some (excClassObj nm q C N bs bm true sn sub ab col dd k0 k1 k2 k3 k5 "ValueError.__new__") ∧ PySem.HandSPX.refsVE bm = true := by
  unfold tmCls at h
  split at h
  · rename_i t dd cd sl e
    rw [Bool.and_eq_true, decide_eq_true_eq] at h
    obtain ⟨rfl, h⟩ := h
    split at h
    · rename_i D bm k0 k1 k2 k3 n k5 hm hs
      simp only [Bool.and_eq_true, decide_eq_true_eq, Bool.not_eq_true'] at h
      obtain ⟨⟨⟨⟨rfl, rfl⟩, h1⟩, h2⟩, h3⟩ := h
      obtain ⟨nm, bs, mro, ns, qn, hd, sn, sub, ab, col, del⟩ := cd
      dsimp only at hm h1 h2
      subst hm h1 h2
      obtain ⟨l⟩ := sl
      have hs : l = [k0, k1, k2, k3, some (.builtin "ValueError.__new__"), k5] := hs
      subst hs
      exact ⟨nm, qn, ns, bs, bm, sn, sub, ab, col, dd, k0, k1, k2, k3, k5, e, h3⟩
    · cases h
  · cases h
theorem tmCode_ok {file : Str} {K : W.Frag} {a : Addr} (h : tmCode file K a = true) : ∃ cl d vs sl t, K.lookup a = some ⟨cl, d, .fields vs, sl⟩ ∧ vs[2]? = some (.str file t) := by
  unfold tmCode at h
  split at h
  · rename_i cl d vs sl e
    split at h
    · rename_i z t e2
      have h := of_decide_eq_true h
      subst h
      exact ⟨cl, d, vs, sl, t, e, e2⟩
    · cases h
  · cases h
theorem tmCell_ok {K : W.Frag} {a C : Addr} (h : tmCell K a C = true) : ∃ cl d sl, K.lookup a = some ⟨cl, d, .cell (some (.ref C)), sl⟩ := by
  unfold tmCell at h
  split at h
  · rename_i cl d D sl e
    have h := of_decide_eq_true h
    subst h
    exact ⟨cl, d, sl, e⟩
  · cases h
theorem tmBody_ok {f x y : Str} {b : List Stmt} (h : tmBody f x y b = true) : ∃ m j p0 p1 p2 p3 p4 p5 p6 p7 p8 p9, (p2.endLine == p4.line) = true ∧
    b = [.Expr (.Call (.Attribute (.Call (.Name "super" p0) [] [] p1) "__init__" p2) [.Constant (.str m) j p3] [] p4) p5, .Assign [.Attribute (.Name x p6) f p7] (.Name y p8) p9] := by
  unfold tmBody at h
  split at h
  · simp only [Bool.and_eq_true, decide_eq_true_eq] at h
    obtain ⟨⟨⟨⟨⟨rfl, rfl⟩, rfl⟩, rfl⟩, rfl⟩, h⟩ := h
    exact ⟨_, _, _, _, _, _, _, _, _, _, _, _, h, rfl⟩
  · cases h
theorem tmB_ok {file : Str} {P : Program} {K : W.Frag} {mg : Str → Option Value} {C fI : Addr} {f : Str} (h : tmB file K C fI f = true) (hfile : ((P.main.file : Str) == file) = true) (htop : (P.main.scope.names.lookup ("super" : Str)).isSome = false) (hmg : mg "super" = none) :
    TmDef P K mg C fI f ∧ W.findIn K (.ref C) "__init__" = some (some (.ref fI)) ∧ W.typeIn K (.ref fI) = some (.type "function") := by
  unfold tmB at h
  simp only [Bool.and_eq_true, decide_eq_true_eq] at h
  obtain ⟨⟨⟨⟨⟨⟨⟨⟨⟨⟨⟨⟨h1, h2⟩, h3⟩, h4⟩, h5⟩, h6⟩, h7⟩, h8⟩, h9⟩, h10⟩, h11⟩, h12⟩, h13⟩ := h
  refine ⟨⟨⟨tmCls_ok h1, h2, h3, h4, h5⟩, h6, h7, h8, h9, hmg, htop, h10, ?_⟩, h12, h13⟩
  unfold tmFun at h11
  split at h11
  · rename_i oc od fd osl e
    obtain ⟨nm, qual, params, fbody, scope, globals, closure, dV, kV, doc, pm, an, code, ct, builtins⟩ := fd
    dsimp only at h11
    split at h11
    · rename_i a1 a2 b c cc cda
      simp only [Bool.and_eq_true, decide_eq_true_eq] at h11
      obtain ⟨⟨⟨⟨⟨⟨⟨⟨⟨⟨h1, h2⟩, h3⟩, h4⟩, h5⟩, h6⟩, h7⟩, h8⟩, h9⟩, h10⟩, h11⟩ := h11
      obtain ⟨x1, n1, q1⟩ := a1
      obtain ⟨x2, n2, q2⟩ := a2
      dsimp only at h2 h3 h4 h5
      have h9 := eqVN_ok h9
      subst h1 h2 h3 h9 h10 h11
      obtain ⟨m, j, p0, p1, p2, p3, p4, p5, p6, p7, p8, p9, hl, rfl⟩ := tmBody_ok h4
      obtain ⟨ccl, cdd, vs, ccs, tf, c1, c2⟩ := tmCode_ok h7
      obtain ⟨cl, cld, csl, d1⟩ := tmCell_ok h8
      unfold tmScope at h5
      simp only [Bool.and_eq_true, decide_eq_true_eq, Bool.not_eq_true', List.all_eq_true] at h5
      obtain ⟨⟨⟨⟨⟨⟨⟨⟨⟨⟨s1, s2⟩, s3⟩, s4⟩, s5⟩, s6⟩, s7⟩, s8⟩, s9⟩, s10⟩, s11⟩ := h5
      refine ⟨cda, cc, nm, qual, m, file, ⟨"self", n1, q1⟩, ⟨"limit", n2, q2⟩, scope, .none, kV, doc, pm, ct, oc, ccl, cl, an, od, cdd, cld, osl, ccs, csl, vs, tf, j, p0, p1, p2, p3, p4, p5, p6, p7, p8, p9, e, h6, c1, c2, hfile, d1, s1, s2, s3, s4, s5, s6, s7, s8, s9, s10, s11, hl, fun s a v => BindsTo.of_eq (tm_binds a v)⟩
    · cases h11
  · cases h11
/-! ### a hook that sees the statics too -/
def asY (g : Addr → Option Obj) (n : Nat) : List Addr := cStatics :: He.asD g n
def obsY (n : Nat) (fa : List He.Fa) (fn : List He.DefD) (tf : List He.Defn) (ex : W.Frag → Bool) (g : Addr → Option Obj) : He.AlX := (He.obsT fa fn [] (He.frT g (asY g n)), ex (He.frT g (asY g n)) && He.tabsB g tf (He.frT g (asY g n)))
theorem saysY {K : W.Frag} {g : Addr → Option Obj} {as : List Addr} (hK : K = He.frT g as) {fa : List He.Fa} {fn : List He.DefD} {tf : List He.Defn} {ex : W.Frag → Bool} {w : World} {h : Heap} (hg : g = h.get?) (e : (He.obsT fa fn [] K, ex K && He.tabsB g tf K) = He.valX fn [] w) : He.SaysX fa fn [] tf ex w h K := by
  obtain ⟨e1, e2⟩ := Prod.mk.inj e
  rw [Bool.and_eq_true] at e2
  have tab : ∀ p, p ∈ tf → W.codeHdIn K (He.cT K p).1 (He.cT K p).2 = true ∧ ∃ o, h.get? (He.cT K p).2 = some o ∧ He.emptyTab o = true := fun p hp => by
    have q := List.all_eq_true.mp e2.2 p hp
    rw [Bool.and_eq_true, hg] at q
    cases z : h.get? (He.cT K p).2 with
    | none => rw [z] at q; cases q.2
    | some o => rw [z] at q; exact ⟨q.1, o, rfl, q.2⟩
  exact {
    t := e1
    more := e2.1
    hd := fun p hp => (tab p hp).1
    out := fun p hp => by
      obtain ⟨_, o, z1, z2⟩ := tab p hp
      have z3 := He.frT_none (as := as) (g := g) (by rw [hg]; exact z1) z2
      rw [← hK] at z3
      exact z3
    empty := fun p hp => by
      obtain ⟨_, o, z1, z2⟩ := tab p hp
      rw [z1, He.emptyTab_eq z2] }
def hookY (n : Nat) (fa : List He.Fa) (fn : List He.DefD) (tf : List He.Defn) (ex : W.Frag → Bool) : W.Hook where
  α := He.AlX
  obs := fun s => obsY n fa fn tf ex s.heap.get?
  val := fun w => He.valX fn [] w
  says := fun w h => ∃ K : W.Frag, K.In h ∧ He.SaysX fa fn [] tf ex w h K
  of := fun _ _ e => ⟨_, He.frT_in, saysY rfl rfl e⟩
  keeps := fun _ _ _ z k => by
    obtain ⟨K, i, c⟩ := z
    exact ⟨K, i.keeps k, ⟨c.t, c.more, c.hd, c.out, fun p hp => k _ _ (c.empty p hp)⟩⟩
theorem obsY_eq {n : Nat} {fa : List He.Fa} {fn : List He.DefD} {tf : List He.Defn} {ex : W.Frag → Bool} {g : Addr → Option Obj} {s : Shared} (h : ∀ a, g a = s.heap.get? a) : obsY n fa fn tf ex g = (hookY n fa fn tf ex).obs s := by
  rw [show g = s.heap.get? from funext h]
  rfl
end Ev
end

section
set_option Elab.async false
set_option linter.all false
set_option autoImplicit false
set_option maxRecDepth 100000
set_option maxHeartbeats 4000000
/-! # While an exception is handled: ends of iterators, tuples taken apart -/
namespace Ev
open PySem PySem.Spec PyProof.Rows L2 HotX
section
variable {prog : Program} {w : World} {A : Around} {E : Value → Shared → Prop} {s : Shared} {x1 : Addr}
theorem hot_keep {h h' : Heap} {it : Addr} (hot : HotAt A x1 h) (n : x1 ≠ it) (k : Heap.ExtBut it h h') : HotAt A x1 h' := by
  obtain ⟨hh, o, vs, e, d, c⟩ := hot
  exact ⟨hh, o, vs, k _ _ n e, d, c⟩
/-- a StopIteration is made and thrown -/
theorem stop_hot {α : Type} {Q : α → Shared → Prop} (hot : HotAt A x1 s.heap)
    (hE : ∀ h' e, (∀ b o, s.heap.get? b = some o → h'.get? b = some o) → (∃ o, h'.get? e = some o ∧ o.cls = .type "StopIteration") → E (.ref e) { s with heap := h' }) :
    wpAny (model prog w) A ((newExc (.type "StopIteration") [] : Sem Value) >>= fun e => (raiseNew e : Sem α)) Q E s := by
  obtain ⟨hh, o1, vs1, h1, d1, c1⟩ := hot
  refine wpAny_bind ?_
  simp only [newExc, newTuple]
  refine wpAny_bind (wpAny_newObj_type ?_ (by size_fits))
  refine wpAny_bind (m := firstArgMember _ _) (wpAny_of_eq (a := Value.none) (by first | rfl | (simp only [firstArgMember]; rfl)) ?_)
  refine wpAny_newObj_type ?_ (by size_fits)
  refine raiseNew_hot ⟨hh, o1, vs1, Heap.get?_push_of_some _ (Heap.get?_push_of_some _ h1), d1, c1⟩ (Nat.ne_of_lt (Heap.lt_size (Heap.get?_push_of_some _ h1))) (Heap.get?_push_size _ rfl) rfl (by first | (simp; done) | (simp; omega) | (simp only [Array.size_append]; simp; omega)) ?_
  refine hE _ _ (fun b o e => ?_) ⟨_, Heap.get?_update_self _ (Heap.get?_push_size _ rfl) rfl, rfl⟩
  rw [Heap.get?_update_other _ _ (Nat.ne_of_gt (Heap.lt_size (Heap.get?_push_of_some _ e)))]
  exact Heap.get?_push_of_some _ (Heap.get?_push_of_some _ e)
/-- the end of a tuple's iterator -/
theorem tupEnd_hot {it t : Addr} {i : Nat} {items : Array Value} {Q : Option Value → Shared → Prop} (hot : HotAt A x1 s.heap) (hn : x1 ≠ it) (hit : IsTupIter s.heap it t i) (ht : IsTup s.heap t items) (hx : items[i]? = none)
    (hQ : ∀ h', Heap.ExtBut it s.heap h' → Q none { s with heap := h' }) : wpAny (model prog w) A (pyNext (.ref it)) Q E s := by
  obtain ⟨o, ho, hc, hd⟩ := id hit
  obtain ⟨ol, hol, _, nl, hdl⟩ := ht
  unfold pyNext
  refine wpAny_bind (wpAny_attempt (wpAny_callSpecial?_slot (name := Str.ofString "__next__") hit.typeIs slot_tupleiter_next
    (wpAny_call_entry slot_tupleiter_next hit.typeIs entry_tupleiter_next ?_ (args_tupleiter_next _))))
  show wpAny _ _ (field (.ref it) 0 >>= _) _ _ s
  refine wpAny_bind (wpAny_field ho hd (x := .ref t) rfl ?_)
  show wpAny _ _ (if (Value.ref t == Value.none) = true then _ else _) _ _ s
  rw [if_neg (show ¬ ((Value.ref t == Value.none) = true) from Bool.false_ne_true)]
  show wpAny _ _ (field (.ref it) 1 >>= _) _ _ s
  refine wpAny_bind (wpAny_field ho hd (x := .int i 0) rfl ?_)
  show wpAny _ _ (seqItems? (.ref t) >>= _) _ _ s
  refine wpAny_bind (wpAny_seqItems hol hdl ?_)
  simp only [Int.toNat_natCast, hx]
  have sb := Heap.SameBut.update s.heap it (Obj.mapFields (·.setIfInBounds 0 .none))
  refine wpAny_bind (wpAny_rule (wpAny_bind (wpAny_setField ho hd (by simp) (stop_hot (hot_keep hot hn sb.extBut) fun h' e k he => ?_))))
  obtain ⟨oe, e1, e2⟩ := he
  refine wpAny_bind (wpAny_isInstance (T := "StopIteration") (b := true) ⟨oe, e1, e2⟩ isSubtype_stop ?_)
  exact wpAny_pure (hQ _ fun b u hb q => k _ _ (sb.extBut b u hb q))
theorem unpackItems_hot {t : Addr} {items : Array Value} {Q : List Value → Shared → Prop} (hot : HotAt A x1 s.heap) (ht : IsTup s.heap t items)
    (hQ : ∀ h', Heap.ExtBut s.heap.objs.size s.heap h' → Q items.toList { s with heap := h' }) : wpAny (model prog w) A (unpackItems (.ref t) items.size none) Q E s := by
  have hlt : t ≠ s.heap.objs.size := by obtain ⟨o, ho, _⟩ := ht; exact Nat.ne_of_lt (Heap.lt_size ho)
  have hx1 : x1 ≠ s.heap.objs.size := by obtain ⟨_, o, _, ho, _⟩ := hot; exact Nat.ne_of_lt (Heap.lt_size ho)
  unfold unpackItems
  refine wpAny_bind ?_
  unfold notIterableAtAll
  refine wpAny_bind (wpAny_specialOf ht.typeIs slot_tuple_iter.lookup ?_)
  refine wpAny_pure ?_
  simp only [Bool.false_eq_true, if_false]
  refine wpAny_bind (wpAny_holding (iter_tuple ht ?_))
  refine wpAny_bind (wpAny_holding (draw_tuple hlt items.size 0 _ _ ⟨_, Heap.get?_push_size _ rfl, rfl, rfl⟩ (ht.push _) (by omega) fun h₁ hit₁ hs₁ => ?_))
  have hall : List.take items.size (List.drop 0 items.toList) = items.toList := by
    rw [List.drop_zero]; exact List.take_of_length_le (by simp)
  rw [hall, if_neg (by simp)]
  have ht₁ : IsTup h₁ t items := (ht.push _).extBut hs₁.extBut hlt
  have k1 : Heap.ExtBut s.heap.objs.size s.heap h₁ := fun b o hb e => hs₁.extBut b o hb (Heap.get?_push_of_some _ e)
  refine wpAny_bind (wpAny_holding (tupEnd_hot (hot_keep hot hx1 k1) hx1 hit₁ ht₁ (by simp) fun h₂ he₂ => ?_))
  simp only [Option.isSome_none, Bool.false_eq_true, if_false]
  exact wpAny_pure (hQ h₂ fun b o hb e => he₂ b o hb (k1 b o hb e))
theorem assignTup_hot {env : Env} {elts : List Expr} {x0} {pos : Pos} {t : Addr} {items : Array Value} {Q : Unit → Shared → Prop} (hot : HotAt A x1 s.heap) (ht : IsTup s.heap t items)
    (hn : (assignEach elts env).length = items.size) (hstar : (assignEach elts env).findIdx? (·.1) = none)
    (h : ∀ h', Heap.ExtBut s.heap.objs.size s.heap h' → wpAny (model prog w) A (assignInOrder ((assignEach elts env).map (·.2)) items.toList) Q E { s with heap := h' }) :
    wpAny (model prog w) A (assign (.Tuple elts x0 pos) env (.ref t)) Q E s := by
  rw [assign_Tuple]
  refine wpAny_bind (wpAny_standAt ?_)
  unfold unpack
  rw [hn, hstar]
  exact wpAny_bind (wpAny_holding (unpackItems_hot hot ht h))
/-- the end of a list's iterator, within zip -/
theorem lstEnd_hot {it l : Addr} {i : Nat} {items : Array Value} {Q : Value → Shared → Prop} (hot : HotAt A x1 s.heap) (hn : x1 ≠ it) (hit : s.heap.IsListIter it l i) (hl : s.heap.IsList l items) (hx : items[i]? = none)
    (hE : ∀ h' e, Heap.ExtBut it s.heap h' → (∃ o, h'.get? e = some o ∧ o.cls = .type "StopIteration") → E (.ref e) { s with heap := h' }) :
    wpAny (model prog w) A (Builtin.SmallTypes.nextOf (.ref it)) Q E s := by
  obtain ⟨o, ho, hc, hd⟩ := id hit
  obtain ⟨ol, hol, _, nl, hdl⟩ := hl
  unfold Builtin.SmallTypes.nextOf
  refine wpAny_bind (wpAny_callSpecial?_slot (name := Str.ofString "__next__") hit.typeIs slot_listiter_next
    (wpAny_call_entry slot_listiter_next hit.typeIs entry_listiter_next ?_ (args_listiter_next _)))
  show wpAny _ _ (field (.ref it) 0 >>= _) _ _ s
  refine wpAny_bind (wpAny_field ho hd (x := .ref l) rfl ?_)
  show wpAny _ _ (if (Value.ref l == Value.none) = true then _ else _) _ _ s
  rw [if_neg (show ¬ ((Value.ref l == Value.none) = true) from Bool.false_ne_true)]
  show wpAny _ _ (field (.ref it) 1 >>= _) _ _ s
  refine wpAny_bind (wpAny_field ho hd (x := .int i 0) rfl ?_)
  show wpAny _ _ (seqItems? (.ref l) >>= _) _ _ s
  refine wpAny_bind (wpAny_seqItems hol hdl ?_)
  simp only [Int.toNat_natCast, hx]
  have sb := Heap.SameBut.update s.heap it (Obj.mapFields (·.setIfInBounds 0 .none))
  refine wpAny_bind (wpAny_rule (wpAny_bind (wpAny_setField ho hd (by simp) (stop_hot (hot_keep hot hn sb.extBut) fun h' e k he => ?_))))
  exact hE _ _ (fun b u hb q => k _ _ (sb.extBut b u hb q)) he
theorem zipEnd_hot {z TI TO i1 i2 l1 l2 : Addr} {k1 k2 : Nat} {xs ys : Array Value} {a b : Value} {Q : Option Value → Shared → Prop} (hot : HotAt A x1 s.heap) (n0 : x1 ≠ z) (n1 : x1 ≠ i1) (n2 : x1 ≠ i2) (nT : x1 ≠ TO) (D : ZipApart z TI TO i1 i2 l1 l2)
    (hz : IsZip s.heap z TI TO .none) (hTI : IsPair s.heap TI (.ref i1) (.ref i2)) (hTO : IsPair s.heap TO a b)
    (h1 : s.heap.IsListIter i1 l1 k1) (h2 : s.heap.IsListIter i2 l2 k2) (hl1 : s.heap.IsList l1 xs) (hl2 : s.heap.IsList l2 ys) (hend : xs[k1]? = none ∨ ys[k2]? = none)
    (hQ : ∀ h', (∀ c o, c ≠ z → c ≠ TO → c ≠ i1 → c ≠ i2 → s.heap.get? c = some o → h'.get? c = some o) → Q none { s with heap := h' }) : wpAny (model prog w) A (pyNext (.ref z)) Q E s := by
  have hT : s.TypeIs (.ref z) "zip" := ⟨_, hz, rfl⟩
  unfold pyNext
  have fin : ∀ h' e, (∀ c o, c ≠ z → c ≠ TO → c ≠ i1 → c ≠ i2 → s.heap.get? c = some o → h'.get? c = some o) → (∃ o, h'.get? e = some o ∧ o.cls = .type "StopIteration") →
      wpAny (model prog w) A (do if ← isInstance (.ref e) (.type "StopIteration") then pure none else throw (.ref e)) Q E { s with heap := h' } := fun h' e hk he => by
    obtain ⟨o, ho, hc⟩ := he
    exact wpAny_bind (wpAny_isInstance (T := "StopIteration") (b := true) ⟨o, ho, hc⟩ isSubtype_stop (wpAny_pure (hQ _ hk)))
  refine wpAny_bind (wpAny_attempt (wpAny_callSpecial?_slot (name := Str.ofString "__next__") hT F.slot_zip_next (wpAny_call_entry F.slot_zip_next hT F.entry_zip_next ?_ (F.args_zip_next_1 _))))
  show wpAny _ _ (field (.ref z) 2 >>= _) _ _ _
  refine wpAny_bind (wpAny_field hz rfl (x := .bool false) rfl ?_)
  show wpAny _ _ (field (.ref z) 3 >>= _) _ _ _
  refine wpAny_bind (wpAny_field hz rfl (x := .ref TI) rfl ?_)
  refine wpAny_bind (wpAny_seqItems hTI rfl ?_)
  show wpAny _ _ (Builtin.SmallTypes.ownedTupleIsFree (.ref z) >>= _) _ _ _
  refine wpAny_bind ?_
  unfold Builtin.SmallTypes.ownedTupleIsFree
  refine wpAny_bind (wpAny_field hz rfl (x := .none) rfl (wpAny_pure ?_))
  simp only [if_true]
  refine wpAny_bind (wpAny_rule ?_)
  refine wpAny_bind (wpAny_field hz rfl (x := .ref TO) rfl ?_)
  refine wpAny_bind (wpAny_setField_rec hz (by simp) fun h₁ hz₁ hs₁ => ?_)
  replace hz₁ : IsZip h₁ z TI TO .ellipsis := hz₁
  refine wpAny_bind ?_
  simp only [List.zipIdx_cons, List.zipIdx_nil, List.forIn_cons, List.forIn_nil]
  refine wpAny_bind (wpAny_bind (wpAny_onRaise ?_))
  show wpAny _ _ (Builtin.SmallTypes.nextOf (.ref i1) >>= _) _ _ _
  cases hx : xs[k1]? with
  | none =>
    refine wpAny_bind (lstEnd_hot (hot_keep hot n0 hs₁.extBut) n1 (h1.extBut hs₁.extBut D.i1z) (hl1.extBut hs₁.extBut D.l1z) hx fun h₂ e hs₂ he => ?_)
    obtain ⟨oe, hoe, hce⟩ := he
    have hz₂ : IsZip h₂ z TI TO .ellipsis := hs₂ _ _ D.i1z.symm hz₁
    have hez : e ≠ z := fun x => by subst x; rw [hz₂] at hoe; cases hoe; simp at hce
    exact wpAny_setField_rec hz₂ (by simp) fun h₃ _ hs₃ => fin h₃ e (fun c o c1 _ c3 _ x => hs₃.extBut _ _ c1 (hs₂ _ _ c3 (hs₁.extBut _ _ c1 x))) ⟨oe, hs₃.extBut _ _ hez hoe, hce⟩
  | some x =>
    have hy : ys[k2]? = none := by
      rcases hend with h | h
      · rw [hx] at h; cases h
      · exact h
    refine wpAny_bind (wpAny_nextOf_list_item (h1.extBut hs₁.extBut D.i1z) (hl1.extBut hs₁.extBut D.l1z) hx fun h₂ h1₂ hs₂ => wpAny_pure ?_)
    have hTO₂ : IsPair h₂ TO a b := hs₂.extBut _ _ D.TOi1 (hs₁.extBut _ _ D.TOz hTO)
    refine wpAny_bind (wpAny_seqItems hTO₂ rfl ?_)
    refine wpAny_bind (wpAny_updateSeq_pair hTO₂ fun h₃ hTO₃ hs₃ => ?_)
    refine wpAny_bind (wpAny_letGo (wpAny_pure ?_))
    refine wpAny_bind (wpAny_bind (wpAny_onRaise ?_))
    show wpAny _ _ (Builtin.SmallTypes.nextOf (.ref i2) >>= _) _ _ _
    refine wpAny_bind (lstEnd_hot (hot_keep (hot_keep (hot_keep hot n0 hs₁.extBut) n1 hs₂.extBut) nT hs₃.extBut) n2 (((h2.extBut hs₁.extBut D.i2z).extBut hs₂.extBut D.i12.symm).extBut hs₃.extBut D.TOi2.symm)
      (((hl2.extBut hs₁.extBut D.l2z).extBut hs₂.extBut D.l2i1).extBut hs₃.extBut D.l2TO) hy fun h₄ e hs₄ he => ?_)
    obtain ⟨oe, hoe, hce⟩ := he
    have hz₄ : IsZip h₄ z TI TO .ellipsis := hs₄ _ _ D.i2z.symm (hs₃.extBut _ _ D.TOz.symm (hs₂.extBut _ _ D.i1z.symm hz₁))
    have hez : e ≠ z := fun x => by subst x; rw [hz₄] at hoe; cases hoe; simp at hce
    exact wpAny_setField_rec hz₄ (by simp) fun h₅ _ hs₅ => fin h₅ e (fun c o c1 c2 c3 c4 x => hs₅.extBut _ _ c1 (hs₄ _ _ c4 (hs₃.extBut _ _ c2 (hs₂.extBut _ _ c3 (hs₁.extBut _ _ c1 x))))) ⟨oe, hs₅.extBut _ _ hez hoe, hce⟩
end
end Ev
end

section
set_option Elab.async false
set_option linter.all false
set_option autoImplicit false
set_option maxRecDepth 100000
set_option maxHeartbeats 4000000
/-! # While an exception is handled: a comprehension over zip -/
namespace Ev
open PySem PySem.Spec PyProof.Rows L2 HotX L2H
/-- the context of a comprehension's block there -/
abbrev bH (X : Cx) (s : Shared) (H : Hp) (scope : Scope) (cenv : Env) (fp : List Addr) : Cx := (X.blk s H scope cenv fp).tr X.pn fun _ _ => False
section
variable {X : Cx}
theorem hotB (hot : HotC X) {s : Shared} {H : Hp} {scope : Scope} {cenv : Env} {fp : List Addr} : HotC (bH X s H scope cenv fp) := hot
/-- two lists walked together -/
theorem zipTurn_hot {P : Program} {w : World} {K : W.Frag} {elts : List Expr} {kk : Nat} {tpos : Pos} {a b z TI TO i1 i2 : Addr} (D : ZipApart z TI TO i1 i2 a b) :
    TurnH P w K (.Tuple elts kk tpos) (Itz K a b) [z, TI, TO, i1, i2] z (fun i h => IsZip h z TI TO .none ∧ IsPair h TI (.ref i1) (.ref i2) ∧ (∃ x y, IsPair h TO x y) ∧ h.IsListIter i1 a i ∧ h.IsListIter i2 b i) where
  mem := (turn_zip (P := P) (w := w) (K := K) (elts := elts) (kk := kk) (tpos := tpos) D).mem
  obj := (turn_zip (P := P) (w := w) (K := K) (elts := elts) (kk := kk) (tpos := tpos) D).obj
  keep := (turn_zip (P := P) (w := w) (K := K) (elts := elts) (kk := kk) (tpos := tpos) D).keep
  self := (turn_zip (P := P) (w := w) (K := K) (elts := elts) (kk := kk) (tpos := tpos) D).self
  item := by
    intro X hP hw hK hc i pins s σ H E I hf st hg
    subst hP hw hK
    obtain ⟨hz, hTI, ⟨x0, y0, hTO⟩, h1, h2⟩ := st
    obtain ⟨xs, ys, x, y, hqx, hqy, hx, hy⟩ := hg
    obtain ⟨its, rv, p, _⟩ := I.list hqx
    obtain ⟨its2, rv2, p2, _⟩ := I.list hqy
    obtain ⟨u, hu, ru⟩ := rv.get hx
    obtain ⟨u2, hu2, ru2⟩ := rv2.get hy
    have hzl : z < s.heap.objs.size := Heap.lt_size hz
    refine wpAny_pyNext_zip_item D hz hTI hTO h1 h2 p.isList p2.isList (x := u) (y := u2) (by simpa using hu) (by simpa using hu2) fun h' z' TO' h1' h2' hT hsz hk => ?_
    refine ⟨_, rfl, wpAny_letOwnedTupleGo_zip (s := { s with heap := h' }) z' fun h'' z'' sb => ?_⟩
    have hT2 : h''.get? s.heap.objs.size = some { cls := .type "tuple", data := .seq #[u, u2] } := (sb.2 _ (Nat.ne_of_gt hzl)).trans hT
    have new : ObjOk X.prog X.w (upd H s.heap.objs.size (.tup [x, y])) h'' s.heap.objs.size (.tup [x, y]) :=
      ⟨by show 2 ≤ sizeLine; decide, [u, u2], .cons ru (.cons ru2 .nil), ⟨_, hT2, rfl, _, rfl⟩⟩
    have I1 : Inv X pins σ (upd H s.heap.objs.size (.tup [x, y])) { s with heap := h'' } :=
      I.turnedNew (t' := s.toks) (ch := [z, TI, TO, i1, i2]) (fun c o hb q => (sb.2 c (fun q' => hb (by simp [q']))).trans (hk c o (fun q' => hb (by simp [q'])) (fun q' => hb (by simp [q'])) (fun q' => hb (by simp [q'])) (fun q' => hb (by simp [q'])) q)) hf (Nat.le_refl _) new
    refine ⟨.ref s.heap.objs.size, _, I1, rfl, ⟨_, x, y, rfl, I.hok.fresh (Nat.le_refl _), rfl, fun l hl => by rw [I.list_inj hl hqx]; exact hx, fun l hl => by rw [I.list_inj hl hqy]; exact hy⟩, ⟨z'', ?_, ⟨u, u2, ?_⟩, ?_, ?_⟩, fun c hcm => ?_⟩
    · exact (sb.2 _ D.TIz).trans (hk _ _ D.TIz D.TITO D.TIi1 D.TIi2 hTI)
    · exact (sb.2 _ D.TOz).trans TO'
    · exact h1'.at fun o q => (sb.2 _ D.i1z).trans q
    · exact h2'.at fun o q => (sb.2 _ D.i2z).trans q
    · have hlt : c < s.heap.objs.size := by
        have e' : c = z ∨ c = TI ∨ c = TO ∨ c = i1 ∨ c = i2 := by simpa using hcm
        rcases e' with q | q | q | q | q
        · rw [q]; exact hzl
        · rw [q]; exact Heap.lt_size hTI
        · rw [q]; exact Heap.lt_size hTO
        · rw [q]; obtain ⟨_, e1, _⟩ := h1; exact Heap.lt_size e1
        · rw [q]; obtain ⟨_, e2, _⟩ := h2; exact Heap.lt_size e2
      rw [upd_ne (Nat.ne_of_lt hlt)]
      exact (hf c hcm).1
  done := by
    intro X hP hw hK hc i pins s σ H E I hf st hg
    subst hP hw hK
    obtain ⟨hz, hTI, ⟨x0, y0, hTO⟩, h1, h2⟩ := st
    obtain ⟨xs, ys, hqx, hqy, hend⟩ := hg
    obtain ⟨its, rv, p, _⟩ := I.list hqx
    obtain ⟨its2, rv2, p2, _⟩ := I.list hqy
    have l1 := rv.length
    have l2 := rv2.length
    have he : its.toArray[i]? = none ∨ its2.toArray[i]? = none := by
      rcases hend with q | q
      · exact .inl (by simp; omega)
      · exact .inr (by simp; omega)
    obtain ⟨q, ⟨hh, v1, e1, c1⟩, hq⟩ := hc
    have hpin := (I.pin q (List.mem_append_left _ hq)).1
    have hot : HotAt X.A q.1 s.heap := ⟨hh, q.2, v1, hpin, e1, c1⟩
    have ne : ∀ c, c ∈ [z, TI, TO, i1, i2] → q.1 ≠ c := fun c hc => (hf c hc).2.2.2.2.2 q (List.mem_append_left _ hq)
    refine zipEnd_hot hot (ne _ (by simp)) (ne _ (by simp)) (ne _ (by simp)) (ne _ (by simp)) D hz hTI hTO h1 h2 p.isList p2.isList he fun h' hk => ⟨rfl, I.turnedL (t' := s.toks) (ch := [z, TI, TO, i1, i2]) (fun c o hb q =>
      hk c o (fun q' => hb (by simp [q'])) (fun q' => hb (by simp [q'])) (fun q' => hb (by simp [q'])) (fun q' => hb (by simp [q'])) q) hf⟩
/-- zip(l, l') of two lists -/
theorem pi_zipH {e e2 : Expr} {ta : TA} {p pos tpos : Pos} {elts : List Expr} {kk : Nat} (hg : Gl X "zip") (hm : X.mg "zip" = none) (ha : PA X [e, e2] ta)
    (hs : starEach [e, e2] X.env = (false, eval e X.env) :: starEach [e2] X.env := by rfl) (hpl : (backTo pos (starEach [e2] X.env)).any (·.1) = false := by rfl) :
    PIH X (.Tuple elts kk tpos) (.Call (.Name "zip" p) [e, e2] [] pos) (iZip X.K ta) := by
  refine ⟨fun pins s σ H R I h => ?_⟩
  refine Call_ (ld_blt I hg hm PyProof.Rows.boot_zip (PyProof.Rows.callWith_type1 (thn (ha.run pos pins s σ H _ I h) fun us s1 ⟨vs, H1, I1, r1, q1⟩ => ?_) hs hpl))
  obtain ⟨a, b, xs, ys, ex, hqx, hqy, q⟩ := q1
  subst ex
  cases r1 with
  | cons r rr =>
    cases rr with
    | cons r' rr =>
      cases rr
      cases r
      cases r'
      obtain ⟨its, rv, p1, _⟩ := I1.list hqx
      obtain ⟨its2, rv2, p2, _⟩ := I1.list hqy
      refine call_zip_2 p1.isList p2.isList fun h' hz hTI hTO h1 h2 hsz hk => wpAny_pyIter_zip hz ?_
      have I2 : Inv X pins σ H1 { s1 with heap := h' } := I1.kept (t' := s1.toks) hk
      refine ⟨s1.heap.objs.size + 4, [s1.heap.objs.size + 4, s1.heap.objs.size + 2, s1.heap.objs.size + 3, s1.heap.objs.size, s1.heap.objs.size + 1], _, _, H1, rfl, I2, zipTurn_hot (W.ktu_apart s1.heap.objs.size a b p1.lt p2.lt), ⟨hz, hTI, ⟨_, _, hTO⟩, h1, h2⟩, fun c hcm => ?_, q⟩
      have hle : s1.heap.objs.size ≤ c := by
        have e' : c = s1.heap.objs.size + 4 ∨ c = s1.heap.objs.size + 2 ∨ c = s1.heap.objs.size + 3 ∨ c = s1.heap.objs.size ∨ c = s1.heap.objs.size + 1 := by simpa using hcm
        have key : ∀ n c : Nat, (c = n + 4 ∨ c = n + 2 ∨ c = n + 3 ∨ c = n ∨ c = n + 1) → n ≤ c := fun n c h => by omega
        exact key _ _ e'
      exact I1.fpOk hle (I1.hok.fresh hle)
/-- a tuple of targets -/
theorem pg_tupH {es : List Expr} {k : Nat} {pos : Pos} {t : TGs} {n : Nat} (hot : HotC X) (h : PGs X es t) (hn : (assignEach es X.env).length = n := by rfl) (hst : (assignEach es X.env).findIdx? (·.1) = none := by rfl) : PG X (.Tuple es k pos) (gTup X.K n t) := by
  refine ⟨fun pins s σ H v u Q I r hw => ?_⟩
  obtain ⟨a, xs, e1, hq, hl, hw⟩ := hw
  subst e1
  cases r
  obtain ⟨its, rv, ht, hz⟩ := I.tuple hq
  obtain ⟨x1, ha⟩ := hot.at I
  refine assignTup_hot ha ht (by simp [hn, ← hl, rv.length]) hst fun h' hx => ?_
  have I1 : Inv X pins σ H { s with heap := h' } := I.kept (t' := s.toks) fun b o e => hx b o (Nat.ne_of_lt (Heap.lt_size e)) e
  exact h.run pins _ σ H xs _ Q I1 (by simpa using rv) hw
theorem pe_lcH {elt tg iter : Expr} {ifs : List Expr} {scope : Scope} {own : List (Str × Nat)} {pos : Pos} {wi : TI} {g : TG} {tt : TT} {te : TE} (hot : HotC X) (hN : X.N.Nodup) (hi : PIH X tg iter wi) (ok : BlkOk X.N X.env.scope scope own)
    (hg : ∀ (s : Shared) (H : Hp) (C : Addr) (cl : List (Str × Addr)) (fp : List Addr), PG (bH X s H scope (compEnvC scope cl C X.env) fp) tg g) (ht : ∀ (s : Shared) (H : Hp) (C : Addr) (cl : List (Str × Addr)) (fp : List Addr), PTs (bH X s H scope (compEnvC scope cl C X.env) fp) ifs tt)
    (he : ∀ (s : Shared) (H : Hp) (C : Addr) (cl : List (Str × Addr)) (fp : List Addr), PE (bH X s H scope (compEnvC scope cl C X.env) fp) elt te) (hs : ∀ x, foldedSetIterable iter X.env x = pure x := by intro _; rfl) :
    PE X (.ListComp elt [⟨tg, iter, ifs, 0⟩] scope pos) (tLc wi g tt te (own.map (·.2))) := by
  refine ⟨fun pins s σ H Q I h => ?_⟩
  rw [eval_ListComp]
  have hfree : ∀ y ∈ scope.names, y.2 = .free → ∃ c, X.env.cells.lookup y.1 = some c := fun y hy e => by
    rcases ok.free y hy e with k | k
    · exact I.ok.has _ (.inl k)
    · exact I.ok.has _ (.inr k)
  refine wpAny_comprehension_free (use := none) rfl hs (closure_ok hfree) ok.kind (fun y hy e => by rw [ok.uniq y hy, e])
    (thn (hi.run pins s σ H _ I h) fun xv s1 hx => thn hx fun itv s2 h2 => ?_)
  obtain ⟨it, fp, tn, J, H2, e, I2, T, st2, f2, q⟩ := h2
  subst e
  refine wpAny_newObj_type (newEnv_comp ?_) (by show 0 ≤ sizeLine; decide)
  generalize hD : s2.heap.objs.size = D
  have hDn : H2 D = none := I2.hok.fresh (Nat.le_of_eq hD)
  obtain ⟨W, ⟨m0, w0⟩, turn⟩ := q D hDn
  generalize hs3 : ({ s2 with heap := s2.heap.push { cls := .type "list", data := .seq ([] : List Value).toArray } } : Shared) = s3
  have I3 : Inv X pins σ (upd H2 D (.lst [])) s3 := by
    rw [← hs3]
    refine I2.laid (t' := s2.toks) (fun b o e => Heap.get?_push_of_some _ e) (Nat.le_of_eq hD) ⟨Nat.zero_le _, [], 0, .nil, ?_⟩
    rw [← hD]
    exact Heap.get?_push_size _ rfl
  have h3 : s3.heap = s2.heap.push { cls := .type "list", data := .seq ([] : List Value).toArray } := by rw [← hs3]
  have f3 : ∀ b ∈ fp, FpOk X pins (upd H2 D (.lst [])) b ∧ b < s3.heap.objs.size := fun b hb => by
    obtain ⟨o, e, _⟩ := T.obj _ _ st2 b hb
    have hlt := Heap.lt_size e
    refine ⟨⟨?_, (f2 b hb).2⟩, by rw [h3, Heap.size_push]; exact Nat.lt_succ_of_lt hlt⟩
    rw [upd_ne (by rw [← hD]; exact Nat.ne_of_lt hlt)]
    exact (f2 b hb).1
  have st3 : tn 0 s3.heap := T.keep _ _ _ st2 fun b _ o e => by rw [h3]; exact Heap.get?_push_of_some _ e
  have I4 := block_start I3 ok hN f3
  have pg := hg s3 (upd H2 D (.lst [])) s3.heap.objs.size (cellsFrom (s3.heap.objs.size + 1) scope.names (cloFrom X.env.cells scope.names [])) fp
  have pt := ht s3 (upd H2 D (.lst [])) s3.heap.objs.size (cellsFrom (s3.heap.objs.size + 1) scope.names (cloFrom X.env.cells scope.names [])) fp
  have pe := he s3 (upd H2 D (.lst [])) s3.heap.objs.size (cellsFrom (s3.heap.objs.size + 1) scope.names (cloFrom X.env.cells scope.names [])) fp
  show codeAny _ _ (.compStart (.ListComp elt [⟨tg, iter, ifs, 0⟩] scope pos) 0 (.ref it) (.ref D) (compEnvC scope (cellsFrom (s3.heap.objs.size + 1) scope.names (cloFrom X.env.cells scope.names [])) s3.heap.objs.size X.env)) (compPost (model X.prog X.w) X.A X.xe none (EP X pins σ Q) (.ref D) s3.heap.objs.size) { s3 with heap := pushCells (s3.heap.push { cls := .type "dict", data := .dict #[] }) scope.names }
  have nfp : ∀ b ∈ fp, (upd H2 D (.lst [])) b = none := fun b hb => (f3 b hb).1.1
  generalize hce : compEnvC scope (cellsFrom (s3.heap.objs.size + 1) scope.names (cloFrom X.env.cells scope.names [])) s3.heap.objs.size X.env = ce at I4 pg pt pe ⊢
  have cL : ce.locals = s3.heap.objs.size := by subst hce; rfl
  generalize hH3 : upd H2 D (.lst []) = H3 at I3 I4 pg pt pe w0 nfp f3
  have kp4 : ∀ b o, s3.heap.get? b = some o → (pushCells (s3.heap.push { cls := .type "dict", data := .dict #[] }) scope.names).get? b = some o := fun b o e => pushCells_keeps _ _ _ _ (Heap.get?_push_of_some _ e)
  generalize hs4 : ({ s3 with heap := pushCells (s3.heap.push { cls := .type "dict", data := .dict #[] }) scope.names } : Shared) = s4 at I4 ⊢
  have kp5 : ∀ b o, s3.heap.get? b = some o → s4.heap.get? b = some o := fun b o e => by rw [← hs4]; exact kp4 b o e
  -- the handled exception stays where it is
  have I4 : Inv (bH X s3 H3 scope ce fp) [] (L2.wipe σ (own.map (·.2))) H3 s4 := (I4.pins_of (pins' := X.pn) fun p hp => by
    obtain ⟨e1, e2, e3, e4, e5⟩ := I3.pin p (List.mem_append_left _ hp)
    refine ⟨kp5 _ _ e1, e2, fun z => ?_, fun z => ?_, e5⟩
    · rw [show (X.blk s3 H3 scope ce fp).env.locals = s3.heap.objs.size from cL] at z
      exact Nat.ne_of_lt (Heap.lt_size e1) z
    · rcases List.mem_cons.mp (I3.stkSub _ z) with z | z
      · exact e3 z
      · exact e4 z).toTry _
  have st4 : tn 0 s4.heap := T.keep _ _ _ st3 fun b _ o e => kp5 _ _ e
  have stat : ∀ {σ' : L2.St} {H' : Hp} {s' : Shared}, Inv (bH X s3 H3 scope ce fp) [] σ' H' s' → (∀ b ∈ fp, H' b = none) → ∀ b ∈ fp, FpOk (bH X s3 H3 scope ce fp) [] H' b := fun {σ' H' s'} I' hn b hb =>
    ⟨hn b hb, (I'.ok.exf b hb).1, I'.ok.exfs b hb, .inl hb, fun x c e => (I'.ok.exf b hb).2 x c e, fun p hp => (f3 b hb).1.2.2.2.2.2 p (List.mem_append_left _ (by have hp' : p ∈ X.pn ++ ([] : List (Addr × Obj)) := hp; simpa using hp'))⟩
  have loop : codeAny (model X.prog X.w) X.A (.compLoop (.ListComp elt [⟨tg, iter, ifs, 0⟩] scope pos) 0 (.ref it) (.ref D) ce) (compPost (model X.prog X.w) X.A X.xe none (EP X pins σ Q) (.ref D) s3.heap.objs.size) s4 := by
    refine compLoop_any (fun n s' => ∃ i H', Inv (bH X s3 H3 scope ce fp) [] (L2.wipe σ (own.map (·.2))) H' s' ∧ tn i s'.heap ∧ (∀ b ∈ fp, H' b = none) ∧ W i n H') ?_ m0 ⟨0, H3, I4, st4, nfp, w0⟩
    rintro n s5 ⟨i, H5, I5, st5, n5, w5⟩
    rcases turn i n H5 w5 with ⟨stop, qq⟩ | ⟨go, Nx, hNx, step⟩
    · have td := T.done (bH X s3 H3 scope ce fp) rfl rfl rfl (hotB hot) i [] s5 _ H5 (fun _ _ => False) I5 (stat I5 n5) st5 stop
      refine thnF td fun r s6 ⟨hr, I6⟩ => ?_
      subst hr
      have I7 : Inv X pins σ H5 s6 := I3.call' (ch := fp) I6.os I6.base I6.hok I6.bare fun b hb => ⟨(f3 b hb).1.2.2.2.1, (f3 b hb).1.2.1, (f3 b hb).1.2.2.2.2.1, (f3 b hb).1.2.2.2.2.2⟩
      have nC : H5 s3.heap.objs.size = none := by
        have z : H5 ce.locals = none := I6.free
        rw [cL] at z
        exact z
      obtain ⟨m, hn, _⟩ := I6.loc
      have hn : s6.heap.Ns ce.locals m := hn
      rw [cL] at hn
      refine ⟨m, hn, fun h'' sb => ?_⟩
      obtain ⟨f0, f1, f2', f3', f4, f5⟩ := I3.fpOk (Nat.le_refl _) nC
      exact ⟨.ref D, H5, I7.turned (t' := s6.toks) (fun b o hb e => (sb.2 b hb).trans e) f0 f1 f3' f4 f5, rfl, qq⟩
    · have ti := T.item (bH X s3 H3 scope ce fp) rfl rfl rfl (hotB hot) i [] s5 _ H5 (fun _ _ => False) I5 (stat I5 n5) st5 go
      refine thnF ti fun r s6 ⟨u, hr, h6⟩ => ?_
      subst hr
      refine thnF h6 fun _ s7 ⟨x, H7, I7, r7, y7, st7, n7⟩ => ?_
      have I7' := I7.pinned (stat I7 n7) (T.obj _ _ st7)
      refine thnF (pg.run _ s7 _ H7 x u _ I7' r7 (step x H7 y7)) fun _ s8 ⟨σ8, H8, I8, hw8, q8⟩ => ?_
      refine thnF (pt.run _ s8 σ8 H8 _ I8 q8) fun b s9 ⟨H9, I9, q9⟩ => ?_
      have fin : ∀ {s' : Shared} {H' : Hp}, Inv (bH X s3 H3 scope ce fp) ([] ++ pinsAt fp s7.heap) σ8 H' s' → Nx H' → ∃ m, m < n ∧ ∃ i H', Inv (bH X s3 H3 scope ce fp) [] (L2.wipe σ (own.map (·.2))) H' s' ∧ tn i s'.heap ∧ (∀ b ∈ fp, H' b = none) ∧ W i m H' := fun {s' H'} I' nx => by
        obtain ⟨m', hm, w'⟩ := hNx H' nx
        have pin' : ∀ b ∈ fp, ∀ o, s7.heap.get? b = some o → s'.heap.get? b = some o ∧ H' b = none := fun b hb o e =>
          let z := I'.pin (b, o) (List.mem_append_right _ (List.mem_append_right _ (mem_pinsAt hb e)))
          ⟨z.1, z.2.1⟩
        have hl : (L2.wipe σ (own.map (·.2))).length = σ8.length := by rw [← hw8, L2.wipe_length]
        refine ⟨m', hm, i + 1, H', (I'.unpinned (pins := [])).weak hl (fun j v e => ?_), T.keep _ _ _ st7 fun b hb o e => (pin' b hb o e).1, fun b hb => ?_, w'⟩
        · rw [← hw8] at e
          exact (wipe_some e).1
        · obtain ⟨o, e, _⟩ := T.obj _ _ st7 b hb
          exact (pin' b hb o e).2
      cases b with
      | false =>
        simp only [Bool.false_eq_true, if_false] at q9 ⊢
        exact fin I9 q9
      | true =>
        simp only [if_true] at q9 ⊢
        refine thnF (pe.run _ s9 σ8 H9 _ I9 q9) fun z s10 ⟨yv, H10, I10, r10, acc, hD10, hz10, nx⟩ => ?_
        exact app_ok (X := bH X s3 H3 scope ce fp) I10 hD10 hz10 r10 fun s11 I11 => fin I11 nx
  exact codeAny_compStart_list loop (T.self X.A 0 _ _ _ st4 loop)
end
end Ev
end

section
set_option Elab.async false
set_option linter.all false
set_option autoImplicit false
set_option maxRecDepth 100000
set_option maxHeartbeats 4000000
/-! # The def that names an error, while the error is handled -/
namespace Ev
open PySem PySem.Spec PyProof.Rows L2 HotX L2H
/-- two names, by themselves in a tuple -/
def pairT (N : List Str) (sc : Scope) (fb : Fb) : Expr → Option Tg
  | .Tuple [.Name x _, .Name y _] _ _ => if (locB sc x && fb x && locB sc y && fb y) = true then (ixOf N x).bind fun i => (ixOf N y).map fun j => .cons (.nm i) (.cons (.nm j) .nil) else none
  | _ => none
def varH (N : List Str) (sc : Scope) : Expr → Option X
  | .Name x _ => if (visB sc x && !odd x) = true then (ixOf N x).map .loc else none
  | _ => none
/-- its expressions, but isinstance -/
def cH (N : List Str) : Nat → Scope → Expr → Option X
  | 0, _, _ => none
  | n + 1, sc, e => match e with
    | .Constant (.str z) _ _ => some (.con (.str z))
    | .Name x p => varH N sc (.Name x p)
    | .List es _ => (cL (cH N n sc) es).map .lst
    | .BinOp a .Add b _ => (cH N n sc a).bind fun x => (cH N n sc b).map fun y => .bin .Add x y
    | .Call (.Attribute o m apos) [a] [] pos => if (starred a || bareCall o || !(apos.endLine == pos.line)) = true then none else
        (mthOf m).bind fun k => (cH N n sc o).bind fun x => (cH N n sc a).map fun y => .mth k x (.cons y .nil)
    | .ListComp elt [⟨.Tuple ts tk tp, .Call (.Name f _) [a, b] [] _, [tst], k⟩] scope _ => if (L2.blkC N sc scope (ownOf N scope) && decide (k = 0) && decide (f = "zip") && glB sc f && !starred a && !starred b) = true then
        (cH N n sc a).bind fun x => (cH N n sc b).bind fun y => (pairT N (L2.relS scope sc) (fbBlk scope (L2.relS scope sc)) (.Tuple ts tk tp)).bind fun t =>
        if (t.slots.all fun i => decide (i ∈ (ownOf N scope).map (·.2))) = false then none else
        (varH N (L2.relS scope sc) tst).bind fun c => (varH N (L2.relS scope sc) elt).map fun e => .lc ((ownOf N scope).map (·.2)) t (.zipL x y) (.cons c .nil) e else none
    | _ => none
section
variable {T : List (Addr × Str)} {cl : Nat → Option Addr} {E : XK} {c : Cn} {X : Cx} {N : List Str} {sc : Scope} {a0 : Addr} {bit : Str → Option Bool}
theorem pgw_tupH {es : List Expr} {k : Nat} {pos : Pos} {t : Tg} (hc : HotC X) (hl : t.isList = true) (hn : t.len = es.length) (hp : plain es = true) (h : PGs X es (tTws X.K T t)) : PG X (.Tuple es k pos) (tTw X.K T t) :=
  pg_imp (pg_tupH (n := es.length) hc h each_len (each_plain hp)) fun v σ H Q ⟨ρ, M, S, u, ρ', en, st, r, e, q⟩ => by
    have hu : (∃ ds, u = .d (.tuple ds)) ∨ ∃ ds, u = .it ds := by
      cases t with
      | nm i => cases hl
      | nil =>
        unfold bindT at e
        split at e
        · exact .inl ⟨_, rfl⟩
        · exact .inr ⟨_, rfl⟩
        · cases e
      | cons a b =>
        unfold bindT at e
        split at e
        · exact .inl ⟨_, rfl⟩
        · exact .inr ⟨_, rfl⟩
        · cases e
    obtain ⟨ds, a, xs, e1, t1, r1, e⟩ : ∃ ds a xs, v = .ref a ∧ SqT X.K H a xs ∧ RpA X.K M H xs ds ∧ bindT t (.d (.tuple ds)) ρ = some ρ' := by
      rcases hu with ⟨ds, rfl⟩ | ⟨ds, rfl⟩
      · obtain ⟨a, xs, e1, t1, r1⟩ := (show Rp X.K M H v (.tuple ds) from r).rs.tup
        exact ⟨ds, a, xs, e1, t1.sq, r1, e⟩
      · obtain ⟨a, xs, e1, _, t1, r1⟩ := r
        rw [bindT_it hl] at e
        exact ⟨ds, a, xs, e1, .inl (.inl t1), r1, e⟩
    exact ⟨a, xs, e1, t1, by rw [r1.length, bindT_len hl e, hn], ρ, M, S, ds, ρ', en, st, r1, e, q⟩
/-- what is asked of the place -/
structure HotG (a0 : Addr) (bit : Str → Option Bool) (X : Cx) (N : List Str) (sc : Scope) : Prop where
  hot : HotC X
  names : X.N = N
  nd : N.Nodup
  scope : X.env.scope = sc
  room : X.A.units + 65 < cLine
  isi : X.mg "isinstance" = none
  zip : X.mg "zip" = none
  bits : ∀ x b, bit x = some b → ∃ v, (∀ p, glB sc x = true → odd x = false → PE X (.Name x p) (tC v)) ∧ CallR X (.builtin "isinstance") (fun xs H Q => xs = [.ref a0, v] ∧ Q (.bl b) H)
theorem var_ok {N : List Str} {sc : Scope} (hN : X.N = N) (hs : X.env.scope = sc) {e : Expr} {ir : Ev.X} (h : varH N sc e = some ir) : PE X e (tX X.K T cl E c ir) ∧ ∀ whole, isTrue e X.env whole = (do let v ← whole; standAt e.pos; holding [v] (truthy v)) := by
  unfold varH at h
  split at h
  · split at h
    · rename_i hc
      simp only [Bool.and_eq_true, Bool.not_eq_true'] at hc
      obtain ⟨i, hi, rfl⟩ := map_some h
      exact ⟨px_loc hN hs hc.2 hc.1 hi, fun _ => rfl⟩
    · cases h
  · cases h
theorem cH_ok (G : HotG a0 bit X N sc) : ∀ n e ir, cH N n sc e = some ir → PE X e (tX X.K T cl E c ir) := by
  intro n
  induction n with
  | zero => intro e ir h; unfold cH at h; cases h
  | succ n ih =>
    intro e ir h
    unfold cH at h
    split at h
    · cases h; exact px_con pe_str fun _ _ => .str _
    · exact (var_ok G.names G.scope h).1
    · obtain ⟨xs, h1, rfl⟩ := map_some h
      exact px_lst (cL_ok ih h1)
    · obtain ⟨x, h1, h⟩ := bindO h
      obtain ⟨y, h2, rfl⟩ := map_some h
      exact px_bin (ih _ _ h1) (ih _ _ h2)
    · split at h
      · cases h
      · rename_i hc
        simp only [Bool.or_eq_true, Bool.not_eq_true', not_or, Bool.not_eq_true, Bool.not_eq_false] at hc
        obtain ⟨⟨h1, h2⟩, h3⟩ := hc
        obtain ⟨m, h4, h⟩ := bindO h
        obtain ⟨x, h5, h⟩ := bindO h
        obtain ⟨y, h6, rfl⟩ := map_some h
        exact px_mth G.room h4 h1 h2 h3 (ih _ _ h5) (ih _ _ h6)
    · split at h
      · rename_i elt ts tk tp f fp a b cp tst k scope pos hc
        simp only [Bool.and_eq_true, Bool.not_eq_true', decide_eq_true_eq] at hc
        obtain ⟨⟨⟨⟨⟨h1, h2⟩, h3⟩, h4⟩, h5⟩, h6⟩ := hc
        subst h2 h3
        obtain ⟨x, hx, h⟩ := bindO h
        obtain ⟨y, hy, h⟩ := bindO h
        obtain ⟨t, ht, h⟩ := bindO h
        split at h
        · cases h
        · rename_i hsl
          have hsl := by simpa using hsl
          obtain ⟨d, hd, h⟩ := bindO h
          obtain ⟨e, he, rfl⟩ := map_some h
          have hsl : ∀ i, i ∈ t.slots → i ∈ (ownOf N scope).map (·.2) := fun j hj => by
            have := hsl j hj
            simpa using this
          have hBs : ∀ (s : Shared) (H : Hp) (C : Addr) (cells : List (Str × Addr)) (fp : List Addr), (bH X s H scope (compEnvC scope cells C X.env) fp).env.scope = relS scope sc := fun s H C cells fp => by rw [← G.scope]; rfl
          have hfb : ∀ (s : Shared) (H : Hp) (C : Addr) (cells : List (Str × Addr)) (fp : List Addr) (x : Str), fbBlk scope (relS scope sc) x = true → (bH X s H scope (compEnvC scope cells C X.env) fp).fn x = true ∨ (bH X s H scope (compEnvC scope cells C X.env) fp).env.scope.names.lookup x = some .local := fun s H C cells fp x h => by
            unfold fbBlk at h
            rw [Bool.or_eq_true, decide_eq_true_eq, decide_eq_true_eq] at h
            refine h.imp (fun z => ?_) fun z => ?_
            · show (scope.names.lookup x == some .cell) = true
              rw [z]
              decide
            · rw [hBs s H C cells fp]
              exact z
          have hB : BlkOk X.N X.env.scope scope (ownOf N scope) := blkOk_by (by rw [G.names, G.scope]; exact h1)
          -- what is walked
          have hI : PIH X (.Tuple ts tk tp) (.Call (.Name "zip" fp) [a, b] [] cp) (tIt X.K T cl E c (.zipL x y)) := by
            have base := pi_zipH (elts := ts) (kk := tk) (tpos := tp) (p := fp) (pos := cp) (gl_of G.scope h4) G.zip (pa_cons (ih _ _ hx) (pa_cons (ih _ _ hy) pa_nil (star_of h6)) (star_of h5)) (star_of h5) (by rw [star_of h6]; rfl)
            refine ⟨fun pins s σ H R I q => base.run pins s σ H R I ?_⟩
            obtain ⟨ρ, M, S, en, st, hq⟩ := q
            unfold evIt at hq
            refine tX_b en st hq fun v M1 H1 S1 u g1 en1 st1 r1 h1 => tX_b en1 st1 h1 fun w M2 H2 S2 u2 g2 _ st2 r2 h2 => ?_
            have r1 := r1.mono g2
            split at h2
            · cases (show Rp X.K M2 H2 v _ from r1) with
              | lst n hl ra =>
                cases (show Rp X.K M2 H2 w _ from r2) with
                | lst n' hl' ra' =>
                  refine ⟨_, _, _, _, rfl, SqL.of hl, SqL.of hl', h2 _ M2 H2 (Gr.refl _ _) st2 (feed_zip (a := 0) (b := 0) (fun M' H' g i => ?_) ra ra')⟩
                  obtain ⟨_, h3⟩ := g.at_ hl n fun ps z => by cases z
                  obtain ⟨_, h4⟩ := g.at_ hl' n' fun ps z => by cases z
                  refine ⟨fun z => ⟨_, _, SqL.of h3, SqL.of h4, z⟩, fun x y ex ey => ⟨⟨_, _, x, y, SqL.of h3, SqL.of h4, ex, ey⟩, fun v H'' ⟨t, x', y', e1, e2, e3, e4, e5⟩ => ?_⟩⟩
                  have e4 := e4 _ (SqL.of h3)
                  have e5 := e5 _ (SqL.of h4)
                  rw [ex] at e4
                  rw [ey] at e5
                  cases e4
                  cases e5
                  exact ⟨t, e1, e2, e3⟩
            · exact h2.elim
          refine pe_imp (pe_lcH G.hot (by rw [G.names]; exact G.nd) hI hB (g := tTw X.K T t) (tt := tCs X.K T cl noE c (.cons d .nil)) (te := tX X.K T cl noE c e) (fun s H C cells fp => ?_) (fun s H C cells fp => ?_) (fun s H C cells fp => ?_)) fun σ H Q q => lc_conv hsl q
          · unfold pairT at ht
            split at ht
            · rename_i heq
              cases heq
              split at ht
              · rename_i hc
                simp only [Bool.and_eq_true] at hc
                obtain ⟨⟨⟨l1, l2⟩, l3⟩, l4⟩ := hc
                obtain ⟨i, hi, ht⟩ := bindO ht
                obtain ⟨j, hj, rfl⟩ := map_some ht
                exact pgw_tupH (hotB G.hot) rfl rfl rfl (pgsw_cons rfl (pgw_name (X := bH X s H scope (compEnvC scope cells C X.env) fp) G.names G.nd (hBs s H C cells fp) (hfb s H C cells fp) l1 l2 hi) (pgsw_cons rfl (pgw_name (X := bH X s H scope (compEnvC scope cells C X.env) fp) G.names G.nd (hBs s H C cells fp) (hfb s H C cells fp) l3 l4 hj) pgsw_nil))
              · cases ht
            · cases ht
          · have q := var_ok (T := T) (cl := cl) (E := noE) (c := c) (X := bH X s H scope (compEnvC scope cells C X.env) fp) G.names (hBs s H C cells fp) hd
            exact ptsx_one (pt_plain q.1 q.2)
          · exact (var_ok (X := bH X s H scope (compEnvC scope cells C X.env) fp) G.names (hBs s H C cells fp) he).1
      · cases h
    · cases h
/-- isinstance(n, C), n the error -/
def bitOf (N : List Str) (bit : Str → Option Bool) (sc : Scope) : Expr → Option Bool
  | .Call (.Name f _) [.Name v _, .Name c _] [] _ => if (decide (f = "isinstance") && glB sc f && visB sc v && !odd v && glB sc c && !odd c && decide (ixOf N v = some 0)) = true then bit c else none
  | _ => none
def bitsOf (N : List Str) (bit : Str → Option Bool) (sc : Scope) : List Expr → Option (List Bool)
  | [] => some []
  | e :: r => (bitOf N bit sc e).bind fun b => (bitsOf N bit sc r).map fun bs => b :: bs
def conBs : List Bool → Xs
  | [] => .nil
  | b :: r => .cons (.con (.bool b)) (conBs r)
/-- an answer, the error standing in the first slot -/
def tJ (a0 : Addr) (t : TE) : TE := fun σ H Q => σ[0]? = some (some (.ref a0)) ∧ t σ H Q
theorem bit_ok (G : HotG a0 bit X N sc) {e : Expr} {b : Bool} (h : bitOf N bit sc e = some b) : PE X e (tJ a0 fun _ H Q => Q (.bl b) H) ∧ starred e = false := by
  unfold bitOf at h
  split at h
  · split at h
    · rename_i hc
      simp only [Bool.and_eq_true, Bool.not_eq_true', decide_eq_true_eq] at hc
      obtain ⟨⟨⟨⟨⟨⟨h1, h2⟩, h3⟩, h4⟩, h5⟩, h6⟩, h7⟩ := hc
      subst h1
      obtain ⟨v, hv, hr⟩ := G.bits _ _ h
      refine ⟨pe_imp (pe_callB hr (gl_of G.scope h2) G.isi (by decide +kernel) (pa_cons (pe_var (i := 0) (by rw [G.names]; exact ix_of h7) (by rw [G.scope]; exact vis_of h3) (odd_of h4).1 (odd_of h4).2.1) (pa_cons (hv _ h5 h6) pa_nil) (star_of rfl)) (by decide +kernel) (by decide +kernel) (star_of rfl) rfl) fun σ H Q ⟨hs, q⟩ => ⟨_, hs, rfl, q⟩, rfl⟩
    · cases h
  · cases h
theorem bits_ok (G : HotG a0 bit X N sc) : ∀ {es : List Expr} {bs : List Bool}, bitsOf N bit sc es = some bs → PA X es (fun σ H Q => σ[0]? = some (some (.ref a0)) ∧ Q (bs.map V.bl) H)
  | [], bs, h => by unfold bitsOf at h; cases h; exact pa_imp pa_nil fun σ H Q q => q.2
  | e :: r, bs, h => by
    unfold bitsOf at h
    obtain ⟨b, h1, h⟩ := bindO h
    obtain ⟨cs, h2, rfl⟩ := map_some h
    obtain ⟨p, hs⟩ := bit_ok G h1
    exact pa_imp (pa_cons p (bits_ok G h2) (star_of hs)) fun σ H Q q => ⟨q.1, q.1, q.2⟩
theorem ev_conBs (g : Cn) (ρ : Rho) (S : Store) : ∀ bs : List Bool, evXs g (conBs bs) ρ S = .ok (bs.map fun b => .d (.bool b)) S
  | [] => by unfold conBs evXs; rfl
  | b :: r => by
    unfold conBs evXs evX
    show ((evXs g (conBs r) ρ S).bind fun xs S2 => R.ok (U.d (.bool b) :: xs) S2) = _
    rw [ev_conBs g ρ S r]
    rfl
theorem datas_bs (S : Store) : ∀ bs : List Bool, datas S (bs.map fun b => U.d (.bool b)) = some (bs.map PyData.bool)
  | [] => rfl
  | b :: r => by
    show (datas S (r.map fun b => U.d (.bool b))).map _ = _
    rw [datas_bs S r]
    rfl
theorem rpA_bs {K : W.Frag} {M : Ms} {H : Hp} : ∀ bs : List Bool, RpA K M H (bs.map V.bl) (bs.map PyData.bool)
  | [] => .nil
  | b :: r => .cons (.bl b) (rpA_bs r)
theorem px_bits (G : HotG a0 bit X N sc) {es : List Expr} {bs : List Bool} {pos : Pos} (h : bitsOf N bit sc es = some bs) : PE X (.List es pos) (tJ a0 (tX X.K T cl E c (.lst (conBs bs)))) :=
  pe_imp (pe_lst (bits_ok G h)) fun σ H Q ⟨hs, ρ, M, S, en, st, h⟩ => by
    refine ⟨hs, ?_⟩
    unfold evX at h
    rw [ev_conBs] at h
    have h : Out X.K T cl E M H (R.of S ((datas S (bs.map fun b => U.d (.bool b))).bind fun ps => if ps.length ≤ line then some (U.d (.list ps)) else none)) (RU X.K) Q := h
    rw [datas_bs] at h
    have h : Out X.K T cl E M H (R.of S (if (bs.map PyData.bool).length ≤ line then some (U.d (.list (bs.map PyData.bool))) else none)) (RU X.K) Q := h
    split at h
    · rename_i hl
      rw [List.length_map] at hl
      exact ⟨by rw [List.length_map, ← line_eq]; exact hl, fun p hp => Wish.list (ds := bs.map PyData.bool) h st hp (rpA_bs bs)⟩
    · exact h.elim
theorem px_more (G : HotG a0 bit X N sc) {e : Expr} {es : List Expr} {bs : List Bool} {x : Ev.X} {pos p2 : Pos} (h : bitsOf N bit sc es = some bs) (he : PE X e (tX X.K T cl E c x)) : PE X (.BinOp e .Add (.List es p2) pos) (tJ a0 (tX X.K T cl E c (.bin .Add x (.lst (conBs bs))))) :=
  pe_imp (pe_op (bin_ok (T := T) (cl := cl) (E := E) .Add) he (px_bits (T := T) (cl := cl) (E := E) (c := c) G h)) fun σ H Q ⟨hs, ρ, M, S, en, st, h⟩ => by
    unfold evX at h
    exact tX_b en st h fun v M1 H1 S1 u g1 en1 st1 r1 h1 => ⟨hs, tX_b en1 st1 h1 fun w M2 H2 S2 u2 g2 _ st2 r2 h2 => ⟨M2, S2, u, u2, r1.mono g2, r2, st2, h2⟩⟩
end
end Ev
end

section
set_option Elab.async false
set_option linter.all false
set_option autoImplicit false
set_option maxRecDepth 100000
set_option maxHeartbeats 4000000
/-! # The def that calls what it got, and names the error -/
namespace Ev
open PySem PySem.Spec PyProof.Rows L2 HotX L2H
/-- the statements of the def that names an error -/
def cHb (N : List Str) (bit : Str → Option Bool) (sc : Scope) : List Stmt → Option Sts
  | [] => some .nil
  | .Assign [.Name x _] (.List es _) _ :: r => if (locB sc x && decide (ixOf N x ≠ some 0)) = true then (ixOf N x).bind fun i => (bitsOf N bit sc es).bind fun bs => (cHb N bit sc r).map fun ys => .cons (.set i (.lst (conBs bs))) ys else none
  | .Assign [.Name x _] (.BinOp e .Add (.List es _) _) _ :: r => if (locB sc x && decide (ixOf N x ≠ some 0)) = true then (ixOf N x).bind fun i => (cH N 100 sc e).bind fun y => (bitsOf N bit sc es).bind fun bs => (cHb N bit sc r).map fun ys => .cons (.set i (.bin .Add y (.lst (conBs bs)))) ys else none
  | .Assign [.Name x _] e _ :: r => if (locB sc x && !isComp e && decide (ixOf N x ≠ some 0)) = true then (ixOf N x).bind fun i => (cH N 100 sc e).bind fun y => (cHb N bit sc r).map fun ys => .cons (.set i y) ys else none
  | .Return (some e) _ :: r => (cH N 100 sc e).bind fun y => (cHb N bit sc r).map fun ys => .cons (.ret y) ys
  | _ => none
section
variable {T : List (Addr × Str)} {cl : Nat → Option Addr} {E : XK} {c : Cn} {X : Cx} {N : List Str} {sc : Scope} {a0 : Addr} {bit : Str → Option Bool}
def tJs (a0 : Addr) (t : TS) : TS := fun D σ H => σ[0]? = some (some (.ref a0)) ∧ t D σ H
theorem conv_setJ {i : Nat} {y : Ev.X} {b : Sts} {D : Ends} {σ : L2.St} {H : Hp} (hi : i ≠ 0) (h : tJs a0 (tSs X.K T cl E c (.cons (.set i y) b)) D σ H) :
    tSeq (tAsg (tJ a0 (tX X.K T cl E c y)) (gName i)) (tJs a0 (tSs X.K T cl E c b)) D σ H := by
  obtain ⟨hs, ρ, M, S, en, st, h⟩ := h
  unfold evSs evS at h
  rw [bind_assoc] at h
  refine ⟨hs, tX_b en st h fun v M1 H1 S1 u g1 en1 st1 r1 h1 => ⟨?_, ?_⟩⟩
  · rw [List.getElem?_set_ne hi]
    exact hs
  · exact ⟨_, M1, S1, en1.set r1, st1, h1⟩
theorem cHb_ok (G : HotG a0 bit X N sc) (hf : ∀ x, X.fn x = true) : ∀ ss ir, cHb N bit sc ss = some ir → PSs X ss (tJs a0 (tSs X.K T cl E c ir)) := by
  have hN : X.N.Nodup := by rw [G.names]; exact G.nd
  have ix : ∀ {x : Str} {i : Nat}, ixOf N x = some i → X.N[i]? = some x := fun h => by rw [G.names]; exact ix_of h
  have loc : ∀ {x : Str}, locB sc x = true → L2.Loc X.env.scope x := fun h => by rw [G.scope]; exact loc_of h
  intro ss
  induction ss with
  | nil => intro ir h; unfold cHb at h; cases h; exact pss_imp ssx_nil fun D σ H q => q.2
  | cons s r ih =>
    intro ir h
    unfold cHb at h
    split at h
    · rename_i heq; cases heq
    · rename_i heq
      cases heq
      split at h
      · rename_i hc
        simp only [Bool.and_eq_true, decide_eq_true_eq] at hc
        obtain ⟨i, hi, h⟩ := bindO h
        obtain ⟨bs, hb, h⟩ := bindO h
        obtain ⟨ys, hr, rfl⟩ := map_some h
        exact pss_imp (pss_cons (ps_set hN (ix hi) (loc hc.1) (px_bits (T := T) (cl := cl) (E := E) (c := c) G hb) (swp_no rfl) (.inl (hf _))) (ih _ hr)) fun D σ H q => conv_setJ (fun z => hc.2 (by rw [← z]; exact hi)) q
      · cases h
    · rename_i heq
      cases heq
      split at h
      · rename_i hc
        simp only [Bool.and_eq_true, decide_eq_true_eq] at hc
        obtain ⟨i, hi, h⟩ := bindO h
        obtain ⟨y, hy, h⟩ := bindO h
        obtain ⟨bs, hb, h⟩ := bindO h
        obtain ⟨ys, hr, rfl⟩ := map_some h
        exact pss_imp (pss_cons (ps_set hN (ix hi) (loc hc.1) (px_more (T := T) (cl := cl) (E := E) (c := c) G hb (cH_ok G _ _ _ hy)) (swp_no rfl) (.inl (hf _))) (ih _ hr)) fun D σ H q => conv_setJ (fun z => hc.2 (by rw [← z]; exact hi)) q
      · cases h
    · rename_i heq
      cases heq
      split at h
      · rename_i hc
        simp only [Bool.and_eq_true, Bool.not_eq_true', decide_eq_true_eq] at hc
        obtain ⟨i, hi, h⟩ := bindO h
        obtain ⟨y, hy, h⟩ := bindO h
        obtain ⟨ys, hr, rfl⟩ := map_some h
        exact pss_imp (pss_cons (ps_set hN (ix hi) (loc hc.1.1) (pe_imp (cH_ok (T := T) (cl := cl) (E := E) (c := c) G _ _ _ hy) (t' := tJ a0 (tX X.K T cl E c y)) fun σ H Q q => q.2) (swp_no hc.1.2) (.inl (hf _))) (ih _ hr)) fun D σ H q => conv_setJ (fun z => hc.2 (by rw [← z]; exact hi)) q
      · cases h
    · rename_i heq
      cases heq
      obtain ⟨y, hy, h⟩ := bindO h
      obtain ⟨ys, hr, rfl⟩ := map_some h
      refine pss_imp (pss_cons (sx_ret (cH_ok (T := T) (cl := cl) (E := E) (c := c) G _ _ _ hy)) (ih _ hr)) fun D σ H q => ?_
      obtain ⟨hs, ρ, M, S, en, st, h⟩ := q
      unfold evSs at h
      refine ⟨ρ, M, S, en, st, ?_⟩
      unfold evS at h ⊢
      rw [bind_assoc] at h
      cases e : evX c y ρ S with
      | ok u S1 =>
        rw [e] at h
        have h : Out X.K T cl E M H (.ok (.rt u) S1) (relF X.K) (endF D) := h
        intro b M' H' g st' rel
        cases b with
        | inl σ' => exact rel.elim
        | inr v => exact h (.inr v) M' H' g st' rel
      | exc k S1 => rw [e] at h; exact h
      | bad => rw [e] at h; exact h
    · cases h
/-- isinstance of the error that is handled -/
theorem isE_any {a D : Addr} {oe : Obj} {d : Option Addr} (hp : (a, oe) ∈ X.pn) (C : ExcC X.K D) (hz : Zc (.ref D) d oe) (hdc : ∀ dd, d = some dd → (∃ od, X.s_0.heap.get? dd = some od) ∧ dd ∉ X.ex) (hf : ∃ vs, oe.data = .fields vs) {v : V} {cv : Value} (hcv : ∀ u, RelV v u → u = cv) {b : Bool} (e : PySem.W.kitOne X.K (.ref D) cv = some b) :
    CallR X (.builtin "isinstance") (fun xs H Q => xs = [.ref a, v] ∧ Q (.bl b) H) := by
  intro pins s σ H xs us Q I r ⟨ex, q⟩
  subst ex
  cases r with
  | cons rx rr =>
    cases rr with
    | cons rt rr =>
      cases rr
      cases rx
      have ec := hcv _ rt
      subst ec
      obtain ⟨hget, _⟩ := I.pin (a, oe) (List.mem_append_left _ hp)
      obtain ⟨vs, hv⟩ := hf
      obtain ⟨od', J⟩ : ∃ od', PySem.W.InstAt s.heap a oe D od' := by
        obtain ⟨oc, od, oda, osl⟩ := oe
        obtain ⟨h1, h2⟩ := hz
        dsimp only at h1 h2 hv
        subst h1 h2 hv
        cases od with
        | none => exact ⟨none, hget, rfl, rfl, trivial⟩
        | some dd =>
          obtain ⟨⟨ob, e1⟩, e2⟩ := hdc dd rfl
          obtain ⟨ob', e3⟩ := I.base.there dd ob e1 e2
          exact ⟨some ob', hget, rfl, rfl, e3⟩
      exact PySem.W.kia_one (PySem.W.kitx_exc (by obtain ⟨cd, e4, _⟩ := PySem.W.any_some C.hd; rw [e4]; rfl) C.hg C.hk C.hs C.ha C.hn C.ht C.hm) I.kIn J e (fun z => nomatch z) fun tk => ⟨.bl b, H, I.kept (t' := tk) fun _ _ z => z, rfl, q⟩
/-- a def called while p's exception is handled: its body walked with p in sight -/
theorem call_hotp {CX : CXT} {P : Program} {w : World} {K : W.Frag} {mg : Str → Option Value} {base : Heap} {k : Nat} {f : Addr} {name qual : Str} {params : Arguments} {body : List Stmt} {scope : Scope} {dV kV doc pm cdv ct oc : Value} {an od : Option Addr}
    {osl : Array (Option Value)} {N ps : List Str} (lk : K.lookup f = some ⟨oc, od, .func (W.fnOf name qual params body scope dV kV doc pm an cdv ct), osl⟩) (hcd : W.codeIn K cdv qual = true) (S : FnScope N ps scope)
    {A : Around} {outer : List Env} {s : Shared} {H : Hp} {args : Args} {us : List Value} {vs : List V} {Q : VK} {E : XK} {p : Addr × Obj} (hr : RoomH (k + 1) A) (hpin : PinOk outer H s p) (e0 : Env0 P w K mg base A outer s H)
    (hb : BindsTo s (W.fnOf name qual params body scope dV kV doc pm an cdv ct) args (ps.zip us)) (r : Vals vs us) (hl : vs.length = ps.length)
    (hbody : RoomH k (A.deeper (envOfC qual scope s.heap.objs.size f cdv)) → ∃ t, PSs (cxH CX P w K mg base N qual scope f cdv A outer s H E p) body t ∧ t { nx := fun _ H' => Q .non H', rt := Q } (L2.start N vs) H) :
    codeAny (model P w) A (.call (.ref f) args) (CR CX outer P w H s Q E) s := by
  have KX : K.In s.heap := e0.mod.kin.keeps fun b o e => (e0.bs b o e).1
  have hkind : ∀ y ∈ ps.zip us, scope.names.lookup y.1 = some .local ∨ (scope.names.lookup y.1 = some .cell ∧ ((cellsFrom (s.heap.objs.size + 1) scope.names []).lookup y.1).isSome = true) := fun ⟨n, v⟩ hy =>
    (S.par n (List.of_mem_zip hy).1).imp id fun q => ⟨q, W.cellsFrom_some _ _ _ (.inl q)⟩
  refine codeAny_call_function hr.depth (KX _ _ lk) rfl S.co S.gen rfl (W.codeRec_of KX hcd) (hb _ _ _ _ ?_)
  refine wpAny_newFunctionEnv_cells S.kind hkind fun env he s1 x => ?_
  subst he
  refine ⟨(e0.mod.nolimit.keeps fun b o e => (e0.bs b o e).1).keeps x.toInCall.keep, codeAny_func ?_⟩
  obtain ⟨t, ht, hq⟩ := hbody (hr.deeper _)
  refine wpAny_mono (ht.run [] s1 (L2.start N vs) H _ (inv_startH S hpin e0 hl r x) hq) (fun fl s' hs => ?_) fun e s' hs => hs
  cases fl with
  | ret u =>
    obtain ⟨v, σ', H', J, rv, q⟩ := hs
    exact ⟨v, H', J.os, J.bare, J.base, J.hok, rv, q⟩
  | next =>
    obtain ⟨σ', H', J, q⟩ := hs
    exact ⟨V.non, H', J.os, J.bare, J.base, J.hok, rfl, q⟩
  | brk =>
    obtain ⟨_, _, _, q⟩ := hs
    exact q.elim
  | cont =>
    obtain ⟨_, _, _, q⟩ := hs
    exact q.elim
/-- the def that names an error: what is asked of it -/
structure NmDef (T : List (Addr × Str)) (cl : Nat → Option Addr) (nm : Nat → Option Str) (P : Program) (w : World) (K : W.Frag) (mg : Str → Option Value) (base : Heap) (y : Str) (g : Addr) (pg : Arguments) (bg : List Stmt) (sg : Scope) (dV kV doc pm cdv ct oc : Value) (an od : Option Addr) (osl : Array (Option Value)) (Ng : List Str) (a : Str) : Prop where
  at_ : mg y = some (.ref g)
  kp : W.keepIn K (.ref g) = true
  lk : K.lookup g = some ⟨oc, od, .func (W.fnOf y y pg bg sg dV kV doc pm an cdv ct), osl⟩
  cd : W.codeIn K cdv y = true
  bnd : Binds K (W.fnOf y y pg bg sg dV kV doc pm an cdv ct) [a] []
  sc : FnScope Ng [a] sg
  isi : mg "isinstance" = none
  zip : mg "zip" = none
  exc : ∀ i C z, cl i = some C → nm i = some z → ExcC K C ∧ ∃ bit : Str → Option Bool, (∀ x b, bit x = some b → ∃ v cv, (mg x = some cv ∨ (mg x = none ∧ bootBuiltins x = some cv ∧ x ≠ "__name__")) ∧ RelV v cv ∧ (∀ u, RelV v u → u = cv) ∧ W.kitOne K (.ref C) cv = some b) ∧
    ∃ ir, cHb Ng bit sg bg = some ir ∧ ∀ (c : Cn) S, evSs c ir (List.replicate Ng.length none) S = .ok (.rt (.d (.str z))) S
/-- y(n), n the error -/
theorem px_nm {nm : Nat → Option Str} {Y : Cx} {a : Addr} {oe : Obj} {cls : Value} {d : Option Addr} {y n : Str} {i : Nat} {g : Addr} {pg : Arguments} {bg : List Stmt} {sg : Scope} {dV kV doc pm cdv ct oc : Value} {an od : Option Addr} {osl : Array (Option Value)} {Ng : List Str} {pa : Str} {p q pos : Pos}
    (D : NmDef T cl nm Y.prog Y.w Y.K Y.mg Y.base y g pg bg sg dV kV doc pm cdv ct oc an od osl Ng pa) (hp : (a, oe) ∈ Y.pn) (hh : Y.A.handled = some (.ref a)) (hz : L2N.Zn cls d oe) (hf : ∃ vs, oe.data = .fields vs) (hr : RoomH 1 Y.A)
    (hg : Gl Y y) (hdb : (y == ("__debug__" : Str)) = false) (hi : Y.N[i]? = some n) (hv : Vis Y.env.scope n) (ho : odd n = false) :
    PE Y (.Call (.Name y p) [.Name n q] [] pos) (fun σ H Q => ∃ M S C j z, Dic d H ∧ cls = .ref C ∧ cl j = some C ∧ nm j = some z ∧ StOk Y.K T M S H ∧ (i < σ.length → σ[i]? = some (some (.ref a))) ∧ ∀ M' H'', Gr M H M' H'' → StOk Y.K T M' S H'' → Q (.str z) H'') := by
  refine ⟨fun pins s σ H Q I ⟨M, S, C, j, z, e1, e2, e3, e4, st, e5, hq⟩ => ?_⟩
  subst e2
  have e5 := e5 (by rw [I.len]; exact (List.getElem?_eq_some_iff.mp hi).1)
  obtain ⟨vs, hd⟩ := hf
  have hot : Hot1 Y.A (a, oe) := ⟨hh, vs, hd, hz.2.2 vs hd⟩
  obtain ⟨hE, bit, hbit, hir⟩ := D.exc j C z e3 e4
  obtain ⟨ir, hc, hev⟩ := hir
  refine wpAny_Call_Name_kw (ld_glob I hg D.at_ ?_ hdb)
  have ha : PA Y [.Name n q] (tCons (tVar i) tNil) := pa_cons (pe_var hi hv (odd_of ho).1 (odd_of ho).2.1) pa_nil
  refine W.callWith_K (h₀ := Y.base) I.ok.mod.kin D.kp (thn (ha.run pos pins s σ H (fun us H1 => us = [.ref a] ∧ H1 = H) I ⟨_, e5, rfl, rfl⟩) fun us s1 ⟨ws, H1, I1, r, ew, eH⟩ => ⟨I1.kIn, ?_⟩) rfl rfl
  subst ew eH
  have P1 := I1.pin (a, oe) (List.mem_append_left _ hp)
  have hdic : ∀ dd, d = some dd → (∃ od, s1.heap.get? dd = some od) ∧ dd ∉ ([] : List Addr) := fun dd e => by
    obtain ⟨fs, e6⟩ := e1 dd e
    obtain ⟨o, e7⟩ := objOk_get (I1.hok dd _ e6)
    exact ⟨⟨o, e7⟩, fun z => by cases z⟩
  have hpin : PinOk Y.stack H1 s1 (a, oe) := ⟨P1.1, P1.2.1, fun hm => (List.mem_cons.mp (I1.stkSub a hm)).elim P1.2.2.1 P1.2.2.2.1, P1.2.2.2.2⟩
  have hb := D.bnd s1 us I1.kIn (by rw [List.append_nil, ← r.length]; rfl)
  rw [List.append_nil] at hb
  have rc : codeAny (model Y.prog Y.w) Y.A (.call (.ref g) ⟨us, []⟩) (CR C8.CX0 Y.stack Y.prog Y.w H1 s1 Q C8.E0) s1 := by
    refine call_hotp (k := 0) D.lk D.cd D.sc hr hpin I1.env0 hb r rfl fun hr' => ?_
    have G : HotG a bit (cxH C8.CX0 Y.prog Y.w Y.K Y.mg Y.base Ng y sg g cdv Y.A Y.stack s1 H1 C8.E0 (a, oe)) Ng sg :=
      ⟨⟨(a, oe), hot, List.mem_cons_self⟩, rfl, D.sc.nd, rfl, by have := hr'.un; show (Y.A.deeper _).units + 65 < cLine; omega, D.isi, D.zip, fun x b hx => by
        obtain ⟨v, cv, h1, h2, h3, h4⟩ := hbit x b hx
        refine ⟨v, fun p hgx hox => ?_, isE_any (X := cxH C8.CX0 Y.prog Y.w Y.K Y.mg Y.base Ng y sg g cdv Y.A Y.stack s1 H1 C8.E0 (a, oe)) List.mem_cons_self hE hz.zc hdic ⟨vs, hd⟩ h3 h4⟩
        rcases h1 with h1 | ⟨h1, h5, h6⟩
        · exact pe_glob (gl_of rfl hgx) h1 h2 (odd_of hox).1
        · exact pe_bltn (gl_of rfl hgx) h1 h5 h2 h6 (odd_of hox).1⟩
    have hlen : 1 ≤ Ng.length := by
      have := congrArg List.length D.sc.pre
      rw [List.length_take] at this
      have e : ([pa] : List Str).length = 1 := rfl
      rw [e] at this
      omega
    refine ⟨_, cHb_ok (T := T) (cl := cl) (E := C8.E0) (c := ⟨fun _ _ _ => .bad, none, fun _ => none⟩) G (fun _ => rfl) _ _ hc, rfl, List.replicate Ng.length none, M, S, ⟨?_, fun i u h => ?_⟩, st, ?_⟩
    · unfold L2.start
      simp
      omega
    · rw [List.getElem?_replicate] at h
      split at h <;> cases h
    · rw [hev]
      intro x M' H' gr st' rel
      cases x with
      | inl σ' => exact rel.elim
      | inr v =>
        cases (show Rp Y.K M' H' v (.str z) from rel)
        exact hq M' H' gr st'
  refine wpAny_call (codeAny_mono rc fun r s' hq => ?_)
  cases r with
  | error e => exact (show False from hq).elim
  | ok fl =>
    cases fl with
    | ret u => exact I1.after hq
    | next => exact False.elim hq
    | brk => exact False.elim hq
    | cont => exact False.elim hq
/-- try: a() / except w as n: return y(n) / return '' -/
theorem err_gives {nm : Nat → Option Str} {x y a n we : Str} {q : Str} {sx : Scope} {gx WE : Addr} {cdx : Value} {Nx : List Str} {jc : Nat} {p1 p2 p3 p4 p5 p6 p7 p8 p9 p10 p11 p12 : Pos}
    {g : Addr} {pg : Arguments} {bg : List Stmt} {sg : Scope} {dV kV doc pm cdv ct oc : Value} {an od : Option Addr} {osl : Array (Option Value)} {Ng : List Str} {pa : Str}
    (D : NmDef T cl nm X.prog X.w X.K X.mg X.base y g pg bg sg dV kV doc pm cdv ct oc an od osl Ng pa) (hr : Room 2 X.A) (hNx : Nx.Nodup) (h0 : ∀ f : Addr, (L2.start Nx [V.ref f])[0]? = some (some (V.ref f))) (hl : 1 < Nx.length) (h1 : Nx[1]? = some n) (hn : sx.names.lookup n = some .local)
    (hwe : sx.names.lookup we = some .globalImplicit) (hmw : X.mg we = some (.ref WE)) (hdw : (we == ("__debug__" : Str)) = false) (hy : sx.names.lookup y = some .globalImplicit) (hdy : (y == ("__debug__" : Str)) = false) (hon : odd n = false)
    (hex : ∀ i C, cl i = some C → W.exmOne X.K (.ref C) (.ref WE) = some true) :
    GivesN X Nx x sx gx cdx [.Try [.Expr (.Call (.Name a p1) [] [] p2) p3] [.ExceptHandler (some (.Name we p4)) (some n) [.Return (some (.Call (.Name y p5) [.Name n p6] [] p7)) p8] p9] [] [] p10, .Return (some (.Constant (.str ⟨#[]⟩) jc p11)) p12] a q (TTerr X.K T cl nm) := by
  intro f c' s H Q tl act hc h
  have ht := L2N.ps_try_as (X := (gotN X Nx x sx gx cdx s H).nox) (x := we) (n := n) (c := .ref WE) (i := 1) (np := p4) (pos := p10) (pos' := p9) (body := [.Expr (.Call (.Name a p1) [] [] p2) p3]) (b₀ := .Return (some (.Call (.Name y p5) [.Name n p6] [] p7)) p8) (suite := [])
      (tb := fun W D σ H => ∃ Ech : XK, (∀ cls d σ' H', Ech cls d H' → W cls d σ' H') ∧ σ[0]? = some (some (.ref f)) ∧ H c' = some (LamX.CodeO c' q) ∧ tl Ech H fun _ H1 => D.nx σ H1)
      (ts := fun a cls d D σ H => ∃ M S C j z, Dic d H ∧ cls = .ref C ∧ cl j = some C ∧ nm j = some z ∧ StOk X.K T M S H ∧ (1 < σ.length → σ[1]? = some (some (.ref a))) ∧ ∀ M' H'', Gr M H M' H'' → StOk X.K T M' S H'' → D.rt (.str z) H'')
      (Wout := fun _ _ _ _ => False) rfl rfl hNx h1 hn ⟨hwe, hdw, .inl hmw⟩ takesN0 (fun W pn xe tk _ => ?_) (fun b oe cls d pn hz hf => ?_)
  · refine ⟨_, pss_cons ht (pss_one (ps_ret pe_str)), ?_⟩
    refine ⟨fun cls d H' => ∃ M S C i z, Dic d H' ∧ StOk X.K T M S H' ∧ cls = .ref C ∧ cl i = some C ∧ nm i = some z ∧ ∀ M' H'', Gr M H' M' H'' → StOk X.K T M' S H'' → Q (.str z) H'', fun cls d σ' H' ⟨M, S, C, i, z, e1, st, e2, e3, e4, k⟩ => ?_, h0 f, hc, h⟩
    subst e2
    exact ⟨true, hex i C e3, fun _ b hb => ⟨M, S, C, i, z, e1, rfl, e3, e4, st, fun hlt => by rw [List.getElem?_set_self (by simpa using hlt)], k⟩, fun z => by cases z⟩
  · refine ⟨fun pins s' σ H' D I ⟨Ech, hW, g1, g2, g3⟩ => ?_⟩
    exact (pss_one (ps_expr (act W pn xe Ech p1 p2 tk hW))).run pins s' σ H' D I ⟨g1, g2, g3⟩
  · have hr1 : RoomH 1 ((gotN X Nx x sx gx cdx s H).nox.suite b ((b, oe) :: pn)).A := ⟨(hr.deeper (envOfC x sx s.heap.objs.size gx cdx)).dp, (hr.deeper (envOfC x sx s.heap.objs.size gx cdx)).un⟩
    exact pss_one (ps_ret (px_nm (Y := (gotN X Nx x sx gx cdx s H).nox.suite b ((b, oe) :: pn)) (nm := nm) D List.mem_cons_self rfl hz hf hr1 hy hdy h1 (.inl hn) hon))
end
end Ev
end

section
set_option Elab.async false
set_option linter.all false
set_option autoImplicit false
set_option maxRecDepth 100000
set_option maxHeartbeats 4000000
/-! # From what the program's top has laid -/
namespace Ev
open PySem PySem.Spec PyProof.Rows L2
def cfgOf (rows : List Row) (clsN : List Str) (tm : List (Str × Str)) (conI : List (Str × Int)) (conT : List (Str × List Str)) : Cfg :=
  { fnIx := ixOf (rows.map (·.nm)), clIx := fun x => if (tm.lookup x).isSome = true then none else ixOf clsN x, clTx := fun x => if (tm.lookup x).isSome = true then ixOf clsN x else none, con := fun x => match conI.lookup x with
    | some i => some (.int i)
    | none => (conT.lookup x).map fun zs => .tuple (zs.map .str), errs := fun x => decide (x = "_law_error"), bx := [], lam := false, keep := false, np := fun i => (rows[i]?).map (·.ps.length) }
/-- what a program is, for the little language: its defs; the classes that are raised, with their words; whole-number constants; all own classes that are asked of; the def that calls what it gets, the def that names the error -/
structure Pg where
  rows : List Row
  clsN : List Str
  nmL : List Str
  conI : List (Str × Int)
  own : List Str
  eSt : Stmt
  nSt : Stmt
  Ne : List Str
  Nn : List Str
  /-- classes with a maker of their own, what it keeps; the text's file -/
  tm : List (Str × Str)
  file : Str
  /-- tuples of texts -/
  conT : List (Str × List Str)
def Pg.g (p : Pg) : Cfg := cfgOf p.rows p.clsN p.tm p.conI p.conT
def Pg.tf (p : Pg) : List He.Defn := (p.rows.filter (·.lam)).map fun r => (r.nm, none)
def Pg.fa (p : Pg) : List He.Fa :=
  p.rows.map (fun r => .glo r.nm) ++ ([.glo "_law_error", .glo "_law_names", .glo "WalkError", .free "ValueError", .free "super"] ++ (p.clsN.map .glo ++ ((p.clsN.filter fun x => !(p.tm.lookup x).isSome).map .exc ++ (p.clsN.map (fun x => .exm x "WalkError" true) ++ (p.own.map .glo ++ (bltNames.map .free ++ ((p.conI.map fun q => .int q.1 q.2) ++ p.conT.map fun q => .glo q.1)))))))
def defD (x : Str) (st : Stmt) : He.DefD := ⟨(x, none), x, x, defArgs st, defBody st, defScope st, [], []⟩
def Pg.fn (p : Pg) : List He.DefD := p.rows.map (fun r => defD r.nm r.st) ++ [defD "_law_error" p.eSt, defD "_law_names" p.nSt]
/-- what isinstance asks of a class -/
def excCB (K : W.Frag) (D : Addr) : Bool :=
  decide (W.findIn K (.ref D) "__getattribute__" = some (some (.builtin "BaseException.__getattribute__"))) && decide (W.findIn K (.ref D) "__getattr__" = some none) && decide (W.subIn K (.ref D) (.type "BaseException") = some true) && W.hasDictIn K D &&
  decide (W.findIn K (.ref D) "__class__" = some (some (.builtin "object.__class__"))) && decide (W.specialIn K (.builtin "object.__class__") "__get__" = some (some (.builtin "getset_descriptor.__get__"))) && decide (W.takesIn K (.builtin "object.__class__") = some true) && decide (W.mroIn K D (.type "object") = some true)
theorem excCB_ok {K : W.Frag} {D : Addr} (h : excCB K D = true) : ExcC K D := by
  unfold excCB at h
  simp only [Bool.and_eq_true, decide_eq_true_eq] at h
  obtain ⟨⟨⟨⟨⟨⟨⟨h1, h2⟩, h3⟩, h4⟩, h5⟩, h6⟩, h7⟩, h8⟩ := h
  exact ⟨h1, h2, h3, h4, h5, h6, h7, h8⟩
def strsB : List Value → List Str → Bool
  | [], [] => true
  | .str y _ :: r, z :: zs => decide (y = z) && strsB r zs
  | _, _ => false
/-- a tuple of texts stands at a -/
def tupSB (K : W.Frag) (a : Addr) (zs : List Str) : Bool :=
  match K.lookup a with
  | some ⟨.type t, none, .seq its _, _⟩ => decide (t = "tuple") && decide (its.size ≤ sizeLine) && strsB its.toList zs
  | _ => false
theorem strsB_ok {K : W.Frag} {M : Ms} {H : Hp} : ∀ {us : List Value} {zs : List Str}, strsB us zs = true → Vals (zs.map V.str) us
  | [], [], _ => .nil
  | .str y t :: r, z :: zs, h => by
    have h2 : (decide (y = z) && strsB r zs) = true := h
    rw [Bool.and_eq_true, decide_eq_true_eq] at h2
    obtain ⟨e1, e2⟩ := h2
    exact .cons ⟨t, by rw [e1]⟩ (strsB_ok (K := K) (M := M) (H := H) e2)
  | [], _ :: _, h => nomatch h
  | .none :: _, [], h => nomatch h
  | .str _ _ :: _, [], h => nomatch h
theorem tupSB_ok {K : W.Frag} {a : Addr} {zs : List Str} (h : tupSB K a zs = true) (M : Ms) (H : Hp) : Rp K M H (.ref a) (.tuple (zs.map .str)) := by
  unfold tupSB at h
  split at h
  · rename_i t its n sl e
    rw [Bool.and_eq_true, Bool.and_eq_true, decide_eq_true_eq, decide_eq_true_eq] at h
    obtain ⟨⟨rfl, h1⟩, h2⟩ := h
    exact .tup (.inr ⟨_, its, n, e, rfl, rfl, rfl, h1, strsB_ok (K := K) (M := M) (H := H) h2⟩) (rpA_strs zs)
  · cases h
def Pg.ex (p : Pg) (K : W.Frag) : Bool :=
  (p.clsN.all fun c => excCB K (He.ga K c) && (p.own.all fun x => decide (W.kitOne K (.ref (He.ga K c)) (.ref (He.ga K x)) = some (decide (x = c)))) && decide (W.kitOne K (.ref (He.ga K c)) (.type "ValueError") = some true)) &&
  decide ((p.tf.map fun q => (He.cT K q).2).Nodup) && (p.tm.all fun q => tmB p.file K (He.ga K q.1) (He.ma K (He.ga K q.1) "__init__") q.2) && (p.conT.all fun q => tupSB K (He.ga K q.1) q.2)
/-- which classes an error of the class c is of -/
def Pg.bit (p : Pg) (c x : Str) : Option Bool := if x ∈ p.own then some (decide (x = c)) else if x = "ValueError" then some true else none
def Pg.nm (p : Pg) (i : Nat) : Option Str := p.nmL[i]?
def Pg.T (p : Pg) (K : W.Frag) : List (Addr × Str) := p.tf.map fun q => ((He.cT K q).2, q.1 ++ ".<locals>." ++ "<lambda>")
def Pg.cl (p : Pg) (K : W.Frag) (i : Nat) : Option Addr := (p.clsN[i]?).map (He.ga K)
/-- no error is a value -/
theorem xok_none {h : Hn} {P : Program} {K : W.Frag} {mg : Str → Option Value} (h1 : h.xC = []) (h2 : h.xM = []) (h3 : h.xT = []) (h4 : h.xS = []) : XOk h P K mg where
  cs := fun x hx => by rw [h1] at hx; cases hx
  ms := fun x f hx => by rw [h2] at hx; cases hx
  ts := fun x tb hx => by rw [h3] at hx; cases hx
  ss := fun x hx => by rw [h4] at hx; cases hx
/-- how one argument binds -/
def Bnd1 (x : Str) (st : Stmt) (ps : List Str) : Prop := ∀ (kV doc pm : Value) (an : Option Addr) (cdv ct : Value) (us : List Value), us.length = ps.length → bindArgs (W.fnOf x x (defArgs st) (defBody st) (defScope st) .none kV doc pm an cdv ct) ⟨us, []⟩ = pure (ps.zip us)
/-- what is to be checked of the text -/
structure PgOk (p : Pg) (fns : List Fn) : Prop where
  ir : ∀ (i : Nat) r, p.rows[i]? = some r → ∃ fn, fns[i]? = some fn ∧ r.ir p.g = some fn
  sc : ∀ r, r ∈ p.rows → FnScope r.N r.ps (defScope r.st)
  bnd : ∀ r, r ∈ p.rows → r.Bnd
  nd : (p.rows.map (·.nm)).Nodup
  nmL : p.nmL.length = p.clsN.length
  scE : ∃ a, FnScope p.Ne [a] (defScope p.eSt) ∧ p.Ne[0]? = some a ∧ Vis (defScope p.eSt) a ∧ odd a = false ∧ Bnd1 "_law_error" p.eSt [a] ∧ ∃ n j p1 p2 p3 p4 p5 p6 p7 p8 p9 p10 p11 p12, 1 < p.Ne.length ∧ p.Ne[1]? = some n ∧ odd n = false ∧ (defScope p.eSt).names.lookup n = some .local ∧
    (defScope p.eSt).names.lookup ("WalkError" : Str) = some .globalImplicit ∧ (defScope p.eSt).names.lookup ("_law_names" : Str) = some .globalImplicit ∧
    defBody p.eSt = [.Try [.Expr (.Call (.Name a p1) [] [] p2) p3] [.ExceptHandler (some (.Name "WalkError" p4)) (some n) [.Return (some (.Call (.Name "_law_names" p5) [.Name n p6] [] p7)) p8] p9] [] [] p10, .Return (some (.Constant (.str ⟨#[]⟩) j p11)) p12]
  scN : ∃ a, FnScope p.Nn [a] (defScope p.nSt) ∧ Bnd1 "_law_names" p.nSt [a]
  nm : ∀ (i : Nat) c z, p.clsN[i]? = some c → p.nmL[i]? = some z → ∃ ir, cHb p.Nn (p.bit c) (defScope p.nSt) (defBody p.nSt) = some ir ∧ ∀ (g : Cn) S, evSs g ir (List.replicate p.Nn.length none) S = .ok (.rt (.d (.str z))) S
theorem fun_at {K : W.Frag} {x qual : Str} {params : Arguments} {body : List Stmt} {scope : Scope} {f : Addr} {fd : FuncData} (F : FunD K x qual params body scope [] [] f fd) :
    ∃ (oc : Value) (od : Option Addr) (dV kV doc pm : Value) (an : Option Addr) (cdv ct : Value) (osl : Array (Option Value)), fd = W.fnOf x qual params body scope dV kV doc pm an cdv ct ∧ K.lookup f = some ⟨oc, od, .func fd, osl⟩ ∧ W.codeIn K cdv qual = true := by
  obtain ⟨oc, od, dV, kV, doc, pm, an, cdv, ct, osl, h1, h2, h3, _, _⟩ := F.ex
  exact ⟨oc, od, dV, kV, doc, pm, an, cdv, ct, osl, h1, h2, h3⟩
theorem map_nd {α β : Type} {f : α → β} {l : List α} {a b : α} (nd : (l.map f).Nodup) (ha : a ∈ l) (hb : b ∈ l) (e : f a = f b) : a = b := by
  induction l with
  | nil => cases ha
  | cons x r ih =>
    rw [List.map_cons, List.nodup_cons] at nd
    rcases List.mem_cons.mp ha with ha | ha
    · rcases List.mem_cons.mp hb with hb | hb
      · rw [ha, hb]
      · exact absurd (List.mem_map.mpr ⟨b, hb, by rw [← e, ha]⟩) nd.1
    · rcases List.mem_cons.mp hb with hb | hb
      · exact absurd (List.mem_map.mpr ⟨a, ha, by rw [e, hb]⟩) nd.1
      · exact ih nd.2 ha hb
section
variable {p : Pg} {fns : List Fn} {P : Program} {w : World} {K : W.Frag} {mg : Str → Option Value} {base h : Heap}
theorem lay_of (O : PgOk p fns) (hP : p.tm ≠ [] → ((P.main.file : Str) == p.file) = true ∧ (P.main.scope.names.lookup ("super" : Str)).isSome = false) (c : He.SaysX p.fa p.fn [] p.tf p.ex w h K) (KX : K.In base) (G : base.Ns mainGlobals mg) (TB : ∀ q, q ∈ p.tf.map (He.cT K) → LamX.TabB base mg q.1 q.2) :
    Lay p.g p.rows ⟨fns, p.nm⟩ (p.T K) (p.cl K) P w K mg base := by
  have D : He.SaysD p.fa p.fn K := c.t.d
  have glo : ∀ {x : Str}, He.Fa.glo x ∈ p.fa → mg x = some (.ref (He.ga K x)) := fun {x} hx => He.glo_ok KX G (D.facts hx)
  have fre : ∀ {x : Str}, He.Fa.free x ∈ p.fa → mg x = none := fun {x} hx => He.free_ok KX G (D.facts hx)
  have gRow : ∀ r, r ∈ p.rows → mg r.nm = some (.ref (He.ga K r.nm)) := fun r hr => glo (by unfold Pg.fa; exact List.mem_append_left _ (List.mem_map.mpr ⟨r, hr, rfl⟩))
  have gCls : ∀ x, x ∈ p.clsN → mg x = some (.ref (He.ga K x)) := fun x hx => glo (by unfold Pg.fa; simp [hx])
  have gOwn : ∀ x, x ∈ p.own → mg x = some (.ref (He.ga K x)) := fun x hx => glo (by unfold Pg.fa; simp [hx])
  have gE : mg "_law_error" = some (.ref (He.ga K "_law_error")) := glo (by unfold Pg.fa; simp)
  have gN : mg "_law_names" = some (.ref (He.ga K "_law_names")) := glo (by unfold Pg.fa; simp)
  have gW : mg "WalkError" = some (.ref (He.ga K "WalkError")) := glo (by unfold Pg.fa; simp)
  have gV : mg "ValueError" = none := fre (by unfold Pg.fa; simp)
  have gS : mg "super" = none := fre (by unfold Pg.fa; simp)
  have gB : ∀ x, x ∈ bltNames → mg x = none := fun x hx => fre (by unfold Pg.fa; simp only [List.mem_append, List.mem_map]; exact .inr (.inr (.inr (.inr (.inr (.inr (.inl ⟨x, hx, rfl⟩)))))))
  have ex := c.more
  unfold Pg.ex at ex
  rw [Bool.and_eq_true, Bool.and_eq_true, Bool.and_eq_true, List.all_eq_true, decide_eq_true_eq, List.all_eq_true, List.all_eq_true] at ex
  obtain ⟨⟨⟨exC, exT⟩, exM⟩, exS⟩ := ex
  have fE := D.defs (d := defD "_law_error" p.eSt) (by unfold Pg.fn; simp)
  have fN := D.defs (d := defD "_law_names" p.nSt) (by unfold Pg.fn; simp)
  have fRow : ∀ r, r ∈ p.rows → ∃ fd, FunD K r.nm r.nm (defArgs r.st) (defBody r.st) (defScope r.st) [] [] (He.ga K r.nm) fd := fun r hr => D.defs (d := defD r.nm r.st) (by unfold Pg.fn; exact List.mem_append_left _ (List.mem_map.mpr ⟨r, hr, rfl⟩))
  refine ⟨O.ir, O.sc, O.bnd, fun r hr => ?_, fun r hr hl f fd hf F => ?_, fun x i hi => ?_, fun i => rfl, fun x i hi => ?_, fun x i hi => ?_, fun i z hz => ?_, fun x hx => ?_, gB, fun x q hq => ?_, fun r hr => xok_none rfl rfl rfl rfl⟩
  · obtain ⟨fd, F⟩ := fRow r hr
    exact ⟨_, fd, gRow r hr, F⟩
  · rw [gRow r hr] at hf
    cases hf
    obtain ⟨oc, od, dV, kV, doc, pm, an, cdv, ct, osl, e1, e2, e3⟩ := fun_at F
    obtain ⟨cA, ec⟩ := He.codeIn_ref e3
    have hq : (r.nm, none) ∈ p.tf := by unfold Pg.tf; exact List.mem_map.mpr ⟨r, List.mem_filter.mpr ⟨hr, hl⟩, rfl⟩
    have ecode : fd.code = .ref cA := by rw [e1, ← ec]
    have e4 : He.codeOf K (r.nm, none) = cA := He.codeOf_eq (by show K.lookup (He.ga K r.nm) = _; exact e2) ecode
    refine ⟨cA, (He.cT K (r.nm, none)).2, ecode, ?_, List.mem_map.mpr ⟨_, hq, rfl⟩, fun t ht et => ?_⟩
    · have := TB _ (List.mem_map.mpr ⟨_, hq, rfl⟩)
      rw [show (He.cT K (r.nm, none)).1 = cA from e4] at this
      exact this
    · obtain ⟨q, hq2, rfl⟩ := List.mem_map.mp ht
      rw [map_nd exT hq2 hq et]
  · have hx := ix_of hi
    rw [List.getElem?_map] at hx
    obtain ⟨r, e1, e2⟩ := map_some hx
    exact ⟨r, e1, e2⟩
  · have hi : (if (p.tm.lookup x).isSome = true then none else ixOf p.clsN x) = some i := hi
    split at hi
    · cases hi
    · rename_i ht
      have hx := ix_of hi
      have hm := List.mem_of_getElem? hx
      have ht : (p.tm.lookup x).isSome = false := by
        cases z : (p.tm.lookup x).isSome with
        | true => exact absurd z ht
        | false => rfl
      obtain ⟨e1, e2, e3, e4⟩ := He.exc_ok (D.facts (f := .exc x) (by
        unfold Pg.fa
        refine List.mem_append_right _ (List.mem_append_right _ (List.mem_append_right _ (List.mem_append_left _ (List.mem_map.mpr ⟨x, List.mem_filter.mpr ⟨hm, by rw [ht]; rfl⟩, rfl⟩))))))
      exact ⟨He.ga K x, by unfold Pg.cl; rw [hx]; rfl, gCls x hm, e2, e1, e3, e4⟩
  · have hi : (if (p.tm.lookup x).isSome = true then ixOf p.clsN x else none) = some i := hi
    split at hi
    · rename_i ht
      have hx := ix_of hi
      have hm := List.mem_of_getElem? hx
      obtain ⟨f, hf⟩ := Option.isSome_iff_exists.mp ht
      have hq := PySem.mem_of_lookup hf
      obtain ⟨p1, p2⟩ := hP (fun z => by rw [z] at hq; cases hq)
      have := exM _ hq
      obtain ⟨e1, e2, e3⟩ := tmB_ok this p1 p2 gS
      exact ⟨He.ga K x, f, _, by unfold Pg.cl; rw [hx]; rfl, gCls x hm, e1, e2, e3⟩
    · cases hi
  · have hz : p.nmL[i]? = some z := hz
    have hi : i < p.clsN.length := by rw [← O.nmL]; exact (List.getElem?_eq_some_iff.mp hz).1
    exact ⟨He.ga K p.clsN[i], by unfold Pg.cl; rw [List.getElem?_eq_getElem hi]; rfl⟩
  · -- the def that calls what it got
    have hx : decide (x = "_law_error") = true := hx
    have hx := of_decide_eq_true hx
    subst hx
    obtain ⟨fe, FE⟩ := fE
    obtain ⟨fn, FN⟩ := fN
    have FE : FunD K "_law_error" "_law_error" (defArgs p.eSt) (defBody p.eSt) (defScope p.eSt) [] [] (He.ga K "_law_error") fe := FE
    have FN : FunD K "_law_names" "_law_names" (defArgs p.nSt) (defBody p.nSt) (defScope p.nSt) [] [] (He.ga K "_law_names") fn := FN
    obtain ⟨a, s1, s2, s3, s4, s5, n, j, p1, p2, p3, p4, p5, p6, p7, p8, p9, p10, p11, p12, t1, t2, t3, t4, t5, t6, t7⟩ := O.scE
    obtain ⟨an', n1, n2⟩ := O.scN
    obtain ⟨oc, od, dV, kV, doc, pm, an, cdv, ct, osl, e1, e2, e3⟩ := fun_at FE
    obtain ⟨oc', od', dV', kV', doc', pm', anN, cdv', ct', osl', e1', e2', e3'⟩ := fun_at FN
    have bE := FE.bindsN (ps := [a]) s5
    have bN := FN.bindsN (ps := [an']) n2
    subst e1 e1'
    refine ⟨_, _, _, _, dV, kV, doc, pm, cdv, ct, oc, an, od, osl, p.Ne, a, gE, FE.kp, e2, e3, bE, s1, s2, s3, s4, fun X hP hw hK hm hb hr q => ?_⟩
    subst hP hw hK hm hb
    have ND : NmDef (p.T X.K) (p.cl X.K) p.nm X.prog X.w X.K X.mg X.base "_law_names" (He.ga X.K "_law_names") (defArgs p.nSt) (defBody p.nSt) (defScope p.nSt) dV' kV' doc' pm' cdv' ct' oc' anN od' osl' p.Nn an' :=
      ⟨gN, FN.kp, e2', e3', bN, n1, gB _ (by simp), gB _ (by simp), fun i C z hC hz => by
        unfold Pg.cl at hC
        obtain ⟨k, hk, rfl⟩ := map_some hC
        have q := exC k (List.mem_of_getElem? hk)
        simp only [Bool.and_eq_true, List.all_eq_true, decide_eq_true_eq] at q
        obtain ⟨⟨q1, q2⟩, q3⟩ := q
        refine ⟨excCB_ok q1, p.bit k, fun x b hb => ?_, O.nm i k z hk hz⟩
        unfold Pg.bit at hb
        split at hb
        · rename_i ho
          cases hb
          exact ⟨.ref (He.ga X.K x), .ref (He.ga X.K x), .inl (gOwn x ho), rfl, fun u hu => by cases hu; rfl, q2 x ho⟩
        · split at hb
          · rename_i ho
            subst ho
            cases hb
            exact ⟨.ty "ValueError", .type "ValueError", .inr ⟨gV, by decide +kernel, by decide +kernel⟩, rfl, fun u hu => by cases hu; rfl, q3⟩
          · cases hb⟩
    rw [t7]
    refine err_gives ND hr s1.nd (fun f => rfl) t1 t2 t4 t5 gW (by decide +kernel) t6 (by decide +kernel) t3 fun i C hC => ?_
    unfold Pg.cl at hC
    obtain ⟨k, hk, rfl⟩ := map_some hC
    have hm := List.mem_of_getElem? hk
    exact He.exm_ok (D.facts (f := .exm k "WalkError" true) (by unfold Pg.fa; simp [hm]))
  · have hq : (match p.conI.lookup x with
      | some i => some (PyData.int i)
      | none => (p.conT.lookup x).map fun zs => PyData.tuple (zs.map .str)) = some q := hq
    cases ei : p.conI.lookup x with
    | some i =>
      rw [ei] at hq
      cases hq
      have hm : (x, i) ∈ p.conI := PySem.mem_of_lookup ei
      obtain ⟨t, e2⟩ := He.int_ok KX G (D.facts (f := .int x i) (by unfold Pg.fa; simp only [List.mem_append, List.mem_map]; exact .inr (.inr (.inr (.inr (.inr (.inr (.inr (.inl ⟨(x, i), hm, rfl⟩)))))))))
      exact ⟨_, .int i, e2, ⟨t, rfl⟩, fun _ _ => .int i⟩
    | none =>
      rw [ei] at hq
      have hq : (p.conT.lookup x).map (fun zs => PyData.tuple (zs.map .str)) = some q := hq
      obtain ⟨zs, e1, rfl⟩ := map_some hq
      have hm : (x, zs) ∈ p.conT := PySem.mem_of_lookup e1
      have e2 := glo (x := x) (by unfold Pg.fa; simp only [List.mem_append, List.mem_map]; exact .inr (.inr (.inr (.inr (.inr (.inr (.inr (.inr ⟨(x, zs), hm, rfl⟩))))))))
      exact ⟨_, .ref (He.ga K x), e2, rfl, fun M H => tupSB_ok (exS _ hm) M H⟩
end
end Ev
end

section
set_option Elab.async false
set_option linter.all false
set_option autoImplicit false
set_option maxRecDepth 100000
set_option maxHeartbeats 4000000
/-! # The law's end -/
namespace Ev
open PySem PySem.Spec PyProof.Rows L2
section
variable {p : Pg} {fns : List Fn} {l : PySem.W.OpenLaw} {w : World} {K : W.Frag} {mg : Str → Option Value} {h : Heap}
theorem rp_scr {K : W.Frag} {H : Hp} {a : Addr} {ns : List Int} (hS : SqL K H a (ns.map V.int)) : RU K ⟨[], []⟩ H (.ref a) (.scr ns) :=
  ⟨a, rfl, hS.imp (fun z => ⟨fun q => (by rcases q with q | q <;> cases q), z⟩) id⟩
theorem st_empty {K : W.Frag} {T : List (Addr × Str)} {H : Hp} (t : LamX.Tabs T H) : StOk K T ⟨[], []⟩ [] H where
  len := rfl
  nd := List.nodup_nil
  box := fun i a b e1 e2 => by simp at e2
  xt := fun a ha => by cases ha
  tab := t
  old := fun i b e => by simp at e
/-- the law's def, of a script at hand -/
theorem lawAt_of (O : PgOk p fns) (hP : p.tm ≠ [] → ((l.prog.main.file : Str) == p.file) = true ∧ (l.prog.main.scope.names.lookup ("super" : Str)).isSome = false) (c : He.SaysX p.fa p.fn [] p.tf p.ex w h K) (KX : K.In h) {fa : Addr} {iL n : Nat} {r : Row} {x : Str} (hr : p.rows[iL]? = some r) (hn : r.nm = "law") (hx : r.ps = [x]) (hmg : mg "law" = some (.ref fa)) (G : h.Ns mainGlobals mg)
    (plain : ∀ ns : List Int, ns.length ≤ 63 → (∀ z, z ∈ ns → Builtin.Int.intBits z ≤ 1048576) → ∃ S, callN ⟨fns, p.nm⟩ n iL [.scr ns] [] = .ok (.d (.bool true)) S) :
    LamX.LawAtS l w K (L2N.CX l.prog w) (n + 2) 63 x mg fa h := by
  have hm := List.mem_of_getElem? hr
  have D : He.SaysD p.fa p.fn K := c.t.d
  obtain ⟨fd, F⟩ := D.defs (d := defD r.nm r.st) (by unfold Pg.fn; exact List.mem_append_left _ (List.mem_map.mpr ⟨r, hm, rfl⟩))
  have F : FunD K r.nm r.nm (defArgs r.st) (defBody r.st) (defScope r.st) [] [] (He.ga K r.nm) fd := F
  have e1 : mg r.nm = some (.ref (He.ga K r.nm)) := He.glo_ok KX G (D.facts (by unfold Pg.fa; exact List.mem_append_left _ (List.mem_map.mpr ⟨r, hm, rfl⟩)))
  have e2 : fa = He.ga K r.nm := by
    rw [hn] at e1
    rw [hmg] at e1
    cases e1
    rw [hn]
  subst e2
  have bnd := O.bnd r hm
  refine ⟨fd, p.tf.map (He.cT K), spC K (p.T K) (p.cl K) (callN ⟨fns, p.nm⟩ n) iL r.ps.length, fun q hq => ?_, fun q hq => ?_, fun q hq => ?_, fun s u => ?_, fun H a ns hl hb hT hS => ?_, fun base KB GB TB => ?_⟩
  · obtain ⟨d, hd, rfl⟩ := List.mem_map.mp hq
    exact c.empty d hd
  · obtain ⟨d, hd, rfl⟩ := List.mem_map.mp hq
    exact c.out d hd
  · obtain ⟨d, hd, rfl⟩ := List.mem_map.mp hq
    exact W.codeHd_of_K KX (c.hd d hd)
  · have := FunD.bindsA (ps := r.ps) F bnd s [u] (by rw [hx]; rfl)
    rw [hx] at this
    exact this
  · obtain ⟨S, hp⟩ := plain ns hl hb
    have tab : LamX.Tabs (p.T K) H := fun t ht => by
      obtain ⟨d, hd, rfl⟩ := List.mem_map.mp ht
      exact LamX.TabS.nil (hT _ (List.mem_map.mpr ⟨d, hd, rfl⟩))
    refine ⟨⟨[], []⟩, [], [.scr ns], .cons (rp_scr hS) .nil, st_empty tab, by rw [hx]; rfl, ?_⟩
    rw [hp]
    intro v M' H' _ _ rv
    cases (show Rp K M' H' v (.bool true) from rv)
    rfl
  · have L := lay_of (P := l.prog) (w := w) O hP c KB GB TB
    rw [← hx]
    exact law_ok L hr e1 F
theorem cx_none {P : Program} {w : World} {H : Hp} {s : Shared} {e : Value} {s' : Shared} (h : L2N.CX P w [] H s (fun _ _ _ => False) e s') : False := by
  obtain ⟨_, _, _, _, _, _, _, _, _, _, _, _, z⟩ := h
  exact z
end
end Ev
end

section
set_option Elab.async false
set_option linter.all false
set_option autoImplicit false
set_option maxRecDepth 100000
set_option maxHeartbeats 4000000
/-! # A program that holds errors as values, with no lambda -/
namespace Ev
open PySem PySem.Spec PyProof.Rows L2
structure Px where
  rows : List Row
  hn : Hn
  file : Str
def Px.g (p : Px) : Cfg :=
  { fnIx := ixOf (p.rows.map (·.nm)), clIx := fun _ => none, clTx := fun _ => none, con := fun _ => none, errs := fun _ => false, bx := [], lam := false, keep := false, np := fun i => (p.rows[i]?).map (·.ps.length), hn := p.hn }
def notVE (q : Str × List (Str × Bool)) : Bool := !decide (q.1 = "ValueError")
def Px.fa (p : Px) : List He.Fa :=
  p.rows.map (fun r => .glo r.nm) ++ ([.free "ValueError", .free "super"] ++ (p.hn.xC.map .glo ++ (p.hn.xC.map .exc ++ (p.hn.xM.map (fun q => .glo q.1) ++ ((p.hn.xT.filter notVE).map (fun q => .glo q.1) ++ bltNames.map .free)))))
def Px.fn (p : Px) : List He.DefD := p.rows.map fun r => defD r.nm r.st
/-- the value of a class's name -/
def clV (K : W.Frag) (x : Str) : Value := if x = "ValueError" then .type "ValueError" else .ref (He.ga K x)
def Px.ex (p : Px) (K : W.Frag) : Bool :=
  (p.hn.xM.all fun q => tmB p.file K (He.ga K q.1) (He.ma K (He.ga K q.1) "__init__") q.2 && xfB K (He.ga K q.1)) &&
  (p.hn.xT.all fun q => q.2.all fun r => excCB K (He.ga K r.1) && decide (W.kitOne K (.ref (He.ga K r.1)) (clV K q.1) = some r.2)) &&
  (p.hn.xS.all fun c => decide (W.findIn K (.ref (He.ga K c)) "__str__" = some (some (.builtin "BaseException.__str__"))) && decide (W.subIn K (.ref (He.ga K c)) (.type "BaseException") = some true))
structure PxOk (p : Px) (fns : List Fn) : Prop where
  ir : ∀ (i : Nat) r, p.rows[i]? = some r → ∃ fn, fns[i]? = some fn ∧ r.ir p.g = some fn
  sc : ∀ r, r ∈ p.rows → FnScope r.N r.ps (defScope r.st)
  bnd : ∀ r, r ∈ p.rows → r.Bnd
  lam : ∀ r, r ∈ p.rows → r.lam = false
section
variable {p : Px} {fns : List Fn} {P : Program} {w : World} {K : W.Frag} {mg : Str → Option Value} {base h : Heap}
theorem lay_px (O : PxOk p fns) (hP : ((P.main.file : Str) == p.file) = true ∧ (P.main.scope.names.lookup ("super" : Str)).isSome = false) (c : He.SaysX p.fa p.fn [] [] p.ex w h K) (KX : K.In base) (G : base.Ns mainGlobals mg) :
    Lay p.g p.rows ⟨fns, fun _ => none⟩ [] (fun _ => none) P w K mg base := by
  have D : He.SaysD p.fa p.fn K := c.t.d
  have glo : ∀ {x : Str}, He.Fa.glo x ∈ p.fa → mg x = some (.ref (He.ga K x)) := fun {x} hx => He.glo_ok KX G (D.facts hx)
  have fre : ∀ {x : Str}, He.Fa.free x ∈ p.fa → mg x = none := fun {x} hx => He.free_ok KX G (D.facts hx)
  have gRow : ∀ r, r ∈ p.rows → mg r.nm = some (.ref (He.ga K r.nm)) := fun r hr => glo (by unfold Px.fa; exact List.mem_append_left _ (List.mem_map.mpr ⟨r, hr, rfl⟩))
  have gV : mg "ValueError" = none := fre (by unfold Px.fa; simp)
  have gS : mg "super" = none := fre (by unfold Px.fa; simp)
  have gB : ∀ x, x ∈ bltNames → mg x = none := fun x hx => fre (by unfold Px.fa; simp only [List.mem_append, List.mem_map]; exact .inr (.inr (.inr (.inr (.inr (.inr ⟨x, hx, rfl⟩))))))
  have gC : ∀ x, x ∈ p.hn.xC → mg x = some (.ref (He.ga K x)) := fun x hx => glo (by unfold Px.fa; simp only [List.mem_append, List.mem_map]; exact .inr (.inr (.inl ⟨x, hx, rfl⟩)))
  have gM : ∀ q, q ∈ p.hn.xM → mg q.1 = some (.ref (He.ga K q.1)) := fun q hq => glo (by unfold Px.fa; simp only [List.mem_append, List.mem_map]; exact .inr (.inr (.inr (.inr (.inl ⟨q, hq, rfl⟩)))))
  have gT : ∀ q, q ∈ p.hn.xT → q.1 ≠ "ValueError" → mg q.1 = some (.ref (He.ga K q.1)) := fun q hq hne => glo (by unfold Px.fa; simp only [List.mem_append, List.mem_map]; exact .inr (.inr (.inr (.inr (.inr (.inl ⟨q, List.mem_filter.mpr ⟨hq, by unfold notVE; simpa using hne⟩, rfl⟩))))))
  have ex := c.more
  unfold Px.ex at ex
  simp only [Bool.and_eq_true, List.all_eq_true, decide_eq_true_eq] at ex
  obtain ⟨⟨exM, exT⟩, exS⟩ := ex
  have fRow : ∀ r, r ∈ p.rows → ∃ fd, FunD K r.nm r.nm (defArgs r.st) (defBody r.st) (defScope r.st) [] [] (He.ga K r.nm) fd := fun r hr => D.defs (d := defD r.nm r.st) (by unfold Px.fn; exact List.mem_map.mpr ⟨r, hr, rfl⟩)
  refine ⟨O.ir, O.sc, O.bnd, fun r hr => ?_, fun r hr hl => ?_, fun x i hi => ?_, fun i => rfl, fun x i hi => (by cases hi), fun x i hi => (by cases hi), fun i z hz => (by cases hz), fun x hx => (by cases hx), gB, fun x q hq => (by cases hq), fun r hr => ?_⟩
  · obtain ⟨fd, F⟩ := fRow r hr
    exact ⟨_, fd, gRow r hr, F⟩
  · rw [O.lam r hr] at hl
    cases hl
  · have hx := ix_of hi
    rw [List.getElem?_map] at hx
    obtain ⟨r, e1, e2⟩ := map_some hx
    exact ⟨r, e1, e2⟩
  · refine ⟨fun x hx => ?_, fun x f hx => ?_, fun x tb hx => ?_, fun x hx => exS x hx⟩
    · obtain ⟨e1, e2, _, _⟩ := He.exc_ok (D.facts (f := .exc x) (by unfold Px.fa; simp only [List.mem_append, List.mem_map]; exact .inr (.inr (.inr (.inl ⟨x, hx, rfl⟩)))))
      exact ⟨gC x hx, e2, e1⟩
    · have hq := PySem.mem_of_lookup (show p.hn.xM.lookup x = some f from hx)
      obtain ⟨t1, t2⟩ := exM _ hq
      obtain ⟨e1, e2, e3⟩ := tmB_ok t1 hP.1 hP.2 gS
      exact ⟨gM _ hq, xfB_ok t2, _, e1, e2, e3⟩
    · have hq := PySem.mem_of_lookup (show p.hn.xT.lookup x = some tb from hx)
      have q := exT _ hq
      by_cases hv : x = "ValueError"
      · subst hv
        refine ⟨.ty "ValueError", .type "ValueError", .inr ⟨gV, by decide +kernel, by decide +kernel⟩, rfl, fun u hu => hu, fun c b hb => ?_⟩
        obtain ⟨q1, q2⟩ := q _ (PySem.mem_of_lookup hb)
        exact ⟨excCB_ok q1, q2⟩
      · refine ⟨.ref (He.ga K x), .ref (He.ga K x), .inl (gT _ hq hv), rfl, fun u hu => hu, fun c b hb => ?_⟩
        obtain ⟨q1, q2⟩ := q _ (PySem.mem_of_lookup hb)
        refine ⟨excCB_ok q1, ?_⟩
        have q2 : W.kitOne K (.ref (He.ga K c)) (clV K x) = some b := q2
        unfold clV at q2
        rw [if_neg hv] at q2
        exact q2
end
section
variable {p : Px} {fns : List Fn} {l : PySem.W.OpenLaw} {w : World} {K : W.Frag} {mg : Str → Option Value} {h : Heap}
theorem lawAt_px (O : PxOk p fns) (hP : ((l.prog.main.file : Str) == p.file) = true ∧ (l.prog.main.scope.names.lookup ("super" : Str)).isSome = false) (c : He.SaysX p.fa p.fn [] [] p.ex w h K) (KX : K.In h) {fa : Addr} {iL n : Nat} {r : Row} {x : Str} (hr : p.rows[iL]? = some r) (hn : r.nm = "law") (hx : r.ps = [x]) (hmg : mg "law" = some (.ref fa)) (G : h.Ns mainGlobals mg)
    (plain : ∀ ns : List Int, ns.length ≤ 63 → (∀ z, z ∈ ns → Builtin.Int.intBits z ≤ 1048576) → ∃ S, callN ⟨fns, fun _ => none⟩ n iL [.scr ns] [] = .ok (.d (.bool true)) S) :
    LamX.LawAtS l w K (L2N.CX l.prog w) (n + 2) 63 x mg fa h := by
  have hm := List.mem_of_getElem? hr
  have D : He.SaysD p.fa p.fn K := c.t.d
  have m1 : defD r.nm r.st ∈ p.fn := List.mem_map.mpr ⟨r, hm, rfl⟩
  have m2 : He.Fa.glo r.nm ∈ p.fa := List.mem_append_left _ (List.mem_map.mpr ⟨r, hm, rfl⟩)
  obtain ⟨fd, F⟩ := D.defs m1
  have F : FunD K r.nm r.nm (defArgs r.st) (defBody r.st) (defScope r.st) [] [] (He.ga K r.nm) fd := F
  have e1 : mg r.nm = some (.ref (He.ga K r.nm)) := He.glo_ok KX G (D.facts m2)
  have e2 : fa = He.ga K r.nm := by
    rw [hn] at e1
    rw [hmg] at e1
    cases e1
    rw [hn]
  subst e2
  have bnd := O.bnd r hm
  refine ⟨fd, [], spC K [] (fun _ => none) (callN ⟨fns, fun _ => none⟩ n) iL r.ps.length, fun q hq => (by cases hq), fun q hq => (by cases hq), fun q hq => (by cases hq), fun s u => ?_, fun H a ns hl hb hT hS => ?_, fun base KB GB TB => ?_⟩
  · have := FunD.bindsA (ps := r.ps) F bnd s [u] (by rw [hx]; rfl)
    rw [hx] at this
    exact this
  · obtain ⟨S, hp⟩ := plain ns hl hb
    refine ⟨⟨[], []⟩, [], [.scr ns], .cons (rp_scr hS) .nil, st_empty (fun t ht => by cases ht), by rw [hx]; rfl, ?_⟩
    rw [hp]
    intro v M' H' _ _ rv
    cases (show Rp K M' H' v (.bool true) from rv)
    rfl
  · have L := lay_px (P := l.prog) (w := w) O hP c KB GB
    rw [← hx]
    exact law_ok L hr e1 F
end
end Ev
end

section
set_option Elab.async false
set_option linter.all false
set_option autoImplicit false
set_option maxRecDepth 100000
set_option maxHeartbeats 4000000
/-! # The little language by itself: what its pieces come to -/
namespace Ev
open PySem
section
variable {α β : Type} {a : α} {S : Store} {f : α → Store → Ev.R β} {c : Nat}
@[simp] theorem b_ok : (R.ok a S).bind f = f a S := rfl
@[simp] theorem b_exc : (R.exc c S : R α).bind f = .exc c S := rfl
@[simp] theorem b_bad : (R.bad : R α).bind f = .bad := rfl
@[simp] theorem of_some : R.of S (some a) = .ok a S := rfl
@[simp] theorem of_none : R.of S (none : Option α) = .bad := rfl
@[simp] theorem d_d {p : PyData} : deref S (.d p) = some p := rfl
theorem d_lst {i : Nat} {xs : List PyData} (h : S[i]? = some (.lst xs)) : deref S (.ref i) = some (.list xs) := by
  show (match S[i]? with | some (.lst xs) => some (PyData.list xs) | some (.dct _ kvs) => (derefKV S kvs).map PyData.dict | _ => none) = _
  rw [h]
@[simp] theorem dct_list {xs : List PyData} : dctOf S (.d (.list xs)) = none := rfl
@[simp] theorem dct_tuple {xs : List PyData} : dctOf S (.d (.tuple xs)) = none := rfl
@[simp] theorem dct_str {z : Str} : dctOf S (.d (.str z)) = none := rfl
@[simp] theorem dct_int {z : Int} : dctOf S (.d (.int z)) = none := rfl
@[simp] theorem dct_scr {ns : List Int} : dctOf S (.scr ns) = none := rfl
theorem dct_lst {i : Nat} {xs : List PyData} (h : S[i]? = some (.lst xs)) : dctOf S (.ref i) = none := by
  show (match S[i]? with | some (.dct _ kvs) => some kvs | _ => none) = _
  rw [h]
theorem dct_box {i : Nat} {lk : Bool} {kvs : List (PyData × U)} (h : S[i]? = some (.dct lk kvs)) : dctOf S (.ref i) = some kvs := by
  show (match S[i]? with | some (.dct _ kvs) => some kvs | _ => none) = _
  rw [h]
theorem isLst_of {i : Nat} {xs : List PyData} (h : S[i]? = some (.lst xs)) : isLst S i = true := by
  unfold isLst
  rw [h]
@[simp] theorem fin_d {p : PyData} {n : Nat} : Ev.finish false n (.ok (.rt (.d p)) S) = .ok (.d p) (S.take n) := rfl
@[simp] theorem fin_k {u : PyData} {n : Nat} : Ev.finish true n (.ok (.rt (.d u)) S) = .ok (.d u) S := rfl
@[simp] theorem fin_kr {i n : Nat} : Ev.finish true n (.ok (.rt (.ref i)) S) = .ok (.ref i) S := rfl
@[simp] theorem fin_nx {ρ : Rho} {b : Bool} {n : Nat} : Ev.finish b n (.ok (.nx ρ) S) = .ok (.d .none) (S.take n) := by cases b <;> rfl
@[simp] theorem fin_exc {b : Bool} {n : Nat} : Ev.finish b n (.exc c S) = .exc c (S.take n) := by cases b <;> rfl
theorem fin_r {i n : Nat} {xs : List PyData} (h : S[i]? = some (.lst xs)) (hn : ¬ i < n) : Ev.finish false n (.ok (.rt (.ref i)) S) = .ok (.d (.list xs)) (S.take n) := by
  unfold Ev.finish
  simp only [Bool.false_eq_true, if_false]
  rw [if_neg hn, d_lst h]
  have : newOnly n S i = true := by
    unfold newOnly
    rw [h]
  simp only [this, if_true]
end
/-! ### operators -/
def divOk (j : Int) : Bool := decide (0 < j) && decide (j.natAbs.log2 < 9000)
theorem divOk_of {j : Int} (h : 0 < j) (h2 : j.natAbs.log2 < 9000) : divOk j = true := by unfold divOk; simp [h, h2]
theorem divOk_small {j : Int} (h : 0 < j) (h2 : j < 100000000000) : divOk j = true := by
  refine divOk_of h ?_
  have h3 : j.natAbs < 2 ^ 37 := by omega
  by_cases z : j.natAbs = 0
  · rw [z]; decide
  · have := (Nat.log2_lt z).mpr h3
    omega
@[simp] theorem add_ii (i j : Int) : binD .Add (.int i) (.int j) = some (.int (i + j)) := rfl
@[simp] theorem sub_ii (i j : Int) : binD .Sub (.int i) (.int j) = some (.int (i - j)) := rfl
theorem mul_ii {i j : Int} (h : mulOk i j = true) : binD .Mult (.int i) (.int j) = some (.int (i * j)) := if_pos h
theorem div_ii {i j : Int} (h : divOk j = true) : binD .FloorDiv (.int i) (.int j) = some (.int (i / j)) := by
  unfold divOk at h
  rw [Bool.and_eq_true, decide_eq_true_eq, decide_eq_true_eq] at h
  exact if_pos h
theorem mod_ii {i j : Int} (h : 0 < j) : binD .Mod (.int i) (.int j) = some (.int (i % j)) := if_pos h
theorem add_ss {a b : Str} (h : a.length + b.length ≤ line) : binD .Add (.str a) (.str b) = some (.str (a ++ b)) := if_pos h
theorem add_ll {a b : List PyData} (h : a.length + b.length ≤ line) : binD .Add (.list a) (.list b) = some (.list (a ++ b)) := if_pos h
theorem add_tt {a b : List PyData} (h : a.length + b.length ≤ line) : binD .Add (.tuple a) (.tuple b) = some (.tuple (a ++ b)) := if_pos h
theorem smallI_of {i : Int} (h1 : -100000000000 < i) (h2 : i < 100000000000) : smallI i = true := by
  unfold smallI
  simp only [Bool.and_eq_true, decide_eq_true_eq]
  omega
theorem mul_small {i j : Int} (h : smallI i = true ∨ smallI j = true) : mulOk i j = true := by
  unfold mulOk
  rcases h with h | h <;> simp [h]
/-! ### comparisons -/
@[simp] theorem gt_ii (i j : Int) : cmpD .Gt (.int i) (.int j) = some (decide (j < i)) := rfl
@[simp] theorem lt_ii (i j : Int) : cmpD .Lt (.int i) (.int j) = some (decide (i < j)) := rfl
@[simp] theorem le_ii (i j : Int) : cmpD .LtE (.int i) (.int j) = some (decide (i ≤ j)) := rfl
@[simp] theorem ge_ii (i j : Int) : cmpD .GtE (.int i) (.int j) = some (decide (j ≤ i)) := rfl
theorem eq_ii (i j : Int) : eqD (.int i) (.int j) = some (decide (i = j)) := by
  unfold eqD
  rw [if_pos (show (SeqAt.shaped (.int i) && SeqAt.shaped (.int j)) = true from rfl)]
  congr 1
@[simp] theorem eqc_ii (i j : Int) : cmpD .Eq (.int i) (.int j) = some (decide (i = j)) := eq_ii i j
@[simp] theorem ne_ii (i j : Int) : cmpD .NotEq (.int i) (.int j) = some (!decide (i = j)) := by
  show (eqD (.int i) (.int j)).map (!·) = _
  rw [eq_ii]
  rfl
/-! ### places -/
theorem at_nat {α : Type} {xs : List α} {i : Int} {x : α} (h0 : 0 ≤ i) (h : xs[i.toNat]? = some x) : L2.atI xs i = some x := by
  have hl := (List.getElem?_eq_some_iff.mp h).1
  unfold L2.atI L2.ixN
  rw [if_pos h0, if_pos (by omega)]
  exact h
@[simp] theorem idx_l0 (x : PyData) (r : List PyData) : idxD (.list (x :: r)) (.int 0) = some x := by
  exact at_nat (by decide) rfl
@[simp] theorem idx_l1 (x y : PyData) (r : List PyData) : idxD (.list (x :: y :: r)) (.int 1) = some y := by
  exact at_nat (by decide) rfl
@[simp] theorem idx_t0 (x : PyData) (r : List PyData) : idxD (.tuple (x :: r)) (.int 0) = some x := by
  exact at_nat (by decide) rfl
@[simp] theorem idx_t1 (x y : PyData) (r : List PyData) : idxD (.tuple (x :: y :: r)) (.int 1) = some y := by
  exact at_nat (by decide) rfl
@[simp] theorem tru_b (b : Bool) : truD (.bool b) = some b := rfl
@[simp] theorem tru_n : truD .none = some false := rfl
/-! ### loops -/
/-- a loop by what holds ahead of each turn -/
theorem loop_inv {t : Tg} {body : Rho → Store → Ev.R F} (I : Nat → Rho → Store → Prop) : ∀ (us : List U) (k : Nat) (ρ : Rho) (S : Store), I k ρ S →
    (∀ i u ρ S, us[i]? = some u → I (k + i) ρ S → ∃ ρ1 ρ2 S2, bindT t u ρ = some ρ1 ∧ body ρ1 S = .ok (.nx ρ2) S2 ∧ I (k + i + 1) ρ2 S2) → ∃ ρ' S', loopL t body us ρ S = .ok (.nx ρ') S' ∧ I (k + us.length) ρ' S'
  | [], k, ρ, S, h, _ => ⟨ρ, S, rfl, h⟩
  | u :: us, k, ρ, S, h, st => by
    obtain ⟨ρ1, ρ2, S2, h1, h2, h3⟩ := st 0 u ρ S rfl h
    obtain ⟨ρ', S', h4, h5⟩ := loop_inv I us (k + 1) ρ2 S2 h3 fun i v ρ S hv hI => by
      have e : k + 1 + i = k + (i + 1) := by omega
      rw [e] at hI ⊢
      exact st (i + 1) v ρ S (by simpa using hv) hI
    refine ⟨ρ', S', ?_, by rw [List.length_cons]; have e : k + (us.length + 1) = k + 1 + us.length := by omega
                           rw [e]; exact h5⟩
    unfold loopL
    rw [h1]
    show ((body ρ1 S).bind fun f S1 => match f with
      | .nx ρ2 => loopL t body us ρ2 S1
      | .rt v => .ok (.rt v) S1) = _
    rw [h2]
    exact h4
/-- a comprehension by what holds ahead of each turn: how many items, what has been made -/
theorem comp_inv {t : Tg} {c : Rho → Store → Ev.R Bool} {e : Rho → Store → Ev.R PyData} {ρ : Rho} (J : Nat → List PyData → Store → Prop) : ∀ (us : List U) (k : Nat) (zs : List PyData) (S : Store), J k zs S →
    (∀ i u ys S, us[i]? = some u → J (k + i) ys S → ∃ ρ1, bindT t u ρ = some ρ1 ∧ ∃ b S1, c ρ1 S = .ok b S1 ∧ ((b = true ∧ ∃ y S2, e ρ1 S1 = .ok y S2 ∧ J (k + i + 1) (ys ++ [y]) S2) ∨ (b = false ∧ J (k + i + 1) ys S1))) →
    ∃ ys S', compL t c e ρ us S = .ok ys S' ∧ J (k + us.length) (zs ++ ys) S'
  | [], k, zs, S, h, _ => ⟨[], S, rfl, by simpa using h⟩
  | u :: us, k, zs, S, h, st => by
    obtain ⟨ρ1, h1, b, S1, h2, h3⟩ := st 0 u zs S rfl h
    have rest : ∀ zs S, J (k + 1) zs S → ∃ ys S', compL t c e ρ us S = .ok ys S' ∧ J (k + (u :: us).length) (zs ++ ys) S' := fun zs S hJ => by
      obtain ⟨ys, S', h4, h5⟩ := comp_inv J us (k + 1) zs S hJ fun i v ys S hv hI => by
        have e : k + 1 + i = k + (i + 1) := by omega
        rw [e] at hI ⊢
        exact st (i + 1) v ys S (by simpa using hv) hI
      have e : k + (us.length + 1) = k + 1 + us.length := by omega
      exact ⟨ys, S', h4, by rw [List.length_cons, e]; exact h5⟩
    unfold compL
    rw [h1]
    dsimp only
    rw [h2, b_ok]
    rcases h3 with ⟨hb, y, S2, h4, h5⟩ | ⟨hb, h5⟩
    · obtain ⟨ys, S', h6, h7⟩ := rest _ _ h5
      refine ⟨y :: ys, S', ?_, by simpa using h7⟩
      rw [if_pos hb, h4, b_ok, h6]
      rfl
    · obtain ⟨ys, S', h6, h7⟩ := rest _ _ h5
      refine ⟨ys, S', ?_, h7⟩
      rw [if_neg (by rw [hb]; decide), h6]
@[simp] theorem ne_ok {α : Type} {a : α} {S : Store} : noexc (R.ok a S) = .ok a S := rfl
theorem rng_1 {j : Int} (h0 : 0 ≤ j) (h : j < 1000000) : rngD [.int j] = some (rngItems 0 j.toNat) := by
  have : smallR j = true := by
    unfold smallR
    simp only [Bool.and_eq_true, decide_eq_true_eq]
    omega
  exact if_pos this
theorem rng_len (lo : Int) (n : Nat) : (rngItems lo n).length = n := by unfold rngItems; simp
theorem rng_at {lo : Int} {n i : Nat} {u : U} (h : (rngItems lo n)[i]? = some u) : i < n ∧ u = .d (.int (lo + (i : Nat))) := by
  unfold rngItems at h
  rw [List.getElem?_map] at h
  cases e : (List.range n)[i]? with
  | none => rw [e] at h; cases h
  | some k =>
    rw [e] at h
    obtain ⟨h1, h2⟩ := List.getElem?_eq_some_iff.mp e
    rw [List.getElem_range] at h2
    subst h2
    rw [List.length_range] at h1
    exact ⟨h1, (Option.some.inj h).symm⟩
theorem ev_lc {g : Cn} {own : List Nat} {t : Tg} {it : It} {c : Xs} {e : X} {ρ : Rho} {S S1 S2 : Store} {us : List U} {ys : List PyData} (h1 : evIt g it ρ S = .ok (.fix us) S1) (hl : us.length ≤ line)
    (h2 : compL t (fun ρ S => evC g c ρ S) (fun ρ S => dataR (evX g e ρ S)) (wipe ρ own) us S1 = .ok ys S2) : evX g (.lc own t it c e) ρ S = .ok (.d (.list ys)) S2 := by
  unfold evX
  rw [h1]
  simp only [ne_ok, b_ok]
  rw [if_pos hl, h2]
  rfl
theorem ev_for {g : Cn} {t : Tg} {it : It} {b : Sts} {ρ : Rho} {S S1 : Store} {us : List U} {r : R F} (h1 : evIt g it ρ S = .ok (.fix us) S1) (h2 : loopL t (fun ρ S => evSs g b ρ S) us ρ S1 = r) : evS g (.forr t it b) ρ S = r := by
  unfold evS
  rw [h1]
  exact h2
theorem it_rng1 {g : Cn} {a : X} {ρ : Rho} {S S1 : Store} {j : Int} (h : evX g a ρ S = .ok (.d (.int j)) S1) (h0 : 0 ≤ j) (h1 : j < 1000000) : evIt g (.rng (.cons a .nil)) ρ S = .ok (.fix (rngItems 0 j.toNat)) S1 := by
  unfold evIt evXs evXs
  rw [h]
  simp [datas, rng_1 h0 h1]
theorem it_list {g : Cn} {a : X} {ρ : Rho} {S S1 : Store} {xs : List PyData} (h : evX g a ρ S = .ok (.d (.list xs)) S1) : evIt g (.val a) ρ S = .ok (.fix (xs.map .d)) S1 := by
  unfold evIt
  rw [h]
  rfl
theorem it_tup {g : Cn} {a : X} {ρ : Rho} {S S1 : Store} {xs : List PyData} (h : evX g a ρ S = .ok (.d (.tuple xs)) S1) : evIt g (.val a) ρ S = .ok (.fix (xs.map .d)) S1 := by
  unfold evIt
  rw [h]
  rfl
theorem it_str {g : Cn} {a : X} {ρ : Rho} {S S1 : Store} {z : Str} (h : evX g a ρ S = .ok (.d (.str z)) S1) : evIt g (.val a) ρ S = .ok (.fix (strItems z)) S1 := by
  unfold evIt
  rw [h]
  rfl
theorem ss_cons {g : Cn} {a : St} {r : Sts} {ρ ρ1 : Rho} {S S1 : Store} (h : evS g a ρ S = .ok (.nx ρ1) S1) : evSs g (.cons a r) ρ S = evSs g r ρ1 S1 := by
  conv => lhs; unfold evSs
  rw [h]
  rfl
theorem ss_ret {g : Cn} {a : St} {r : Sts} {ρ : Rho} {S S1 : Store} {u : U} (h : evS g a ρ S = .ok (.rt u) S1) : evSs g (.cons a r) ρ S = .ok (.rt u) S1 := by
  conv => lhs; unfold evSs
  rw [h]
  rfl
theorem s_set {g : Cn} {i : Nat} {e : X} {ρ : Rho} {S S1 : Store} {u : U} (h : evX g e ρ S = .ok u S1) : evS g (.set i e) ρ S = .ok (.nx (ρ.set i (some u))) S1 := by
  unfold evS
  rw [h]
  rfl
theorem s_ret {g : Cn} {e : X} {ρ : Rho} {S S1 : Store} {u : U} (h : evX g e ρ S = .ok u S1) : evS g (.ret e) ρ S = .ok (.rt u) S1 := by
  unfold evS
  rw [h]
  rfl
/-! ### data that may be compared -/
theorem lay_all {xs : List PyData} {d : Nat} (h : ∀ x, x ∈ xs → x.canLay0 = true ∧ x.depth ≤ d) : PyData.canLayAll0 xs = true ∧ PyData.depthAll xs ≤ d := by
  induction xs with
  | nil => exact ⟨rfl, Nat.zero_le _⟩
  | cons x r ih =>
    obtain ⟨h1, h2⟩ := h x List.mem_cons_self
    obtain ⟨h3, h4⟩ := ih fun y hy => h y (List.mem_cons_of_mem _ hy)
    refine ⟨?_, ?_⟩
    · show (x.canLay0 && PyData.canLayAll0 r) = true
      rw [h1, h3]
      rfl
    · show max x.depth (PyData.depthAll r) ≤ d
      omega
theorem lay_seq {xs : List PyData} {d : Nat} (h : ∀ x, x ∈ xs → x.canLay0 = true ∧ x.depth ≤ d) : ((PyData.list xs).canLay0 = true ∧ (PyData.list xs).depth ≤ d + 1) ∧ ((PyData.tuple xs).canLay0 = true ∧ (PyData.tuple xs).depth ≤ d + 1) := by
  obtain ⟨h1, h2⟩ := lay_all h
  exact ⟨⟨h1, Nat.succ_le_succ h2⟩, h1, Nat.succ_le_succ h2⟩
theorem shaped_of {x : PyData} {d : Nat} (h : x.canLay0 = true ∧ x.depth ≤ d) (hd : d ≤ 64) : SeqAt.shaped x = true := by
  unfold SeqAt.shaped
  rw [h.1, Bool.true_and, decide_eq_true_eq]
  omega
theorem in_list {x : PyData} {ys : List PyData} (h1 : SeqAt.shaped x = true) (h2 : SeqAt.shaped (.list ys) = true) : inD x (.list ys) = some (ys.any fun z => PyData.eqv z x) := by
  show (if (SeqAt.shaped x && SeqAt.shaped (.list ys)) = true then _ else none) = _
  rw [h1, h2]
  rfl
theorem in_tup {x : PyData} {ys : List PyData} (h1 : SeqAt.shaped x = true) (h2 : SeqAt.shaped (.tuple ys) = true) : inD x (.tuple ys) = some (ys.any fun z => PyData.eqv z x) := by
  show (if (SeqAt.shaped x && SeqAt.shaped (.tuple ys)) = true then _ else none) = _
  rw [h1, h2]
  rfl
theorem eq_d {x y : PyData} (h1 : SeqAt.shaped x = true) (h2 : SeqAt.shaped y = true) : eqD x y = some (PyData.eqv x y) := by
  unfold eqD
  rw [h1, h2]
  rfl
theorem eqv_nil (ys : List PyData) : PyData.eqv (.list ys) (.list []) = ys.isEmpty := by
  show PyData.eqvAll ys [] = _
  cases ys <;> rfl
theorem shaped_nil : SeqAt.shaped (.list []) = true := by decide
/-- l != [] -/
theorem ne_nil {ys : List PyData} (h : SeqAt.shaped (.list ys) = true) : cmpD .NotEq (.list ys) (.list []) = some (!ys.isEmpty) := by
  show (eqD (.list ys) (.list [])).map (!·) = _
  rw [eq_d h shaped_nil, eqv_nil]
  rfl
end Ev
end

section
set_option Elab.async false
set_option linter.all false
set_option autoImplicit false
set_option maxRecDepth 100000
set_option maxHeartbeats 4000000
/-! # Texts by their signs -/
namespace Ev
open PySem PySem.Builtin PySem.Builtin.Str
def mkS (l : List Nat) : Str := ⟨l.toArray⟩
abbrev sg (z : Str) : List Nat := z.cps.toList
theorem mk_sg (z : Str) : mkS (sg z) = z := rfl
theorem sg_mk (l : List Nat) : sg (mkS l) = l := rfl
theorem len_sg (z : Str) : z.length = (sg z).length := by simp [Str.length]
theorem len_mk (l : List Nat) : (mkS l).length = l.length := by simp [Str.length, mkS]
theorem mk_inj {a b : List Nat} (h : mkS a = mkS b) : a = b := by rw [← sg_mk a, ← sg_mk b, h]
theorem mk_app (a b : List Nat) : mkS a ++ mkS b = mkS (a ++ b) := Str.ext' (by show a.toArray ++ b.toArray = (a ++ b).toArray; simp)
/-- a text split at one sign -/
def spl (c : Nat) : List Nat → List (List Nat)
  | [] => [[]]
  | a :: r => if a = c then [] :: spl c r else match spl c r with
    | p :: q => (a :: p) :: q
    | [] => [[a]]
theorem spl_ne (c : Nat) (l : List Nat) : ∃ p q, spl c l = p :: q := by
  cases l with
  | nil => exact ⟨_, _, rfl⟩
  | cons a r =>
    unfold spl
    split
    · exact ⟨_, _, rfl⟩
    · cases spl c r with
      | nil => exact ⟨_, _, rfl⟩
      | cons p q => exact ⟨_, _, rfl⟩
theorem spl_eq (c : Nat) (r : List Nat) : spl c (c :: r) = [] :: spl c r := if_pos rfl
theorem spl_other {c a : Nat} (h : a ≠ c) {r p : List Nat} {q : List (List Nat)} (e : spl c r = p :: q) : spl c (a :: r) = (a :: p) :: q := by
  conv => lhs; unfold spl
  rw [if_neg h, e]
def joi (c : Nat) : List (List Nat) → List Nat
  | [] => []
  | [x] => x
  | x :: y :: r => x ++ c :: joi c (y :: r)
theorem occ_one_go (x : Str) (c lim : Nat) : ∀ (k a : Nat) (st : Array Nat) (f : Nat), f ≤ a → st.size ≤ a → a + k ≤ lim →
    (forIn (m := Id) (List.range' a k) (st, f) (StrLaws.occBody x ⟨#[c]⟩ x.length lim)).run.fst.toList = st.toList ++ (List.range' a k).filter (fun i => x.cps.toList[i]? == some c)
  | 0, a, st, f, _, _, _ => by simp
  | k + 1, a, st, f, hf, hs, hl => by
    rw [List.range'_succ, List.forIn_cons]
    unfold StrLaws.occBody
    by_cases h : x.cps.toList[a]? = some c
    · have h2 := (StrLaws.subAt_one x c a).mpr h
      rw [if_pos ⟨⟨⟨show st.size < lim by omega, hf⟩, h2.1⟩, h2.2⟩]
      have ih := occ_one_go x c lim k (a + 1) (st.push a) (a + 1) (Nat.le_refl _) (by rw [Array.size_push]; omega) (by omega)
      refine Eq.trans ih ?_
      rw [List.filter_cons_of_pos (by rw [h]; exact beq_self_eq_true _)]
      simp
    · rw [if_neg (fun hc => h ((StrLaws.subAt_one x c a).mp ⟨hc.1.2, hc.2⟩))]
      refine Eq.trans (occ_one_go x c lim k (a + 1) st f (by omega) (by omega) (by omega)) ?_
      rw [List.filter_cons_of_neg (by rw [beq_iff_eq]; exact h)]
theorem occ_one (x : Str) (c : Nat) : occurrences x ⟨#[c]⟩ 0 x.length (x.length + 1) = (List.range' 0 (x.length + 1)).filter (fun i => x.cps.toList[i]? == some c) := by
  rw [StrLaws.occ_eq]
  refine Eq.trans (occ_one_go x c (x.length + 1) (x.length + 1 - 0) 0 #[] 0 (Nat.le_refl _) (Nat.le_refl _) (by omega)) ?_
  rfl
theorem sub_sg (x : Str) (a b : Nat) : strSub x a b = mkS (((sg x).drop a).take (b - a)) := by
  apply Str.ext'
  apply Array.toList_inj.mp
  exact StrLaws.strSub_toList x a b
theorem parts_one (x : Str) (c : Nat) : ∀ (k a j : Nat), a ≤ j → j + k = x.length + 1 →
    ∃ p q, spl c ((sg x).drop j) = p :: q ∧ StrLaws.partsFrom x 1 a ((List.range' j k).filter (fun i => x.cps.toList[i]? == some c)) = mkS (((sg x).drop a).take (j - a) ++ p) :: q.map mkS
  | 0, a, j, ha, hj => by
    have hn := len_sg x
    have e : (sg x).drop j = [] := List.drop_eq_nil_of_le (by omega)
    refine ⟨[], [], by rw [e]; rfl, ?_⟩
    show [strSub x a x.length] = _
    rw [sub_sg, List.append_nil]
    have e1 : ((sg x).drop a).take (x.length - a) = (sg x).drop a := List.take_of_length_le (by rw [List.length_drop]; omega)
    have e2 : ((sg x).drop a).take (j - a) = (sg x).drop a := List.take_of_length_le (by rw [List.length_drop]; omega)
    rw [e1, e2]
    rfl
  | k + 1, a, j, ha, hj => by
    have hn := len_sg x
    rw [List.range'_succ]
    by_cases h : (sg x)[j]? = some c
    · obtain ⟨hlt, hv⟩ := List.getElem?_eq_some_iff.mp h
      obtain ⟨p, q, e1, e2⟩ := parts_one x c k (j + 1) (j + 1) (Nat.le_refl _) (by omega)
      refine ⟨[], p :: q, ?_, ?_⟩
      · rw [List.drop_eq_getElem_cons hlt, hv, spl_eq, e1]
      · rw [List.filter_cons_of_pos (by rw [h]; exact beq_self_eq_true _)]
        show strSub x a j :: StrLaws.partsFrom x 1 (j + 1) _ = _
        rw [e2, sub_sg, Nat.sub_self, List.take_zero, List.nil_append, List.append_nil]
        rfl
    · obtain ⟨p, q, e1, e2⟩ := parts_one x c k a (j + 1) (by omega) (by omega)
      rw [List.filter_cons_of_neg (by rw [beq_iff_eq]; exact h)]
      by_cases hlt : j < (sg x).length
      · have hv : (sg x)[j] ≠ c := fun hv => h (by rw [List.getElem?_eq_getElem hlt, hv])
        refine ⟨(sg x)[j] :: p, q, ?_, ?_⟩
        · rw [List.drop_eq_getElem_cons hlt]
          exact spl_other hv e1
        · rw [e2]
          have e3 : ((sg x).drop a).take (j + 1 - a) = ((sg x).drop a).take (j - a) ++ [(sg x)[j]] := by
            rw [show j + 1 - a = (j - a) + 1 by omega, List.take_add_one, List.getElem?_drop, show a + (j - a) = j by omega, List.getElem?_eq_getElem hlt]
            rfl
          rw [e3, List.append_assoc]
          rfl
      · have e3 : (sg x).drop j = [] := List.drop_eq_nil_of_le (by omega)
        have e4 : (sg x).drop (j + 1) = [] := List.drop_eq_nil_of_le (by omega)
        rw [e4] at e1
        refine ⟨p, q, by rw [e3]; exact e1, ?_⟩
        rw [e2]
        have e5 : ((sg x).drop a).take (j + 1 - a) = (sg x).drop a := List.take_of_length_le (by rw [List.length_drop]; omega)
        have e6 : ((sg x).drop a).take (j - a) = (sg x).drop a := List.take_of_length_le (by rw [List.length_drop]; omega)
        rw [e5, e6]
theorem split_spl (x : Str) {c : Nat} (hc : c < 256) : Txt.split x ⟨#[c]⟩ = (spl c (sg x)).map mkS := by
  unfold Txt.split
  split
  · rename_i h
    rcases Bool.or_eq_true_iff.mp h with h | h
    · have h := of_decide_eq_true h
      have h0 : sg x = [] := by
        have := len_sg x
        have h1 : (⟨#[c]⟩ : Str).length = 1 := rfl
        exact List.eq_nil_of_length_eq_zero (by omega)
      rw [h0]
      show [x] = [mkS []]
      rw [← h0, mk_sg]
    · have h := of_decide_eq_true h
      have h1 : Builtin.Str.strKind ⟨#[c]⟩ = 1 := by
        unfold Builtin.Str.strKind
        rw [if_pos (by simp [hc])]
      have h2 : 1 ≤ Builtin.Str.strKind x := by unfold Builtin.Str.strKind; split <;> (try split) <;> decide
      omega
  · obtain ⟨p, q, e1, e2⟩ := parts_one x c (x.length + 1) 0 0 (Nat.le_refl _) (by omega)
    have e3 : StrLaws.partsFrom x 1 0 (occurrences x ⟨#[c]⟩ 0 x.length (x.length + 1)) = (spl c (sg x)).map mkS := by
      rw [occ_one, e2]
      rw [List.drop_zero] at e1
      rw [e1]
      rfl
    split
    · rename_i h
      rw [List.isEmpty_iff.mp h] at e3
      rw [← e3]
      show [x] = [strSub x 0 x.length]
      rw [StrLaws.sub_whole]
    · rw [StrLaws.partsBetween_eq]
      exact e3
theorem join_joi (c : Nat) : ∀ ls : List (List Nat), Str.join ⟨#[c]⟩ (ls.map mkS) = mkS (joi c ls)
  | [] => rfl
  | [x] => rfl
  | x :: y :: r => by
    have ih := join_joi c (y :: r)
    show mkS x ++ ⟨#[c]⟩ ++ Str.join ⟨#[c]⟩ ((y :: r).map mkS) = _
    rw [ih, show (⟨#[c]⟩ : Str) = mkS [c] from rfl, mk_app, mk_app]
    congr 1
    simp [joi]
theorem txt_join (c : Nat) (ls : List (List Nat)) : Txt.join ⟨#[c]⟩ (ls.map mkS) = mkS (joi c ls) := by
  show glued _ _ = _
  rw [StrLaws.glued_eq_join, join_joi]
theorem spl_app {c : Nat} {x : List Nat} (h : c ∉ x) (r : List Nat) : spl c (x ++ c :: r) = x :: spl c r := by
  induction x with
  | nil => exact spl_eq c r
  | cons a x ih =>
    have h1 : a ≠ c := fun e => h (by rw [e]; exact List.mem_cons_self)
    exact spl_other h1 (ih fun hm => h (List.mem_cons_of_mem _ hm))
theorem spl_free {c : Nat} {x : List Nat} (h : c ∉ x) : spl c x = [x] := by
  induction x with
  | nil => rfl
  | cons a x ih =>
    have h1 : a ≠ c := fun e => h (by rw [e]; exact List.mem_cons_self)
    exact spl_other h1 (ih fun hm => h (List.mem_cons_of_mem _ hm))
theorem spl_joi {c : Nat} : ∀ {ls : List (List Nat)}, ls ≠ [] → (∀ l, l ∈ ls → c ∉ l) → spl c (joi c ls) = ls
  | [], h, _ => absurd rfl h
  | [x], _, h => spl_free (h x List.mem_cons_self)
  | x :: y :: r, _, h => by
    show spl c (x ++ c :: joi c (y :: r)) = _
    rw [spl_app (h x List.mem_cons_self), spl_joi (by simp) fun l hl => h l (List.mem_cons_of_mem _ hl)]
theorem joi_spl (c : Nat) (l : List Nat) : joi c (spl c l) = l := by
  induction l with
  | nil => rfl
  | cons a r ih =>
    obtain ⟨p, q, e⟩ := spl_ne c r
    rw [e] at ih
    by_cases h : a = c
    · rw [h, spl_eq, e]
      show [] ++ c :: joi c (p :: q) = _
      rw [ih]
      rfl
    · rw [spl_other h e]
      cases q with
      | nil => show a :: p = a :: r; rw [show p = r from ih]
      | cons y q =>
        show a :: p ++ c :: joi c (y :: q) = a :: r
        rw [← ih]
        rfl
theorem spl_none {c : Nat} {l : List Nat} : ∀ {w : List Nat}, w ∈ spl c l → c ∉ w := by
  induction l with
  | nil => intro w h; rw [List.mem_singleton.mp h]; simp
  | cons a r ih =>
    intro w h
    obtain ⟨p, q, e⟩ := spl_ne c r
    by_cases ha : a = c
    · rw [ha, spl_eq] at h
      rcases List.mem_cons.mp h with h | h
      · rw [h]; simp
      · exact ih h
    · rw [spl_other ha e] at h
      rcases List.mem_cons.mp h with h | h
      · rw [h]
        intro hm
        rcases List.mem_cons.mp hm with hm | hm
        · exact ha hm.symm
        · exact ih (by rw [e]; exact List.mem_cons_self) hm
      · exact ih (by rw [e]; exact List.mem_cons_of_mem _ h)
theorem spl_sum (c : Nat) (l : List Nat) : ((spl c l).map fun w => w.length + 1).sum = l.length + 1 := by
  induction l with
  | nil => rfl
  | cons a r ih =>
    obtain ⟨p, q, e⟩ := spl_ne c r
    rw [e] at ih
    by_cases h : a = c
    · rw [h, spl_eq, e]
      simp only [List.map_cons, List.sum_cons, List.length_nil, List.length_cons] at ih ⊢
      omega
    · rw [spl_other h e]
      simp only [List.map_cons, List.sum_cons, List.length_cons] at ih ⊢
      omega
theorem le_sum {n : Nat} : ∀ {l : List Nat}, n ∈ l → n ≤ l.sum
  | [], h => by cases h
  | a :: r, h => by
    rw [List.sum_cons]
    rcases List.mem_cons.mp h with h | h
    · omega
    · have := le_sum h; omega
theorem joi_len (c : Nat) : ∀ ls : List (List Nat), (joi c ls).length ≤ (ls.map fun w => w.length + 1).sum
  | [] => Nat.le_refl _
  | [x] => by simp [joi]
  | x :: y :: r => by
    have ih := joi_len c (y :: r)
    show (x ++ c :: joi c (y :: r)).length ≤ _
    simp only [List.length_append, List.length_cons, List.map_cons, List.sum_cons] at ih ⊢
    omega
theorem mem_joi {c a : Nat} : ∀ {ls : List (List Nat)}, a ∈ joi c ls → a = c ∨ ∃ l, l ∈ ls ∧ a ∈ l
  | [], h => by cases h
  | [x], h => .inr ⟨x, List.mem_cons_self, h⟩
  | x :: y :: r, h => by
    have h : a ∈ x ++ c :: joi c (y :: r) := h
    rcases List.mem_append.mp h with h | h
    · exact .inr ⟨x, List.mem_cons_self, h⟩
    · rcases List.mem_cons.mp h with h | h
      · exact .inl h
      · rcases mem_joi h with h | ⟨l, h1, h2⟩
        · exact .inl h
        · exact .inr ⟨l, List.mem_cons_of_mem _ h1, h2⟩
theorem joi_mem {c a : Nat} : ∀ {ls : List (List Nat)} {l : List Nat}, l ∈ ls → a ∈ l → a ∈ joi c ls
  | [], _, h, _ => by cases h
  | [x], l, h, ha => by rw [List.mem_singleton.mp h] at ha; exact ha
  | x :: y :: r, l, h, ha => by
    show a ∈ x ++ c :: joi c (y :: r)
    rcases List.mem_cons.mp h with h | h
    · exact List.mem_append_left _ (by rw [← h]; exact ha)
    · exact List.mem_append_right _ (List.mem_cons_of_mem _ (joi_mem h ha))
/-! ### what the operations say of texts by their signs -/
def sD (l : List Nat) : PyData := .str (mkS l)
theorem str_lit {z : Str} {l : List Nat} (h : z.cps = l.toArray) : PyData.str z = sD l := congrArg PyData.str (Str.ext' h)
theorem strs_sD : ∀ ls : List (List Nat), strsD (ls.map sD) = some (ls.map mkS)
  | [] => rfl
  | x :: r => by
    show (strsD (r.map sD)).map (mkS x :: ·) = _
    rw [strs_sD r]
    rfl
theorem split_ok {x : List Nat} {c : Nat} (hc : c < 256) (hl : x.length + 2 ≤ line) : splitD (sD x) (.str ⟨#[c]⟩) = some (.list ((spl c x).map sD)) := by
  show (if (((⟨#[c]⟩ : Str).length == 0) = false ∧ (mkS x).length + 2 ≤ line) then some (PyData.list ((Txt.split (mkS x) ⟨#[c]⟩).map .str)) else none) = _
  rw [if_pos ⟨rfl, by rw [len_mk]; exact hl⟩, split_spl _ hc, sg_mk, List.map_map]
  rfl
theorem join_fit {c : Nat} {ls : List (List Nat)} (h : (ls.map fun w => w.length + 1).sum ≤ line) : joinFit ⟨#[c]⟩ (ls.map mkS) = true := by
  unfold joinFit
  rw [decide_eq_true_eq]
  have e : ∀ ls : List (List Nat), ((ls.map mkS).map (·.length)).sum + (ls.map mkS).length * (⟨#[c]⟩ : Str).length = (ls.map fun w => w.length + 1).sum := by
    intro ls
    induction ls with
    | nil => rfl
    | cons x r ih =>
      have e1 : (⟨#[c]⟩ : Str).length = 1 := rfl
      rw [e1] at ih ⊢
      simp only [List.map_cons, List.sum_cons, List.length_cons, len_mk] at ih ⊢
      omega
  rw [e]
  exact h
theorem join_okL {c : Nat} {ls : List (List Nat)} (h : (ls.map fun w => w.length + 1).sum ≤ line) : joinD (.str ⟨#[c]⟩) (.list (ls.map sD)) = some (sD (joi c ls)) := by
  show ((strsD (ls.map sD)).bind fun ss => if joinFit ⟨#[c]⟩ ss = true then some (PyData.str (Txt.join ⟨#[c]⟩ ss)) else none) = _
  rw [strs_sD, Option.bind_some, if_pos (join_fit h), txt_join]
  rfl
theorem join_okT {c : Nat} {ls : List (List Nat)} (h : (ls.map fun w => w.length + 1).sum ≤ line) : joinD (.str ⟨#[c]⟩) (.tuple (ls.map sD)) = some (sD (joi c ls)) := join_okL (c := c) h
theorem has_one (c : Nat) (z : Str) : hasSub ⟨#[c]⟩ z = decide (c ∈ sg z) := StrLaws.found_one z c
theorem takeW_all {p : Nat → Bool} {l : List Nat} (h : ∀ a, a ∈ l → p a = true) : l.takeWhile p = l := by
  induction l with
  | nil => rfl
  | cons a r ih => rw [List.takeWhile_cons_of_pos (h a List.mem_cons_self), ih fun b hb => h b (List.mem_cons_of_mem _ hb)]
/-- a text that is stripped of all its signs -/
theorem strip_all {x : List Nat} {y : Str} (h : ∀ a, a ∈ x → y.cps.contains a = true) : Txt.stripChars (mkS x) y = mkS [] := by
  have h0 : stripLo y.cps.contains true (mkS x) = x.length := by
    show ((sg (mkS x)).takeWhile _).length = _
    rw [sg_mk, takeW_all h]
  unfold Txt.stripChars Txt.stripBy
  have h1 : stripHi y.cps.contains true (mkS x) x.length = x.length := by
    show (mkS x).length - (((sg (mkS x)).drop x.length).reverse.takeWhile _).length = _
    rw [sg_mk, len_mk, List.drop_length]
    rfl
  split
  · rename_i h2
    unfold stripSame at h2
    rw [h0, Bool.and_eq_true, beq_iff_eq] at h2
    rw [List.eq_nil_of_length_eq_zero h2.1]
  · unfold stripped
    rw [h0, h1, sub_sg, Nat.sub_self, List.take_zero]
theorem strip_vs0 {x : List Nat} {y : Str} {P : Nat → Prop} (h : ∀ c, c ∈ x → P c) : ∀ c, c ∈ sg (Txt.stripChars (mkS x) y) → P c := by
  unfold Txt.stripChars Txt.stripBy
  split
  · exact h
  · unfold stripped
    rw [sub_sg, sg_mk, sg_mk]
    exact fun c hc => h c (List.mem_of_mem_drop (List.mem_of_mem_take hc))
theorem ix_lo {n : Nat} {k : Int} (h : 0 ≤ k) (d : Nat) : HT.sIx n d (some k) = min k.toNat n := by
  show (if k < 0 then (k + (n : Int)).toNat else min k.toNat n) = _
  rw [if_neg (by omega)]
theorem cutS_to {x : List Nat} {k : Int} (h : 0 ≤ k) : L2.cutS (mkS x) none (some k) = mkS (x.take k.toNat) := by
  show mkS (((sg (mkS x)).drop 0).take (HT.sIx (mkS x).length (mkS x).length (some k) - 0)) = _
  rw [sg_mk, List.drop_zero, ix_lo h, len_mk, Nat.sub_zero]
  congr 1
  by_cases hk : k.toNat ≤ x.length
  · rw [Nat.min_eq_left hk]
  · rw [Nat.min_eq_right (by omega), List.take_of_length_le (Nat.le_refl _), List.take_of_length_le (by omega)]
theorem cutS_from {x : List Nat} {k : Int} (h : 0 ≤ k) : L2.cutS (mkS x) (some k) none = mkS (x.drop k.toNat) := by
  show mkS (((sg (mkS x)).drop (HT.sIx (mkS x).length 0 (some k))).take ((mkS x).length - HT.sIx (mkS x).length 0 (some k))) = _
  rw [sg_mk, ix_lo h, len_mk]
  congr 1
  by_cases hk : k.toNat ≤ x.length
  · rw [Nat.min_eq_left hk]
    exact List.take_of_length_le (by rw [List.length_drop]; exact Nat.le_refl _)
  · rw [Nat.min_eq_right (by omega), List.drop_length, List.drop_eq_nil_of_le (by omega), List.take_nil]
theorem cutD_to {α : Type} {x : List α} {k : Int} (h : 0 ≤ k) : cutD x none (some k) = x.take k.toNat := by
  show ((x.drop 0).take (HT.sIx x.length x.length (some k) - 0)) = _
  rw [List.drop_zero, ix_lo h, Nat.sub_zero]
  by_cases hk : k.toNat ≤ x.length
  · rw [Nat.min_eq_left hk]
  · rw [Nat.min_eq_right (by omega), List.take_of_length_le (Nat.le_refl _), List.take_of_length_le (by omega)]
theorem cutD_from {α : Type} {x : List α} {k : Int} (h : 0 ≤ k) : cutD x (some k) none = x.drop k.toNat := by
  show ((x.drop (HT.sIx x.length 0 (some k))).take (x.length - HT.sIx x.length 0 (some k))) = _
  rw [ix_lo h]
  by_cases hk : k.toNat ≤ x.length
  · rw [Nat.min_eq_left hk]
    exact List.take_of_length_le (by rw [List.length_drop]; exact Nat.le_refl _)
  · rw [Nat.min_eq_right (by omega), List.drop_length, List.drop_eq_nil_of_le (by omega), List.take_nil]
theorem items_sD (x : List Nat) : strItems (mkS x) = x.map fun c => .d (sD [c]) := rfl
theorem add_sD {a b : List Nat} (h : a.length + b.length ≤ line) : binD .Add (sD a) (sD b) = some (sD (a ++ b)) := by
  unfold sD
  rw [add_ss (by rw [len_mk, len_mk]; exact h), mk_app]
theorem len_sD {a : List Nat} (h : a.length ≤ line) : bltD .len (sD a) = some (.int a.length) := by
  show (if (mkS a).length ≤ line then some (PyData.int (mkS a).length) else none) = _
  rw [len_mk, if_pos h]
theorem slc_to {a : List Nat} {k : Int} (h : a.length ≤ line) (hk : 0 ≤ k) : slcD (sD a) none (some k) = some (sD (a.take k.toNat)) := by
  show (if (mkS a).length ≤ line then some (PyData.str (L2.cutS (mkS a) none (some k))) else none) = _
  rw [len_mk, if_pos h, cutS_to hk]
  rfl
theorem slc_from {a : List Nat} {k : Int} (h : a.length ≤ line) (hk : 0 ≤ k) : slcD (sD a) (some k) none = some (sD (a.drop k.toNat)) := by
  show (if (mkS a).length ≤ line then some (PyData.str (L2.cutS (mkS a) (some k) none)) else none) = _
  rw [len_mk, if_pos h, cutS_from hk]
  rfl
theorem eqv_sD (a b : List Nat) : PyData.eqv (sD a) (sD b) = decide (a = b) := by
  unfold sD
  rw [PyData.eqv, Bool.eq_iff_iff, beq_iff_eq, decide_eq_true_eq]
  exact ⟨mk_inj, fun h => by rw [h]⟩
/-- signs that there are -/
def Vs (a : List Nat) : Prop := ∀ c, c ∈ a → c < 1114112
theorem lay_sD {a : List Nat} (h : Vs a) : (sD a).canLay0 = true ∧ (sD a).depth ≤ 1 := by
  refine ⟨?_, Nat.zero_le _⟩
  show (mkS a).cps.all (fun c => decide (c < 1114112)) = true
  rw [Array.all_eq_true_iff_forall_mem]
  intro c hc
  have hc : c ∈ a := by simpa [mkS] using hc
  exact decide_eq_true (h c hc)
theorem shaped_sD {a : List Nat} (h : Vs a) : SeqAt.shaped (sD a) = true := shaped_of (lay_sD h) (by decide)
theorem lay_sDs {ls : List (List Nat)} (h : ∀ x, x ∈ ls → Vs x) : ∀ p, p ∈ ls.map sD → p.canLay0 = true ∧ p.depth ≤ 1 := fun p hp => by
  obtain ⟨a, ha, rfl⟩ := List.mem_map.mp hp
  exact lay_sD (h a ha)
theorem shaped_sDs {ls : List (List Nat)} (h : ∀ x, x ∈ ls → Vs x) : SeqAt.shaped (.list (ls.map sD)) = true ∧ SeqAt.shaped (.tuple (ls.map sD)) = true := by
  have h := lay_seq (lay_sDs h)
  exact ⟨shaped_of h.1 (by decide), shaped_of h.2 (by decide)⟩
theorem Vs.app {a b : List Nat} (h : Vs a) (k : Vs b) : Vs (a ++ b) := fun c hc => by
  rcases List.mem_append.mp hc with hc | hc
  · exact h c hc
  · exact k c hc
theorem Vs.take {a : List Nat} (h : Vs a) (n : Nat) : Vs (a.take n) := fun c hc => h c (List.mem_of_mem_take hc)
theorem Vs.drop {a : List Nat} (h : Vs a) (n : Nat) : Vs (a.drop n) := fun c hc => h c (List.mem_of_mem_drop hc)
theorem Vs.spl {a : List Nat} {c : Nat} (h : Vs a) : ∀ x, x ∈ spl c a → Vs x := fun x hx d hd => h d (by
  have := joi_mem (c := c) hx hd
  rw [joi_spl] at this
  exact this)
theorem Vs.joi {ls : List (List Nat)} {c : Nat} (hc : c < 1114112) (h : ∀ x, x ∈ ls → Vs x) : Vs (joi c ls) := fun d hd => by
  rcases mem_joi hd with rfl | ⟨l, h1, h2⟩
  · exact hc
  · exact h l h1 d h2
def lastL (ls : List (List Nat)) : List Nat := ls.getLastD []
def headL (ls : List (List Nat)) : List Nat := ls.headD []
theorem last_el {α : Type} {ls : List α} {z : α} (h : ls ≠ []) : ls[ls.length - 1]'(by have := List.length_pos_iff.mpr h; omega) = ls.getLastD z := by
  rw [List.getLastD_eq_getLast?, List.getLast?_eq_getElem?, List.getElem?_eq_getElem (by have := List.length_pos_iff.mpr h; omega)]
  rfl
theorem last_sD {ls : List (List Nat)} (h : ls ≠ []) : L2.atI (ls.map sD) (-1) = some (sD (lastL ls)) := by
  have hl := List.length_pos_iff.mpr h
  have e : L2.ixN (ls.map sD).length (-1) = some (ls.length - 1) := by
    unfold L2.ixN
    rw [if_neg (by decide), List.length_map, if_pos (by omega)]
    congr 1
    omega
  unfold L2.atI
  rw [e, Option.bind_some, List.getElem?_map, List.getElem?_eq_getElem (by omega), Option.map_some, last_el (z := []) h]
  rfl
theorem last_mem {α : Type} {ls : List α} {z : α} (h : ls ≠ []) : ls.getLastD z ∈ ls := by
  have hl := List.length_pos_iff.mpr h
  rw [← last_el h]
  exact List.getElem_mem _
/-! ### comprehensions without side effects -/
theorem comp_map {α : Type} {t : Tg} {c : Rho → Store → Ev.R Bool} {e : Rho → Store → Ev.R PyData} {ρ : Rho} {S : Store} (enc : α → U) (p : α → Bool) (f : α → PyData) : ∀ (xs : List α),
    (∀ x, x ∈ xs → ∃ ρ1, bindT t (enc x) ρ = some ρ1 ∧ c ρ1 S = .ok (p x) S ∧ (p x = true → e ρ1 S = .ok (f x) S)) → compL t c e ρ (xs.map enc) S = .ok ((xs.filter p).map f) S
  | [], _ => rfl
  | x :: xs, h => by
    obtain ⟨ρ1, h1, h2, h3⟩ := h x List.mem_cons_self
    have ih := comp_map enc p f xs fun y hy => h y (List.mem_cons_of_mem _ hy)
    rw [List.map_cons]
    unfold compL
    rw [h1]
    dsimp only
    rw [h2, b_ok]
    cases hp : p x with
    | true => rw [if_pos rfl, h3 hp, b_ok, ih, List.filter_cons_of_pos hp]; rfl
    | false => rw [if_neg (by decide), ih, List.filter_cons_of_neg (by rw [hp]; decide)]
theorem filt_all {α : Type} (xs : List α) : xs.filter (fun _ => true) = xs := by
  induction xs with
  | nil => rfl
  | cons x r ih => rw [List.filter_cons_of_pos rfl, ih]
theorem all_bools (bs : List Bool) : bltD .all (.list (bs.map .bool)) = some (.bool (bs.all id)) := by
  show (boolsD (bs.map .bool)).map (fun bs => PyData.bool (bs.all id)) = _
  have : boolsD (bs.map .bool) = some bs := by
    induction bs with
    | nil => rfl
    | cons b r ih =>
      show (boolsD (r.map .bool)).map (b :: ·) = _
      rw [ih]
      rfl
  rw [this]
  rfl
/-- a comprehension over a list of the store that stays as it is -/
theorem compB_map {t : Tg} {c : Rho → Store → Ev.R Bool} {e : Rho → Store → Ev.R PyData} {ρ : Rho} {S : Store} {b : Nat} (p : PyData → Bool) (f : PyData → PyData) {xs : List PyData} (hb : S[b]? = some (.lst xs))
    (h : ∀ x, x ∈ xs → ∃ ρ1, bindT t (.d x) ρ = some ρ1 ∧ c ρ1 S = .ok (p x) S ∧ (p x = true → e ρ1 S = .ok (f x) S)) : ∀ (n j : Nat), j ≤ xs.length → xs.length < j + n → compB t c e ρ b n j S = .ok (((xs.drop j).filter p).map f) S
  | 0, j, h1, h2 => by omega
  | n + 1, j, h1, h2 => by
    unfold compB
    rw [hb]
    dsimp only
    by_cases hj : j < xs.length
    · obtain ⟨ρ1, g1, g2, g3⟩ := h xs[j] (List.getElem_mem hj)
      have ih := compB_map p f hb h n (j + 1) (by omega) (by omega)
      rw [List.getElem?_eq_getElem hj, List.drop_eq_getElem_cons hj]
      dsimp only
      rw [g1]
      dsimp only
      rw [g2, b_ok]
      cases hp : p xs[j] with
      | true => rw [if_pos rfl, g3 hp, b_ok, ih, List.filter_cons_of_pos hp]; rfl
      | false => rw [if_neg (by decide), ih, List.filter_cons_of_neg (by rw [hp]; decide)]
    · rw [List.getElem?_eq_none (by omega), List.drop_eq_nil_of_le (by omega)]
      rfl
theorem ev_lcB {g : Cn} {own : List Nat} {t : Tg} {it : It} {c : Xs} {e : X} {ρ : Rho} {S S1 S2 : Store} {b : Nat} {ys : List PyData} (h1 : evIt g it ρ S = .ok (.live b) S1)
    (h2 : compB t (fun ρ S => evC g c ρ S) (fun ρ S => dataR (evX g e ρ S)) (wipe ρ own) b 100000 0 S1 = .ok ys S2) : evX g (.lc own t it c e) ρ S = .ok (.d (.list ys)) S2 := by
  unfold evX
  rw [h1]
  simp only [ne_ok, b_ok]
  rw [h2]
  rfl
end Ev
end

section
set_option Elab.async false
set_option linter.all false
set_option autoImplicit false
set_option maxRecDepth 100000
set_option maxHeartbeats 4000000
/-! # While loops by a plain run; loops over a list of the store -/
namespace Ev
open PySem
theorem ss_set {g : Cn} {i : Nat} {e : Ev.X} {r : Sts} {ρ ρ1 : Rho} {S S1 : Store} {u : U} (h : evX g e ρ S = .ok u S1) (hρ : ρ.set i (some u) = ρ1) : evSs g (.cons (.set i e) r) ρ S = evSs g r ρ1 S1 := by
  rw [ss_cons (s_set h), hρ]
theorem s_ifT {g : Cn} {c : Ev.X} {a b : Sts} {ρ ρ1 : Rho} {S S1 S2 : Store} (h : truR (evX g c ρ S) = .ok true S1) (h2 : evSs g a ρ S1 = .ok (.nx ρ1) S2) : evS g (.iff c a b) ρ S = .ok (.nx ρ1) S2 := by
  unfold evS
  rw [h, b_ok, if_pos rfl]
  exact h2
theorem s_ifF {g : Cn} {c : Ev.X} {a : Sts} {ρ : Rho} {S S1 : Store} (h : truR (evX g c ρ S) = .ok false S1) : evS g (.iff c a .nil) ρ S = .ok (.nx ρ) S1 := by
  unfold evS
  rw [h, b_ok, if_neg (by decide)]
  unfold evSs
  rfl
theorem s_ifR {g : Cn} {c : Ev.X} {a b : Sts} {ρ : Rho} {S S1 S2 : Store} {u : U} (h : truR (evX g c ρ S) = .ok true S1) (h2 : evSs g a ρ S1 = .ok (.rt u) S2) : evS g (.iff c a b) ρ S = .ok (.rt u) S2 := by
  unfold evS
  rw [h, b_ok, if_pos rfl]
  exact h2
theorem s_ifX {g : Cn} {c : Ev.X} {a b : Sts} {ρ : Rho} {S S1 S2 : Store} {k : Nat} (h : truR (evX g c ρ S) = .ok true S1) (h2 : evSs g a ρ S1 = .exc k S2) : evS g (.iff c a b) ρ S = .exc k S2 := by
  unfold evS
  rw [h, b_ok, if_pos rfl]
  exact h2
theorem ss_exc {g : Cn} {a : St} {r : Sts} {ρ : Rho} {S S1 : Store} {k : Nat} (h : evS g a ρ S = .exc k S1) : evSs g (.cons a r) ρ S = .exc k S1 := by
  conv => lhs; unfold evSs
  rw [h]
  rfl
theorem ev_call1 {g : Cn} {f : Nat} {a : Ev.X} {ρ : Rho} {S S1 : Store} {u : U} (h : evX g a ρ S = .ok u S1) : evX g (.call f (.cons a .nil)) ρ S = g.call f [u] S1 := by
  simp only [evX, evXs, h, b_ok]
theorem ev_call2 {g : Cn} {f : Nat} {a b : Ev.X} {ρ : Rho} {S S1 S2 : Store} {u v : U} (h : evX g a ρ S = .ok u S1) (h2 : evX g b ρ S1 = .ok v S2) : evX g (.call f (.cons a (.cons b .nil))) ρ S = g.call f [u, v] S2 := by
  simp only [evX, evXs, h, h2, b_ok]
theorem ev_call3 {g : Cn} {f : Nat} {a b c : Ev.X} {ρ : Rho} {S S1 S2 S3 : Store} {u v w : U} (h : evX g a ρ S = .ok u S1) (h2 : evX g b ρ S1 = .ok v S2) (h3 : evX g c ρ S2 = .ok w S3) : evX g (.call f (.cons a (.cons b (.cons c .nil)))) ρ S = g.call f [u, v, w] S3 := by
  simp only [evX, evXs, h, h2, h3, b_ok]
theorem ne_same {p : PyData} (h : SeqAt.shaped p = true) : cmpD .NotEq p p = some false := by
  show (eqD p p).map (!·) = _
  have h0 : p.canLay0 = true := by
    unfold SeqAt.shaped at h
    exact (Bool.and_eq_true_iff.mp h).1
  rw [eq_d h h, SeqAt.eqv_refl _ h0]
  rfl
theorem eq_same {p : PyData} (h : SeqAt.shaped p = true) : cmpD .Eq p p = some true := by
  show eqD p p = _
  have h0 : p.canLay0 = true := by
    unfold SeqAt.shaped at h
    exact (Bool.and_eq_true_iff.mp h).1
  rw [eq_d h h, SeqAt.eqv_refl _ h0]
/-- a run: guarded, to a number of turns -/
def runW {σ : Type} (g t : σ → Bool) (f : σ → σ) : Nat → σ → Option σ
  | 0, _ => none
  | n + 1, s => if g s = true then (if t s = true then runW g t f n (f s) else some s) else none
theorem loopW_run {σ : Type} {c : Rho → Store → Ev.R Bool} {body : Rho → Store → Ev.R F} (g t : σ → Bool) (f : σ → σ) (Rl : σ → Rho → Store → Prop) (hc : ∀ s ρ S, Rl s ρ S → g s = true → c ρ S = .ok (t s) S)
    (hb : ∀ s ρ S, Rl s ρ S → g s = true → t s = true → ∃ ρ' S', body ρ S = .ok (.nx ρ') S' ∧ Rl (f s) ρ' S') :
    ∀ (n m : Nat) (s s' : σ) (ρ : Rho) (S : Store), runW g t f n s = some s' → n ≤ m → Rl s ρ S → ∃ ρ' S', loopW c body m ρ S = .ok (.nx ρ') S' ∧ Rl s' ρ' S'
  | 0, _, _, _, _, _, h, _, _ => by cases h
  | n + 1, m, s, s', ρ, S, h, hm, hR => by
    obtain ⟨m, rfl⟩ : ∃ k, m = k + 1 := ⟨m - 1, by omega⟩
    unfold runW at h
    split at h
    · rename_i hg
      unfold loopW
      rw [hc s ρ S hR hg, b_ok]
      split at h
      · rename_i ht
        obtain ⟨ρ1, S1, h1, h2⟩ := hb s ρ S hR hg ht
        rw [if_pos ht, h1, b_ok]
        exact loopW_run g t f Rl hc hb n m (f s) s' ρ1 S1 h (by omega) h2
      · rename_i ht
        cases h
        rw [if_neg ht]
        exact ⟨ρ, S, rfl, hR⟩
    · cases h
theorem ev_whil {g : Cn} {c : Ev.X} {b : Sts} {ρ : Rho} {S : Store} {r : R F} (h : loopW (fun ρ S => truR (evX g c ρ S)) (fun ρ S => evSs g b ρ S) 1000000 ρ S = r) : evS g (.whil c b) ρ S = r := by
  unfold evS
  exact h
theorem loopB_inv {t : Tg} {body : Rho → Store → Ev.R F} {b : Nat} {xs : List PyData} (I : Nat → Rho → Store → Prop) (hI : ∀ i ρ S, I i ρ S → S[b]? = some (.lst xs))
    (st : ∀ i x ρ S, xs[i]? = some x → I i ρ S → ∃ ρ1 ρ2 S2, bindT t (.d x) ρ = some ρ1 ∧ body ρ1 S = .ok (.nx ρ2) S2 ∧ I (i + 1) ρ2 S2) :
    ∀ (n j : Nat) (ρ : Rho) (S : Store), I j ρ S → j ≤ xs.length → xs.length < j + n → ∃ ρ' S', loopB t body b n j ρ S = .ok (.nx ρ') S' ∧ I xs.length ρ' S'
  | 0, j, ρ, S, _, h1, h2 => by omega
  | n + 1, j, ρ, S, h, h1, h2 => by
    unfold loopB
    rw [hI j ρ S h]
    dsimp only
    by_cases hj : j < xs.length
    · obtain ⟨ρ1, ρ2, S2, g1, g2, g3⟩ := st j xs[j] ρ S (List.getElem?_eq_getElem hj) h
      rw [List.getElem?_eq_getElem hj]
      dsimp only
      rw [g1]
      dsimp only
      rw [g2, b_ok]
      exact loopB_inv I hI st n (j + 1) ρ2 S2 g3 (by omega) (by omega)
    · have e : j = xs.length := by omega
      rw [List.getElem?_eq_none (by omega)]
      exact ⟨ρ, S, rfl, by rw [← e]; exact h⟩
/-- a list at hand: frozen, or a box that stands -/
def LstAt (S : Store) (u : U) (xs : List PyData) : Prop := u = .d (.list xs) ∨ ∃ b, u = .ref b ∧ S[b]? = some (.lst xs)
theorem LstAt.deref {S : Store} {u : U} {xs : List PyData} (h : LstAt S u xs) : Ev.deref S u = some (.list xs) := by
  rcases h with rfl | ⟨b, rfl, h⟩
  · rfl
  · exact d_lst h
/-- a loop over such a list, the box as it stands -/
theorem for_lst {g : Cn} {t : Tg} {a : Ev.X} {b : Sts} {ρ : Rho} {S : Store} {u : U} {xs : List PyData} (hu : LstAt S u xs) (he : evX g a ρ S = .ok u S) (hl : xs.length < 1000000) (I : Nat → Rho → Store → Prop) (h0 : I 0 ρ S)
    (hI : ∀ i ρ' S', I i ρ' S' → LstAt S' u xs)
    (st : ∀ i x ρ' S', xs[i]? = some x → I i ρ' S' → ∃ ρ1 ρ2 S2, bindT t (.d x) ρ' = some ρ1 ∧ evSs g b ρ1 S' = .ok (.nx ρ2) S2 ∧ I (i + 1) ρ2 S2) :
    ∃ ρ' S', evS g (.forr t (.val a) b) ρ S = .ok (.nx ρ') S' ∧ I xs.length ρ' S' := by
  rcases hu with rfl | ⟨k, rfl, hk⟩
  · obtain ⟨ρ', S', h1, h2⟩ := loop_inv (t := t) (body := fun ρ S => evSs g b ρ S) (fun i ρ S => I i ρ S) (xs.map U.d) 0 ρ S h0 (fun i u ρ S' hu hi => by
      rw [List.getElem?_map] at hu
      cases hx : xs[i]? with
      | none => rw [hx] at hu; cases hu
      | some x =>
        rw [hx] at hu
        cases hu
        rw [Nat.zero_add] at hi ⊢
        exact st i x ρ S' hx hi)
    rw [Nat.zero_add, List.length_map] at h2
    exact ⟨ρ', S', ev_for (it_list he) h1, h2⟩
  · obtain ⟨ρ', S', h1, h2⟩ := loopB_inv (t := t) (body := fun ρ S => evSs g b ρ S) (b := k) (xs := xs) I (fun i ρ S hi => by
      rcases hI i ρ S hi with z | ⟨k', z, hk'⟩
      · cases z
      · cases z
        exact hk') st 1000000 0 ρ S h0 (Nat.zero_le _) (by omega)
    refine ⟨ρ', S', ?_, h2⟩
    unfold evS
    have e : evIt g (.val a) ρ S = .ok (.live k) S := by
      unfold evIt
      rw [he]
      simp [srcU, hk, dct_lst hk]
    rw [e]
    exact h1
theorem last_map {α : Type} (f : α → PyData) (z : α) {ls : List α} (h : ls ≠ []) : L2.atI (ls.map f) (-1) = some (f (ls.getLastD z)) := by
  have hl := List.length_pos_iff.mpr h
  have e : L2.ixN (ls.map f).length (-1) = some (ls.length - 1) := by
    unfold L2.ixN
    rw [if_neg (by decide), List.length_map, if_pos (by omega)]
    congr 1
    omega
  unfold L2.atI
  rw [e, Option.bind_some, List.getElem?_map, List.getElem?_eq_getElem (by omega), Option.map_some, last_el (z := z) h]
/-! ### fractions -/
theorem mod_lt {a b : Nat} (hb : 0 < b) (h : a % b ≠ 0) : 2 * (b % (a % b)) < b := by
  have h1 : b % (a % b) < a % b := Nat.mod_lt _ (by omega)
  have h2 : a % b < b := Nat.mod_lt _ hb
  have h3 := Nat.div_add_mod b (a % b)
  have h4 : 1 ≤ b / (a % b) := (Nat.le_div_iff_mul_le (by omega)).mpr (by omega)
  have h5 : (a % b) * 1 ≤ (a % b) * (b / (a % b)) := Nat.mul_le_mul_left _ h4
  omega
/-- Euclid's loop, k bits -/
theorem gcd_loop {c : Rho → Store → Ev.R Bool} {body : Rho → Store → Ev.R F} {S : Store} (en : Nat → Nat → Rho) (hc : ∀ a b, c (en a b) S = .ok (!decide (b = 0)) S) (hb : ∀ a b, 0 < b → body (en a b) S = .ok (.nx (en b (a % b))) S) :
    ∀ (k m a b : Nat), b < 2 ^ k → 2 * k + 2 ≤ m → loopW c body m (en a b) S = .ok (.nx (en (Nat.gcd a b) 0)) S
  | 0, m, a, b, h, hm => by
    obtain ⟨m, rfl⟩ : ∃ j, m = j + 1 := ⟨m - 1, by omega⟩
    have hb0 : b = 0 := by simpa using h
    subst hb0
    unfold loopW
    rw [hc, b_ok, if_neg (by simp), Nat.gcd_zero_right]
  | k + 1, m, a, b, h, hm => by
    obtain ⟨m, rfl⟩ : ∃ j, m = j + 2 := ⟨m - 2, by omega⟩
    by_cases hb0 : b = 0
    · subst hb0
      unfold loopW
      rw [hc, b_ok, if_neg (by simp), Nat.gcd_zero_right]
    · unfold loopW
      rw [hc, b_ok, if_pos (by simp [hb0]), hb a b (by omega), b_ok]
      dsimp only
      by_cases hm0 : a % b = 0
      · unfold loopW
        rw [hc, hm0, b_ok, if_neg (by simp), Nat.gcd_comm, Nat.gcd_rec, hm0, Nat.gcd_zero_left]
      · unfold loopW
        rw [hc, b_ok, if_pos (by simp [hm0]), hb b (a % b) (by omega), b_ok]
        dsimp only
        rw [gcd_loop en hc hb k m (a % b) (b % (a % b)) (by have := mod_lt (a := a) (by omega) hm0; rw [Nat.pow_succ] at h; omega) (by omega)]
        congr 3
        rw [Nat.gcd_comm (a % b), ← Nat.gcd_rec, Nat.gcd_comm (a % b) b, Nat.gcd_comm b (a % b), ← Nat.gcd_rec, Nat.gcd_comm]
end Ev
end

section
set_option Elab.async false
set_option linter.all false
set_option maxRecDepth 100000
set_option maxHeartbeats 0
namespace K12
open PySem PySem.Spec PyProof.Rows L2 Ev
def top (i : Nat) : Stmt := PySem.Challenge.pw_stripwalks_k12_classes_of_errors.main.body.getD i (.Pass ⟨0, 0, 0, 0⟩)
def row0 : Ev.Row := ⟨"_law_plain", top 19, ["_law_some"], [], ["_law_some"], false, true, {}⟩
def row1 : Ev.Row := ⟨"_law_kinds", top 20, ["_law_e", "_law_some"], ["_law_e"], [], false, false, {}⟩
def row2 : Ev.Row := ⟨"law", top 21, ["_law_script", "_law_some", "_law_at", "_law_other", "_law_cell", "_law_one", "_law_e"], ["_law_script"], ["_law_some"], false, false, { xn := ["_law_e"], blx := ["_law_some"] }⟩
def rows : List Ev.Row := [row0, row1, row2]
def plainC : List Str := ["InvalidStrip", "InvalidKind", "InvalidDrawing", "InvalidPlace", "InvalidWalk", "InvalidTie", "InvalidTies", "InvalidIndex", "InvalidNumber", "InvalidColumn", "InvalidWay", "InvalidText", "Blocked", "Unlike", "NothingToUndo"]
def all17 : List Str := "WalkError" :: (plainC ++ (["TooMany"] : List Str))
/-- what isinstance says -/
def isTb (d : Str) : List (Str × Bool) := all17.map fun c => (c, decide (c = d) || decide (d = "WalkError") || decide (d = "ValueError"))
def hints : Hn := { xC := "WalkError" :: plainC, xM := [("TooMany", "limit")], xT := (("ValueError" : Str) :: all17).map (fun d => (d, isTb d)), xS := plainC }
def px : Px := ⟨rows, hints, "/claim/cut.py"⟩
def fns : List Fn := rows.map fun r => (r.ir px.g).getD ⟨0, 0, false, .nil⟩
theorem irAll : (rows.all fun r => (r.ir px.g).isSome) = true := by decide +kernel
theorem scAll : (rows.all fun r => C8.scC r.N r.ps (L2.defScope r.st)) = true := by decide +kernel
theorem bnd0 : row0.Bnd := fun _ _ _ _ _ _ us hl => match us, hl with | [], _ => rfl
theorem bnd1 : row1.Bnd := fun _ _ _ _ _ _ us hl => match us, hl with | [_], _ => rfl
theorem bnd2 : row2.Bnd := fun _ _ _ _ _ _ us hl => match us, hl with | [_], _ => rfl
theorem bndAll : ∀ r, r ∈ rows → r.Bnd := by
  intro r hr
  simp only [rows, List.mem_cons, List.not_mem_nil, or_false] at hr
  rcases hr with rfl | rfl | rfl
  · exact bnd0
  · exact bnd1
  · exact bnd2
theorem isSome_getD {α : Type} {o : Option α} {d : α} (h : o.isSome = true) : o = some (o.getD d) := by
  cases o with
  | none => cases h
  | some a => rfl
theorem pxOk : PxOk px fns where
  ir := fun i r hr => by
    have hr : rows[i]? = some r := hr
    refine ⟨(r.ir px.g).getD ⟨0, 0, false, .nil⟩, ?_, isSome_getD (List.all_eq_true.mp irAll r (List.mem_of_getElem? hr))⟩
    unfold fns
    rw [List.getElem?_map, hr]
    rfl
  sc := fun r hr => C8.fnScope_by (List.all_eq_true.mp scAll r hr)
  bnd := bndAll
  lam := fun r hr => by
    have hr : r ∈ rows := hr
    simp only [rows, List.mem_cons, List.not_mem_nil, or_false] at hr
    rcases hr with rfl | rfl | rfl <;> rfl
/-! ### the head -/
abbrev theRow : PySem.W.OpenRow := PySem.W.OpenLaw.row PySem.Challenge.rw_stripwalks_k12_classes_of_errors
abbrev hk : PySem.W.Hook := hookY 4 px.fa px.fn [] px.ex
def ob (s : PySem.W.SharedT) : He.AlX := obsY 4 px.fa px.fn [] px.ex (HandSHeadRun.getT s)
theorem ob_eq (s : PySem.W.SharedT) : ob s = hk.obs s.abs := obsY_eq (HandSHeadRun.getT_eq s)
def loose : List Str := ([("WalkError" : Str), ("InvalidStrip" : Str), ("InvalidKind" : Str), ("InvalidDrawing" : Str), ("InvalidPlace" : Str), ("InvalidWalk" : Str), ("InvalidTie" : Str), ("InvalidTies" : Str), ("InvalidIndex" : Str), ("InvalidNumber" : Str), ("InvalidColumn" : Str), ("InvalidWay" : Str), ("InvalidText" : Str), ("Blocked" : Str), ("Unlike" : Str), ("NothingToUndo" : Str), ("TooMany" : Str), ("_law_plain" : Str), ("_law_kinds" : Str)] : List Str)
theorem run (w : World) : HandSHeadRun.RunEq theRow (PySem.W.view theRow.prog [21]) hk ob 20000 loose w := by
  intro os
  kernel_rfl
/-- the plain law -/
def Plain : Prop := ∀ ns : List Int, ns.length ≤ 63 → (∀ z, z ∈ ns → Builtin.Int.intBits z ≤ 1048576) → ∃ S, callN ⟨fns, fun _ => none⟩ 40 2 [.scr ns] [] = .ok (.d (.bool true)) S
end K12
open PySem PySem.W PySem.Calls PyProof.Rows in
theorem K12.holds_of (plain : K12.Plain) : PySem.Challenge.rw_stripwalks_k12_classes_of_errors.Holds := by
  w_on; o_law
  refine HandSHeadRun.head_any (r := OpenLaw.row PySem.Challenge.rw_stripwalks_k12_classes_of_errors) (q := view (OpenLaw.row PySem.Challenge.rw_stripwalks_k12_classes_of_errors).prog [21]) (H := K12.hk) (ob := K12.ob) (M := 20000) (loose := K12.loose) (d := HandSHeadRun.topDef (OpenLaw.row PySem.Challenge.rw_stripwalks_k12_classes_of_errors).prog 21) (kwd := []) K12.ob_eq
    (by kernel_rfl) (fun s => by kernel_rfl) K12.run (by kernel_rfl) (by kernel_rfl) (by kernel_rfl) (by rfl) (by first | assumption | decide +kernel) (by decide +kernel) ⟨rfl, rfl, rfl, rfl, rfl, by decide +kernel⟩ ?hw ?hc
  case hw => w_witness2
  case hc =>
    refine LamX.walk_ofTsE (l := PySem.Challenge.rw_stripwalks_k12_classes_of_errors) (n := 63) (k := 42) (x := "_law_script") (CX := fun w => L2N.CX (PySem.Challenge.rw_stripwalks_k12_classes_of_errors).prog w) rfl (by decide) (by kernel_rfl) ⟨rfl, by decide, by decide⟩ ?F (fun _ _ _ _ _ z => Ev.cx_none z)
    intro w mg fa h Y G hmg0
    obtain ⟨K, KX, c⟩ := Y
    have hmg : mg ("law" : PySem.Str) = some (.ref fa) := by
      have e : (HandSHeadRun.topDef (OpenLaw.row PySem.Challenge.rw_stripwalks_k12_classes_of_errors).prog 21).name = ("law" : PySem.Str) := by kernel_rfl
      rw [← e]
      exact hmg0
    exact ⟨K, KX, Ev.lawAt_px (iL := 2) (r := K12.row2) K12.pxOk ⟨by kernel_rfl, by kernel_rfl⟩ c KX rfl rfl rfl hmg G plain⟩
end

section
set_option Elab.async false
set_option linter.all false
set_option autoImplicit false
set_option maxRecDepth 100000
set_option maxHeartbeats 4000000
namespace K12
open PySem Ev
def tab : Tab := ⟨fns, fun _ => none⟩
abbrev mx (c : Str) : Ev.X := .mkx c (.con (.str "m"))
abbrev l1 : Xs := .cons (mx "InvalidStrip") (.cons (mx "InvalidKind") (.cons (mx "InvalidDrawing") (.cons (mx "InvalidPlace") (.cons (mx "InvalidWalk") .nil))))
abbrev l2 : Xs := .cons (mx "InvalidTie") (.cons (mx "InvalidTies") (.cons (mx "InvalidIndex") (.cons (mx "InvalidNumber") (.cons (mx "InvalidColumn") .nil))))
abbrev l3 : Xs := .cons (mx "InvalidWay") (.cons (mx "InvalidText") (.cons (mx "Blocked") (.cons (mx "Unlike") (.cons (mx "NothingToUndo") .nil))))
abbrev ir0 : Fn := ⟨0, 1, true, .cons (.set 0 (.box l1)) (.cons (.set 0 (.badd (.loc 0) (.bls l2))) (.cons (.ret (.badd (.loc 0) (.bls l3))) .nil))⟩
theorem at0 : fns[0]? = some ir0 := by kernel_rfl
abbrev ix (c : Str) : Ev.X := .isX (isTb c) (.loc 0)
abbrev it : Ev.X := .bix (.loc 1) (.loc 2)
abbrev chk : Sts := .cons (.iff (.or (.not (.isX (isTb "WalkError") it)) (.not (.isX (isTb "ValueError") it))) (.cons (.ret (.con (.bool false))) .nil) .nil)
  (.cons (.iff (.cmp .NotEq (.call 1 (.cons it .nil)) (.lc [3] (.nm 3) (.rng (.cons (.bln (.loc 1)) .nil)) .nil (.cmp .Eq (.loc 3) (.loc 2)))) (.cons (.ret (.con (.bool false))) .nil) .nil) .nil)
abbrev s1 : St := .set 1 (.badd (.call 0 .nil) (.bls (.cons (.mkt "TooMany" "limit" (.con (.int 60))) .nil)))
abbrev s2 : St := .forr (.nm 2) (.rng (.cons (.bln (.loc 1)) .nil)) chk
abbrev mw : Ev.X := .mkx "WalkError" (.con (.str "m"))
abbrev s3 : St := .iff (.or (.cmp .NotEq (.call 1 (.cons mw .nil)) (.bin .Mult (.lst (.cons (.con (.bool false)) .nil)) (.con (.int 16)))) (.not (.isX (isTb "ValueError") mw))) (.cons (.ret (.con (.bool false))) .nil) .nil
abbrev tst : Ev.X := .chn .Lt .Lt (.bin .Sub (.con (.int 0)) (.bin .Pow (.con (.int 10)) (.con (.int 40)))) (.loc 5) (.bin .Pow (.con (.int 10)) (.con (.int 40)))
abbrev cells : It := .val (.bin .Add (.lst (.cons (.con (.int 12)) .nil)) (.lc [5] (.nm 5) (.val (.loc 0)) (.cons tst .nil) (.loc 5)))
abbrev bod : Sts := .cons (.iff (.cmp .NotEq (.limx "TooMany" "limit" (.mkt "TooMany" "limit" (.loc 4))) (.loc 4)) (.cons (.ret (.con (.bool false))) .nil) .nil) .nil
abbrev s4 : St := .forr (.nm 4) cells bod
abbrev s5 : Ev.X := .cmp .Eq (.lc [6] (.nm 6) (.val (.call 0 .nil)) .nil (.strx plainC (.loc 6))) (.bin .Mult (.lst (.cons (.con (.str "m")) .nil)) (.con (.int 15)))
abbrev ir2 : Fn := ⟨1, 7, false, .cons s1 (.cons s2 (.cons s3 (.cons s4 (.cons (.ret s5) .nil))))⟩
theorem at2 : fns[2]? = some ir2 := by kernel_rfl
/-- all that does not hang on the script -/
def g39 : Cn := cnN tab 39
def S3 : Store := match evSs g39 (.cons s1 (.cons s2 (.cons s3 .nil))) (List.replicate 7 none) [] with
  | .ok _ S => S
  | _ => []
def u1 : U := match evSs g39 (.cons s1 .nil) (List.replicate 7 none) [] with
  | .ok (.nx ρ) S => (ρ[1]?.join).getD (.d .none)
  | _ => .d .none
theorem head_ok (ns : List Int) : evSs g39 (.cons s1 (.cons s2 (.cons s3 .nil))) [some (.scr ns), none, none, none, none, none, none] [] = .ok (.nx [some (.scr ns), some u1, some (.d (.int 15)), none, none, none, none]) S3 := by kernel_rfl
end K12
end

section
set_option Elab.async false
set_option linter.all false
set_option autoImplicit false
set_option maxRecDepth 100000
set_option maxHeartbeats 4000000
namespace K12
open PySem Ev
def inB (n : Int) : Bool := if decide (0 - 10 ^ 40 < n) = true then decide (n < 10 ^ 40) else false
theorem loc_at {g : Cn} {ρ : Rho} {S : Store} {i : Nat} {u : U} (h : ρ[i]? = some (some u)) : evX g (.loc i) ρ S = .ok u S := by
  unfold evX
  rw [h]
theorem tst_ok {g : Cn} {ρ : Rho} {S : Store} {n : Int} (h : ρ[5]? = some (some (.d (.int n)))) : truR (evX g tst ρ S) = .ok (inB n) S := by
  have ha : evX g (.bin .Sub (.con (.int 0)) (.bin .Pow (.con (.int 10)) (.con (.int 40)))) ρ S = .ok (.d (.int (0 - 10 ^ 40))) S := rfl
  have hc : evX g (.bin .Pow (.con (.int 10)) (.con (.int 40))) ρ S = .ok (.d (.int (10 ^ 40))) S := rfl
  have hb := loc_at (g := g) (S := S) h
  have e : evX g tst ρ S = .ok (.d (.bool (inB n))) S := by
    unfold evX
    rw [ha, b_ok, hb, b_ok]
    have e1 : cmpU .Lt (.d (.int (0 - 10 ^ 40))) (.d (.int n)) S = some (decide (0 - 10 ^ 40 < n)) := rfl
    rw [e1]
    show (if decide ((0 : Int) - 10 ^ 40 < n) = true then _ else _) = _
    unfold inB
    split
    · rw [hc, b_ok]
      rfl
    · rfl
  unfold truR
  rw [e]
  rfl
/-- the cells that are asked -/
def asked (ns : List Int) : List Int := 12 :: ns.filter inB
theorem cells_ok {g : Cn} {ρ : Rho} {S : Store} {ns : List Int} (hl : ns.length ≤ 63) (h7 : ρ.length = 7) (h : ρ[0]? = some (some (.scr ns))) : evIt g cells ρ S = .ok (.fix ((asked ns).map fun n => U.d (.int n))) S := by
  have hL : evX g (.lc [5] (.nm 5) (.val (.loc 0)) (.cons tst .nil) (.loc 5)) ρ S = .ok (.d (.list ((ns.filter inB).map .int))) S := by
    refine ev_lc (us := ns.map fun n => .d (.int n)) ?_ (by rw [List.length_map]; exact Nat.le_trans hl (by decide)) (comp_map (fun n => .d (.int n)) inB .int ns fun n _ => ?_)
    · unfold evIt
      rw [loc_at h]
      rfl
    · have e5 : (ρ.set 5 none).set 5 (some (.d (.int n))) = ρ.set 5 (some (.d (.int n))) := List.set_set ..
      have h5 : (ρ.set 5 (some (U.d (.int n))))[5]? = some (some (.d (.int n))) := List.getElem?_set_self (by omega)
      refine ⟨ρ.set 5 (some (.d (.int n))), ?_, ?_, fun _ => ?_⟩
      · show some ((ρ.set 5 none).set 5 (some (.d (.int n)))) = _
        rw [e5]
      · show evC g (.cons tst .nil) _ S = _
        unfold evC
        exact tst_ok h5
      · show dataR (evX g (.loc 5) _ S) = _
        rw [loc_at h5]
        rfl
  have hB : evX g (.bin .Add (.lst (.cons (.con (.int 12)) .nil)) (.lc [5] (.nm 5) (.val (.loc 0)) (.cons tst .nil) (.loc 5))) ρ S = .ok (.d (.list ((asked ns).map .int))) S := by
    unfold evX
    have h1 : evX g (.lst (.cons (.con (.int 12)) .nil)) ρ S = .ok (.d (.list [.int 12])) S := rfl
    rw [h1, b_ok, hL, b_ok]
    have hf := List.length_filter_le inB ns
    have hz : [PyData.int 12].length + ((ns.filter inB).map PyData.int).length ≤ line := by
      rw [List.length_map]
      show 1 + _ ≤ 16777216
      omega
    show R.of S (((if [PyData.int 12].length + ((ns.filter inB).map PyData.int).length ≤ line then some (.list ([PyData.int 12] ++ (ns.filter inB).map PyData.int)) else none : Option PyData)).map U.d) = _
    rw [if_pos hz]
    rfl
  unfold evIt
  rw [hB]
  show R.of S (some (Src.fix (((asked ns).map PyData.int).map U.d))) = _
  rw [List.map_map]
  rfl
abbrev tmX (n : Int) : Box := .exc "TooMany" ⟨#[]⟩ (some ("limit", .int n))
theorem bod_ok {g : Cn} {ρ : Rho} {S : Store} {n : Int} (h : ρ[4]? = some (some (.d (.int n)))) : evSs g bod ρ S = .ok (.nx ρ) (S ++ [tmX n]) := by
  have h1 : evX g (.mkt "TooMany" "limit" (.loc 4)) ρ S = .ok (.ref S.length) (S ++ [tmX n]) := by
    unfold evX
    rw [loc_at h]
    rfl
  have h2 : evX g (.limx "TooMany" "limit" (.mkt "TooMany" "limit" (.loc 4))) ρ S = .ok (.d (.int n)) (S ++ [tmX n]) := by
    unfold evX
    rw [h1, b_ok]
    have : excAt (S ++ [tmX n]) (.ref S.length) = some ((("TooMany" : Str), (⟨#[]⟩ : Str), some (("limit" : Str), PyData.int n)) : Str × Str × Option (Str × PyData)) := by
      unfold excAt
      dsimp only
      rw [List.getElem?_append_right (Nat.le_refl _), Nat.sub_self]
      rfl
    rw [this]
    rfl
  have h3 : truR (evX g (.cmp .NotEq (.limx "TooMany" "limit" (.mkt "TooMany" "limit" (.loc 4))) (.loc 4)) ρ S) = .ok false (S ++ [tmX n]) := by
    unfold truR evX
    rw [h2, b_ok, loc_at h, b_ok]
    have : cmpU .NotEq (.d (.int n)) (.d (.int n)) (S ++ [tmX n]) = some false := ne_same (p := .int n) rfl
    rw [this]
    rfl
  rw [ss_cons (s_ifF h3)]
  rfl
theorem loop_ok {g : Cn} : ∀ (cs : List Int) (ρ : Rho) (S : Store), ρ.length = 7 → ∃ ρ' S', loopL (.nm 4) (fun ρ S => evSs g bod ρ S) (cs.map fun n => .d (.int n)) ρ S = .ok (.nx ρ') S' ∧ ρ'.length = 7
  | [], ρ, S, h => ⟨ρ, S, rfl, h⟩
  | c :: cs, ρ, S, h => by
    have h4 : (ρ.set 4 (some (U.d (.int c))))[4]? = some (some (.d (.int c))) := List.getElem?_set_self (by omega)
    obtain ⟨ρ', S', e, h'⟩ := loop_ok cs (ρ.set 4 (some (.d (.int c)))) (S ++ [tmX c]) (by rw [List.length_set]; exact h)
    refine ⟨ρ', S', ?_, h'⟩
    rw [List.map_cons]
    unfold loopL
    show ((evSs g bod (ρ.set 4 (some (.d (.int c)))) S).bind _) = _
    rw [bod_ok h4, b_ok]
    exact e
/-! ### the errors, made at any store -/
theorem at_app (S L : Store) (k : Nat) : (S ++ L)[S.length + k]? = L[k]? := by
  rw [List.getElem?_append_right (Nat.le_add_right _ _), Nat.add_sub_cancel_left]
theorem mk_ev {g : Cn} {c : Str} {ρ : Rho} {S : Store} : evX g (mx c) ρ S = .ok (.ref S.length) (S ++ [.exc c "m" none]) := rfl
abbrev rf (n : Nat) (ks : List Nat) : List U := ks.map fun k => .ref (n + k)
abbrev mxs (a b c d e : Str) : Xs := .cons (mx a) (.cons (mx b) (.cons (mx c) (.cons (mx d) (.cons (mx e) .nil))))
abbrev exs (a b c d e : Str) : Store := [.exc a "m" none, .exc b "m" none, .exc c "m" none, .exc d "m" none, .exc e "m" none]
theorem five {g : Cn} {a b c d e : Str} {ρ : Rho} {S L : Store} : evXs g (mxs a b c d e) ρ (S ++ L) =
    .ok [.ref (S.length + L.length), .ref (S.length + (L.length + 1)), .ref (S.length + (L.length + 2)), .ref (S.length + (L.length + 3)), .ref (S.length + (L.length + 4))] (S ++ (L ++ exs a b c d e)) := by
  simp only [evXs, mk_ev, b_ok, List.length_append, List.length_cons, List.length_nil, List.append_assoc, List.cons_append, List.nil_append, Nat.add_assoc, Nat.zero_add]
abbrev fiv (n k : Nat) : List U := [.ref (n + k), .ref (n + (k + 1)), .ref (n + (k + 2)), .ref (n + (k + 3)), .ref (n + (k + 4))]
theorem box5 {g : Cn} {a b c d e : Str} {ρ : Rho} {S L : Store} : evX g (.box (mxs a b c d e)) ρ (S ++ L) = .ok (.ref (S.length + (L.length + 5))) (S ++ (L ++ (exs a b c d e ++ [.bl (fiv S.length L.length)]))) := by
  unfold evX
  rw [five, b_ok]
  refine (if_pos (show (decide _ && _) = true from rfl)).trans ?_
  simp only [List.length_append, List.length_cons, List.length_nil, List.append_assoc, List.cons_append, List.nil_append, Nat.zero_add, Nat.add_assoc]
theorem bls5 {g : Cn} {a b c d e : Str} {ρ : Rho} {S L : Store} : evX g (.bls (mxs a b c d e)) ρ (S ++ L) = .ok (.ref (S.length + (L.length + 5))) (S ++ (L ++ (exs a b c d e ++ [.bl (fiv S.length L.length)]))) := by
  unfold evX
  rw [five, b_ok]
  refine (if_pos (show (decide _ && _) = true from rfl)).trans ?_
  simp only [List.length_append, List.length_cons, List.length_nil, List.append_assoc, List.cons_append, List.nil_append, Nat.zero_add, Nat.add_assoc]
theorem bl_at {S L : Store} {k : Nat} {us : List U} (h : L[k]? = some (.bl us)) : blOf (S ++ L) (.ref (S.length + k)) = some us ∧ deref (S ++ L) (.ref (S.length + k)) = none := by
  unfold blOf deref
  dsimp only
  rw [at_app, h]
  exact ⟨rfl, rfl⟩
theorem badd_at {S L : Store} {i j : Nat} {us vs : List U} (h1 : L[i]? = some (.bl us)) (h2 : L[j]? = some (.bl vs)) (hz : us.length + vs.length ≤ line) : catB (S ++ L) (.ref (S.length + i)) (.ref (S.length + j)) = .ok (.ref (S.length + L.length)) (S ++ (L ++ [.bl (us ++ vs)])) := by
  obtain ⟨a1, a2⟩ := bl_at (S := S) h1
  obtain ⟨b1, b2⟩ := bl_at (S := S) h2
  unfold catB
  rw [a1, a2, b1]
  show (if us.length + vs.length ≤ line then _ else _) = _
  rw [if_pos hz, List.length_append, List.append_assoc]
/-- what the def makes -/
def LP (n : Nat) : Store :=
  exs "InvalidStrip" "InvalidKind" "InvalidDrawing" "InvalidPlace" "InvalidWalk" ++ ([.bl (fiv n 0)] ++ (exs "InvalidTie" "InvalidTies" "InvalidIndex" "InvalidNumber" "InvalidColumn" ++ ([.bl (fiv n 6), .bl (fiv n 0 ++ fiv n 6)] ++
    (exs "InvalidWay" "InvalidText" "Blocked" "Unlike" "NothingToUndo" ++ [.bl (fiv n 13), .bl ((fiv n 0 ++ fiv n 6) ++ fiv n 13)]))))
theorem plain_at {g : Cn} (S : Store) : runF tab g 0 [] S = .ok (.ref (S.length + 19)) (S ++ LP S.length) := by
  unfold runF
  have h0 : tab.fns[0]? = some ir0 := at0
  rw [h0]
  refine (if_pos rfl).trans ?_
  have e1 : evX g (.box l1) [none] S = .ok (.ref (S.length + 5)) (S ++ (exs "InvalidStrip" "InvalidKind" "InvalidDrawing" "InvalidPlace" "InvalidWalk" ++ [.bl (fiv S.length 0)])) := by
    have := box5 (g := g) (a := "InvalidStrip") (b := "InvalidKind") (c := "InvalidDrawing") (d := "InvalidPlace") (e := "InvalidWalk") (ρ := [none]) (S := S) (L := [])
    rw [List.append_nil] at this
    exact this
  have e2 : ∀ L : Store, L.length = 6 → L[5]? = some (.bl (fiv S.length 0)) → evX g (.badd (.loc 0) (.bls l2)) [some (.ref (S.length + 5))] (S ++ L) = .ok (.ref (S.length + 12)) (S ++ (L ++ (exs "InvalidTie" "InvalidTies" "InvalidIndex" "InvalidNumber" "InvalidColumn" ++ [.bl (fiv S.length 6), .bl (fiv S.length 0 ++ fiv S.length 6)]))) := fun L hL h5 => by
    unfold evX
    rw [loc_at (i := 0) rfl, b_ok, bls5, b_ok, hL]
    refine (badd_at (us := fiv S.length 0) (vs := fiv S.length 6) ?_ ?_ (by show 5 + 5 ≤ 16777216; omega)).trans ?_
    · rw [List.getElem?_append_left (by omega)]; exact h5
    · rw [show (6 + 5 : Nat) = L.length + 5 by omega, at_app]; rfl
    · simp only [List.length_append, List.length_cons, List.length_nil, List.append_assoc, List.cons_append, List.nil_append, hL]
  have e3 : ∀ L : Store, L.length = 13 → L[12]? = some (.bl (fiv S.length 0 ++ fiv S.length 6)) → evX g (.badd (.loc 0) (.bls l3)) [some (.ref (S.length + 12))] (S ++ L) = .ok (.ref (S.length + 19)) (S ++ (L ++ (exs "InvalidWay" "InvalidText" "Blocked" "Unlike" "NothingToUndo" ++ [.bl (fiv S.length 13), .bl ((fiv S.length 0 ++ fiv S.length 6) ++ fiv S.length 13)]))) := fun L hL h5 => by
    unfold evX
    rw [loc_at (i := 0) rfl, b_ok, bls5, b_ok, hL]
    refine (badd_at (us := fiv S.length 0 ++ fiv S.length 6) (vs := fiv S.length 13) ?_ ?_ (by show 10 + 5 ≤ 16777216; omega)).trans ?_
    · rw [List.getElem?_append_left (by omega)]; exact h5
    · rw [show (13 + 5 : Nat) = L.length + 5 by omega, at_app]; rfl
    · simp only [List.length_append, List.length_cons, List.length_nil, List.append_assoc, List.cons_append, List.nil_append, hL]
  have e2' := e2 (exs "InvalidStrip" "InvalidKind" "InvalidDrawing" "InvalidPlace" "InvalidWalk" ++ [.bl (fiv S.length 0)]) rfl rfl
  have e3' := e3 (exs "InvalidStrip" "InvalidKind" "InvalidDrawing" "InvalidPlace" "InvalidWalk" ++ [.bl (fiv S.length 0)] ++ (exs "InvalidTie" "InvalidTies" "InvalidIndex" "InvalidNumber" "InvalidColumn" ++ [.bl (fiv S.length 6), .bl (fiv S.length 0 ++ fiv S.length 6)])) rfl rfl
  have hb : evSs g ir0.body (start 1 []) S = .ok (.rt (.ref (S.length + 19))) (S ++ LP S.length) := by
    show evSs g (.cons (.set 0 (.box l1)) _) [none] S = _
    rw [ss_set (ρ1 := [some (.ref (S.length + 5))]) e1 rfl, ss_set (ρ1 := [some (.ref (S.length + 12))]) e2' rfl]
    refine ss_ret ?_
    unfold evS
    refine (congrArg (fun r => Ev.R.bind r _) e3').trans ?_
    rfl
  rw [hb]
  rfl
theorem lp_bl (n : Nat) : (LP n)[19]? = some (.bl ((fiv n 0 ++ fiv n 6) ++ fiv n 13)) := rfl
/-- a comprehension over a list of any values that stays as it is -/
theorem compB_bl {t : Tg} {c : Rho → Store → Ev.R Bool} {e : Rho → Store → Ev.R PyData} {ρ : Rho} {S : Store} {b : Nat} (y : PyData) {us : List U} (hb : S[b]? = some (.bl us))
    (h : ∀ u, u ∈ us → ∃ ρ1, bindT t u ρ = some ρ1 ∧ c ρ1 S = .ok true S ∧ e ρ1 S = .ok y S) : ∀ (n j : Nat), j ≤ us.length → us.length < j + n → compB t c e ρ b n j S = .ok (List.replicate (us.length - j) y) S
  | 0, j, h1, h2 => by omega
  | n + 1, j, h1, h2 => by
    unfold compB
    rw [hb]
    dsimp only
    by_cases hj : j < us.length
    · obtain ⟨ρ1, g1, g2, g3⟩ := h us[j] (List.getElem_mem hj)
      have ih := compB_bl y hb h n (j + 1) (by omega) (by omega)
      rw [List.getElem?_eq_getElem hj]
      dsimp only
      rw [g1]
      dsimp only
      rw [g2, b_ok, if_pos rfl, g3, b_ok, ih, b_ok, show us.length - j = us.length - (j + 1) + 1 by omega]
      rfl
    · rw [List.getElem?_eq_none (by omega), show us.length - j = 0 by omega]
      rfl
theorem strx_at {g : Cn} {ρ : Rho} {S : Store} {n k : Nat} {c : Str} (hn : n = S.length) (h6 : ρ[6]? = some (some (.ref (n + k)))) (h : (LP n)[k]? = some (.exc c "m" none)) (hc : c ∈ plainC) : dataR (evX g (.strx plainC (.loc 6)) ρ (S ++ LP n)) = .ok (.str "m") (S ++ LP n) := by
  subst hn
  have : excAt (S ++ LP S.length) (.ref (S.length + k)) = some (c, ("m" : Str), none) := by
    unfold excAt
    dsimp only
    rw [at_app, h]
  unfold dataR evX
  rw [loc_at h6, b_ok, this]
  dsimp only
  rw [if_pos hc]
  rfl
theorem all_at (n : Nat) : ∀ u, u ∈ (fiv n 0 ++ fiv n 6) ++ fiv n 13 → ∃ k c, u = .ref (n + k) ∧ (LP n)[k]? = some (.exc c "m" none) ∧ c ∈ plainC := by
  intro u hu
  simp only [List.cons_append, List.nil_append, List.mem_cons, List.not_mem_nil, or_false] at hu
  rcases hu with rfl | rfl | rfl | rfl | rfl | rfl | rfl | rfl | rfl | rfl | rfl | rfl | rfl | rfl | rfl
  all_goals exact ⟨_, _, rfl, rfl, by decide +kernel⟩
theorem end_ok {g : Cn} (hg : ∀ S, g.call 0 [] S = .ok (.ref (S.length + 19)) (S ++ LP S.length)) {ρ : Rho} {S : Store} (h7 : ρ.length = 7) : ∃ S', evX g s5 ρ S = .ok (.d (.bool true)) S' := by
  have hc : evX g (.call 0 .nil) ρ S = .ok (.ref (S.length + 19)) (S ++ LP S.length) := by
    unfold evX evXs
    rw [b_ok]
    exact hg S
  have hbl : (S ++ LP S.length)[S.length + 19]? = some (.bl ((fiv S.length 0 ++ fiv S.length 6) ++ fiv S.length 13)) := by rw [at_app, lp_bl]
  have hi : evIt g (.val (.call 0 .nil)) ρ S = .ok (.live (S.length + 19)) (S ++ LP S.length) := by
    unfold evIt
    rw [hc, b_ok]
    have e1 : dctOf (S ++ LP S.length) (.ref (S.length + 19)) = none := by
      unfold dctOf
      dsimp only
      rw [hbl]
    have e2 : srcU (S ++ LP S.length) (.ref (S.length + 19)) = some (.live (S.length + 19)) := by
      unfold srcU
      dsimp only
      rw [hbl]
    rw [e1]
    dsimp only
    rw [e2]
    rfl
  have hL : evX g (.lc [6] (.nm 6) (.val (.call 0 .nil)) .nil (.strx plainC (.loc 6))) ρ S = .ok (.d (.list (List.replicate 15 (.str "m")))) (S ++ LP S.length) := by
    refine ev_lcB hi ?_
    refine (compB_bl (.str "m") hbl (fun u hu => ?_) 100000 0 (Nat.zero_le _) (by show 15 < 0 + 100000; omega)).trans rfl
    obtain ⟨k, c, rfl, h1, h2⟩ := all_at S.length u hu
    refine ⟨(ρ.set 6 none).set 6 (some (.ref (S.length + k))), rfl, rfl, ?_⟩
    exact strx_at rfl (List.getElem?_set_self (by rw [List.length_set]; omega)) h1 h2
  refine ⟨S ++ LP S.length, ?_⟩
  unfold evX
  rw [hL, b_ok]
  have h2 : evX g (.bin .Mult (.lst (.cons (.con (.str "m")) .nil)) (.con (.int 15))) ρ (S ++ LP S.length) = .ok (.d (.list (List.replicate 15 (.str "m")))) (S ++ LP S.length) := rfl
  rw [h2, b_ok]
  have h3 : cmpU .Eq (.d (.list (List.replicate 15 (.str "m")))) (.d (.list (List.replicate 15 (.str "m")))) (S ++ LP S.length) = some true := eq_same (p := .list (List.replicate 15 (.str "m"))) (by decide +kernel)
  rw [h3]
  rfl
theorem nx_cons {g : Cn} {a : St} {r : Sts} {ρ ρ1 : Rho} {S S1 : Store} (h : evSs g (.cons a r) ρ S = .ok (.nx ρ1) S1) : ∃ ρ' S', evS g a ρ S = .ok (.nx ρ') S' ∧ evSs g r ρ' S' = .ok (.nx ρ1) S1 := by
  conv at h => lhs; unfold evSs
  cases ha : evS g a ρ S with
  | exc k S' => rw [ha] at h; cases h
  | bad => rw [ha] at h; cases h
  | ok f S' =>
    rw [ha] at h
    cases f with
    | rt u => cases h
    | nx ρ' => exact ⟨ρ', S', rfl, h⟩
theorem call39 : g39.call = runF tab (cnN tab 38) := callN_succ tab 38
theorem call40 : callN ⟨fns, fun _ => none⟩ 40 = runF tab g39 := callN_succ tab 39
theorem plain : Plain := by
  intro ns hl _
  have hg : ∀ S, g39.call 0 [] S = .ok (.ref (S.length + 19)) (S ++ LP S.length) := fun S => by
    rw [call39]
    exact plain_at S
  have h7 : ([some (.scr ns), some u1, some (.d (.int 15)), none, none, none, none] : Rho).length = 7 := rfl
  obtain ⟨ρ4, S4, e4, l4⟩ := loop_ok (g := g39) (asked ns) [some (.scr ns), some u1, some (.d (.int 15)), none, none, none, none] S3 h7
  obtain ⟨S5, e5⟩ := end_ok hg (ρ := ρ4) (S := S4) l4
  have hb : evSs g39 ir2.body [some (.scr ns), none, none, none, none, none, none] [] = .ok (.rt (.d (.bool true))) S5 := by
    have hh := head_ok ns
    have ap : ∀ (a b c : St) (r : Sts) (ρ ρ1 : Rho) (S S1 : Store), evSs g39 (.cons a (.cons b (.cons c .nil))) ρ S = .ok (.nx ρ1) S1 → evSs g39 (.cons a (.cons b (.cons c r))) ρ S = evSs g39 r ρ1 S1 := fun a b c r ρ ρ1 S S1 h => by
      obtain ⟨ρ', S', h1, h⟩ := nx_cons h
      obtain ⟨ρ'', S'', h2, h⟩ := nx_cons h
      obtain ⟨ρ3, S3, h3, h⟩ := nx_cons h
      rw [ss_cons h1, ss_cons h2, ss_cons h3]
      unfold evSs at h
      cases h
      rfl
    show evSs g39 (.cons s1 (.cons s2 (.cons s3 (.cons s4 (.cons (.ret s5) .nil))))) _ [] = _
    rw [ap _ _ _ _ _ _ _ _ hh, ss_cons (ev_for (cells_ok hl h7 rfl) e4)]
    refine ss_ret ?_
    unfold evS
    rw [e5]
    rfl
  refine ⟨S5.take 0, ?_⟩
  rw [call40]
  unfold runF
  have h2 : tab.fns[2]? = some ir2 := at2
  rw [h2]
  refine (if_pos rfl).trans ?_
  have hb' : evSs g39 ir2.body (start 7 [.scr ns]) [] = .ok (.rt (.d (.bool true))) S5 := hb
  rw [hb']
  rfl
end K12
end

theorem PySem.Challenge.cw_stripwalks_k12_classes_of_errors_holds : PySem.Challenge.rw_stripwalks_k12_classes_of_errors.Holds := by
  exact K12.holds_of K12.plain
