import PyProof.Rows.All
import Wide.All
import OpenK.AllK
import Wide.FinOn
import HandS.ForMost
import HandS.Exc
import HandS.TryOnly
import HandS.ExcOwn
import HandS.Wide
import HandS.Deep
import HandS.TupAny
import HandS.TupMul
import HandS.StrMore
import HandS.IsInst
import HandS.Flow
import HandS.Style
import HandS.Zip
import HandS.SetFor
import HandS.Lambda
import HandS.EndTab
import HandS.HotCalls
import KE.SortData
import KE.DataFind
import PyProof.Rows.IntBool
import HandS.TupSets
import KE.KeyNested
import HandS.RaiseMore
import HandS.ExcCtx
import HandS.ExcInit
import KE.KExcSuper
import HandS.ExcSuper
import KE.GoesMore
import PyProof.EnumMake
import PyProof.ExcBaseAll.ValueError
import HandS.HeadWalk
import HandS.HeadHook4
import HandS.ExcIs
import KE.KExcIs
import PyProof.P3Eq
import HandS.Head0
import HandS.Head1
import HandS.Head2
import HandS.HeadEnd
import HandS.HeadHook1
import HandS.HeadHook2
import PySem.Challenge.RW_stripwalks_k01_strips_known
import PyProof.Rows.RegStrFacts
section
set_option Elab.async false
set_option linter.all false
set_option autoImplicit false
set_option maxRecDepth 100000
set_option maxHeartbeats 4000000
/-! # The little language: values, stores, expressions, statements, and what they come to -/
namespace Ev
open PySem

/-- a value: frozen data, or a box of the store -/
inductive U where
  | d (p : PyData)
  | ref (i : Nat)
  /-- the script -/
  | scr (ns : List Int)
  /-- an object of which nothing is told -/
  | obj (a : Nat)
  /-- an item that zip or enumerate makes: a tuple that goes to targets at once -/
  | it (ps : List PyData)
inductive Box where
  | lst (xs : List PyData)
  | dct (kvs : List (PyData × PyData))
  | ins (c : Nat) (fs : List (Str × U))
abbrev Store := List Box
abbrev Rho := List (Option U)
inductive R (α : Type) where
  | ok (a : α) (S : Store)
  | exc (c : Nat) (S : Store)
  | bad
def R.bind {α β : Type} (r : R α) (f : α → Store → R β) : R β :=
  match r with
  | .ok a S => f a S
  | .exc c S => .exc c S
  | .bad => .bad
def R.of {α : Type} (S : Store) : Option α → R α
  | some a => .ok a S
  | none => .bad

/-! ### operations upon data -/
abbrev line : Nat := 16777216
def b2i (b : Bool) : Int := if b then 1 else 0
/-- a box read -/
def deref (S : Store) : U → Option PyData
  | .d p => some p
  | .ref i => match S[i]? with
    | some (.lst xs) => some (.list xs)
    | some (.dct kvs) => some (.dict kvs)
    | _ => none
  | .scr _ => none
  | .obj _ => none
  | .it _ => none
def smallI (i : Int) : Bool := decide (-(2 ^ 64) < i) && decide (i < 2 ^ 64)
def mulOk (i j : Int) : Bool := smallI i || smallI j || decide (i.natAbs.log2 + j.natAbs.log2 < 1000000)
def reps {α : Type} (k : Int) (xs : List α) : List α := (List.replicate k.toNat xs).flatten
def binD (o : Operator) (x y : PyData) : Option PyData :=
  match o, x, y with
  | .Add, .int i, .int j => some (.int (i + j))
  | .Sub, .int i, .int j => some (.int (i - j))
  | .Mult, .int i, .int j => if mulOk i j = true then some (.int (i * j)) else none
  | .FloorDiv, .int i, .int j => if 0 < j ∧ j.natAbs.log2 < 9000 then some (.int (i / j)) else none
  | .Mod, .int i, .int j => if 0 < j then some (.int (i % j)) else none
  | .Pow, .int i, .int j => if 0 ≤ j ∧ j ≤ 1000000 ∧ i.natAbs < 2 ^ 64 then some (.int (i ^ j.toNat)) else none
  | .Add, .str a, .str b => if a.length + b.length ≤ line then some (.str (a ++ b)) else none
  | .Add, .list a, .list b => if a.length + b.length ≤ line then some (.list (a ++ b)) else none
  | .Add, .tuple a, .tuple b => if a.length + b.length ≤ line then some (.tuple (a ++ b)) else none
  | .Mult, .list a, .int k => if 0 ≤ k ∧ k ≤ 1000 ∧ a.length ≤ 1000 then some (.list (reps k a)) else none
  | .Mult, .tuple a, .int k => if 1 ≤ k ∧ k ≤ 1000 ∧ a.length ≤ 1000 ∧ a.isEmpty = false then some (.tuple (reps k a)) else none
  | .Mult, .str a, .int k => if 0 ≤ k ∧ k ≤ 1000 ∧ a.length ≤ 1000 then some (.str ⟨(reps k a.cps.toList).toArray⟩) else none
  | .Add, .bool a, .int k => some (.int (b2i a + k))
  | .Sub, .bool a, .int k => some (.int (b2i a - k))
  | _, _, _ => none
def hasSub (a b : Str) : Bool := !(Builtin.Str.occurrences b a 0 b.length 1).isEmpty
def eqD (x y : PyData) : Option Bool := if (SeqAt.shaped x && SeqAt.shaped y) = true then some (PyData.eqv x y) else none
def inD (x y : PyData) : Option Bool :=
  match y with
  | .list ys => if (SeqAt.shaped x && SeqAt.shaped (.list ys)) = true then some (ys.any fun z => PyData.eqv z x) else none
  | .tuple ys => if (SeqAt.shaped x && SeqAt.shaped (.tuple ys)) = true then some (ys.any fun z => PyData.eqv z x) else none
  | .str b => match x with
    | .str a => some (hasSub a b)
    | _ => none
  | _ => none
def ltD (x y : PyData) : Option Bool :=
  match x, y with
  | .int i, .int j => some (decide (i < j))
  | .str a, .str b => some (decide (a.cps.toList < b.cps.toList))
  | .tuple a, .tuple b => if (W.alikeAll a b && SeqAt.shaped (.tuple a) && SeqAt.shaped (.tuple b)) = true then some (W.dataLt (.tuple a) (.tuple b)) else none
  | _, _ => none
def leD (x y : PyData) : Option Bool :=
  match x, y with
  | .int i, .int j => some (decide (i ≤ j))
  | _, _ => none
def isNone : PyData → Bool
  | .none => true
  | _ => false
def isD (x y : PyData) : Option Bool :=
  match y with
  | .none => some (isNone x)
  | .bool b => match x with
    | .bool a => some (decide (a = b))
    | _ => none
  | _ => none
def gtD (x y : PyData) : Option Bool :=
  match x, y with
  | .int i, .int j => some (decide (j < i))
  | _, _ => none
def geD (x y : PyData) : Option Bool :=
  match x, y with
  | .int i, .int j => some (decide (j ≤ i))
  | _, _ => none
def cmpD (o : CmpOp) (x y : PyData) : Option Bool :=
  match o with
  | .Eq => eqD x y
  | .NotEq => (eqD x y).map (!·)
  | .In => inD x y
  | .NotIn => (inD x y).map (!·)
  | .Lt => ltD x y
  | .Gt => gtD x y
  | .LtE => leD x y
  | .GtE => geD x y
  | .Is => isD x y
  | .IsNot => (isD x y).map (!·)
/-- truth -/
def truD : PyData → Option Bool
  | .none => some false
  | .bool b => some b
  | .int i => some (i != 0)
  | .list xs => some (!xs.isEmpty)
  | .tuple xs => some (!xs.isEmpty)
  | _ => none
def idxD (x i : PyData) : Option PyData :=
  match x, i with
  | .list xs, .int i => L2.atI xs i
  | .tuple xs, .int i => L2.atI xs i
  | .str z, .int i => if z.length ≤ line then (L2.atI z.cps.toList i).map fun c => .str ⟨#[c]⟩ else none
  | _, _ => none
def cutD {α : Type} (xs : List α) (lo hi : Option Int) : List α := (xs.drop (HT.sIx xs.length 0 lo)).take (HT.sIx xs.length xs.length hi - HT.sIx xs.length 0 lo)
def slcD (x : PyData) (lo hi : Option Int) : Option PyData :=
  match x with
  | .list xs => some (.list (cutD xs lo hi))
  | .tuple xs => some (.tuple (cutD xs lo hi))
  | .str z => if z.length ≤ line then some (.str (L2.cutS z lo hi)) else none
  | _ => none
def revD : PyData → Option PyData
  | .list xs => some (.list xs.reverse)
  | .tuple xs => if xs.length ≤ line then some (.tuple xs.reverse) else none
  | .str z => if z.length ≤ line then some (.str ⟨z.cps.toList.reverse.toArray⟩) else none
  | _ => none
/-- the built-in functions -/
inductive Blt where
  | len | isi (T : String) | all | sum | max | min | int | bool | str | abs | tuple | list | sorted | lenset | sortset
  deriving DecidableEq
def tyN : PyData → String
  | .none => "NoneType"
  | .bool _ => "bool"
  | .int _ => "int"
  | .str _ => "str"
  | .list _ => "list"
  | .tuple _ => "tuple"
  | .dict _ => "dict"
def isiD (T : String) (x : PyData) : Bool := tyN x == T || (T == "int" && tyN x == "bool")
def boolsD : List PyData → Option (List Bool)
  | [] => some []
  | .bool b :: r => (boolsD r).map (b :: ·)
  | _ :: _ => none
def intsD : List PyData → Option (List Int)
  | [] => some []
  | .int i :: r => (intsD r).map (i :: ·)
  | _ :: _ => none
def strsD : List PyData → Option (List Str)
  | [] => some []
  | .str s :: r => (strsD r).map (s :: ·)
  | _ :: _ => none
def leastI : Int → List Int → Int
  | m, [] => m
  | m, x :: r => leastI (if x < m then x else m) r
def mostI : Int → List Int → Int
  | m, [] => m
  | m, x :: r => mostI (if m < x then x else m) r
def seqD : PyData → Option (List PyData)
  | .list xs => some xs
  | .tuple xs => some xs
  | _ => none
/-- may be sorted: alike, with nothing that is not ordered -/
def sortOk (xs : List PyData) : Bool := decide (xs.length ≤ line) && (xs.all fun d => xs.all fun e => PySem.W.alike d e) && (xs.all fun d => SeqAt.shaped d) &&
  ((xs.all fun d => match d with | .tuple (_ :: _) => true | _ => false) || xs.all fun d => match d with | .none => false | .tuple _ => false | _ => true)
def sortD (xs : List PyData) : List PyData := xs.mergeSort (PySem.W.dataLe false id)
mutual
/-- may be a member of a set: a whole number, a text, None, a tuple of such -/
def keyB : PyData → Bool
  | .none => true
  | .bool _ => true
  | .int _ => true
  | .str _ => true
  | .tuple ks => keysB ks
  | .list _ => false
  | .dict _ => false
def keysB : List PyData → Bool
  | [] => true
  | p :: r => keyB p && keysB r
end
def tupKey : PyData → Bool
  | .tuple ks => keysB ks && decide (PyData.depthAll ks < 8)
  | _ => false
/-- each one once, the first of those that are equal -/
def distD (seen : List PyData) : List PyData → List PyData
  | [] => []
  | x :: r => if (seen.any fun y => PyData.eqv y x) = true then distD seen r else x :: distD (x :: seen) r
def lensetD (x : PyData) : Option PyData :=
  match seqD x with
  | some xs => if (decide (xs.length < 64) && xs.all tupKey) = true then some (.int (distD [] xs).length) else none
  | none => none
def bltD (b : Blt) (x : PyData) : Option PyData :=
  match b with
  | .str => match x with
    | .int i => if i.natAbs.log2 < 1920 then some (.str (toString i)) else none
    | .bool b => some (.str (if b = true then "True" else "False"))
    | .str z => some (.str z)
    | _ => none
  | .lenset => lensetD x
  | .len => match x with
    | .list xs => some (.int xs.length)
    | .tuple xs => some (.int xs.length)
    | .str z => if z.length ≤ line then some (.int z.length) else none
    | _ => none
  | .isi T => some (.bool (isiD T x))
  | .all => match x with
    | .list xs => (boolsD xs).map fun bs => .bool (bs.all id)
    | _ => none
  | .sum => match x with
    | .list xs => (intsD xs).map fun ns => .int ns.sum
    | _ => none
  | .int => match x with
    | .int i => some (.int i)
    | .bool b => some (.int (b2i b))
    | _ => none
  | .bool => match x with
    | .bool b => some (.bool b)
    | _ => none
  | .abs => match x with
    | .int i => some (.int (if i < 0 then -i else i))
    | _ => none
  | .tuple => (seqD x).map .tuple
  | .list => (seqD x).map .list
  | .sorted => match x with
    | .list xs => if sortOk xs = true then some (.list (sortD xs)) else none
    | _ => none
  | _ => none
/-- the methods of texts, lists, tuples -/
inductive Mth where
  | join | split | strip | count | index
  deriving DecidableEq
def joinFit (z : Str) (ys : List Str) : Bool := decide ((ys.map (·.length)).sum + ys.length * z.length ≤ line)
def strsOf : PyData → Option (List Str)
  | .list ys => strsD ys
  | .tuple ys => strsD ys
  | _ => none
def joinD (x y : PyData) : Option PyData :=
  match x with
  | .str z => (strsOf y).bind fun ss => if joinFit z ss = true then some (.str (Txt.join z ss)) else none
  | _ => none
def splitD (x y : PyData) : Option PyData :=
  match x, y with
  | .str a, .str b => if (b.length == 0) = false ∧ a.length + 2 ≤ line then some (.list ((Txt.split a b).map .str)) else none
  | _, _ => none
def stripD (x y : PyData) : Option PyData :=
  match x, y with
  | .str a, .str b => if a.length ≤ line then some (.str (Txt.stripChars a b)) else none
  | _, _ => none
def countD (x y : PyData) : Option PyData :=
  match x with
  | .list ys => if (SeqAt.shaped y && SeqAt.shaped (.list ys)) = true then some (.int (ys.countP fun z => PyData.eqv z y)) else none
  | .tuple ys => if (SeqAt.shaped y && SeqAt.shaped (.tuple ys)) = true then some (.int (ys.countP fun z => PyData.eqv z y)) else none
  | .str a => match y with
    | .str b => some (.int (Txt.count a b))
    | _ => none
  | _ => none
def indexD (x y : PyData) : Option PyData :=
  match x with
  | .list ys => if (SeqAt.shaped y && SeqAt.shaped (.list ys)) = true then (ys.findIdx? fun z => PyData.eqv z y).map fun (j : Nat) => .int j else none
  | _ => none
def mthD (m : Mth) (x : PyData) (as : List PyData) : Option PyData :=
  match as with
  | [y] => match m with
    | .join => joinD x y
    | .split => splitD x y
    | .strip => stripD x y
    | .count => countD x y
    | .index => indexD x y
  | _ => none
/-- a method of a list or of a tuple -/
def seqM (m : Mth) (x : PyData) : Bool :=
  match m, x with
  | .count, .list _ => true
  | .count, .tuple _ => true
  | .index, .list _ => true
  | _, _ => false

/-! ### expressions -/
/-- the target of an assignment: a slot, a tuple of targets -/
inductive Tg where
  | nm (i : Nat)
  | nil
  | cons (a r : Tg)
mutual
inductive X where
  | loc (i : Nat)
  | con (p : PyData)
  | bin (o : Operator) (a b : X)
  | neg (a : X)
  | not (a : X)
  | cmp (o : CmpOp) (a b : X)
  | chn (o p : CmpOp) (a b c : X)
  | and (a b : X)
  | or (a b : X)
  | ife (c a b : X)
  | call (f : Nat) (as : Xs)
  | blt (b : Blt) (a : X)
  | mth (m : Mth) (a : X) (as : Xs)
  | idx (a i : X)
  | slc (a : X) (lo hi : Xs)
  | rev (a : X)
  | lst (as : Xs)
  | box (as : Xs)
  | tup (as : Xs)
  | lc (own : List Nat) (t : Tg) (it : It) (c : Xs) (e : X)
  | err (e : X)
  | isE (i a : Nat) (b : Bool)
inductive Xs where
  | nil
  | cons (a : X) (r : Xs)
inductive It where
  | val (a : X)
  | rng (as : Xs)
  | enm (a : X)
  | zip (a b : X)
  | zipL (a b : X)
end
mutual
inductive St where
  | set (i : Nat) (e : X)
  | sett (t : Tg) (e : X)
  | par (is : List Nat) (es : Xs)
  | seti (i : Nat) (k e : X)
  | app (i : Nat) (e : X)
  | exp (e : X)
  | ret (e : X)
  | retN
  | iff (c : X) (a b : Sts)
  | forr (t : Tg) (it : It) (b : Sts)
  | whil (c : X) (b : Sts)
  | rais (c : Nat) (as : Xs)
  | pass
inductive Sts where
  | nil
  | cons (a : St) (r : Sts)
end

abbrev CF := Nat → List U → Store → R U
/-- the calls; those that a function handed over may make; the word for an error of a class -/
structure Cn where
  call : CF
  low : Option CF
  nm : Nat → Option Str

def asB : U → Option Bool
  | .d (.bool b) => some b
  | _ => none
def wipe (ρ : Rho) : List Nat → Rho
  | [] => ρ
  | v :: vs => (wipe ρ vs).set v none
/-- the items at the places of a target -/
def bindT : Tg → U → Rho → Option Rho
  | .nm i, u, ρ => some (ρ.set i (some u))
  | .nil, u, ρ => match u with
    | .d (.tuple []) => some ρ
    | .it [] => some ρ
    | _ => none
  | .cons a r, u, ρ => match u with
    | .d (.tuple (x :: xs)) => (bindT a (.d x) ρ).bind fun ρ' => bindT r (.d (.tuple xs)) ρ'
    | .it (x :: xs) => (bindT a (.d x) ρ).bind fun ρ' => bindT r (.it xs) ρ'
    | _ => none
def binU (o : Operator) (x y : U) (S : Store) : R U :=
  match o, y with
  | .Add, .scr ns => R.of S (((deref S x).bind fun p => match p with
    | .list a => if a.length + ns.length ≤ line then some (.list (a ++ ns.map .int)) else none
    | _ => none).map .d)
  | _, _ => R.of S (((deref S x).bind fun p => (deref S y).bind fun q => binD o p q).map .d)
def cmpU (o : CmpOp) (x y : U) (S : Store) : Option Bool := (deref S x).bind fun p => (deref S y).bind fun q => cmpD o p q
def datas (S : Store) : List U → Option (List PyData)
  | [] => some []
  | .d p :: r => (datas S r).map (p :: ·)
  | _ :: _ => none
def derefs (S : Store) : List U → Option (List PyData)
  | [] => some []
  | u :: r => (deref S u).bind fun p => (derefs S r).map (p :: ·)
def strP (z : Str) : List PyData := z.cps.toList.map fun c => .str ⟨#[c]⟩
def strItems (z : Str) : List U := z.cps.toList.map fun c => .d (.str ⟨#[c]⟩)
/-- what a loop walks: items that stand, or a list of the store as it stands -/
inductive Src where
  | fix (us : List U)
  | live (i : Nat)
def srcU (S : Store) : U → Option Src
  | .d (.list xs) => some (.fix (xs.map .d))
  | .d (.tuple xs) => some (.fix (xs.map .d))
  | .d (.str z) => some (.fix (strItems z))
  | .ref i => match S[i]? with
    | some (.lst _) => some (.live i)
    | _ => none
  | _ => none
def rngItems (lo : Int) (n : Nat) : List U := (List.range n).map fun i => .d (.int (lo + (i : Nat)))
def smallR (i : Int) : Bool := decide (-(2 ^ 62) ≤ i) && decide (i < 2 ^ 62)
def rngD : List PyData → Option (List U)
  | [.int j] => if smallR j = true then some (rngItems 0 j.toNat) else none
  | [.int i, .int j] => if (smallR i && smallR j) = true then some (rngItems i (j - i).toNat) else none
  | [.int i, .int j, .int c] => if c = -1 ∧ (smallR i && smallR j) = true then some ((List.range (i - j).toNat).map fun k => .d (.int (i - (k : Nat)))) else none
  | _ => none
def enmItems (k : Nat) : List PyData → List U
  | [] => []
  | x :: r => .it [.int k, x] :: enmItems (k + 1) r
def zipItems : List PyData → List PyData → List U
  | x :: xs, y :: ys => .it [x, y] :: zipItems xs ys
  | _, _ => []
inductive F where
  | nx (ρ : Rho)
  | rt (u : U)
/-- a loop over items -/
def loopL (t : Tg) (body : Rho → Store → R F) : List U → Rho → Store → R F
  | [], ρ, S => .ok (.nx ρ) S
  | u :: us, ρ, S => match bindT t u ρ with
    | none => .bad
    | some ρ1 => (body ρ1 S).bind fun f S1 => match f with
      | .nx ρ2 => loopL t body us ρ2 S1
      | .rt v => .ok (.rt v) S1
/-- a loop over a list of the store -/
def loopB (t : Tg) (body : Rho → Store → R F) (b : Nat) : Nat → Nat → Rho → Store → R F
  | 0, _, _, _ => .bad
  | n + 1, j, ρ, S => match S[b]? with
    | some (.lst xs) => match xs[j]? with
      | none => .ok (.nx ρ) S
      | some x => match bindT t (.d x) ρ with
        | none => .bad
        | some ρ1 => (body ρ1 S).bind fun f S1 => match f with
          | .nx ρ2 => loopB t body b n (j + 1) ρ2 S1
          | .rt v => .ok (.rt v) S1
    | _ => .bad
def loopW (c : Rho → Store → R Bool) (body : Rho → Store → R F) : Nat → Rho → Store → R F
  | 0, _, _ => .bad
  | n + 1, ρ, S => (c ρ S).bind fun b S1 => if b = true then (body ρ S1).bind fun f S2 => match f with
      | .nx ρ2 => loopW c body n ρ2 S2
      | .rt v => .ok (.rt v) S2
    else .ok (.nx ρ) S1
/-- a comprehension's loop: what it makes -/
def compL (t : Tg) (c : Rho → Store → R Bool) (e : Rho → Store → R PyData) (ρ : Rho) : List U → Store → R (List PyData)
  | [], S => .ok [] S
  | u :: us, S => match bindT t u ρ with
    | none => .bad
    | some ρ1 => (c ρ1 S).bind fun b S1 => if b = true then (e ρ1 S1).bind fun y S2 => (compL t c e ρ us S2).bind fun ys S3 => .ok (y :: ys) S3
      else compL t c e ρ us S1
/-- .. over a list of the store -/
def compB (t : Tg) (c : Rho → Store → R Bool) (e : Rho → Store → R PyData) (ρ : Rho) (b : Nat) : Nat → Nat → Store → R (List PyData)
  | 0, _, _ => .bad
  | n + 1, j, S => match S[b]? with
    | some (.lst xs) => match xs[j]? with
      | none => .ok [] S
      | some x => match bindT t (.d x) ρ with
        | none => .bad
        | some ρ1 => (c ρ1 S).bind fun k S1 => if k = true then (e ρ1 S1).bind fun y S2 => (compB t c e ρ b n (j + 1) S2).bind fun ys S3 => .ok (y :: ys) S3
          else compB t c e ρ b n (j + 1) S1
    | _ => .bad
/-- nothing is raised within a comprehension -/
def noexc {α : Type} : R α → R α
  | .exc _ _ => .bad
  | r => r
def dataR (r : R U) : R PyData := r.bind fun u S => match u with
  | .d p => .ok p S
  | _ => .bad
def boolR (r : R U) : R Bool := r.bind fun u S => R.of S (asB u)
def truR (r : R U) : R Bool := r.bind fun u S => R.of S ((deref S u).bind truD)
def optI : List U → Option (Option Int)
  | [] => some none
  | [.d (.int i)] => some (some i)
  | _ => none
mutual
def evX (g : Cn) : X → Rho → Store → R U
  | .loc i, ρ, S => match ρ[i]? with
    | some (some u) => .ok u S
    | _ => .bad
  | .con p, _, S => .ok (.d p) S
  | .bin o a b, ρ, S => (evX g a ρ S).bind fun x S1 => (evX g b ρ S1).bind fun y S2 => binU o x y S2
  | .neg a, ρ, S => (evX g a ρ S).bind fun x S1 => match x with
    | .d (.int i) => .ok (.d (.int (-i))) S1
    | _ => .bad
  | .not a, ρ, S => (truR (evX g a ρ S)).bind fun b S1 => .ok (.d (.bool (!b))) S1
  | .cmp o a b, ρ, S => (evX g a ρ S).bind fun x S1 => (evX g b ρ S1).bind fun y S2 => R.of S2 ((cmpU o x y S2).map fun b => .d (.bool b))
  | .chn o p a b c, ρ, S => (evX g a ρ S).bind fun x S1 => (evX g b ρ S1).bind fun y S2 => (R.of S2 (cmpU o x y S2)).bind fun k S3 =>
      if k = true then (evX g c ρ S3).bind fun z S4 => R.of S4 ((cmpU p y z S4).map fun b => .d (.bool b)) else .ok (.d (.bool false)) S3
  | .and a b, ρ, S => (boolR (evX g a ρ S)).bind fun k S1 => if k = true then evX g b ρ S1 else .ok (.d (.bool false)) S1
  | .or a b, ρ, S => (boolR (evX g a ρ S)).bind fun k S1 => if k = true then .ok (.d (.bool true)) S1 else evX g b ρ S1
  | .ife c a b, ρ, S => (truR (evX g c ρ S)).bind fun k S1 => if k = true then evX g a ρ S1 else evX g b ρ S1
  | .call f as, ρ, S => (evXs g as ρ S).bind fun us S1 => g.call f us S1
  | .blt b a, ρ, S => (evX g a ρ S).bind fun x S1 => R.of S1 (((deref S1 x).bind fun p => bltD b p).map .d)
  | .mth m a as, ρ, S => (evX g a ρ S).bind fun x S1 => match x with
    | .d (.str z) => (evXs g as ρ S1).bind fun us S2 => R.of S2 (((derefs S2 us).bind fun ps => mthD m (.str z) ps).map .d)
    | y => if ((deref S1 y).map (seqM m)) = some true then (evXs g as ρ S1).bind fun us S2 => R.of S2 (((deref S2 y).bind fun p => (derefs S2 us).bind fun ps => mthD m p ps).map .d) else .bad
  | .idx a i, ρ, S => (evX g a ρ S).bind fun x S1 => (evX g i ρ S1).bind fun y S2 => R.of S2 (((deref S2 x).bind fun p => (deref S2 y).bind fun q => idxD p q).map .d)
  | .slc a lo hi, ρ, S => (evX g a ρ S).bind fun x S1 => ((evXs g lo ρ S1).bind fun us S2 => R.of S2 (optI us)).bind fun l S3 => ((evXs g hi ρ S3).bind fun us S4 => R.of S4 (optI us)).bind fun h S5 =>
      R.of S5 (((deref S5 x).bind fun p => slcD p l h).map .d)
  | .rev a, ρ, S => (evX g a ρ S).bind fun x S1 => R.of S1 (((deref S1 x).bind revD).map .d)
  | .lst as, ρ, S => (evXs g as ρ S).bind fun us S1 => R.of S1 ((datas S1 us).bind fun ps => if ps.length ≤ line then some (.d (.list ps)) else none)
  | .box as, ρ, S => (evXs g as ρ S).bind fun us S1 => match datas S1 us with
    | some ps => if ps.length ≤ line then .ok (.ref S1.length) (S1 ++ [.lst ps]) else .bad
    | none => .bad
  | .tup as, ρ, S => (evXs g as ρ S).bind fun us S1 => R.of S1 ((datas S1 us).bind fun ps => if ps.length ≤ line then some (.d (.tuple ps)) else none)
  | .lc own t it c e, ρ, S => (noexc (evIt g it ρ S)).bind fun s S1 => match s with
    | .fix us => if us.length ≤ line then (noexc (compL t (fun ρ S => evC g c ρ S) (fun ρ S => dataR (evX g e ρ S)) (wipe ρ own) us S1)).bind fun ys S2 => .ok (.d (.list ys)) S2 else .bad
    | .live b => (noexc (compB t (fun ρ S => evC g c ρ S) (fun ρ S => dataR (evX g e ρ S)) (wipe ρ own) b 100000 0 S1)).bind fun ys S2 => .ok (.d (.list ys)) S2
  | .err e, ρ, S => match g.low with
    | none => .bad
    | some lf => match evX ⟨lf, none, g.nm⟩ e ρ S with
      | .ok _ S1 => .ok (.d (.str ⟨#[]⟩)) S1
      | .exc c S1 => R.of S1 ((g.nm c).map fun z => .d (.str z))
      | .bad => .bad
  | .isE i a b, ρ, S => match ρ[i]? with
    | some (some (.obj a')) => if a' = a then .ok (.d (.bool b)) S else .bad
    | _ => .bad
def evXs (g : Cn) : Xs → Rho → Store → R (List U)
  | .nil, _, S => .ok [] S
  | .cons a r, ρ, S => (evX g a ρ S).bind fun x S1 => (evXs g r ρ S1).bind fun xs S2 => .ok (x :: xs) S2
/-- a comprehension's tests -/
def evC (g : Cn) : Xs → Rho → Store → R Bool
  | .nil, _, S => .ok true S
  | .cons a _, ρ, S => truR (evX g a ρ S)
def evIt (g : Cn) : It → Rho → Store → R Src
  | .val a, ρ, S => (evX g a ρ S).bind fun x S1 => R.of S1 (srcU S1 x)
  | .rng as, ρ, S => (evXs g as ρ S).bind fun us S1 => R.of S1 (((datas S1 us).bind rngD).map .fix)
  | .enm a, ρ, S => (evX g a ρ S).bind fun x S1 => match x with
    | .d (.list xs) => .ok (.fix (enmItems 0 xs)) S1
    | .d (.tuple xs) => .ok (.fix (enmItems 0 xs)) S1
    | .d (.str z) => .ok (.fix (enmItems 0 (strP z))) S1
    | _ => .bad
  | .zip a b, ρ, S => (evX g a ρ S).bind fun x S1 => (evX g b ρ S1).bind fun y S2 => match x, y with
    | .d (.list xs), .d (.list ys) => .ok (.fix (zipItems xs ys)) S2
    | .d (.tuple xs), .d (.tuple ys) => .ok (.fix (zipItems xs ys)) S2
    | _, _ => .bad
  | .zipL a b, ρ, S => (evX g a ρ S).bind fun x S1 => (evX g b ρ S1).bind fun y S2 => match x, y with
    | .d (.list xs), .d (.list ys) => .ok (.fix (zipItems xs ys)) S2
    | _, _ => .bad
end
def setSlots : List Nat → List U → Rho → Option Rho
  | [], [], ρ => some ρ
  | i :: is, u :: us, ρ => setSlots is us (ρ.set i (some u))
  | _, _, _ => none
/-- a place of a list, or the next one, is written -/
def putL (b : Nat) (u q : U) (ρ : Rho) (S : Store) : R F :=
  match u, q with
  | .d p, .d (.int j) => match S[b]? with
    | some (.lst xs) => match L2.ixN xs.length j with
      | some m => .ok (.nx ρ) (S.set b (.lst (xs.set m p)))
      | none => .bad
    | _ => .bad
  | _, _ => .bad
def appL (b : Nat) (u : U) (ρ : Rho) (S : Store) : R F :=
  match u with
  | .d p => match S[b]? with
    | some (.lst xs) => if xs.length < line then .ok (.nx ρ) (S.set b (.lst (xs ++ [p]))) else .bad
    | _ => .bad
  | _ => .bad
mutual
def evS (g : Cn) : St → Rho → Store → R F
  | .set i e, ρ, S => (evX g e ρ S).bind fun u S1 => .ok (.nx (ρ.set i (some u))) S1
  | .sett t e, ρ, S => (evX g e ρ S).bind fun u S1 => R.of S1 ((bindT t u ρ).map .nx)
  | .par is es, ρ, S => (evXs g es ρ S).bind fun us S1 => R.of S1 ((setSlots is us ρ).map .nx)
  | .seti i k e, ρ, S => match ρ[i]? with
    | some (some (.ref b)) => (evX g e ρ S).bind fun u S1 => (evX g k ρ S1).bind fun q S2 => putL b u q ρ S2
    | _ => .bad
  | .app i e, ρ, S => match ρ[i]? with
    | some (some (.ref b)) => (evX g e ρ S).bind fun u S1 => appL b u ρ S1
    | _ => .bad
  | .exp e, ρ, S => (evX g e ρ S).bind fun _ S1 => .ok (.nx ρ) S1
  | .ret e, ρ, S => (evX g e ρ S).bind fun u S1 => .ok (.rt u) S1
  | .retN, _, S => .ok (.rt (.d .none)) S
  | .iff c a b, ρ, S => (truR (evX g c ρ S)).bind fun k S1 => if k = true then evSs g a ρ S1 else evSs g b ρ S1
  | .forr t it b, ρ, S => (evIt g it ρ S).bind fun s S1 => match s with
    | .fix us => loopL t (fun ρ S => evSs g b ρ S) us ρ S1
    | .live i => loopB t (fun ρ S => evSs g b ρ S) i 1000000 0 ρ S1
  | .whil c b, ρ, S => loopW (fun ρ S => truR (evX g c ρ S)) (fun ρ S => evSs g b ρ S) 1000000 ρ S
  | .rais c as, ρ, S => (evXs g as ρ S).bind fun _ S1 => .exc c S1
  | .pass, ρ, S => .ok (.nx ρ) S
def evSs (g : Cn) : Sts → Rho → Store → R F
  | .nil, ρ, S => .ok (.nx ρ) S
  | .cons a r, ρ, S => (evS g a ρ S).bind fun f S1 => match f with
    | .nx ρ1 => evSs g r ρ1 S1
    | .rt u => .ok (.rt u) S1
end
/-- a def: how many parameters, how many names, whether it hands on a box that it made -/
structure Fn where
  np : Nat
  nn : Nat
  keep : Bool
  body : Sts
structure Tab where
  fns : List Fn
  nm : Nat → Option Str
/-- the end of a call: boxes made within go, a list that is handed back is frozen -/
def finish (mk : Bool) (n0 : Nat) : R F → R U
  | .ok (.nx _) S => .ok (.d .none) (S.take n0)
  | .ok (.rt (.d p)) S => .ok (.d p) (if mk = true then S else S.take n0)
  | .ok (.rt (.ref i)) S => if mk = true then .ok (.ref i) S else if i < n0 then .ok (.ref i) (S.take n0) else match deref S (.ref i) with
    | some p => .ok (.d p) (S.take n0)
    | none => .bad
  | .ok (.rt (.scr _)) _ => .bad
  | .ok (.rt (.obj _)) _ => .bad
  | .ok (.rt (.it _)) _ => .bad
  | .exc c S => .exc c (S.take n0)
  | .bad => .bad
def start (nn : Nat) (us : List U) : Rho := us.map some ++ List.replicate (nn - us.length) none
def runF (T : Tab) (g : Cn) (f : Nat) (us : List U) (S : Store) : R U :=
  match T.fns[f]? with
  | none => .bad
  | some fn => if us.length = fn.np then finish fn.keep S.length (evSs g fn.body (start fn.nn us) S) else .bad
/-- the calls to a depth, and to lesser ones -/
structure C3 where
  a : CF
  b : CF
  c : CF
def callP (T : Tab) : Nat → C3
  | 0 => ⟨fun _ _ _ => .bad, fun _ _ _ => .bad, fun _ _ _ => .bad⟩
  | n + 1 => ⟨runF T ⟨(callP T n).a, some (callP T n).c, T.nm⟩, (callP T n).a, (callP T n).b⟩
def callN (T : Tab) (n : Nat) : CF := (callP T n).a
def cnN (T : Tab) (n : Nat) : Cn := ⟨(callP T n).a, some (callP T n).c, T.nm⟩
theorem callN_succ (T : Tab) (n : Nat) : callN T (n + 1) = runF T (cnN T n) := rfl
theorem low_eq (T : Tab) (n : Nat) : (cnN T (n + 2)).low = some (callN T n) := rfl
end Ev
end

section
set_option Elab.async false
set_option linter.all false
set_option autoImplicit false
set_option maxRecDepth 100000
set_option maxHeartbeats 4000000
/-! # How the little language's values stand in the abstract heap -/
namespace Ev
open PySem PySem.Spec PyProof.Rows L2

/-- the boxes, in order; and other objects that nobody may hand out (a list that a comprehension is making) -/
structure Ms where
  b : List Addr
  x : List Addr
instance : Membership Addr Ms := ⟨fun M a => a ∈ M.b ∨ a ∈ M.x⟩
theorem Ms.mem_b {M : Ms} {a : Addr} (h : a ∈ M.b) : a ∈ M := .inl h
theorem Ms.mem_x {M : Ms} {a : Addr} (h : a ∈ M.x) : a ∈ M := .inr h
theorem Ms.not_b {M : Ms} {a : Addr} (h : a ∉ M) : a ∉ M.b := fun z => h (.inl z)
/-- one box more; one more that nobody may hand out -/
def Ms.add (M : Ms) (p : Addr) : Ms := ⟨M.b ++ [p], M.x⟩
def Ms.hide (M : Ms) (p : Addr) : Ms := ⟨M.b, p :: M.x⟩

/-- a tuple at a: tracked, its object without a dict, not a box; or an object of the module -/
def TupAt (K : W.Frag) (M : Ms) (H : Hp) (a : Addr) (xs : List V) : Prop :=
  (a ∉ M ∧ ∃ o : Obj, o.dict = none ∧ H a = some (.frz o (.tup xs))) ∨
    ∃ (o : Obj) (its : Array Value) (n : Nat), K.lookup a = some o ∧ o.cls = .type "tuple" ∧ o.dict = none ∧ o.data = .seq its n ∧ its.size ≤ sizeLine ∧ Vals xs its.toList
theorem TupAt.sq {K : W.Frag} {M : Ms} {H : Hp} {a : Addr} {xs : List V} (h : TupAt K M H a xs) : SqT K H a xs := h.imp (fun ⟨_, o, _, e⟩ => .inr ⟨o, e⟩) fun ⟨o, its, n, h1, h2, _, h3⟩ => ⟨o, its, n, h1, h2, h3⟩

/-- the script's list -/
def ScrAt (K : W.Frag) (M : Ms) (H : Hp) (a : Addr) (xs : List V) : Prop :=
  (a ∉ M ∧ Rd H a (.lst xs)) ∨
    ∃ (o : Obj) (its : Array Value) (n : Nat), K.lookup a = some o ∧ o.cls = .type "list" ∧ o.dict = none ∧ o.data = .seq its n ∧ its.size ≤ sizeLine ∧ Vals xs its.toList
theorem ScrAt.sq {K : W.Frag} {M : Ms} {H : Hp} {a : Addr} {xs : List V} (h : ScrAt K M H a xs) : SqL K H a xs := h.imp (fun z => z.2) id
mutual
/-- the value v stands for the data, in the heap H; the lists of the data are none of the boxes M -/
inductive Rp (K : W.Frag) (M : Ms) (H : Hp) : V → PyData → Prop
  | non : Rp K M H .non .none
  | bl (b : Bool) : Rp K M H (.bl b) (.bool b)
  | int (i : Int) : Rp K M H (.int i) (.int i)
  | str (x : Str) : Rp K M H (.str x) (.str x)
  | lst {a : Addr} {xs : List V} {ds : List PyData} : a ∉ M → H a = some (.lst xs) → RpA K M H xs ds → Rp K M H (.ref a) (.list ds)
  | tup {a : Addr} {xs : List V} {ds : List PyData} : TupAt K M H a xs → RpA K M H xs ds → Rp K M H (.ref a) (.tuple ds)
inductive RpA (K : W.Frag) (M : Ms) (H : Hp) : List V → List PyData → Prop
  | nil : RpA K M H [] []
  | cons {v : V} {vs : List V} {d : PyData} {ds : List PyData} : Rp K M H v d → RpA K M H vs ds → RpA K M H (v :: vs) (d :: ds)
end
def RU (K : W.Frag) (M : Ms) (H : Hp) (v : V) : U → Prop
  | .d p => Rp K M H v p
  | .ref i => ∃ a, M.b[i]? = some a ∧ v = .ref a
  | .scr ns => ∃ a, v = .ref a ∧ ScrAt K M H a (ns.map V.int)
  | .obj a => v = .ref a
  | .it ds => ∃ a xs, v = .ref a ∧ a ∉ M ∧ H a = some (.tup xs) ∧ RpA K M H xs ds
inductive RUs (K : W.Frag) (M : Ms) (H : Hp) : List V → List U → Prop
  | nil : RUs K M H [] []
  | cons {v : V} {vs : List V} {u : U} {us : List U} : RU K M H v u → RUs K M H vs us → RUs K M H (v :: vs) (u :: us)
/-- what stands at a box -/
def BoxOk (K : W.Frag) (M : Ms) (H : Hp) (a : Addr) : Box → Prop
  | .lst ds => ∃ xs, H a = some (.lst xs) ∧ RpA K M H xs ds
  | .dct _ => False
  | .ins _ _ => False
structure StOk (K : W.Frag) (T : List (Addr × Str)) (M : Ms) (S : Store) (H : Hp) : Prop where
  len : M.b.length = S.length
  nd : M.b.Nodup
  box : ∀ (i : Nat) a b, M.b[i]? = some a → S[i]? = some b → BoxOk K M H a b
  xt : ∀ a, a ∈ M.x → a ∉ M.b ∧ ∃ o, H a = some o ∧ ∀ ps, o ≠ .tbl ps
  tab : LamX.Tabs T H
/-- the slots -/
structure EnvOk (K : W.Frag) (ρ : Rho) (σ : L2.St) (M : Ms) (H : Hp) : Prop where
  len : ρ.length = σ.length
  at_ : ∀ (i : Nat) u, ρ[i]? = some (some u) → ∃ v, σ[i]? = some (some v) ∧ RU K M H v u
/-- nothing, or a table of code objects -/
def NoT (H : Hp) (a : Addr) : Prop := H a = none ∨ ∃ ps, H a = some (.tbl ps)
theorem NoT.ne {H : Hp} {a : Addr} {o : HO} (n : NoT H a) (h : H a = some o) (t : ∀ ps, o ≠ .tbl ps) : False := by
  rcases n with n | ⟨ps, n⟩
  · rw [h] at n; cases n
  · rw [h] at n; exact t ps (Option.some.inj n)
/-- what may have changed -/
structure Gr (M : Ms) (H : Hp) (M' : Ms) (H' : Hp) : Prop where
  pre : M.b <+: M'.b
  ext : ∀ a, a ∈ M.x → a ∈ M'.x
  keep : ∀ a o, H a = some o → a ∉ M.b → (∀ ps, o ≠ .tbl ps) → H' a = some o
  new : ∀ a, a ∈ M' → a ∈ M ∨ NoT H a
  newb : ∀ a, a ∈ M'.b → a ∈ M.b ∨ NoT H a
  dom : ∀ a, NoT H' a → NoT H a

section
variable {K : W.Frag} {T : List (Addr × Str)} {M M' M'' : Ms} {H H' H'' : Hp} {S S' : Store} {ρ : Rho} {σ : L2.St}
theorem Gr.refl (M : Ms) (H : Hp) : Gr M H M H := ⟨List.prefix_refl _, fun _ h => h, fun _ _ h _ _ => h, fun _ h => .inl h, fun _ h => .inl h, fun _ h => h⟩
theorem Gr.neb {a : Addr} {o : HO} (g : Gr M H M' H') (h : H a = some o) (n : a ∉ M.b) (t : ∀ ps, o ≠ .tbl ps) : a ∉ M'.b := fun z => (g.newb a z).elim n fun q => q.ne h t
theorem Gr.trans (a : Gr M H M' H') (b : Gr M' H' M'' H'') : Gr M H M'' H'' where
  pre := a.pre.trans b.pre
  ext := fun x h => b.ext x (a.ext x h)
  keep := fun x o h n t => b.keep x o (a.keep x o h n t) (a.neb h n t) t
  new := fun x h => (b.new x h).elim (a.new x) fun q => .inr (a.dom x q)
  newb := fun x h => (b.newb x h).elim (a.newb x) fun q => .inr (a.dom x q)
  dom := fun x h => a.dom x (b.dom x h)
theorem Gr.ne {a : Addr} {o : HO} (g : Gr M H M' H') (h : H a = some o) (n : a ∉ M) (t : ∀ ps, o ≠ .tbl ps) : a ∉ M' := fun z => (g.new a z).elim n fun q => q.ne h t
theorem Gr.get {i : Nat} {a : Addr} (g : Gr M H M' H') (h : M.b[i]? = some a) : M'.b[i]? = some a := by
  obtain ⟨r, e⟩ := g.pre
  rw [← e, List.getElem?_append_left (List.getElem?_eq_some_iff.mp h).1]
  exact h
theorem Gr.rd {a : Addr} {o : HO} (g : Gr M H M' H') (h : Rd H a o) (n : a ∉ M) (t : ∀ ps, o ≠ .tbl ps) : a ∉ M' ∧ Rd H' a o := by
  rcases h with h | ⟨ob, h⟩
  · exact ⟨g.ne h n t, .inl (g.keep a _ h (Ms.not_b n) t)⟩
  · exact ⟨g.ne h n fun ps z => (by cases z), .inr ⟨ob, g.keep a _ h (Ms.not_b n) fun ps z => by cases z⟩⟩
theorem Gr.at_ {a : Addr} {o : HO} (g : Gr M H M' H') (h : H a = some o) (n : a ∉ M) (t : ∀ ps, o ≠ .tbl ps) : a ∉ M' ∧ H' a = some o := ⟨g.ne h n t, g.keep a _ h (Ms.not_b n) t⟩
theorem TupAt.mono {a : Addr} {xs : List V} (g : Gr M H M' H') (h : TupAt K M H a xs) : TupAt K M' H' a xs := by
  rcases h with ⟨n, o, d, h⟩ | h
  · exact .inl ⟨(g.at_ h n fun ps z => by cases z).1, o, d, (g.at_ h n fun ps z => by cases z).2⟩
  · exact .inr h
mutual
theorem Rp.mono (g : Gr M H M' H') : ∀ {v : V} {d : PyData}, Rp K M H v d → Rp K M' H' v d
  | _, _, .non => .non
  | _, _, .bl b => .bl b
  | _, _, .int i => .int i
  | _, _, .str x => .str x
  | _, _, .lst n h r => .lst (g.at_ h n fun ps z => by cases z).1 (g.at_ h n fun ps z => by cases z).2 (RpA.mono g r)
  | _, _, .tup h r => .tup (h.mono g) (RpA.mono g r)
theorem RpA.mono (g : Gr M H M' H') : ∀ {vs : List V} {ds : List PyData}, RpA K M H vs ds → RpA K M' H' vs ds
  | _, _, .nil => .nil
  | _, _, .cons h r => .cons (Rp.mono g h) (RpA.mono g r)
end
theorem RU.mono {v : V} {u : U} (g : Gr M H M' H') (h : RU K M H v u) : RU K M' H' v u := by
  cases u with
  | d p => exact Rp.mono g h
  | ref i => obtain ⟨a, e, q⟩ := h; exact ⟨a, g.get e, q⟩
  | scr ns =>
    obtain ⟨a, e, q⟩ := h
    exact ⟨a, e, q.imp (fun z => g.rd z.2 z.1 fun ps z => by cases z) id⟩
  | obj a => exact h
  | it ds =>
    obtain ⟨a, xs, e, n, q, r⟩ := h
    exact ⟨a, xs, e, (g.at_ q n fun ps z => by cases z).1, (g.at_ q n fun ps z => by cases z).2, r.mono g⟩
theorem RUs.mono (g : Gr M H M' H') : ∀ {vs : List V} {us : List U}, RUs K M H vs us → RUs K M' H' vs us
  | _, _, .nil => .nil
  | _, _, .cons h r => .cons (h.mono g) (RUs.mono g r)
theorem RUs.length : ∀ {vs : List V} {us : List U}, RUs K M H vs us → vs.length = us.length
  | _, _, .nil => rfl
  | _, _, .cons _ r => congrArg (· + 1) (RUs.length r)
theorem RpA.length : ∀ {vs : List V} {us : List PyData}, RpA K M H vs us → vs.length = us.length
  | _, _, .nil => rfl
  | _, _, .cons _ r => congrArg (· + 1) (RpA.length r)
theorem RpA.get : ∀ {vs : List V} {us : List PyData} {i : Nat} {d : PyData}, RpA K M H vs us → us[i]? = some d → ∃ v, vs[i]? = some v ∧ Rp K M H v d
  | _, _, i, d, .nil, e => by simp at e
  | _, _, 0, d, .cons h r, e => by simp at e; subst e; exact ⟨_, rfl, h⟩
  | _, _, i + 1, d, .cons h r, e => by
    obtain ⟨v, h1, h2⟩ := RpA.get (i := i) r (by simpa using e)
    exact ⟨v, by simpa using h1, h2⟩
theorem RpA.getV : ∀ {vs : List V} {us : List PyData} {i : Nat} {v : V}, RpA K M H vs us → vs[i]? = some v → ∃ d, us[i]? = some d ∧ Rp K M H v d
  | _, _, i, d, .nil, e => by simp at e
  | _, _, 0, d, .cons h r, e => by simp at e; subst e; exact ⟨_, rfl, h⟩
  | _, _, i + 1, d, .cons h r, e => by
    obtain ⟨v, h1, h2⟩ := RpA.getV (i := i) r (by simpa using e)
    exact ⟨v, by simpa using h1, h2⟩
theorem RpA.append : ∀ {vs ws : List V} {us ts : List PyData}, RpA K M H vs us → RpA K M H ws ts → RpA K M H (vs ++ ws) (us ++ ts)
  | _, _, _, _, .nil, h => h
  | _, _, _, _, .cons a r, h => .cons a (RpA.append r h)
theorem RpA.take : ∀ {vs : List V} {us : List PyData} (n : Nat), RpA K M H vs us → RpA K M H (vs.take n) (us.take n)
  | _, _, 0, _ => .nil
  | _, _, _ + 1, .nil => .nil
  | _, _, n + 1, .cons a r => .cons a (RpA.take n r)
theorem RpA.drop : ∀ {vs : List V} {us : List PyData} (n : Nat), RpA K M H vs us → RpA K M H (vs.drop n) (us.drop n)
  | _, _, 0, h => h
  | _, _, _ + 1, .nil => .nil
  | _, _, n + 1, .cons a r => RpA.drop n r
theorem RpA.set {v : V} {d : PyData} (h : Rp K M H v d) : ∀ {vs : List V} {us : List PyData} (n : Nat), RpA K M H vs us → RpA K M H (vs.set n v) (us.set n d)
  | _, _, _, .nil => .nil
  | _, _, 0, .cons _ r => .cons h r
  | _, _, n + 1, .cons a r => .cons a (RpA.set h n r)
theorem RpA.rev : ∀ {vs : List V} {us : List PyData}, RpA K M H vs us → RpA K M H vs.reverse us.reverse
  | _, _, .nil => .nil
  | _, _, .cons a r => by
    rw [List.reverse_cons, List.reverse_cons]
    exact (RpA.rev r).append (.cons a .nil)
theorem RpA.flat {vs : List V} {us : List PyData} (h : RpA K M H vs us) : ∀ n : Nat, RpA K M H (List.replicate n vs).flatten (List.replicate n us).flatten
  | 0 => .nil
  | n + 1 => by
    rw [List.replicate_succ, List.replicate_succ, List.flatten_cons, List.flatten_cons]
    exact h.append (RpA.flat h n)
mutual
/-- data without dicts, as the library's relation says it -/
theorem Rp.dp : ∀ {v : V} {d : PyData}, Rp K M H v d → Dp K H v d
  | _, _, .non => .non
  | _, _, .bl b => .bl b
  | _, _, .int i => .int i
  | _, _, .str x => .str x
  | _, _, .lst n h r => .lst (.inl (.inl h)) (RpA.dp r)
  | _, _, .tup h r => .tup h.sq (RpA.dp r)
theorem RpA.dp : ∀ {vs : List V} {ds : List PyData}, RpA K M H vs ds → DpAll K H vs ds
  | _, _, .nil => .nil
  | _, _, .cons h r => .cons (Rp.dp h) (RpA.dp r)
end
/-- a box holds an object that is no table -/
theorem StOk.heldb {a : Addr} (s : StOk K T M S H) (h : a ∈ M.b) : ∃ o, H a = some o ∧ ∀ ps, o ≠ .tbl ps := by
  obtain ⟨i, hi⟩ := List.getElem?_of_mem h
  have hl : i < S.length := by rw [← s.len]; exact (List.getElem?_eq_some_iff.mp hi).1
  have hb := s.box i a S[i] hi (by simp [hl])
  cases e : S[i] with
  | lst ds =>
    rw [e] at hb
    obtain ⟨xs, h1, _⟩ := hb
    exact ⟨_, h1, fun ps z => by cases z⟩
  | dct _ => rw [e] at hb; exact hb.elim
  | ins _ _ => rw [e] at hb; exact hb.elim
theorem StOk.held {a : Addr} (s : StOk K T M S H) (h : a ∈ M) : ∃ o, H a = some o ∧ ∀ ps, o ≠ .tbl ps := by
  rcases h with h | h
  · exact s.heldb h
  · exact (s.xt a h).2
theorem StOk.free {p : Addr} (s : StOk K T M S H) (h : H p = none) : p ∉ M := fun z => by
  obtain ⟨o, e, _⟩ := s.held z
  rw [h] at e; cases e
theorem StOk.lt {i : Nat} {a : Addr} (s : StOk K T M S H) (h : M.b[i]? = some a) : ∃ b, S[i]? = some b ∧ BoxOk K M H a b := by
  have hl : i < S.length := by rw [← s.len]; exact (List.getElem?_eq_some_iff.mp h).1
  exact ⟨S[i], by simp [hl], s.box i a _ h (by simp [hl])⟩
/-- a list of data at a box is read -/
theorem StOk.lst {i : Nat} {a : Addr} {ds : List PyData} (s : StOk K T M S H) (h : M.b[i]? = some a) (e : S[i]? = some (.lst ds)) : ∃ xs, H a = some (.lst xs) ∧ RpA K M H xs ds :=
  s.box i a _ h e
theorem BoxOk.mono {a : Addr} {b : Box} (g : Gr M H M' H') (ha : H' a = H a) (h : BoxOk K M H a b) : BoxOk K M' H' a b := by
  cases b with
  | lst ds => obtain ⟨xs, e, r⟩ := h; exact ⟨xs, by rw [ha]; exact e, r.mono g⟩
  | dct _ => exact h
  | ins _ _ => exact h
theorem upd_dom {p a : Addr} {o : HO} (h : (∀ ps, o ≠ .tbl ps) ∨ NoT H p) (z : NoT (upd H p o) a) : NoT H a := by
  by_cases q : a = p
  · subst q
    rcases h with h | h
    · exact (z.ne upd_same h).elim
    · exact h
  · unfold NoT at z ⊢
    rw [upd_ne q] at z
    exact z
/-- a new object is laid -/
theorem gr_new {p : Addr} {o : HO} (s : StOk K T M S H) (h : H p = none) : Gr M H M (upd H p o) where
  pre := List.prefix_refl _
  ext := fun _ z => z
  keep := fun a u e _ _ => by rw [upd_ne (ne_of_none e h)]; exact e
  new := fun a z => .inl z
  newb := fun a z => .inl z
  dom := fun a z => upd_dom (.inr (.inl h)) z
theorem xt_new {p : Addr} {o : HO} (s : StOk K T M S H) (h : H p = none) {a : Addr} (ha : a ∈ M.x) : ∃ u, upd H p o a = some u ∧ ∀ ps, u ≠ .tbl ps := by
  obtain ⟨_, u, e, t⟩ := s.xt a ha
  exact ⟨u, by rw [upd_ne (ne_of_none e h)]; exact e, t⟩
theorem st_new {p : Addr} {o : HO} (s : StOk K T M S H) (h : H p = none) : StOk K T M S (upd H p o) where
  len := s.len
  nd := s.nd
  box := fun i a b e1 e2 => (s.box i a b e1 e2).mono (gr_new s h) (by
    rw [upd_ne]
    rintro rfl
    exact s.free h (.inl (List.mem_of_getElem? e1)))
  xt := fun a ha => ⟨(s.xt a ha).1, xt_new s h ha⟩
  tab := s.tab.ext fun b u e => by rw [upd_ne (ne_of_none e h)]; exact e
/-- .. and is a box from now on -/
theorem gr_box {p : Addr} {o : HO} (s : StOk K T M S H) (h : H p = none) : Gr M H (M.add p) (upd H p o) where
  pre := List.prefix_append _ _
  ext := fun _ z => z
  keep := (gr_new s h).keep
  new := fun a z => by
    rcases z with z | z
    · rcases List.mem_append.mp z with z | z
      · exact .inl (.inl z)
      · have e : a = p := by simpa using z
        subst e
        exact .inr (.inl h)
    · exact .inl (.inr z)
  newb := fun a z => by
    rcases List.mem_append.mp z with z | z
    · exact .inl z
    · have e : a = p := by simpa using z
      subst e
      exact .inr (.inl h)
  dom := (gr_new s h).dom
theorem st_box {p : Addr} {xs : List V} {ds : List PyData} (s : StOk K T M S H) (h : H p = none) (r : RpA K M H xs ds) : StOk K T (M.add p) (S ++ [.lst ds]) (upd H p (.lst xs)) where
  len := by show (M.b ++ [p]).length = _; simp [s.len]
  nd := by
    show (M.b ++ [p]).Nodup
    rw [List.nodup_append]
    refine ⟨s.nd, by simp, fun a ha b hb => ?_⟩
    have e : b = p := by simpa using hb
    subst e
    rintro rfl
    exact s.free h (.inl ha)
  box := fun i a b e1 e2 => by
    have e3 : (M.b ++ [p])[i]? = some a := e1
    clear e1
    by_cases hi : i < M.b.length
    · rw [List.getElem?_append_left hi] at e3
      rw [List.getElem?_append_left (by rw [← s.len]; exact hi)] at e2
      exact (s.box i a b e3 e2).mono (gr_box s h) (by
        rw [upd_ne]
        rintro rfl
        exact s.free h (.inl (List.mem_of_getElem? e3)))
    · have hi' : i = M.b.length := by
        have := (List.getElem?_eq_some_iff.mp e3).1
        simp at this
        omega
      subst hi'
      rw [List.getElem?_append_right (Nat.le_refl _)] at e3
      rw [List.getElem?_append_right (by rw [s.len]; exact Nat.le_refl _)] at e2
      simp at e3
      rw [s.len] at e2
      simp at e2
      subst e3 e2
      exact ⟨xs, upd_same, r.mono (gr_box s h)⟩
  xt := fun a ha => ⟨fun z => by
    rcases List.mem_append.mp z with z | z
    · exact (s.xt a ha).1 z
    · have e : a = p := by simpa using z
      subst e
      exact s.free h (.inr ha), xt_new s h ha⟩
  tab := (st_new s h).tab
/-- a new list that is being made: nobody may hand it out -/
theorem gr_hide {p : Addr} {o : HO} (s : StOk K T M S H) (h : H p = none) : Gr M H (M.hide p) (upd H p o) where
  pre := List.prefix_refl _
  ext := fun _ z => List.mem_cons_of_mem _ z
  keep := (gr_new s h).keep
  new := fun a z => by
    rcases z with z | z
    · exact .inl (.inl z)
    · rcases List.mem_cons.mp z with e | z
      · subst e
        exact .inr (.inl h)
      · exact .inl (.inr z)
  newb := fun a z => .inl z
  dom := (gr_new s h).dom
theorem st_hide {p : Addr} {xs : List V} (s : StOk K T M S H) (h : H p = none) : StOk K T (M.hide p) S (upd H p (.lst xs)) where
  len := s.len
  nd := s.nd
  box := fun i a b e1 e2 => (s.box i a b e1 e2).mono (gr_hide s h) (by
    rw [upd_ne]
    rintro rfl
    exact s.free h (.inl (List.mem_of_getElem? e1)))
  xt := fun a ha => by
    rcases List.mem_cons.mp ha with e | ha
    · subst e
      exact ⟨fun z => s.free h (.inl z), _, upd_same, fun ps z => by cases z⟩
    · exact ⟨(s.xt a ha).1, xt_new s h ha⟩
  tab := (st_new s h).tab
theorem nd_ix {l : List Addr} {i j : Nat} {a : Addr} (nd : l.Nodup) (h1 : l[i]? = some a) (h2 : l[j]? = some a) : i = j := by
  obtain ⟨x, e1⟩ := List.getElem?_eq_some_iff.mp h1
  obtain ⟨y, e2⟩ := List.getElem?_eq_some_iff.mp h2
  exact (List.getElem_inj nd).mp (e1.trans e2.symm)
/-- an object that nobody hands out is written -/
theorem gr_wr {a : Addr} {o : HO} (m : Ms) (h : a ∈ m.b) (ht : ∀ ps, o ≠ .tbl ps) : Gr m H m (upd H a o) where
  pre := List.prefix_refl _
  ext := fun _ z => z
  keep := fun b u e n _ => by
    rw [upd_ne]
    · exact e
    · rintro rfl
      exact n h
  new := fun a z => .inl z
  newb := fun a z => .inl z
  dom := fun b z => upd_dom (.inl ht) z
theorem tab_wr {a : Addr} {o u : HO} (t : LamX.Tabs T H) (e : H a = some u) (n : ∀ ps, u ≠ .tbl ps) (nc : ∀ q, u ≠ LamX.CodeO a q) : LamX.Tabs T (upd H a o) := fun p hp => by
  obtain ⟨ps, t1, t2, t3⟩ := t p hp
  have na : ∀ b v, H b = some v → v ≠ u → b ≠ a := fun b v hb hv z => by
    subst z
    rw [e] at hb
    exact hv (Option.some.inj hb).symm
  refine ⟨ps, by rw [upd_ne (na _ _ t1 fun z => n ps z.symm)]; exact t1, t2, fun pos cv hc => ?_⟩
  obtain ⟨c, e1, e2⟩ := t3 pos cv hc
  refine ⟨c, e1, ?_⟩
  rw [upd_ne]
  · exact e2
  · rintro rfl
    rw [e] at e2
    exact nc _ (Option.some.inj e2)
theorem lst_code {xs : List V} {a : Addr} {q : Str} : HO.lst xs ≠ LamX.CodeO a q := fun z => by
  unfold LamX.CodeO at z
  cases z
/-- a box of data is written -/
theorem st_put {i : Nat} {a : Addr} {xs : List V} {ds : List PyData} (s : StOk K T M S H) (h : M.b[i]? = some a) (r : RpA K M H xs ds) : StOk K T M (S.set i (.lst ds)) (upd H a (.lst xs)) where
  len := by rw [List.length_set]; exact s.len
  nd := s.nd
  box := fun j b x e1 e2 => by
    have g : Gr M H M (upd H a (.lst xs)) := gr_wr M (List.mem_of_getElem? h) fun ps z => by cases z
    by_cases hj : i = j
    · subst hj
      rw [h] at e1; cases e1
      have hl : i < S.length := by rw [← s.len]; exact (List.getElem?_eq_some_iff.mp h).1
      rw [List.getElem?_set_self hl] at e2
      cases e2
      exact ⟨xs, upd_same, r.mono g⟩
    · rw [List.getElem?_set_ne hj] at e2
      refine (s.box j b x e1 e2).mono g ?_
      rw [upd_ne]
      rintro rfl
      exact hj (nd_ix s.nd h e1)
  xt := fun b hb => ⟨(s.xt b hb).1, by
    obtain ⟨n, u, e, t⟩ := s.xt b hb
    exact ⟨u, by rw [upd_ne (fun z => n (by rw [z]; exact List.mem_of_getElem? h))]; exact e, t⟩⟩
  tab := by
    obtain ⟨b, _, hb⟩ := s.lt h
    cases b with
    | lst ds' =>
      obtain ⟨ys, h1, _⟩ := hb
      exact tab_wr s.tab h1 (fun ps z => by cases z) fun q => lst_code
    | dct _ => exact hb.elim
    | ins _ _ => exact hb.elim
/-- more objects, and tables that have grown -/
theorem gr_ext (e : LamX.ExtN H H') : Gr M H M H' where
  pre := List.prefix_refl _
  ext := fun _ z => z
  keep := fun a o h _ t => e a o h t
  new := fun a z => .inl z
  newb := fun a z => .inl z
  dom := fun a z => by
    cases h : H a with
    | none => exact .inl h
    | some o =>
      by_cases t : ∀ ps, o ≠ .tbl ps
      · exact (z.ne (e a o h t) t).elim
      · have : ∃ ps, o = .tbl ps := Classical.byContradiction fun q => t fun ps z => q ⟨ps, z⟩
        obtain ⟨ps, rfl⟩ := this
        exact .inr ⟨ps, h⟩
theorem st_ext (s : StOk K T M S H) (e : LamX.ExtN H H') (t : LamX.Tabs T H') : StOk K T M S H' where
  len := s.len
  nd := s.nd
  box := fun i a b e1 e2 => (s.box i a b e1 e2).mono (gr_ext e) (by
    obtain ⟨o, h, q⟩ := s.heldb (List.mem_of_getElem? e1)
    rw [h, e a o h q])
  xt := fun a ha => by
    obtain ⟨n, o, h, q⟩ := s.xt a ha
    exact ⟨n, o, e a o h q, q⟩
  tab := t
/-! ### less is kept from being handed out -/
mutual
theorem Rp.less (l : ∀ a, a ∈ M' → a ∈ M) : ∀ {v : V} {d : PyData}, Rp K M H v d → Rp K M' H v d
  | _, _, .non => .non
  | _, _, .bl b => .bl b
  | _, _, .int i => .int i
  | _, _, .str x => .str x
  | _, _, .lst n h r => .lst (fun z => n (l _ z)) h (RpA.less l r)
  | _, _, .tup h r => .tup (h.imp (fun z => ⟨fun y => z.1 (l _ y), z.2⟩) id) (RpA.less l r)
theorem RpA.less (l : ∀ a, a ∈ M' → a ∈ M) : ∀ {vs : List V} {ds : List PyData}, RpA K M H vs ds → RpA K M' H vs ds
  | _, _, .nil => .nil
  | _, _, .cons h r => .cons (Rp.less l h) (RpA.less l r)
end
theorem EnvOk.mono (g : Gr M H M' H') (e : EnvOk K ρ σ M H) : EnvOk K ρ σ M' H' := ⟨e.len, fun i u h => let ⟨v, h1, h2⟩ := e.at_ i u h; ⟨v, h1, h2.mono g⟩⟩
theorem EnvOk.set {i : Nat} {v : V} {u : U} (e : EnvOk K ρ σ M H) (h : RU K M H v u) : EnvOk K (ρ.set i (some u)) (σ.set i (some v)) M H := by
  refine ⟨by simp [e.len], fun j w hj => ?_⟩
  by_cases hji : i = j
  · subst hji
    have hl : i < ρ.length := by
      have := (List.getElem?_eq_some_iff.mp hj).1
      simpa using this
    rw [List.getElem?_set_self hl] at hj
    have e' : w = u := by
      have := Option.some.inj hj
      exact (Option.some.inj this).symm
    subst e'
    exact ⟨v, by rw [List.getElem?_set_self (by rw [← e.len]; exact hl)], h⟩
  · rw [List.getElem?_set_ne hji] at hj
    obtain ⟨x, h1, h2⟩ := e.at_ j w hj
    exact ⟨x, by rw [List.getElem?_set_ne hji]; exact h1, h2⟩
theorem EnvOk.unset {i : Nat} (e : EnvOk K ρ σ M H) : EnvOk K (ρ.set i none) (σ.set i none) M H := by
  refine ⟨by simp [e.len], fun j w hj => ?_⟩
  by_cases hji : i = j
  · subst hji
    have hl : i < ρ.length := by
      have := (List.getElem?_eq_some_iff.mp hj).1
      simpa using this
    rw [List.getElem?_set_self hl] at hj
    cases hj
  · rw [List.getElem?_set_ne hji] at hj
    obtain ⟨x, h1, h2⟩ := e.at_ j w hj
    exact ⟨x, by rw [List.getElem?_set_ne hji]; exact h1, h2⟩
theorem EnvOk.wipe (e : EnvOk K ρ σ M H) : ∀ vs : List Nat, EnvOk K (wipe ρ vs) (L2.wipe σ vs) M H
  | [] => e
  | v :: vs => by
    unfold Ev.wipe L2.wipe
    exact (EnvOk.wipe e vs).unset
/-- the error's own dict, if it has one, stands -/
def Dic (d : Option Addr) (H : Hp) : Prop := ∀ dd, d = some dd → ∃ fs, H dd = some (.xd fs)
theorem dic_none {H : Hp} : Dic none H := fun dd h => by cases h
/-- what an evaluation hands on -/
def Out {α β : Type} (K : W.Frag) (T : List (Addr × Str)) (cl : Nat → Option Addr) (E : XK) (M : Ms) (H : Hp) (r : R α) (rel : Ms → Hp → β → α → Prop) (Q : β → Hp → Prop) : Prop :=
  match r with
  | .ok a S => ∀ b M' H', Gr M H M' H' → StOk K T M' S H' → rel M' H' b a → Q b H'
  | .exc c S => ∃ C, cl c = some C ∧ ∀ d M' H', Dic d H' → Gr M H M' H' → StOk K T M' S H' → E (.ref C) d H'
  | .bad => False
theorem Out.ok {α β : Type} {cl : Nat → Option Addr} {E : XK} {a : α} {rel : Ms → Hp → β → α → Prop} {Q : β → Hp → Prop} {b : β} (h : Out K T cl E M H (.ok a S) rel Q) (g : Gr M H M' H') (s : StOk K T M' S H') (r : rel M' H' b a) : Q b H' := h b M' H' g s r
/-- an evaluation behind another one -/
theorem Out.bind {α α' β β' : Type} {cl : Nat → Option Addr} {E : XK} {r : R α} {f : α → Store → R α'} {rel : Ms → Hp → β → α → Prop} {rel' : Ms → Hp → β' → α' → Prop} {Q : β' → Hp → Prop}
    (h : Out K T cl E M H (r.bind f) rel' Q) : Out K T cl E M H r rel fun b H1 => ∃ M1 S1 a, Gr M H M1 H1 ∧ StOk K T M1 S1 H1 ∧ rel M1 H1 b a ∧ Out K T cl E M1 H1 (f a S1) rel' Q := by
  cases r with
  | ok a S => 
    intro b M1 H1 g s q
    refine ⟨M1, S, a, g, s, q, ?_⟩
    have h' : Out K T cl E M H (f a S) rel' Q := h
    cases e : f a S with
    | ok a2 S2 =>
      rw [e] at h'
      exact fun b2 M2 H2 g2 s2 q2 => h' b2 M2 H2 (g.trans g2) s2 q2
    | exc c S2 =>
      rw [e] at h'
      obtain ⟨C, hC, h'⟩ := h'
      exact ⟨C, hC, fun d M2 H2 hd g2 s2 => h' d M2 H2 hd (g.trans g2) s2⟩
    | bad =>
      rw [e] at h'
      exact h'
  | exc c S => exact h
  | bad => exact h
theorem Out.mono {α β : Type} {cl : Nat → Option Addr} {E : XK} {r : R α} {rel : Ms → Hp → β → α → Prop} {Q Q' : β → Hp → Prop} (h : Out K T cl E M H r rel Q) (q : ∀ b H', Q b H' → Q' b H') : Out K T cl E M H r rel Q' := by
  cases r with
  | ok a S => exact fun b M1 H1 g s r => q _ _ (h b M1 H1 g s r)
  | exc c S => exact h
  | bad => exact h
/-- from a later state -/
theorem Out.later {α β : Type} {cl : Nat → Option Addr} {E : XK} {r : R α} {rel : Ms → Hp → β → α → Prop} {Q : β → Hp → Prop} (h : Out K T cl E M H r rel Q) (g : Gr M H M' H') : Out K T cl E M' H' r rel Q := by
  cases r with
  | ok a S => exact fun b M1 H1 g1 s r => h b M1 H1 (g.trans g1) s r
  | exc c S =>
    obtain ⟨C, hC, h⟩ := h
    exact ⟨C, hC, fun d M1 H1 hd g1 s => h d M1 H1 hd (g.trans g1) s⟩
  | bad => exact h
end
end Ev
end

section
set_option Elab.async false
set_option linter.all false
set_option autoImplicit false
set_option maxRecDepth 100000
set_option maxHeartbeats 4000000
/-! # Operators, subscripts, built-ins, methods: by values -/
namespace Ev
open PySem PySem.Spec PyProof.Rows L2

/-- read at a place of the heap, perhaps a box -/
def Rs (K : W.Frag) (M : Ms) (H : Hp) (v : V) : PyData → Prop
  | .list ds => ∃ a xs, v = .ref a ∧ H a = some (.lst xs) ∧ RpA K M H xs ds
  | p => Rp K M H v p
section
variable {K : W.Frag} {T : List (Addr × Str)} {cl : Nat → Option Addr} {E : XK} {M : Ms} {S : Store} {H : Hp} {v : V} {u : U} {p : PyData}
theorem Rp.rs (h : Rp K M H v p) : Rs K M H v p := by
  cases h with
  | lst n r a => exact ⟨_, _, rfl, r, a⟩
  | tup t a => exact .tup t a
  | non => exact .non
  | bl b => exact .bl b
  | int i => exact .int i
  | str x => exact .str x
theorem rs_of (h : RU K M H v u) (s : StOk K T M S H) (e : deref S u = some p) : Rs K M H v p := by
  cases u with
  | d q => cases e; exact Rp.rs h
  | ref i =>
    obtain ⟨a, e1, rfl⟩ := h
    obtain ⟨b, e2, hb⟩ := s.lt e1
    simp only [deref, e2] at e
    cases b with
    | lst ds =>
      cases e
      obtain ⟨xs, e3, r⟩ := hb
      exact ⟨a, xs, rfl, e3, r⟩
    | dct _ => exact hb.elim
    | ins _ _ => exact hb.elim
  | scr ns => cases e
  | obj a => cases e
  | it ds => cases e
theorem Rs.dp (h : Rs K M H v p) : Dp K H v p := by
  cases p with
  | list ds => obtain ⟨a, xs, rfl, r, q⟩ := h; exact .lst (.inl (.inl r)) q.dp
  | none => exact Rp.dp h
  | bool b => exact Rp.dp h
  | int i => exact Rp.dp h
  | str x => exact Rp.dp h
  | tuple ds => exact Rp.dp h
  | dict kvs => exact Rp.dp h
theorem Rs.int {i : Int} (h : Rs K M H v (.int i)) : v = .int i := by cases h; rfl
theorem Rs.bool {i : Bool} (h : Rs K M H v (.bool i)) : v = .bl i := by cases h; rfl
theorem Rs.str {i : Str} (h : Rs K M H v (.str i)) : v = .str i := by cases h; rfl
theorem Rs.none (h : Rs K M H v .none) : v = .non := by cases h; rfl
theorem Rs.tup {ds : List PyData} (h : Rs K M H v (.tuple ds)) : ∃ a xs, v = .ref a ∧ TupAt K M H a xs ∧ RpA K M H xs ds := by
  cases h with
  | tup t r => exact ⟨_, _, rfl, t, r⟩
/-- what is wanted of data that come out -/
def Wish (K : W.Frag) (T : List (Addr × Str)) (M : Ms) (S : Store) (H : Hp) (p : PyData) (Q : VK) : Prop := ∀ v M' H', Gr M H M' H' → StOk K T M' S H' → Rp K M' H' v p → Q v H'
theorem out_data {o : Option PyData} {Q : VK} (h : Out K T cl E M H (R.of S (o.map U.d)) (RU K) Q) : ∃ p, o = some p ∧ Wish K T M S H p Q := by
  cases o with
  | none => exact h.elim
  | some p => exact ⟨p, rfl, h⟩
theorem out_bool {o : Option Bool} {Q : VK} (h : Out K T cl E M H (R.of S (o.map fun b => U.d (.bool b))) (RU K) Q) : ∃ b, o = some b ∧ Wish K T M S H (.bool b) Q := by
  cases o with
  | none => exact h.elim
  | some p => exact ⟨p, rfl, h⟩
theorem bind2 {α β γ : Type} {o : Option α} {q : Option β} {f : α → β → Option γ} {r : γ} (h : (o.bind fun a => q.bind fun b => f a b) = some r) : ∃ a b, o = some a ∧ q = some b ∧ f a b = some r := by
  cases o with
  | none => cases h
  | some a => cases q with
    | none => cases h
    | some b => exact ⟨a, b, rfl, rfl, h⟩
theorem Wish.here {Q : VK} (w : Wish K T M S H p Q) (s : StOk K T M S H) (r : Rp K M H v p) : Q v H := w v M H (Gr.refl _ _) s r
theorem Wish.list {Q : VK} {xs : List V} {ds : List PyData} {q : Addr} (w : Wish K T M S H (.list ds) Q) (s : StOk K T M S H) (hq : H q = none) (r : RpA K M H xs ds) : Q (.ref q) (upd H q (.lst xs)) :=
  w _ M _ (gr_new s hq) (st_new s hq) (.lst (s.free hq) upd_same (r.mono (gr_new s hq)))
/-- a new tuple, its object known -/
abbrev NewT (xs : List V) (H : Hp) (Q : VK) : Prop := ∀ q (o : Obj), o.dict = none → H q = none → Q (.ref q) (upd H q (.frz o (.tup xs)))
theorem Wish.tuple {Q : VK} {xs : List V} {ds : List PyData} (w : Wish K T M S H (.tuple ds) Q) (s : StOk K T M S H) (r : RpA K M H xs ds) : NewT xs H Q := fun q o d hq =>
  w _ M _ (gr_new s hq) (st_new s hq) (.tup (.inl ⟨s.free hq, o, d, upd_same⟩) (r.mono (gr_new s hq)))
abbrev tupO (its : List Value) : Obj := { cls := .type "tuple", data := .seq its.toArray }
theorem new_tup {X : Cx} {pins : List (Addr × Obj)} {σ : L2.St} {H : Hp} {s : Shared} {xs : List V} {its : List Value} {Q : VK} (I : Inv X pins σ H s) (r : Vals xs its) (hz : xs.length ≤ sizeLine) (q : NewT xs H Q) :
    EP X pins σ Q (.ref s.heap.objs.size) { s with heap := s.heap.push (tupO its) } :=
  ⟨.ref s.heap.objs.size, _, I.laid (t' := s.toks) (o := .frz (tupO its) (.tup xs)) (fun b ob e => Heap.get?_push_of_some _ e) (Nat.le_refl _) ⟨Heap.get?_push_size _ rfl, hz, its, r, IsTup.new _ _⟩, rfl, q _ _ rfl (I.hok.fresh (Nat.le_refl _))⟩
end

/-- a two-place operation, by the little language's -/
def rOp (K : W.Frag) (T : List (Addr × Str)) (cl : Nat → Option Addr) (E : XK) (f : U → U → Store → R U) : R2 := fun x y H Q =>
  ∃ M S u w, RU K M H x u ∧ RU K M H y w ∧ StOk K T M S H ∧ Out K T cl E M H (f u w S) (RU K) Q

section
variable {X : Cx} {T : List (Addr × Str)} {cl : Nat → Option Addr} {E : XK} {pins : List (Addr × Obj)} {s : Shared} {σ : L2.St} {H : Hp}
theorem add_gen (l : Addr) (items : Array Value) (n : Nat) (b : Addr) (items2 : Array Value) (n2 : Nat) (dd : Option Addr) (sl : Array (Option Value)) (hsz : items.size + items2.size ≤ sizeLine) :
    Meets (Builtin.«list.__add__» ⟨[.ref l, .ref b], []⟩) (fun _ R s => s.heap.get? l = some { cls := .type "list", data := .seq items n } ∧ s.heap.get? b = some { cls := .type "list", dict := dd, data := .seq items2 n2, slots := sl } ∧
      R (.ok (.ret (Value.ref s.heap.objs.size))) { s with heap := s.heap.push { cls := Value.type "list", data := Data.seq (items ++ items2) } }) :=
  .of_wp fun prog w A R s h => by
    obtain ⟨hp, g, d, tk, os⟩ := s
    obtain ⟨hl, hb, q⟩ := h
    have f1 := AutoSeq1.idx_int
    have f2 := AutoSeq1.sub_list_list
    wp_walk using AutoSeq1.wpAny_loadPart' hl, AutoSeq1.wpAny_loadPart' hb
    exact ⟨_, rfl, q⟩
/-- a list and the script -/
theorem op_catR : OpR X (binaryOp .Add) (fun x y H Q => ∃ l b xs zs, x = .ref l ∧ y = .ref b ∧ H l = some (.lst xs) ∧ SqL X.K H b zs ∧ xs.length + zs.length ≤ sizeLine ∧ ∀ p, H p = none → Q (.ref p) (upd H p (.lst (xs ++ zs)))) := by
  intro pins s σ H x y v u Q I rx ry ⟨l, b, xs, zs, ex, ey, hH, hB, hz, q⟩
  subst ex ey
  cases rx
  cases ry
  obtain ⟨z, its, n, r, hl, e⟩ := I.lstM hH
  obtain ⟨its2, r2, ⟨⟨c2, dd, data, sl⟩, n2, e2, hc, hd, hdt⟩, z2⟩ := I.list hB
  simp only at hc hd hdt
  subst hc hd hdt
  have hl2 := r2.length
  refine PySem.concat_meets ⟨_, e, rfl⟩ ⟨_, e2, rfl⟩ noFill_list_add seq_list_add F.slot_list_add F.entry_list_add (F.args_list_add_2 _ _)
    (add_gen l its.toArray n b its2.toArray n2 _ sl (by rw [List.size_toArray, List.size_toArray, ← hl, ← hl2]; exact hz)) ⟨e, e2, ?_⟩
  rw [show its.toArray ++ its2.toArray = (its ++ its2).toArray by simp]
  exact ⟨.ref _, _, I.lnew (t' := s.toks) (r.append r2) (by rw [List.length_append]; exact hz), rfl, q _ I.fresh⟩
theorem op_inT (hu : X.A.units + 65 < cLine) : OpR X (compareOp .In) (fun x y H Q => ∃ d ds, Dp X.K H x d ∧ Dp X.K H y (.tuple ds) ∧ SeqAt.shaped d = true ∧ SeqAt.shaped (.tuple ds) = true ∧ Q (.bl (ds.any fun z => PyData.eqv z d)) H) := by
  intro pins s σ H x y v u Q I rx ry h
  obtain ⟨d, ds, hd, he, sd, se, q⟩ := h
  obtain ⟨as, r1⟩ := Dp.reads I d x v hd rx
  obtain ⟨bs, r2⟩ := Dp.reads I (.tuple ds) y u he ry
  exact SeqAt.in_tuple_reads r2 r1 (SeqAt.canLay_of_shaped se) (SeqAt.canLay_of_shaped sd) (room_in_shaped sd hu) ⟨.bl _, H, I, rfl, q⟩
theorem op_notInT (hu : X.A.units + 65 < cLine) : OpR X (compareOp .NotIn) (fun x y H Q => ∃ d ds, Dp X.K H x d ∧ Dp X.K H y (.tuple ds) ∧ SeqAt.shaped d = true ∧ SeqAt.shaped (.tuple ds) = true ∧ Q (.bl (!ds.any fun z => PyData.eqv z d)) H) := by
  intro pins s σ H x y v u Q I rx ry h
  obtain ⟨d, ds, hd, he, sd, se, q⟩ := h
  obtain ⟨as, r1⟩ := Dp.reads I d x v hd rx
  obtain ⟨bs, r2⟩ := Dp.reads I (.tuple ds) y u he ry
  exact SeqAt.notIn_tuple_reads r2 r1 (SeqAt.canLay_of_shaped se) (SeqAt.canLay_of_shaped sd) (room_in_shaped sd hu) ⟨.bl _, H, I, rfl, q⟩
theorem op_ltD (hu : X.A.units + 64 < cLine) : OpR X (compareOp .Lt) (fun x y H Q => ∃ d e, Dp X.K H x d ∧ Dp X.K H y e ∧ SeqAt.shaped d = true ∧ W.alike d e = true ∧ d ≠ .none ∧ Q (.bl (W.dataLt d e)) H) := by
  intro pins s σ H x y v u Q I rx ry h
  obtain ⟨d, e, hd, he, sd, al, ne, q⟩ := h
  obtain ⟨as, r1⟩ := Dp.reads I d x v hd rx
  obtain ⟨bs, r2⟩ := Dp.reads I e y u he ry
  exact W.rcLt_alike d e X.A s v u as bs r1 r2 al ne (SeqAt.room_of_shaped sd hu) _ _ _ _ ⟨.bl _, H, I, rfl, q⟩

theorem line_eq : line = sizeLine := by rw [sizeLine_eq]
theorem str_rep (x : Str) (k : Nat) : (List.replicate k x.cps).foldl (· ++ ·) #[] = ((List.replicate k x.cps.toList).flatten).toArray := by
  have h : ∀ (m : Nat) (acc : Array Nat), (List.replicate m x.cps).foldl (· ++ ·) acc = acc ++ ((List.replicate m x.cps.toList).flatten).toArray := fun m => by
    induction m with
    | zero => intro acc; simp
    | succ m ih =>
      intro acc
      rw [List.replicate_succ, List.foldl_cons, ih, List.replicate_succ, List.flatten_cons]
      rw [Array.append_assoc]
      congr 1
      apply Array.toList_inj.mp
      simp
  rw [h]
  simp
/-- text * int -/
theorem op_repS : OpR X (binaryOp .Mult) (fun x y H Q => ∃ (a : Str) (k : Int), x = .str a ∧ y = .int k ∧ 0 ≤ k ∧ k ≤ 1000 ∧ a.length ≤ 1000 ∧ Q (.str ⟨(reps k a.cps.toList).toArray⟩) H) := by
  intro pins s σ H x y v u Q I rx ry ⟨a, k, ex, ey, h0, h1, hz, q⟩
  subst ex ey
  obtain ⟨t, rfl⟩ := rx
  obtain ⟨t', rfl⟩ := ry
  have hlen : a.length * k.toNat ≤ 1000 * 1000 := Nat.mul_le_mul hz (by omega)
  have hN : (a.length : Int) * k ≤ 1000 * 1000 := Int.le_trans (Int.mul_le_mul_of_nonneg_right (show (a.length : Int) ≤ 1000 by omega) h0) (by omega)
  refine PySem.P.mul_str (by rw [decide_eq_false (by omega), decide_eq_false (by omega)]; rfl) (fun h2 _ => ?_) (fun h2 _ => ?_) ?_
  · have := Int.le_ediv_of_mul_le (a := (a.length : Int)) (b := 2 ^ 63 - 1) (c := k) (by omega) (by omega)
    omega
  · unfold Builtin.Str.tooLong
    exact decide_eq_false (by rw [sizeLine_eq]; omega)
  · by_cases h2 : k < 1
    · rw [if_pos h2]
      have e : k = 0 := by omega
      subst e
      exact ⟨by decide, ⟨.str _, H, I.tok _, ⟨_, rfl⟩, q⟩⟩
    · rw [if_neg h2]
      by_cases h3 : (k == 1 || a.length == 0) = true
      · rw [if_pos h3]
        have e : (⟨(reps k a.cps.toList).toArray⟩ : Str) = a := by
          rw [Bool.or_eq_true, beq_iff_eq, beq_iff_eq] at h3
          have : reps k a.cps.toList = a.cps.toList := by
            rcases h3 with h3 | h3
            · subst h3
              unfold reps
              simp
            · have h4 : a.cps.toList = [] := by
                unfold Str.length at h3
                exact List.eq_nil_of_length_eq_zero (by simpa using h3)
              unfold reps
              rw [h4]
              simp
          rw [this]
        rw [e] at q
        exact ⟨.str _, H, I, ⟨_, rfl⟩, q⟩
      · rw [if_neg h3]
        refine ⟨?_, ?_⟩
        · rw [str_rep]
          unfold Str.length
          rw [List.size_toArray, PyProof.Rows.lm_len_rep_flat, sizeLine_eq]
          unfold Str.length at hlen
          rw [Array.length_toList, Nat.mul_comm]
          omega
        · rw [str_rep]
          exact ⟨.str _, H, I.tok _, ⟨_, rfl⟩, q⟩
theorem tuple_mul1 (l : Addr) (items : Array Value) (n : Nat) (dd : Option Addr) (sl : Array (Option Value)) (u : Tok) :
    Meets (Builtin.«tuple.__mul__» ⟨[.ref l, .int 1 u], []⟩) (fun _ R s => s.heap.get? l = some { cls := .type "tuple", dict := dd, data := .seq items n, slots := sl } ∧ R (.ok (.ret (Value.ref l))) s) :=
  .of_wp fun prog w A R s h => by
    obtain ⟨hp, g, d, tk, os⟩ := s
    obtain ⟨hl, q⟩ := h
    have f1 := AutoSeq1.idx_int
    wp_walk using AutoSeq1.wpAny_loadPart' hl
    exact ⟨_, rfl, q⟩
/-- tuple + tuple -/
theorem op_catF : OpR X (binaryOp .Add) (fun x y H Q => ∃ a b xs ys, x = .ref a ∧ y = .ref b ∧ SqT X.K H a xs ∧ SqT X.K H b ys ∧ xs.length + ys.length ≤ sizeLine ∧ (xs = [] → Q (.ref b) H) ∧ (xs ≠ [] → ys = [] → Q (.ref a) H) ∧ NewT (xs ++ ys) H Q) := by
  intro pins s σ H x y v u Q I rx ry ⟨a, b, xs, ys, ex, ey, ha, hb, hz, q0, q1, q2⟩
  subst ex ey
  cases rx
  cases ry
  obtain ⟨its, r1, p1, _⟩ := I.tuple ha
  obtain ⟨its2, r2, p2, _⟩ := I.tuple hb
  by_cases hx : xs = []
  · have e := r1.nil_iff.mpr hx
    subst e
    exact cat_tup0 p1 p2 ⟨.ref b, H, I, rfl, q0 hx⟩
  · refine HT.cat_tup p1 p2 (fun z => hx (r1.nil_iff.mp z)) (fun z => ⟨.ref a, H, I, rfl, q1 hx (r2.nil_iff.mp z)⟩) (fun _ => ?_) (by rw [← r1.length, ← r2.length]; exact hz)
    exact new_tup I (r1.append r2) (by rw [List.length_append]; exact hz) q2
/-- tuple * int -/
theorem op_repU : OpR X (binaryOp .Mult) (fun x y H Q => ∃ l k xs, x = .ref l ∧ y = .int k ∧ SqT X.K H l xs ∧ xs ≠ [] ∧ 1 ≤ k ∧ k ≤ 1000 ∧ xs.length ≤ 1000 ∧ (k = 1 → Q (.ref l) H) ∧ NewT (List.replicate k.toNat xs).flatten H Q) := by
  intro pins s σ H x y v u Q I rx ry ⟨l, k, xs, ex, ey, hT, hne, h1, h2, hz, q1, q2⟩
  subst ex ey
  cases rx
  obtain ⟨t, rfl⟩ := ry
  obtain ⟨its, r, ⟨⟨c2, dd, data, sl⟩, ho, hc, n, hd⟩, z⟩ := I.tuple hT
  simp only at hc hd
  subst hc hd
  have hlen : its.length = xs.length := r.length.symm
  refine wpAny_binaryOp_repeat_ref (T := "tuple") (U := "int") (by decide) ⟨_, ho, rfl⟩ (fun s' => typeIs_int s' k t) noFill_tuple_mul F.fills_int_mul F.slot_int_rmul repeat_tuple F.slot_int_index.lookup ?_
  refine call_meets F.slot_int_rmul (typeIs_int s k t) F.entry_int_rmul (F.args_int_rmul_2 _ _) (int_rmul_tuple k t l its.toArray n dd sl) ⟨ho, rfl, ⟨_, ho, rfl⟩, ?_⟩
  by_cases hk : k = 1
  · subst hk
    exact call_meets F.slot_tuple_mul ⟨_, ho, rfl⟩ F.entry_tuple_mul (F.args_tuple_mul_2 _ _) (tuple_mul1 l its.toArray n dd sl t) ⟨ho, .ref l, H, I, rfl, q1 rfl⟩
  · have hn : its ≠ [] := fun e => hne (List.eq_nil_of_length_eq_zero (by rw [← hlen, e]; rfl))
    have he : its.toArray.isEmpty = false := by cases its with
      | nil => exact absurd rfl hn
      | cons a b => rfl
    have hm : (its.length : Int) * k ≤ 1000000 := by
      have a1 : (its.length : Int) * k ≤ 1000 * k := Int.mul_le_mul_of_nonneg_right (by omega) (by omega)
      omega
    have fl : ∀ {α : Type} (l : List α), l.length = xs.length → (List.replicate k.toNat l).flatten.length ≤ sizeLine := fun l hl => by
      rw [PyProof.Rows.lm_len_rep_flat, hl, sizeLine_eq]
      exact Nat.le_trans (Nat.mul_le_mul (show k.toNat ≤ 1000 by omega) hz) (by decide)
    refine call_meets F.slot_tuple_mul ⟨_, ho, rfl⟩ F.entry_tuple_mul (F.args_tuple_mul_2 _ _) (tuple_mulW l its.toArray n dd sl k t ?_ ?_ ?_ ?_ ?_ ?_) ⟨ho, ?_⟩
    · rw [decide_eq_false (by omega), decide_eq_false (by omega)]; rfl
    · rw [he, Bool.false_or]; exact beq_eq_false_iff_ne.mpr hk
    · rw [he, Bool.or_false]; exact decide_eq_false (by omega)
    · rw [List.size_toArray]; omega
    · unfold Builtin.Tuple.tupleTooMany
      rw [sizeLine_eq, List.size_toArray]
      exact decide_eq_false (by omega)
    · rw [size_rep, List.size_toArray]; exact fl its hlen
    · rw [size_rep]
      exact new_tup I (r.rep k.toNat) (fl xs rfl) q2
theorem mulok {i j : Int} (h : mulOk i j = true) : IntMulOk i j := by
  unfold mulOk smallI at h
  simp only [Bool.or_eq_true, Bool.and_eq_true, decide_eq_true_eq] at h
  rcases h with (h | h) | h
  · exact CMul.ok (.inl h)
  · exact CMul.ok (.inr h)
  · exact CMulW.ok h
theorem op_mulA : OpR X (binaryOp .Mult) (fun x y H Q => ∃ i j, x = .int i ∧ y = .int j ∧ mulOk i j = true ∧ Q (.int (i * j)) H) := by
  intro pins s σ H x y v u Q I rx ry ⟨i, j, ex, ey, hm, q⟩
  subst ex ey
  obtain ⟨t, rfl⟩ := rx
  obtain ⟨t', rfl⟩ := ry
  exact mul_int ⟨.int _, H, I.tok _, ⟨_, rfl⟩, q⟩ (mulok hm)
/-- a truth value and a whole number -/
theorem op_addB : OpR X (binaryOp .Add) (fun x y H Q => ∃ b j, x = .bl b ∧ y = .int j ∧ Q (.int (b2i b + j)) H) := by
  intro pins s σ H x y v u Q I rx ry ⟨b, j, ex, ey, q⟩
  subst ex ey
  cases rx
  obtain ⟨t', rfl⟩ := ry
  exact PySem.IntBool.add_bool_int ⟨.int _, H, I.tok _, ⟨_, rfl⟩, q⟩
theorem op_subB : OpR X (binaryOp .Sub) (fun x y H Q => ∃ b j, x = .bl b ∧ y = .int j ∧ Q (.int (b2i b - j)) H) := by
  intro pins s σ H x y v u Q I rx ry ⟨b, j, ex, ey, q⟩
  subst ex ey
  cases rx
  obtain ⟨t', rfl⟩ := ry
  exact PySem.IntBool.sub_bool_int ⟨.int _, H, I.tok _, ⟨_, rfl⟩, q⟩
theorem flat_one (xs : List V) : (List.replicate (1 : Int).toNat xs).flatten = xs := by simp
/-- the operators -/
theorem bin_ok (o : Operator) : OpR X (binaryOp o) (rOp X.K T cl E (binU o)) := by
  intro pins s σ H x y v u Q I rx ry h
  obtain ⟨M, S, a, b, ra, rb, st, h⟩ := h
  have pl : ∀ {S' : Store}, Out X.K T cl E M H (R.of S (((deref S a).bind fun p => (deref S b).bind fun q => binD o p q).map U.d)) (RU X.K) Q → ∃ p q r, Rs X.K M H x p ∧ Rs X.K M H y q ∧ binD o p q = some r ∧ Wish X.K T M S H r Q := fun {S'} h => by
    obtain ⟨r, e, w⟩ := out_data h
    obtain ⟨p, q, e1, e2, e3⟩ := bind2 e
    exact ⟨p, q, r, rs_of ra st e1, rs_of rb st e2, e3, w⟩
  have main : (∃ p q r, Rs X.K M H x p ∧ Rs X.K M H y q ∧ binD o p q = some r ∧ Wish X.K T M S H r Q) → wpAny (model X.prog X.w) X.A (binaryOp o v u) (EP X pins σ Q) X.xe s := by
    rintro ⟨p, q, r, rp, rq, e, w⟩
    unfold binD at e
    split at e
    · cases e
      exact op_add pins s σ H x y v u Q I rx ry ⟨_, _, rp.int, rq.int, w.here st (.int _)⟩
    · cases e
      exact op_sub pins s σ H x y v u Q I rx ry ⟨_, _, rp.int, rq.int, w.here st (.int _)⟩
    · split at e
      · cases e
        exact op_mulA pins s σ H x y v u Q I rx ry ⟨_, _, rp.int, rq.int, by assumption, w.here st (.int _)⟩
      · cases e
    · split at e
      · rename_i hc
        cases e
        exact op_fdivW pins s σ H x y v u Q I rx ry ⟨_, _, rp.int, rq.int, hc, w.here st (.int _)⟩
      · cases e
    · split at e
      · rename_i hc
        cases e
        exact op_mod pins s σ H x y v u Q I rx ry ⟨_, _, rp.int, rq.int, hc, w.here st (.int _)⟩
      · cases e
    · split at e
      · rename_i hc
        cases e
        exact op_pow pins s σ H x y v u Q I rx ry ⟨_, _, rp.int, rq.int, hc, w.here st (.int _)⟩
      · cases e
    · split at e
      · rename_i hc
        cases e
        exact op_add_str pins s σ H x y v u Q I rx ry ⟨_, _, rp.str, rq.str, by rw [← line_eq]; exact hc, w.here st (.str _)⟩
      · cases e
    · split at e
      · rename_i hc
        cases e
        obtain ⟨a1, xs, e1, h1, r1⟩ := rp
        obtain ⟨a2, ys, e2, h2, r2⟩ := rq
        refine op_cat pins s σ H x y v u Q I rx ry ⟨a1, a2, xs, ys, e1, e2, h1, h2, by rw [r1.length, r2.length, ← line_eq]; exact hc, fun p hp => w.list st hp (r1.append r2)⟩
      · cases e
    · split at e
      · rename_i hc
        cases e
        obtain ⟨a1, xs, e1, h1, r1⟩ := rp.tup
        obtain ⟨a2, ys, e2, h2, r2⟩ := rq.tup
        refine op_catF pins s σ H x y v u Q I rx ry ⟨a1, a2, xs, ys, e1, e2, h1.sq, h2.sq, by rw [r1.length, r2.length, ← line_eq]; exact hc, fun z => ?_, fun _ z => ?_, w.tuple st (r1.append r2)⟩
        · subst z
          cases r1
          exact w.here st (.tup h2 r2)
        · subst z
          cases r2
          rw [List.append_nil] at w
          exact w.here st (.tup h1 r1)
      · cases e
    · split at e
      · rename_i hc
        cases e
        obtain ⟨a1, xs, e1, h1, r1⟩ := rp
        have hl := r1.length
        refine op_rep pins s σ H x y v u Q I rx ry ⟨a1, _, xs, e1, rq.int, h1, by omega, by omega, ?_, fun p hp => w.list st hp (r1.flat _)⟩
        rw [sizeLine_eq]
        exact Nat.le_trans (Nat.mul_le_mul (show xs.length ≤ 1000 by omega) (show _ ≤ 1000 by omega)) (by decide)
      · cases e
    · split at e
      · rename_i hc
        cases e
        obtain ⟨a1, xs, e1, h1, r1⟩ := rp.tup
        have hl := r1.length
        refine op_repU pins s σ H x y v u Q I rx ry ⟨a1, _, xs, e1, rq.int, h1.sq, ?_, hc.1, hc.2.1, by omega, fun z => ?_, w.tuple st (r1.flat _)⟩
        · rintro rfl
          cases r1
          exact absurd hc.2.2.2 (by simp)
        · subst z
          unfold reps at w
          have e3 : ∀ {α : Type} (l : List α), (List.replicate (1 : Int).toNat l).flatten = l := fun l => by simp
          rw [e3] at w
          exact w.here st (.tup h1 r1)
      · cases e
    · split at e
      · rename_i hc
        cases e
        exact op_repS pins s σ H x y v u Q I rx ry ⟨_, _, rp.str, rq.int, hc.1, hc.2.1, hc.2.2, w.here st (.str _)⟩
      · cases e
    · cases e
      exact op_addB pins s σ H x y v u Q I rx ry ⟨_, _, rp.bool, rq.int, w.here st (.int _)⟩
    · cases e
      exact op_subB pins s σ H x y v u Q I rx ry ⟨_, _, rp.bool, rq.int, w.here st (.int _)⟩
    · cases e
  unfold binU at h
  split at h
  · rename_i ns
    obtain ⟨r, e, w⟩ := out_data h
    cases e1 : deref S a with
    | none => rw [e1] at e; cases e
    | some p =>
      rw [e1] at e
      have rp := rs_of ra st e1
      obtain ⟨b1, e4, hb⟩ := rb
      cases p with
      | list ds =>
        have e : (if ds.length + ns.length ≤ line then some (PyData.list (ds ++ ns.map .int)) else none) = some r := e
        split at e
        · rename_i hc
          cases e
          obtain ⟨a1, xs, e5, h1, r1⟩ := rp
          have hl := r1.length
          refine op_catR pins s σ H x y v u Q I rx ry ⟨a1, b1, xs, _, e5, e4, h1, hb.sq, by rw [List.length_map, ← line_eq]; omega, fun p hp => w.list st hp (r1.append ?_)⟩
          have : ∀ l : List Int, RpA X.K M H (l.map V.int) (l.map PyData.int) := fun l => by
            induction l with
            | nil => exact .nil
            | cons z l ih => exact .cons (.int z) ih
          exact this ns
        · cases e
      | _ => cases e
  · exact main (pl (S' := S) h)
end
end Ev
end

section
set_option Elab.async false
set_option linter.all false
set_option autoImplicit false
set_option maxRecDepth 100000
set_option maxHeartbeats 4000000
namespace Ev
open PySem PySem.Spec PyProof.Rows L2
section
variable {X : Cx} {T : List (Addr × Str)} {cl : Nat → Option Addr} {E : XK}
theorem op_leI : OpR X (compareOp .LtE) (rI0 fun i j => .bl (decide (i ≤ j))) := op_le
theorem shaped2 {x y : PyData} {b : Bool} {k : Bool} (h : (if (SeqAt.shaped x && SeqAt.shaped y) = true then some k else none) = some b) : SeqAt.shaped x = true ∧ SeqAt.shaped y = true ∧ k = b := by
  split at h
  · rename_i hc
    rw [Bool.and_eq_true] at hc
    exact ⟨hc.1, hc.2, Option.some.inj h⟩
  · cases h
theorem map_not {o : Option Bool} {b : Bool} (h : o.map (!·) = some b) : ∃ k, o = some k ∧ (!k) = b := by
  cases o with
  | none => cases h
  | some k => exact ⟨k, rfl, Option.some.inj h⟩
theorem eqD_in {x y : PyData} {b : Bool} (h : eqD x y = some b) : SeqAt.shaped x = true ∧ SeqAt.shaped y = true ∧ PyData.eqv x y = b := shaped2 h
theorem none_iff {K : W.Frag} {M : Ms} {H : Hp} {x : V} {p : PyData} (h : Rs K M H x p) : decide (x = .non) = isNone p := by
  cases p with
  | none => rw [h.none]; rfl
  | list ds =>
    obtain ⟨a, xs, e, _⟩ := h
    rw [e]
    rfl
  | bool b => rw [h.bool]; rfl
  | int b => rw [h.int]; rfl
  | str b => rw [h.str]; rfl
  | tuple ds =>
    obtain ⟨a, xs, e, _⟩ := h.tup
    rw [e]
    rfl
  | dict kvs => cases h
/-- the comparisons -/
theorem cmp_ok (o : CmpOp) (hu : X.A.units + 65 < cLine) : OpR X (compareOp o) (rOp X.K T cl E (fun x y S => R.of S ((cmpU o x y S).map fun b => U.d (.bool b)))) := by
  intro pins s σ H x y v u Q I rx ry ⟨M, S, a, b, ra, rb, st, h⟩
  obtain ⟨k, e, w⟩ := out_bool h
  obtain ⟨p, q, e1, e2, e3⟩ := bind2 e
  have rp := rs_of ra st e1
  have rq := rs_of rb st e2
  have fin : Q (.bl k) H := w.here st (.bl k)
  have h64 : X.A.units + 64 < cLine := by omega
  cases o with
  | Eq =>
    obtain ⟨s1, s2, rfl⟩ := eqD_in e3
    exact op_eqD h64 pins s σ H x y v u Q I rx ry ⟨p, q, rp.dp, rq.dp, s1, s2, fin⟩
  | NotEq =>
    obtain ⟨k', e4, rfl⟩ := map_not e3
    obtain ⟨s1, s2, rfl⟩ := eqD_in e4
    exact op_neD h64 pins s σ H x y v u Q I rx ry ⟨p, q, rp.dp, rq.dp, s1, s2, fin⟩
  | In =>
    have e3 : inD p q = some k := e3
    cases q with
    | list ys =>
      obtain ⟨s1, s2, rfl⟩ := shaped2 e3
      exact op_inD hu pins s σ H x y v u Q I rx ry ⟨p, ys, rp.dp, rq.dp, s1, s2, fin⟩
    | tuple ys =>
      obtain ⟨s1, s2, rfl⟩ := shaped2 e3
      exact op_inT hu pins s σ H x y v u Q I rx ry ⟨p, ys, rp.dp, rq.dp, s1, s2, fin⟩
    | str z =>
      cases p with
      | str z1 =>
        cases e3
        exact op_in_str pins s σ H x y v u Q I rx ry ⟨z1, z, rp.str, rq.str, fin⟩
      | _ => cases e3
    | _ => cases e3
  | NotIn =>
    obtain ⟨k', e4, rfl⟩ := map_not e3
    cases q with
    | list ys =>
      obtain ⟨s1, s2, rfl⟩ := shaped2 e4
      exact op_notInD hu pins s σ H x y v u Q I rx ry ⟨p, ys, rp.dp, rq.dp, s1, s2, fin⟩
    | tuple ys =>
      obtain ⟨s1, s2, rfl⟩ := shaped2 e4
      exact op_notInT hu pins s σ H x y v u Q I rx ry ⟨p, ys, rp.dp, rq.dp, s1, s2, fin⟩
    | str z =>
      cases p with
      | str z1 =>
        cases e4
        exact op_notIn_str pins s σ H x y v u Q I rx ry ⟨z1, z, rp.str, rq.str, fin⟩
      | _ => cases e4
    | _ => cases e4
  | Lt =>
    have e3 : ltD p q = some k := e3
    unfold ltD at e3
    split at e3
    · cases e3
      exact op_lt pins s σ H x y v u Q I rx ry ⟨_, _, rp.int, rq.int, fin⟩
    · cases e3
      exact op_lt_str pins s σ H x y v u Q I rx ry ⟨_, _, rp.str, rq.str, fin⟩
    · split at e3
      · rename_i hc
        simp only [Bool.and_eq_true] at hc
        cases e3
        exact op_ltD h64 pins s σ H x y v u Q I rx ry ⟨_, _, rp.dp, rq.dp, hc.1.2, hc.1.1, (fun z => by cases z), fin⟩
      · cases e3
    · cases e3
  | Gt =>
    have e3 : gtD p q = some k := e3
    unfold gtD at e3
    split at e3
    · cases e3
      exact op_gt pins s σ H x y v u Q I rx ry ⟨_, _, rp.int, rq.int, fin⟩
    · cases e3
  | LtE =>
    have e3 : leD p q = some k := e3
    unfold leD at e3
    split at e3
    · cases e3
      exact op_leI pins s σ H x y v u Q I rx ry ⟨_, _, rp.int, rq.int, fin⟩
    · cases e3
  | GtE =>
    have e3 : geD p q = some k := e3
    unfold geD at e3
    split at e3
    · cases e3
      exact op_ge pins s σ H x y v u Q I rx ry ⟨_, _, rp.int, rq.int, fin⟩
    · cases e3
  | Is =>
    have e3 : isD p q = some k := e3
    cases q with
    | none =>
      cases e3
      exact op_isN pins s σ H x y v u Q I rx ry ⟨rq.none, by rw [none_iff rp]; exact fin⟩
    | bool b =>
      cases p with
      | bool a =>
        cases e3
        exact op_isBl pins s σ H x y v u Q I rx ry ⟨_, _, rp.bool, rq.bool, fin⟩
      | _ => cases e3
    | _ => cases e3
  | IsNot =>
    obtain ⟨k', e4, rfl⟩ := map_not e3
    cases q with
    | none =>
      cases e4
      exact op_notN pins s σ H x y v u Q I rx ry ⟨rq.none, by rw [none_iff rp]; exact fin⟩
    | bool b =>
      cases p with
      | bool a =>
        cases e4
        exact op_notBl pins s σ H x y v u Q I rx ry ⟨_, _, rp.bool, rq.bool, fin⟩
      | _ => cases e4
    | _ => cases e4
theorem atI_map {α β : Type} {R : α → β → Prop} {xs : List α} {ds : List β} {i : Int} {d : β} (hl : xs.length = ds.length) (g : ∀ (j : Nat) d, ds[j]? = some d → ∃ v, xs[j]? = some v ∧ R v d) (h : atI ds i = some d) : ∃ v, atI xs i = some v ∧ R v d := by
  unfold atI at h ⊢
  rw [hl]
  cases e : ixN ds.length i with
  | none => rw [e] at h; cases h
  | some j =>
    rw [e] at h
    exact g j d h
def fIdx (x y : U) (S : Store) : R U := R.of S (((deref S x).bind fun p => (deref S y).bind fun q => idxD p q).map .d)
theorem idx_ok : IxR X (rOp X.K T cl E fIdx) := by
  intro value slice pins s σ H x y v u Q I rx ry ⟨M, S, a, b, ra, rb, st, h⟩ hs
  obtain ⟨r, e, w⟩ := out_data h
  obtain ⟨p, q, e1, e2, e3⟩ := bind2 e
  have rp := rs_of ra st e1
  have rq := rs_of rb st e2
  unfold idxD at e3
  split at e3
  · obtain ⟨a1, xs, h1, h2, h3⟩ := rp
    obtain ⟨z, h4, h5⟩ := atI_map (R := Rp X.K M H) h3.length (fun j d hd => h3.get hd) e3
    exact ix_list value slice pins s σ H x y v u Q I rx ry ⟨a1, xs, _, z, h1, rq.int, SqL.of h2, h4, w.here st h5⟩ hs
  · obtain ⟨a1, xs, h1, h2, h3⟩ := rp.tup
    obtain ⟨z, h4, h5⟩ := atI_map (R := Rp X.K M H) h3.length (fun j d hd => h3.get hd) e3
    exact ix_tup value slice pins s σ H x y v u Q I rx ry ⟨a1, xs, _, z, h1, rq.int, h2.sq, h4, w.here st h5⟩ hs
  · split at e3
    · rename_i z i hz
      cases e4 : atI z.cps.toList i with
      | none => rw [e4] at e3; cases e3
      | some c =>
        rw [e4] at e3
        cases e3
        exact ix_str value slice pins s σ H x y v u Q I rx ry ⟨z, i, c, rp.str, rq.int, by rw [← line_eq]; exact hz, e4, w.here st (.str _)⟩ hs
    · cases e3
  · cases e3
/-- slices -/
def rSlc (K : W.Frag) (T : List (Addr × Str)) : V → Option Int → Option Int → Hp → VK → Prop := fun x lo hi H Q => ∃ M S u p r, RU K M H x u ∧ StOk K T M S H ∧ deref S u = some p ∧ slcD p lo hi = some r ∧ Wish K T M S H r Q
theorem cut_all {α : Type} {xs : List α} {lo hi : Option Int} (h : HT.sIx xs.length 0 lo = 0 ∧ HT.sIx xs.length xs.length hi = xs.length) : cutD xs lo hi = xs := by
  unfold cutD
  rw [h.1, h.2]
  simp
/-- a tuple cut: the whole of it is itself -/
theorem sl_tupF : SlR X (fun x lo hi H Q => ∃ a xs, x = .ref a ∧ SqT X.K H a xs ∧ (HT.sIx xs.length 0 lo = 0 ∧ HT.sIx xs.length xs.length hi = xs.length → Q (.ref a) H) ∧ NewT (cutV xs lo hi) H Q) := by
  intro pins s σ H x v vl vu lo hi sl Q I rx hs pl pu ⟨a, xs, ex, hx, q1, q2⟩
  subst ex
  by_cases hw : HT.sIx xs.length 0 lo = 0 ∧ HT.sIx xs.length xs.length hi = xs.length
  · exact sl_tupA pins s σ H _ v vl vu lo hi sl Q I rx hs pl pu ⟨a, xs, rfl, hx, q1, fun no => absurd hw no⟩
  · cases rx
    obtain ⟨its, r, ht, hz⟩ := I.tuple hx
    have hlen : its.toArray.size = xs.length := by rw [List.size_toArray]; exact r.length.symm
    refine ⟨"tuple", _, PyProof.Rows.slot_tuple_getitem.lookup, ht.typeIs, ?_⟩
    refine HT.getItem_tuple_cut ht hs pl pu (by rw [hlen]; exact hw) ?_ (by rw [hlen]; exact hz)
    rw [hlen]
    exact new_tup I ((r.drop (HT.sIx xs.length 0 lo)).take (HT.sIx xs.length xs.length hi - HT.sIx xs.length 0 lo)) (Nat.le_trans (cutV_length xs lo hi) hz) q2
theorem slc_ok : SlR X (rSlc X.K T) := by
  intro pins s σ H x v vl vu lo hi sl Q I rx hs pl pu ⟨M, S, u, p, r, ru, st, e1, e2, w⟩
  have rp := rs_of ru st e1
  unfold slcD at e2
  split at e2
  · cases e2
    obtain ⟨a1, xs, h1, h2, h3⟩ := rp
    refine sl_list pins s σ H x v vl vu lo hi sl Q I rx hs pl pu ⟨a1, xs, h1, SqL.of h2, fun q hq => w.list st hq ?_⟩
    unfold cutV cutD
    rw [h3.length]
    exact (h3.drop _).take _
  · cases e2
    obtain ⟨a1, xs, h1, h2, h3⟩ := rp.tup
    subst h1
    refine sl_tupF pins s σ H _ v vl vu lo hi sl Q I rx hs pl pu ⟨a1, xs, rfl, h2.sq, fun hw => ?_, w.tuple st ?_⟩
    · rw [cut_all (by rw [← h3.length]; exact hw)] at w
      exact w.here st (.tup h2 h3)
    · unfold cutV cutD
      rw [h3.length]
      exact (h3.drop _).take _
  · split at e2
    · rename_i z hz
      cases e2
      exact sl_str pins s σ H x v vl vu lo hi sl Q I rx hs pl pu ⟨z, rp.str, by rw [← line_eq]; exact hz, w.here st (.str _)⟩
    · cases e2
  · cases e2
/-- truth -/
def rTru (K : W.Frag) (T : List (Addr × Str)) : V → Hp → (Bool → Hp → Prop) → Prop := fun x H Q => ∃ M S u p b, RU K M H x u ∧ StOk K T M S H ∧ deref S u = some p ∧ truD p = some b ∧ Q b H
theorem emp_eq {K : W.Frag} {M : Ms} {H : Hp} {xs : List V} {ds : List PyData} (h : RpA K M H xs ds) : xs.isEmpty = ds.isEmpty := by cases h <;> rfl
theorem truV_of {K : W.Frag} {T : List (Addr × Str)} {M : Ms} {S : Store} {H : Hp} {x : V} {u : U} {p : PyData} {b : Bool} (ru : RU K M H x u) (st : StOk K T M S H) (e1 : deref S u = some p) (e2 : truD p = some b) : TruV K x H b := by
  have rp := rs_of ru st e1
  unfold truD at e2
  split at e2
  · cases e2; rw [rp.none]; exact rfl
  · cases e2; rw [rp.bool]; exact rfl
  · cases e2; rw [rp.int]; exact rfl
  · cases e2
    obtain ⟨a1, xs, h1, h2, h3⟩ := rp
    rw [h1, ← emp_eq h3]
    exact .inl ⟨xs, SqL.of h2, rfl⟩
  · cases e2
    obtain ⟨a1, xs, h1, h2, h3⟩ := rp.tup
    rw [h1, ← emp_eq h3]
    exact .inr (.inl ⟨xs, h2.sq, rfl⟩)
  · cases e2
end
end Ev
end

section
set_option Elab.async false
set_option linter.all false
set_option autoImplicit false
set_option maxRecDepth 100000
set_option maxHeartbeats 4000000
namespace Ev
open PySem PySem.Spec PyProof.Rows L2
/-- the types that isinstance is asked of -/
abbrev askT : List String := ["int", "bool", "str", "tuple", "list"]
theorem kit_all : (askT.all fun T => ["NoneType", "bool", "int", "str", "list", "tuple"].all fun n => decide (kitB n T = some (n == T || (T == "int" && n == "bool")))) = true := by decide +kernel
section
variable {X : Cx} {T : List (Addr × Str)} {cl : Nat → Option Addr} {E : XK}
/-- a built-in of one argument, by the little language's -/
def rB (K : W.Frag) (T : List (Addr × Str)) (b : Blt) : List V → Hp → VK → Prop := fun xs H Q => ∃ M S x u p r, xs = [x] ∧ RU K M H x u ∧ StOk K T M S H ∧ deref S u = some p ∧ bltD b p = some r ∧ Wish K T M S H r Q
theorem bools_of {K : W.Frag} {M : Ms} {H : Hp} : ∀ {xs : List V} {ds : List PyData} {bs : List Bool}, RpA K M H xs ds → boolsD ds = some bs → xs = bs.map V.bl
  | _, _, _, .nil, e => by cases e; rfl
  | _, _, bs, .cons (d := d) h r, e => by
    cases d with
    | bool b =>
      unfold boolsD at e
      rename_i us vs
      cases e1 : boolsD vs with
      | none => rw [e1] at e; cases e
      | some bs' =>
        rw [e1] at e
        cases e
        cases h
        rw [bools_of r e1]
        rfl
    | _ => cases e
theorem ints_of {K : W.Frag} {M : Ms} {H : Hp} : ∀ {xs : List V} {ds : List PyData} {bs : List Int}, RpA K M H xs ds → intsD ds = some bs → xs = bs.map V.int
  | _, _, _, .nil, e => by cases e; rfl
  | _, _, bs, .cons (d := d) h r, e => by
    cases d with
    | int b =>
      unfold intsD at e
      rename_i us vs
      cases e1 : intsD vs with
      | none => rw [e1] at e; cases e
      | some bs' =>
        rw [e1] at e
        cases e
        cases h
        rw [ints_of r e1]
        rfl
    | _ => cases e
theorem strs_of {K : W.Frag} {M : Ms} {H : Hp} : ∀ {xs : List V} {ds : List PyData} {bs : List Str}, RpA K M H xs ds → strsD ds = some bs → xs = bs.map V.str
  | _, _, _, .nil, e => by cases e; rfl
  | _, _, bs, .cons (d := d) h r, e => by
    cases d with
    | str b =>
      unfold strsD at e
      rename_i us vs
      cases e1 : strsD vs with
      | none => rw [e1] at e; cases e
      | some bs' =>
        rw [e1] at e
        cases e
        cases h
        rw [strs_of r e1]
        rfl
    | _ => cases e
theorem map_some {α β : Type} {o : Option α} {f : α → β} {r : β} (h : o.map f = some r) : ∃ a, o = some a ∧ f a = r := by
  cases o with
  | none => cases h
  | some a => exact ⟨a, rfl, Option.some.inj h⟩
theorem blt_len : CallR X (.builtin "len") (rB X.K T .len) := by
  intro pins s σ H xs us Q I r ⟨M, S, x, u, p, d, ex, ru, st, e1, e2, w⟩
  subst ex
  have rp := rs_of ru st e1
  unfold bltD at e2
  cases p with
  | list ds =>
    cases e2
    obtain ⟨a, ys, rfl, h2, h3⟩ := rp
    exact call_len_seq pins s σ H _ us Q I r ⟨a, ys, rfl, .inl (SqL.of h2), by rw [h3.length]; exact w.here st (.int _)⟩
  | tuple ds =>
    cases e2
    obtain ⟨a, ys, rfl, h2, h3⟩ := rp.tup
    exact call_len_seq pins s σ H _ us Q I r ⟨a, ys, rfl, .inr h2.sq, by rw [h3.length]; exact w.here st (.int _)⟩
  | str z =>
    have e2 : (if z.length ≤ line then some (PyData.int z.length) else none) = some d := e2
    split at e2
    · rename_i hz
      cases e2
      rw [rp.str] at r
      exact call_len_str pins s σ H _ us Q I r ⟨z, rfl, by rw [← line_eq]; exact hz, w.here st (.int _)⟩
    · cases e2
  | _ => cases e2
theorem blt_all (hc : X.calm = true) : CallR X (.builtin "all") (rB X.K T .all) := by
  intro pins s σ H xs us Q I r ⟨M, S, x, u, p, d, ex, ru, st, e1, e2, w⟩
  subst ex
  have rp := rs_of ru st e1
  unfold bltD at e2
  cases p with
  | list ds =>
    obtain ⟨bs, e3, rfl⟩ := map_some (show (boolsD ds).map (fun bs => PyData.bool (bs.all id)) = some d from e2)
    obtain ⟨a, ys, rfl, h2, h3⟩ := rp
    have := bools_of h3 e3
    subst this
    exact cr_all hc pins s σ H _ us Q I r ⟨a, bs, rfl, SqL.of h2, w.here st (.bl _)⟩
  | _ => cases e2
theorem blt_sum (hc : X.calm = true) : CallR X (.builtin "sum") (rB X.K T .sum) := by
  intro pins s σ H xs us Q I r ⟨M, S, x, u, p, d, ex, ru, st, e1, e2, w⟩
  subst ex
  have rp := rs_of ru st e1
  unfold bltD at e2
  cases p with
  | list ds =>
    obtain ⟨bs, e3, rfl⟩ := map_some (show (intsD ds).map (fun bs => PyData.int bs.sum) = some d from e2)
    obtain ⟨a, ys, rfl, h2, h3⟩ := rp
    have := ints_of h3 e3
    subst this
    exact cr_sum hc pins s σ H _ us Q I r ⟨a, bs, rfl, SqL.of h2, w.here st (.int _)⟩
  | _ => cases e2
theorem blt_int : CallR X (.type "int") (rB X.K T .int) := by
  intro pins s σ H xs us Q I r ⟨M, S, x, u, p, d, ex, ru, st, e1, e2, w⟩
  subst ex
  have rp := rs_of ru st e1
  unfold bltD at e2
  cases p with
  | int i =>
    cases e2
    exact call_int1 pins s σ H _ us Q I r (.inl ⟨i, by rw [rp.int], w.here st (.int _)⟩)
  | bool b =>
    cases e2
    exact call_int1 pins s σ H _ us Q I r (.inr ⟨b, by rw [rp.bool], w.here st (.int _)⟩)
  | _ => cases e2
theorem blt_bool : CallR X (.type "bool") (rB X.K T .bool) := by
  intro pins s σ H xs us Q I r ⟨M, S, x, u, p, d, ex, ru, st, e1, e2, w⟩
  subst ex
  have rp := rs_of ru st e1
  unfold bltD at e2
  cases p with
  | bool b =>
    cases e2
    exact call_bool1 pins s σ H _ us Q I r (.inr ⟨b, by rw [rp.bool], w.here st (.bl _)⟩)
  | _ => cases e2
theorem blt_abs : CallR X (.builtin "abs") (rB X.K T .abs) := by
  intro pins s σ H xs us Q I r ⟨M, S, x, u, p, d, ex, ru, st, e1, e2, w⟩
  subst ex
  have rp := rs_of ru st e1
  unfold bltD at e2
  cases p with
  | int i =>
    cases e2
    exact call_abs pins s σ H _ us Q I r ⟨i, by rw [rp.int], w.here st (.int _)⟩
  | _ => cases e2
theorem call_tuple_F : CallR X (.type "tuple") (fun xs H Q => ∃ a ys, xs = [.ref a] ∧ SqL X.K H a ys ∧ NewT ys H Q) := by
  intro pins s σ H xs us Q I r ⟨a, ys, ex, hq, q⟩
  subst ex
  obtain ⟨u, rfl, rx⟩ := vals1 r
  cases rx
  obtain ⟨its, r', pl, hz⟩ := I.list hq
  have hlen := r'.length
  refine call_tuple_list pl.isList (fun h' kp => ?_) (by rw [List.size_toArray]; omega)
  exact new_tup (s := { s with heap := h' }) (I.kept (t' := s.toks) kp) r' hz q
theorem blt_tuple : CallR X (.type "tuple") (rB X.K T .tuple) := by
  intro pins s σ H xs us Q I r ⟨M, S, x, u, p, d, ex, ru, st, e1, e2, w⟩
  subst ex
  have rp := rs_of ru st e1
  obtain ⟨ds, e3, rfl⟩ := map_some (show (seqD p).map PyData.tuple = some d from e2)
  cases p with
  | list ds =>
    cases e3
    obtain ⟨a, ys, rfl, h2, h3⟩ := rp
    exact call_tuple_F pins s σ H _ us Q I r ⟨a, ys, rfl, SqL.of h2, w.tuple st h3⟩
  | tuple ds =>
    cases e3
    obtain ⟨a, ys, rfl, h2, h3⟩ := rp.tup
    exact call_tuple_of pins s σ H _ us Q I r ⟨a, ys, rfl, .inr ⟨h2.sq, w.here st (.tup h2 h3)⟩⟩
  | _ => cases e3
theorem blt_list : CallR X (.type "list") (rB X.K T .list) := by
  intro pins s σ H xs us Q I r ⟨M, S, x, u, p, d, ex, ru, st, e1, e2, w⟩
  subst ex
  have rp := rs_of ru st e1
  obtain ⟨ds, e3, rfl⟩ := map_some (show (seqD p).map PyData.list = some d from e2)
  cases p with
  | list ds =>
    cases e3
    obtain ⟨a, ys, rfl, h2, h3⟩ := rp
    exact call_list_of pins s σ H _ us Q I r ⟨a, ys, rfl, .inl (SqL.of h2), fun l hl => w.list st hl h3⟩
  | tuple ds =>
    cases e3
    obtain ⟨a, ys, rfl, h2, h3⟩ := rp.tup
    exact call_list_of pins s σ H _ us Q I r ⟨a, ys, rfl, .inr h2.sq, fun l hl => w.list st hl h3⟩
  | _ => cases e3
theorem sortOk_of {xs : List PyData} (h : sortOk xs = true) : xs.length ≤ line ∧ PySem.W.AllAlike xs ∧ (∀ d, d ∈ xs → SeqAt.shaped d = true) ∧ PySem.W.Sortable xs := by
  unfold sortOk at h
  simp only [Bool.and_eq_true, Bool.or_eq_true, decide_eq_true_eq, List.all_eq_true] at h
  obtain ⟨⟨⟨h1, h2⟩, h3⟩, h4⟩ := h
  refine ⟨h1, h2, h3, ?_⟩
  rcases h4 with h4 | h4
  · refine .inl fun d hd => ?_
    have q := h4 d hd
    split at q
    · exact ⟨_, _, rfl⟩
    · cases q
  · refine .inr fun d hd => ?_
    have q := h4 d hd
    refine ⟨fun e => ?_, fun ys e => ?_⟩
    · subst e; cases q
    · subst e; cases q
theorem blt_sorted (hu : X.A.units + 70 < cLine) : CallR X (.builtin "sorted") (rB X.K T .sorted) := by
  intro pins s σ H xs us Q I r ⟨M, S, x, u, p, d, ex, ru, st, e1, e2, w⟩
  subst ex
  have rp := rs_of ru st e1
  unfold bltD at e2
  cases p with
  | list ds =>
    have e2 : (if sortOk ds = true then some (PyData.list (sortD ds)) else none) = some d := e2
    split at e2
    · rename_i hk
      cases e2
      obtain ⟨h1, h2, h3, h4⟩ := sortOk_of hk
      obtain ⟨a, ys, rfl, hl, ha⟩ := rp
      obtain ⟨v, rfl, rv⟩ := r.one
      cases rv
      obtain ⟨its, rvs, pl, hz⟩ := I.list (SqL.of hl)
      have each : ∀ {ys : List V} {ds : List PyData} {its : List Value}, RpA X.K M H ys ds → Vals ys its → PySem.W.EachIs (fun (v : Value) (d : PyData) => ∃ x, RelV x v ∧ Rp X.K M H x d) its ds := fun {ys ds its} h => by
        intro hv
        induction hv generalizing ds with
        | nil => cases h; exact .nil
        | cons r _ ih =>
          cases h with
          | cons h1 h2 => exact .cons ⟨_, r, h1⟩ (ih h2)
      have back : ∀ {ds : List PyData} {its : List Value}, PySem.W.EachIs (fun (v : Value) (d : PyData) => ∃ x, RelV x v ∧ Rp X.K M H x d) its ds → ∃ ys, RpA X.K M H ys ds ∧ Vals ys its := fun {ds its} h => by
        induction h with
        | nil => exact ⟨[], .nil, .nil⟩
        | cons q _ ih =>
          obtain ⟨x, h1, h2⟩ := q
          obtain ⟨ys, h3, h4⟩ := ih
          exact ⟨x :: ys, .cons h2 h3, .cons h1 h4⟩
      have e := each ha rvs
      have er : PySem.W.EachIs (fun (v : Value) (d : PyData) => ∃ as, Reads s.heap v (id d) as) its ds := e.mono fun v d ⟨x, h1, h2⟩ => Dp.reads I d x v h2.dp h1
      refine PySem.W.sorted_data (enc := id) pl.isList e er (by rw [List.map_id]; exact h2) (by rw [List.map_id]; exact h4) (by rw [← line_eq]; exact h1) (fun b hb => by have := SeqAt.depth_of_shaped (h3 b hb); show X.A.units + 2 + b.depth < cLine; omega) fun out ho eo => ?_
      obtain ⟨zs, rz, vz⟩ := back eo
      obtain ⟨c, hc⟩ := sortedAll_at s.heap its out.toArray
      have hq : H (s.heap.objs.size + 1) = none := I.hok.fresh (Nat.le_succ _)
      have hlen : zs.length ≤ sizeLine := by rw [vz.length, ho, ← line_eq]; exact h1
      have J : Inv X pins σ (upd H (s.heap.objs.size + 1) (.lst zs)) { s with heap := sortedAll s.heap its out.toArray } := I.laid (t' := s.toks) (a := s.heap.objs.size + 1) (o := .lst zs) (fun b o q => sortedAll_old q) (Nat.le_succ _) ⟨hlen, out, c, vz, hc⟩
      exact ⟨.ref (s.heap.objs.size + 1), _, J, rfl, w.list st hq rz⟩
    · cases e2
  | _ => cases e2
theorem tyX_of {K : W.Frag} {M : Ms} {H : Hp} {x : V} {p : PyData} (h : Rs K M H x p) : TyX K H x (.type (tyN p)) ∧ tyN p ∈ ["NoneType", "bool", "int", "str", "list", "tuple"] := by
  cases p with
  | none => rw [h.none]; exact ⟨.base .non, by simp [tyN]⟩
  | bool b => rw [h.bool]; exact ⟨.base (.bl b), by simp [tyN]⟩
  | int b => rw [h.int]; exact ⟨.base (.int b), by simp [tyN]⟩
  | str b => rw [h.str]; exact ⟨.base (.str b), by simp [tyN]⟩
  | list ds =>
    obtain ⟨a, ys, rfl, h2, h3⟩ := h
    exact ⟨.base (.lst h2), by simp [tyN]⟩
  | tuple ds =>
    obtain ⟨a, ys, rfl, h2, h3⟩ := h.tup
    rcases h2 with ⟨_, o, _, h2⟩ | ⟨o, its, n, h4, h5, _⟩
    · exact ⟨.fTuple h2, by simp [tyN]⟩
    · exact ⟨.kTuple h4 h5, by simp [tyN]⟩
  | dict kvs => cases h
theorem blt_isi {N : String} (hN : N ∈ askT) : CallR X (.builtin "isinstance") (fun xs H Q => ∃ M S x u p r, xs = [x, .ty N] ∧ RU X.K M H x u ∧ StOk X.K T M S H ∧ deref S u = some p ∧ bltD (.isi N) p = some r ∧ Wish X.K T M S H r Q) := by
  intro pins s σ H xs us Q I r ⟨M, S, x, u, p, d, ex, ru, st, e1, e2, w⟩
  subst ex
  have rp := rs_of ru st e1
  cases e2
  obtain ⟨h1, h2⟩ := tyX_of rp
  have hk := kit_all
  rw [List.all_eq_true] at hk
  have hk := List.all_eq_true.mp (hk N hN) _ h2
  exact call_isi pins s σ H _ us Q I r ⟨x, .ty N, _, _, _, rfl, .ty N, h1, kit_ty (of_decide_eq_true hk), w.here st (.bl _)⟩
/-- a method, by the little language's -/
def rM (K : W.Frag) (T : List (Addr × Str)) (m : Mth) : V → List V → Hp → VK → Prop := fun x xs H Q => ∃ M S u us p ps r, RU K M H x u ∧ RUs K M H xs us ∧ StOk K T M S H ∧ deref S u = some p ∧ derefs S us = some ps ∧ mthD m p ps = some r ∧ Wish K T M S H r Q
/-- the arguments read -/
inductive RsA (K : W.Frag) (M : Ms) (H : Hp) : List V → List PyData → Prop
  | nil : RsA K M H [] []
  | cons {v : V} {vs : List V} {d : PyData} {ds : List PyData} : Rs K M H v d → RsA K M H vs ds → RsA K M H (v :: vs) (d :: ds)
theorem rsA_of {K : W.Frag} {M : Ms} {S : Store} {H : Hp} (st : StOk K T M S H) : ∀ {vs : List V} {us : List U} {ps : List PyData}, RUs K M H vs us → derefs S us = some ps → RsA K M H vs ps
  | _, _, _, .nil, e => by cases e; exact .nil
  | _, _, _, .cons (u := u) (us := us) h r, e => by
    unfold derefs at e
    cases e1 : deref S u with
    | none => rw [e1] at e; cases e
    | some p =>
      rw [e1] at e
      cases e2 : derefs S us with
      | none => rw [e2] at e; cases e
      | some ps =>
        rw [e2] at e
        cases e
        exact .cons (rs_of h st e1) (rsA_of st r e2)
/-- one argument -/
theorem rM_one {K : W.Frag} {T : List (Addr × Str)} {m : Mth} {x : V} {xs : List V} {H : Hp} {Q : VK} (h : rM K T m x xs H Q) : ∃ M S y p q r, xs = [y] ∧ Rs K M H x p ∧ Rs K M H y q ∧ StOk K T M S H ∧ mthD m p [q] = some r ∧ Wish K T M S H r Q := by
  obtain ⟨M, S, u, ws, p, ps, r, ru, rus, st, e1, e2, e3, w⟩ := h
  have rp := rs_of ru st e1
  have ra := rsA_of st rus e2
  cases ra with
  | nil => cases e3
  | cons h1 t =>
    cases t with
    | nil => exact ⟨M, S, _, p, _, r, rfl, rp, h1, st, e3, w⟩
    | cons _ _ => cases e3
theorem mth_join : MtR X "str.join" (rM X.K T .join) := by
  intro pins s σ H x xs v us Q I rx rxs h
  obtain ⟨M, S, y, p, q, r, rfl, rp, rq, st, e3, w⟩ := rM_one h
  have e3 : joinD p q = some r := e3
  unfold joinD at e3
  cases p with
  | str z =>
    cases e4 : strsOf q with
    | none => rw [e4] at e3; cases e3
    | some ss =>
      rw [e4] at e3
      have e3 : (if joinFit z ss = true then some (PyData.str (Txt.join z ss)) else none) = some r := e3
      split at e3
      · rename_i hf
        cases e3
        have hf : (ss.map (·.length)).sum + ss.length * z.length ≤ 16777216 := of_decide_eq_true hf
        cases q with
        | list ys =>
          obtain ⟨a, zs, rfl, h2, h3⟩ := rq
          have := strs_of h3 e4
          subst this
          exact mt_join pins s σ H _ _ v us Q I rx rxs ⟨z, a, ss, rp.str, rfl, .inl (SqL.of h2), hf, w.here st (.str _)⟩
        | tuple ys =>
          obtain ⟨a, zs, rfl, h2, h3⟩ := rq.tup
          have := strs_of h3 e4
          subst this
          exact mt_join pins s σ H _ _ v us Q I rx rxs ⟨z, a, ss, rp.str, rfl, .inr h2.sq, hf, w.here st (.str _)⟩
        | _ => cases e4
      · cases e3
  | _ => cases e3
theorem rpA_strs {K : W.Frag} {M : Ms} {H : Hp} : ∀ l : List Str, RpA K M H (l.map V.str) (l.map PyData.str)
  | [] => .nil
  | z :: l => .cons (.str z) (rpA_strs l)
theorem mth_strip : MtR X "str.strip" (rM X.K T .strip) := by
  intro pins s σ H x xs v us Q I rx rxs h
  obtain ⟨M, S, y, p, q, r, rfl, rp, rq, st, e3, w⟩ := rM_one h
  have e3 : stripD p q = some r := e3
  unfold stripD at e3
  split at e3
  · split at e3
    · rename_i hz
      cases e3
      exact mt_stripChars pins s σ H _ _ v us Q I rx rxs ⟨_, _, rp.str, by rw [rq.str], by rw [← line_eq]; exact hz, w.here st (.str _)⟩
    · cases e3
  · cases e3
theorem mth_split : MtR X "str.split" (rM X.K T .split) := by
  intro pins s σ H x xs v us Q I rx rxs h
  obtain ⟨M, S, y, p, q, r, rfl, rp, rq, st, e3, w⟩ := rM_one h
  have e3 : splitD p q = some r := e3
  unfold splitD at e3
  split at e3
  · split at e3
    · rename_i hz
      cases e3
      exact mt_split pins s σ H _ _ v us Q I rx rxs ⟨_, _, rp.str, by rw [rq.str], hz.1, by rw [← line_eq]; exact hz.2, fun l hl => w.list st hl (rpA_strs _)⟩
    · cases e3
  · cases e3
end
end Ev
end

section
set_option Elab.async false
set_option linter.all false
set_option autoImplicit false
set_option maxRecDepth 100000
set_option maxHeartbeats 4000000
/-! # Sets whose members are tuples of any depth -/
namespace Ev
open PySem PySem.Spec PyProof.Rows L2
/-! ### what is asked of a key -/
section
variable {P : Program} {w : World}
def Says (P : Program) (w : World) (ask : Nat → Value → Sem Bool) (good : Bool → Prop) (n : Nat) (s : Shared) (v : Value) : Prop :=
  ∀ (A : Around) (E : Value → Shared → Prop) (Q : Bool → Shared → Prop), (∀ b, good b → Q b s) → wpAny (model P w) A (ask n v) Q E s
theorem noStmt_tup {n : Nat} {s : Shared} {a : Addr} {o : Obj} {vs : Array Value} {m : Nat} (ho : s.heap.get? a = some o) (hc : o.cls = .type "tuple") (hd : o.data = .seq vs m) (hq : ∀ v ∈ vs.toList, Says P w ofAClassStatement (· = false) n s v) : Says P w ofAClassStatement (· = false) (n + 1) s (.ref a) := fun A E Q h => by
  have hT : s.TypeIs (.ref a) "tuple" := ⟨o, ho, hc⟩
  unfold ofAClassStatement
  refine wpAny_bind (wpAny_typeOf hT ?_)
  dsimp only
  have e : (("tuple" : String) == "tuple") = true := by decide
  simp only [e, if_true, Bool.not_true, Bool.false_eq_true, if_false]
  try refine wpAny_bind (wpAny_pure ?_)
  try simp only [Bool.not_true, Bool.false_eq_true, if_false]
  show wpAny _ _ (seqItems? (.ref a) >>= _) _ _ s
  refine wpAny_bind (wpAny_seqItems ho hd ?_)
  dsimp only
  refine wpAny_bind ?_
  show wpAny _ _ (forIn vs _ _) _ _ s
  rw [← Array.forIn_toList]
  refine wpAny_forIn_list _ (fun rest r s' => r.1 = none ∧ s' = s ∧ ∀ v ∈ rest, Says P w ofAClassStatement (· = false) n s v) _ ?_ ?_ _ _ ⟨rfl, rfl, hq⟩
  · rintro v rest r s' ⟨hr, rfl, hall⟩
    refine wpAny_bind (hall v List.mem_cons_self _ _ _ fun b hb => ?_)
    subst hb
    simp only [Bool.false_eq_true, if_false]
    exact wpAny_pure ⟨rfl, rfl, fun u hu' => hall u (List.mem_cons_of_mem _ hu')⟩
  · rintro ⟨r1, r2⟩ s' ⟨hr, rfl, _⟩
    simp only at hr
    subst hr
    exact wpAny_pure (h false rfl)
theorem noStmt_val {n : Nat} {s : Shared} {v : Value} (h : ∀ a, v ≠ .ref a) : Says P w ofAClassStatement (· = false) n s v := fun A E Q hq => by
  have e : ofAClassStatement n v = pure false := by
    cases v <;> first | (cases n <;> rfl) | exact absurd rfl (h _)
  rw [e]
  exact wpAny_pure (hq false rfl)
mutual
theorem noStmt_key : ∀ (k : NestedKey) (v : Value) (n : Nat) (s : Shared), NestedIs s.heap k v → k.depth ≤ n → Says P w ofAClassStatement (· = false) n s v
  | .none, _, n, s, x, _ => by cases x; exact noStmt_val fun a z => by cases z
  | .num i, _, n, s, x, _ => by cases x <;> exact noStmt_val fun a z => by cases z
  | .text y, _, n, s, x, _ => by cases x; exact noStmt_val fun a z => by cases z
  | .tup ks, _, n, s, x, hn => by
    cases x with
    | tup hg hc hd hk =>
      simp only [NestedKey.depth] at hn
      cases n with
      | zero => omega
      | succ n => exact noStmt_tup hg hc hd (noStmt_keys ks _ n s hk (by omega))
theorem noStmt_keys : ∀ (ks : List NestedKey) (vs : List Value) (n : Nat) (s : Shared), NestedAll s.heap ks vs → NestedKey.depthAll ks ≤ n → ∀ v ∈ vs, Says P w ofAClassStatement (· = false) n s v
  | [], _, n, s, x, _, v, hv => by cases x; cases hv
  | k :: ks, _, n, s, x, hn, v, hv => by
    cases x with
    | cons x1 x2 =>
      simp only [NestedKey.depthAll] at hn
      rcases List.mem_cons.mp hv with e | hv
      · rw [e]; exact noStmt_key k _ n s x1 (by omega)
      · exact noStmt_keys ks _ n s x2 (by omega) v hv
end
abbrev any1 : Bool → Prop := fun _ => True
theorem byVal_tup {n : Nat} {s : Shared} {a : Addr} {o : Obj} {vs : Array Value} {m : Nat} (ho : s.heap.get? a = some o) (hc : o.cls = .type "tuple") (hd : o.data = .seq vs m) (hq : ∀ v ∈ vs.toList, Says P w hashByValue any1 n s v) : Says P w hashByValue any1 (n + 1) s (.ref a) := fun A E Q h => by
  have hT : s.TypeIs (.ref a) "tuple" := ⟨o, ho, hc⟩
  unfold hashByValue
  refine wpAny_bind (wpAny_specialOf hT F.slot_tuple_hash.lookup ?_)
  show wpAny _ _ (seqItems? (.ref a) >>= _) _ _ s
  refine wpAny_bind (wpAny_seqItems ho hd ?_)
  refine wpAny_bind ?_
  show wpAny _ _ (forIn vs _ _) _ _ s
  rw [← Array.forIn_toList]
  refine wpAny_forIn_list _ (fun rest r s' => r.1 = none ∧ s' = s ∧ ∀ v ∈ rest, Says P w hashByValue any1 n s v) _ ?_ ?_ _ _ ⟨rfl, rfl, hq⟩
  · rintro v rest r s' ⟨hr, rfl, hall⟩
    refine wpAny_bind (hall v List.mem_cons_self _ _ _ fun b _ => ?_)
    cases b with
    | true =>
      simp only [Bool.not_true, Bool.false_eq_true, if_false]
      exact wpAny_pure ⟨rfl, rfl, fun u hu' => hall u (List.mem_cons_of_mem _ hu')⟩
    | false =>
      simp only [Bool.not_false, if_true]
      exact wpAny_pure (wpAny_pure (h false trivial))
  · rintro ⟨r1, r2⟩ s' ⟨hr, rfl, _⟩
    simp only at hr
    subst hr
    exact wpAny_pure (h true trivial)
mutual
theorem byVal_key : ∀ (k : NestedKey) (v : Value) (n : Nat) (s : Shared), NestedIs s.heap k v → k.depth ≤ n → Says P w hashByValue any1 n s v
  | .none, _, n, s, x, _ => by cases x; exact fun A E Q h => by cases n <;> exact wpAny_pure (h true trivial)
  | .num i, _, n, s, x, _ => by cases x <;> exact fun A E Q h => by cases n <;> exact wpAny_pure (h true trivial)
  | .text y, _, n, s, x, _ => by cases x; exact fun A E Q h => by cases n <;> exact wpAny_pure (h false trivial)
  | .tup ks, _, n, s, x, hn => by
    cases x with
    | tup hg hc hd hk =>
      simp only [NestedKey.depth] at hn
      cases n with
      | zero => omega
      | succ n => exact byVal_tup hg hc hd (byVal_keys ks _ n s hk (by omega))
theorem byVal_keys : ∀ (ks : List NestedKey) (vs : List Value) (n : Nat) (s : Shared), NestedAll s.heap ks vs → NestedKey.depthAll ks ≤ n → ∀ v ∈ vs, Says P w hashByValue any1 n s v
  | [], _, n, s, x, _, v, hv => by cases x; cases hv
  | k :: ks, _, n, s, x, hn, v, hv => by
    cases x with
    | cons x1 x2 =>
      simp only [NestedKey.depthAll] at hn
      rcases List.mem_cons.mp hv with e | hv
      · rw [e]; exact byVal_key k _ n s x1 (by omega)
      · exact byVal_keys ks _ n s x2 (by omega) v hv
end
/-- the tuple at a is the key k -/
abbrev KAt (P : Program) (w : World) (h : Heap) (k : NestedKey) (a : Addr) : Prop := (nestedKind P w).is h k a
variable {A : Around} {E : Value → Shared → Prop} {s : Shared}
theorem kAt_on {h h' : Heap} {k : NestedKey} {a : Addr} (x : KAt P w h k a) (g : ∀ b o, h.get? b = some o → h'.get? b = some o) : KAt P w h' k a :=
  ⟨NestedIs.at (fun b o _ _ e _ => g b o e) k _ x.1, x.2⟩
/-- the keys stay while only a set is written -/
theorem kAt_set {h h' : Heap} {k : NestedKey} {b a : Addr} {o : Obj} {es : Array (Int × Value)} {ep : Nat} {t : SetTable} (x : KAt P w h k b) (ho : h.get? a = some o) (hd : o.data = .set es ep t) (hs : Heap.SameBut a h h') : KAt P w h' k b :=
  ⟨NestedIs.at (fun c u _ _ e1 e2 => (hs.2 c fun z => by
    subst z
    rw [ho] at e1
    cases e1
    rw [hd] at e2
    cases e2).trans e1) k _ x.1, x.2⟩
/-- a search among such keys shows nothing -/
theorem unseen {k : NestedKey} {b : Addr} {Q : Bool → Shared → Prop} (hk : KAt P w s.heap k b) {ys : List Value} (hy : ∀ y ∈ ys, ∃ k' c, y = Value.ref c ∧ KAt P w s.heap k' c) (h : Q false s) : wpAny (model P w) A (searchCouldBeSeen (.ref b) ys) Q E s := by
  unfold searchCouldBeSeen
  refine wpAny_bind ?_
  refine wpAny_forIn_list _ (fun rest r s' => r.1 = none ∧ s' = s ∧ ∀ y ∈ rest, ∃ k' c, y = Value.ref c ∧ KAt P w s.heap k' c) _ ?_ ?_ _ _ ⟨rfl, rfl, hy⟩
  · rintro v rest r s' ⟨hr, rfl, hall⟩
    obtain ⟨k', c, rfl, hc⟩ := hall v List.mem_cons_self
    have more : ∀ y ∈ rest, ∃ k' c, y = Value.ref c ∧ KAt P w s'.heap k' c := fun u hu' => hall u (List.mem_cons_of_mem _ hu')
    dsimp only
    by_cases hv : (b == c || (carriedByValue (.ref b) && carriedByValue (.ref c))) = true
    · refine wp_if_pos hv ?_
      exact wpAny_pure ⟨rfl, rfl, more⟩
    · refine wp_if_neg hv ?_
      refine wpAny_bind ((nestedKind P w).quiet hk ?_)
      simp only [Bool.not_true, Bool.false_eq_true, if_false]
      refine wpAny_bind ((nestedKind P w).quiet hc ?_)
      simp only [Bool.not_true, Bool.false_eq_true, if_false]
      refine wpAny_bind (noStmt_key _ _ 8 s' hk.1 hk.2 _ _ _ fun z hz => ?_)
      subst hz
      simp only [Bool.false_eq_true, if_false]
      refine wpAny_bind (noStmt_key _ _ 8 s' hc.1 hc.2 _ _ _ fun z hz => ?_)
      subst hz
      simp only [Bool.false_eq_true, if_false]
      exact wpAny_pure ⟨rfl, rfl, more⟩
  · rintro ⟨r1, r2⟩ s' ⟨hr, rfl, _⟩
    simp only at hr
    subst hr
    exact wpAny_pure h

/-! ### the set -/
abbrev kh (w : World) (k : NestedKey) : Int := k.hash w
abbrev Mem := Addr × NestedKey
def rowsK (w : World) (L : List Mem) : List (Int × Value) := L.map fun p => (kh w p.2, Value.ref p.1)
theorem rowsK_len {es : Array (Int × Value)} {L : List Mem} (h : es.toList = rowsK w L) : es.size = L.length := by
  have e := congrArg List.length h
  unfold rowsK at e
  rwa [Array.length_toList, List.length_map] at e
/-- a set of the members L stands at a -/
structure KSet (P : Program) (w : World) (h : Heap) (a : Addr) (L : List Mem) (es : Array (Int × Value)) (ep : Nat) (t : SetTable) : Prop where
  ob : ∃ o, h.get? a = some o ∧ o.ExactSet ∧ o.data = .set es ep t
  rows : es.toList = rowsK w L
  tab : TabOk t (L.map fun p => kh w p.2)
  nd : (L.map (·.2)).Nodup
  keys : ∀ p ∈ L, KAt P w h p.2 p.1
  led : w.params.followText "set-order" = true ∨ t.led = true
  room : L.length * 5 < t.mask * 3
  few : L.length < 64
variable {a : Addr} {L : List Mem} {es : Array (Int × Value)} {ep : Nat} {t : SetTable}
theorem KSet.fits {h : Heap} (R : KSet P w h a L es ep t) : t.fits es.size = true := by
  have h1 := R.tab.sz
  rw [List.length_map] at h1
  have h2 := rowsK_len R.rows
  have h3 := R.room
  unfold SetTable.fits SetTable.fill
  rw [R.tab.dm, Bool.and_eq_true, beq_iff_eq, decide_eq_true_eq]
  show t.place.size = es.size ∧ t.place.size + 0 ≤ t.mask
  omega
theorem KSet.row {h : Heap} (R : KSet P w h a L es ep t) {i : Nat} {p : Mem} (e : L[i]? = some p) : es[i]? = some (kh w p.2, Value.ref p.1) := by
  rw [← Array.getElem?_toList, R.rows]
  unfold rowsK
  rw [List.getElem?_map, e] <;> rfl
theorem KSet.odd {h : Heap} (R : KSet P w h a L es ep t) : ¬ t.gaveWay = true := by
  unfold SetTable.gaveWay
  rw [mask_odd R.tab.mok]
  decide
/-- where a search for the hash z stands after c steps -/
abbrev stp (m : Nat) (z : Int) (c : Nat) : SetTable.Probe := nth m (runAt m (SetTable.bits z % (m + 1)) (SetTable.bits z)) c
theorem stp_dummy (m : Nat) : ∀ (n : Nat) (p : SetTable.Probe), p.dummy = none → (nth m p n).dummy = none
  | 0, _, h => h
  | n + 1, p, h => stp_dummy m n (adv m p) (by unfold adv; split <;> exact h)
theorem seek (R : KSet P w s.heap a L es ep t) {x : Addr} {k : NestedKey} (hx : KAt P w s.heap k x) (hu : A.units + 8 < cLine) {n : Nat} (hnf : n < 10 * SetTable.turns t.mask)
    (hn : way t.mask (kh w k) n ∉ t.place.toList) (hb : ∀ c, c < n → way t.mask (kh w k) c ∈ t.place.toList) {Q : SetFound → Shared → Prop}
    (yes : k ∈ L.map (·.2) → Q (.there none) s) (no : k ∉ L.map (·.2) → Q (.free (way t.mask (kh w k) n) false) s) :
    ∀ (f c : Nat) (st : Option SetTable.Probe), st.getD (t.probeStart (kh w k)) = stp t.mask (kh w k) c → c ≤ n → n - c < f →
      (∀ (i : Nat) p, L[i]? = some p → p.2 = k → ∃ c', c ≤ c' ∧ c' < n ∧ t.place.toList[i]? = some (way t.mask (kh w k) c')) →
      wpAny (model P w) A (setSearchFrom a (.ref x) (kh w k) true f st) Q E s
  | 0, _, _, _, _, hf, _ => absurd hf (Nat.not_lt_zero _)
  | f + 1, c, st, hst, hc, hf, hre => by
    obtain ⟨o, ho, hex, hd⟩ := R.ob
    rw [setSearchFrom_succ]
    refine wpAny_bind (wpAny_setState_of ho hd R.fits ?_)
    dsimp only
    refine wp_if_neg R.odd ?_
    try refine wpAny_bind (wpAny_pure ?_)
    have hdm : (stp t.mask (kh w k) c).dummy = none := stp_dummy t.mask c _ rfl
    have sh : ∀ q, nth t.mask (stp t.mask (kh w k) c) q = stp t.mask (kh w k) (c + q) := fun q => (nth_add t.mask c _ q).symm
    have sj : ∀ q, (nth t.mask (stp t.mask (kh w k) c) q).j = way t.mask (kh w k) (c + q) := fun q => congrArg SetTable.Probe.j (sh q)
    have hcn : c + (n - c) = n := by omega
    have hash : ∀ (i : Nat) p, L[i]? = some p → (fun i => (es[i]?.map (·.1)).getD 0) i = kh w p.2 := fun i p hp => by
      show (es[i]?.map (·.1)).getD 0 = _
      rw [R.row hp] <;> rfl
    rcases go_spec t R.tab.ris R.tab.dm (fun i => (es[i]?.map (·.1)).getD 0) (kh w k) (10 * SetTable.turns t.mask) (n - c) _ hdm (by omega)
      (fun q hq => by rw [sj]; exact hb (c + q) (by omega)) (by rw [sj, hcn]; exact hn) with ⟨q, i, hq, hi, hh, hno, hpr⟩ | ⟨hno, hpr⟩
    · rw [sj] at hi
      have hpr' : t.probe (fun i => (es[i]?.map (·.1)).getD 0) (kh w k) (st.getD (t.probeStart (kh w k))) = some (.candidate (way t.mask (kh w k) (c + q)) i (stp t.mask (kh w k) (c + (q + 1)))) := by
        rw [hst, ← sj, ← sh]
        exact hpr
      rw [hpr']
      dsimp only
      have hil : i < L.length := by
        have h1 : i < t.place.toList.length := (List.getElem?_eq_some_iff.mp hi).1
        have h2 := R.tab.sz
        rw [List.length_map] at h2
        rw [Array.length_toList] at h1
        omega
      obtain ⟨p, hp⟩ : ∃ p, L[i]? = some p := ⟨_, List.getElem?_eq_getElem hil⟩
      have hm : p ∈ L := List.mem_of_getElem? hp
      have after : wpAny (model P w) A (searchRest a (.ref x) (kh w k) true f es t (way t.mask (kh w k) (c + q)) i (stp t.mask (kh w k) (c + (q + 1)))) Q E s := by
        unfold searchRest
        rw [R.row hp]
        dsimp only
        refine wpAny_bind (wpAny_holding ((nestedKind P w).eqBool hu (R.keys p hm) hx ?_))
        refine wpAny_bind (wpAny_setState_of ho hd R.fits ?_)
        dsimp only
        by_cases hkk : p.2 = k
        · refine wp_if_pos (by simp [hkk]) ?_
          exact wpAny_pure (yes (List.mem_map.mpr ⟨p, hm, hkk⟩))
        · refine wp_if_neg (by simp [hkk]) ?_
          try refine wpAny_bind (wpAny_pure ?_)
          rw [sameMem]
          dsimp only
          have hsl : t.slot (way t.mask (kh w k) (c + q)) = .live i := slot_live R.tab.ris hi
          simp only [if_true, hsl, R.row hp]
          refine wpAny_bind (wpAny_isSame_ref_self (wpAny_bind (wpAny_pure ?_)))
          simp only [if_true]
          refine wp_if_neg (by simp [hkk]) ?_
          refine seek R hx hu hnf hn hb yes no f (c + (q + 1)) _ rfl (by omega) (by omega) fun i0 p0 h0 hk0 => ?_
          obtain ⟨c', a1, a2, a3⟩ := hre i0 p0 h0 hk0
          refine ⟨c', ?_, a2, a3⟩
          rcases Nat.lt_trichotomy c' (c + q) with z | z | z
          · refine absurd ((hash i0 p0 h0).trans (congrArg (kh w) hk0)) (hno (c' - c) i0 (by omega) ?_)
            rw [sj, show c + (c' - c) = c' by omega]
            exact a3
          · rw [z] at a3
            have s0 := slot_live R.tab.ris a3
            rw [hsl] at s0
            injection s0 with s0
            rw [← s0, hp] at h0
            exact absurd ((congrArg Prod.snd (Option.some.inj h0)).trans hk0) hkk
          · omega
      by_cases hl : t.led = true
      · refine wp_if_neg (by simp [hl]) ?_
        try refine wpAny_bind (wpAny_pure ?_)
        exact after
      · refine wp_if_pos (by simp [hl]) ?_
        refine wpAny_bind (unseen hx (fun y hy => ?_) ?_)
        · obtain ⟨e, he, ee⟩ := List.mem_map.mp hy
          have he1 : e ∈ es ∧ e.1 = kh w k := by simpa using he
          have he2 : e ∈ es.toList := by simpa using he1.1
          rw [R.rows] at he2
          obtain ⟨p2, hp2, e2⟩ := List.mem_map.mp he2
          exact ⟨p2.2, p2.1, by rw [← ee, ← e2], R.keys p2 hp2⟩
        · refine wp_if_neg (by decide) ?_
          try refine wpAny_bind (wpAny_pure ?_)
          exact after
    · have hpr' : t.probe (fun i => (es[i]?.map (·.1)).getD 0) (kh w k) (st.getD (t.probeStart (kh w k))) = some (.empty (way t.mask (kh w k) n) none) := by
        have e2 : way t.mask (kh w k) n = (nth t.mask (stp t.mask (kh w k) c) (n - c)).j := by rw [sj, hcn]
        rw [hst, e2]
        exact hpr
      rw [hpr']
      dsimp only
      refine wpAny_pure (no fun hm => ?_)
      obtain ⟨p0, h0, hk0⟩ := List.mem_map.mp hm
      obtain ⟨i0, hi0, e0⟩ := List.getElem_of_mem h0
      have h00 : L[i0]? = some p0 := by rw [List.getElem?_eq_getElem hi0, e0]
      obtain ⟨c', a1, a2, a3⟩ := hre i0 p0 h00 hk0
      refine hno (c' - c) i0 (by omega) ?_ ((hash i0 p0 h00).trans (congrArg (kh w) hk0))
      rw [sj, show c + (c' - c) = c' by omega]
      exact a3
theorem seek_at (R : KSet P w s.heap a L es ep t) {x : Addr} {k : NestedKey} (hx : KAt P w s.heap k x) (hu : A.units + 8 < cLine) {Q : SetFound → Shared → Prop} (yes : k ∈ L.map (·.2) → Q (.there none) s)
    (no : ∀ n, k ∉ L.map (·.2) → way t.mask (kh w k) n ∉ t.place.toList → (∀ c, c < n → way t.mask (kh w k) c ∈ t.place.toList) → Q (.free (way t.mask (kh w k) n) false) s) : wpAny (model P w) A (setSearch a (.ref x) (kh w k) true) Q E s := by
  have hroom := R.room
  have hsz := R.tab.sz
  rw [List.length_map] at hsz
  obtain ⟨n, hnf, hn, hb⟩ := R.tab.first (by rw [List.length_map]; omega) (kh w k)
  have hbig : n < 100000 := by
    have hm := R.tab.mok
    unfold SetTable.turns at hnf
    rcases hm with e | e | e <;> rw [e] at hnf <;> omega
  unfold setSearch
  refine seek R hx hu hnf hn hb yes (fun z => no n z hn hb) 100000 0 none rfl (Nat.zero_le _) (by omega) fun i p hp hk => ?_
  have hi : (L.map fun p => kh w p.2)[i]? = some (kh w k) := by rw [List.getElem?_map, hp, ← hk] <;> rfl
  have hil : i < t.place.toList.length := by
    have h1 : i < L.length := (List.getElem?_eq_some_iff.mp hp).1
    rw [Array.length_toList]
    omega
  have hj := List.getElem?_eq_getElem hil
  obtain ⟨c, hc, e⟩ := R.tab.before hn hi hj
  exact ⟨c, Nat.zero_le _, hc, by rw [hj, e]⟩
end
end Ev
end

section
set_option Elab.async false
set_option linter.all false
set_option autoImplicit false
set_option maxRecDepth 100000
set_option maxHeartbeats 4000000
/-! # .. one more member; set(xs) -/
namespace Ev
open PySem PySem.Spec PyProof.Rows L2
section
variable {P : Program} {w : World} {A : Around} {E : Value → Shared → Prop} {s : Shared}
theorem split_perm {α : Type} (l : List α) (n : Nat) (x : α) : (l.take n ++ x :: l.drop n).Perm (x :: l) := by
  have e := List.perm_middle (a := x) (l₁ := l.take n) (l₂ := l.drop n)
  rwa [List.take_append_drop] at e
theorem filterMap_range {α : Type} (l : List α) : ∀ n, n ≤ l.length → (List.range n).filterMap (fun i => l[i]?) = l.take n
  | 0, _ => rfl
  | n + 1, h => by
    have hn : n < l.length := h
    rw [List.range_succ, List.filterMap_append, filterMap_range l n (Nat.le_of_lt hn), List.take_succ, List.getElem?_eq_getElem hn]
    simp [hn]
/-- the rows in another order are the rows of the members in that order -/
theorem rows_order {L : List Mem} {es : Array (Int × Value)} {ord : Array Nat} (hr : es.toList = rowsK w L) (hp : ord.toList.Perm (List.range L.length)) :
    ∃ L2, (ord.filterMap (es[·]?)).toList = rowsK w L2 ∧ L2.Perm L ∧ (L2.map fun p => kh w p.2) = ord.toList.map fun i => (es.map (·.1)).getD i 0 := by
  have hsz := rowsK_len hr
  have ent : ∀ i (h : i < L.length), es[i]? = some (kh w (L[i]).2, Value.ref (L[i]).1) := fun i h => by
    rw [← Array.getElem?_toList, hr]
    unfold rowsK
    rw [List.getElem?_map, List.getElem?_eq_getElem h] <;> rfl
  have all : ∀ l : List Nat, (∀ i ∈ l, i < L.length) → l.filterMap (fun i => es[i]?) = rowsK w (l.filterMap fun i => L[i]?) ∧ ((l.filterMap fun i => L[i]?).map fun p => kh w p.2) = l.map fun i => (es.map (·.1)).getD i 0 := by
    intro l
    induction l with
    | nil => intro _; exact ⟨rfl, rfl⟩
    | cons i l ih =>
      intro hl
      have hi := hl i List.mem_cons_self
      obtain ⟨e1, e2⟩ := ih fun j hj => hl j (List.mem_cons_of_mem _ hj)
      have e3 : (es.map (·.1)).getD i 0 = kh w (L[i]).2 := by
        have e5 : (es.map (·.1))[i]? = some (kh w (L[i]).2) := by rw [Array.getElem?_map, ent i hi] <;> rfl
        simp [Array.getD_eq_getD_getElem?, e5]
      rw [List.filterMap_cons_some (ent i hi), List.filterMap_cons_some (List.getElem?_eq_getElem hi), e1, List.map_cons, List.map_cons, e2, e3]
      exact ⟨rfl, rfl⟩
  obtain ⟨e1, e2⟩ := all ord.toList fun i hi => List.mem_range.mp (hp.mem_iff.mp hi)
  refine ⟨ord.toList.filterMap fun i => L[i]?, by first | (rw [Array.toList_filterMap]; exact e1) | simpa using e1, ?_, e2⟩
  have h1 := hp.filterMap fun i => L[i]?
  rwa [filterMap_range L L.length (Nat.le_refl _), List.take_length] at h1
variable {a : Addr} {L : List Mem} {es : Array (Int × Value)} {ep : Nat} {t : SetTable}
/-- the table is laid anew, wider -/
theorem widen {o : Obj} (ho : s.heap.get? a = some o) (hex : o.ExactSet) (hd : o.data = .set es ep t) (hr : es.toList = rowsK w L) (T : TabOk t (L.map fun p => kh w p.2)) (hfl : L.length ≤ t.mask)
    (nd : (L.map (·.2)).Nodup) (keys : ∀ p ∈ L, KAt P w s.heap p.2 p.1) (ld : w.params.followText "set-order" = true ∨ t.led = true) (few : L.length < 64) {want m : Nat}
    (hw : SetTable.sizeAbove want - 1 = m) (hm : MaskOk m) (hw2 : SetTable.sizeAbove want ≤ 128) (hn : L.length * 5 < m * 3) {Q : Unit → Shared → Prop}
    (hQ : ∀ h' L' es' ep' t', Heap.SameBut a s.heap h' → KSet P w h' a L' es' ep' t' → L'.Perm L → Q () { s with heap := h' }) : wpAny (model P w) A (setRelay a want) Q E s := by
  have hsl := rowsK_len hr
  have hsz := T.sz
  rw [List.length_map] at hsz
  have hfits : t.fits es.size = true := by
    unfold SetTable.fits SetTable.fill
    rw [T.dm, Bool.and_eq_true, beq_iff_eq, decide_eq_true_eq]
    show t.place.size = es.size ∧ t.place.size + 0 ≤ t.mask
    omega
  obtain ⟨t', ord, e, hp, T', em, el, _, _⟩ := relaid_ok t (hs := es.map (·.1)) (wanted := want) hw hm (by rw [Array.size_map, hsl]; omega)
  rw [Array.size_map, hsl] at hp
  obtain ⟨L2, r1, r2, r3⟩ := rows_order hr hp
  rw [← r3] at T'
  have hs2 : (ord.filterMap (es[·]?)).size = es.size := by rw [rowsK_len r1, r2.length_eq, hsl]
  rw [setRelay_eq]
  refine wpAny_bind (wpAny_setState_of ho hd hfits ?_)
  dsimp only
  refine wp_if_neg (by rw [sizeLine_eq]; omega) ?_
  try refine wpAny_bind (wpAny_pure ?_)
  rw [e]
  dsimp only
  refine wpAny_bind ?_
  refine wp_if_neg (by rw [hs2]; simp) ?_
  try refine wpAny_bind (wpAny_pure ?_)
  refine wpAny_pure ?_
  dsimp only
  refine wpAny_storeSet_of ho hd ?_ (by rw [hs2, hsl, sizeLine_eq]; omega)
  have sb : Heap.SameBut a s.heap (s.heap.update a (Obj.putSet (ord.filterMap (es[·]?)) t')) := Heap.SameBut.update ..
  refine hQ _ L2 (ord.filterMap (es[·]?)) (ep + 1) t' sb ?_ r2
  refine ⟨⟨_, store_at ho hd, ⟨hex.1, hex.2.1, hex.2.2⟩, rfl⟩, r1, T', (r2.map (·.2)).nodup_iff.mpr nd, fun p hpm => kAt_set (keys p (r2.mem_iff.mp hpm)) ho hd sb, by rw [el]; exact ld, ?_, by rw [r2.length_eq]; exact few⟩
  rw [r2.length_eq, em]
  exact hn
/-- one more -/
theorem put_in (R : KSet P w s.heap a L es ep t) {x : Addr} {k : NestedKey} (hx : KAt P w s.heap k x) (hu : A.units + 8 < cLine) (hfew : L.length + 1 < 64) {Q : Bool → Shared → Prop}
    (hQ : ∀ b h' L' es' ep' t', Heap.SameBut a s.heap h' → KSet P w h' a L' es' ep' t' → (k ∈ L.map (·.2) → L' = L) → (k ∉ L.map (·.2) → L'.Perm ((x, k) :: L)) → Q b { s with heap := h' }) :
    wpAny (model P w) A (setAddHashed a (.ref x) (kh w k)) Q E s := by
  obtain ⟨o, ho, hex, hd⟩ := R.ob
  have hsl := rowsK_len R.rows
  have hroom := R.room
  unfold setAddHashed
  refine wpAny_holding ?_
  rw [show (100000 : Nat) = 99999 + 1 from rfl, setAddHashedIn_succ]
  refine wpAny_bind (wpAny_setState_of ho hd R.fits ?_)
  dsimp only
  refine wp_if_neg (by simp [byScan, Value.scannable]) ?_
  try refine wpAny_bind (wpAny_pure ?_)
  refine wpAny_bind (seek_at R hx hu (fun hm => ?_) fun n hm hn hb => ?_)
  · dsimp only
    exact wpAny_pure (hQ false s.heap L es ep t (Heap.SameBut.refl a s.heap) R (fun _ => rfl) fun z => absurd hm z)
  · dsimp only
    refine wpAny_bind (wpAny_setState_of ho hd R.fits ?_)
    dsimp only
    obtain ⟨q1, q2, q3, q4, q5, _, _, _, q9⟩ := R.tab.put hn hb
    generalize hpt : t.put (way t.mask (kh w k) n) = pt at q1 q3 q4 q5 q9 ⊢
    obtain ⟨t1, p⟩ := pt
    dsimp only at q1 q3 q4 q5 q9 ⊢
    subst q1
    have hin : (SetTable.insertAt es (SetTable.below t.place (way t.mask (kh w k) n)) (kh w k, Value.ref x)).toList = rowsK w (L.take (SetTable.below t.place (way t.mask (kh w k) n)) ++ (x, k) :: L.drop (SetTable.below t.place (way t.mask (kh w k) n))) := by
      rw [SetTable.toList_insertAt, R.rows]
      unfold rowsK
      rw [List.map_append, List.map_cons, List.map_take, List.map_drop]
    generalize SetTable.below t.place (way t.mask (kh w k) n) = p at q2 q3 hin ⊢
    have pm := split_perm L p (x, k)
    have hhs : (L.take p ++ (x, k) :: L.drop p).map (fun p => kh w p.2) = (L.map fun p => kh w p.2).take p ++ kh w k :: (L.map fun p => kh w p.2).drop p := by
      rw [List.map_append, List.map_cons, List.map_take, List.map_drop]
    rw [← hhs] at q3
    generalize L.take p ++ (x, k) :: L.drop p = L1 at pm q3 hin
    have hlen : L1.length = L.length + 1 := pm.length_eq
    have nd1 : (L1.map (·.2)).Nodup := by
      refine (pm.map (·.2)).nodup_iff.mpr ?_
      rw [List.map_cons]
      exact List.nodup_cons.mpr ⟨hm, R.nd⟩
    have hes := rowsK_len hin
    generalize SetTable.insertAt es p (kh w k, Value.ref x) = es1 at hin hes ⊢
    rw [hlen] at hes
    -- whatever is said of the hash: the table but for one flag
    have fin : ∀ t2 : SetTable, t2.place = t1.place → t2.dummies = t1.dummies → t2.mask = t1.mask → t2.led = t1.led → t2.fill = t1.fill → t2.tooFull = t1.tooFull →
        wpAny (model P w) A (do
          storeSet a es1 t2
          if !false && t2.tooFull then setRelay a (SetTable.grown (es.size + 1))
          return true) Q E s := fun t2 f1 f2 f3 f4 f5 f6 => by
      have T2 : TabOk t2 (L1.map fun p => kh w p.2) := ⟨by rw [f1]; exact q3.ris, by rw [f2]; exact q3.dm, by rw [f1]; exact q3.sz, by rw [f3]; exact q3.mok, by rw [f1, f3]; exact q3.bd, by rw [f1, f3]; exact q3.reach⟩
      refine wpAny_bind (wpAny_storeSet_of ho hd ?_ (by rw [hes, sizeLine_eq]; omega))
      have sb : Heap.SameBut a s.heap (s.heap.update a (Obj.putSet es1 t2)) := Heap.SameBut.update ..
      have ho1 := store_at (es' := es1) (t' := t2) ho hd
      generalize s.heap.update a (Obj.putSet es1 t2) = h1 at sb ho1 ⊢
      have keys1 : ∀ p ∈ L1, KAt P w h1 p.2 p.1 := fun p hp => by
        rcases List.mem_cons.mp (pm.mem_iff.mp hp) with e | hp
        · rw [e]; exact kAt_set hx ho hd sb
        · exact kAt_set (R.keys p hp) ho hd sb
      have ld1 : w.params.followText "set-order" = true ∨ t2.led = true := by rw [f4, q5]; exact R.led
      by_cases hf : t2.tooFull = true
      · first
          | (refine wpAny_bind ?_; refine wp_if_pos (by simp [hf]) ?_)
          | (refine wp_if_pos (by simp [hf]) ?_; refine wpAny_bind ?_)
        have hfull : (L.length + 1) * 5 ≥ t2.mask * 3 := by
          have h := hf
          unfold SetTable.tooFull at h
          rw [decide_eq_true_eq, f5, q9, List.length_map] at h
          exact h
        rw [hsl]
        have two : (t.mask = 7 ∧ L.length = 4) ∨ (t.mask = 31 ∧ L.length = 18) := by
          rw [f3, q4] at hfull
          rcases R.tab.mok with e | e | e <;> rw [e] at hfull hroom
          · exact .inl ⟨e, by omega⟩
          · exact .inr ⟨e, by omega⟩
          · exfalso; omega
        have go : ∀ m, SetTable.sizeAbove (SetTable.grown (L.length + 1)) - 1 = m → MaskOk m → SetTable.sizeAbove (SetTable.grown (L.length + 1)) ≤ 128 → (L.length + 1) * 5 < m * 3 →
            wpAny (model P w) A (setRelay a (SetTable.grown (L.length + 1))) (fun _ s' => wpAny (model P w) A (pure true) Q E s') E { s with heap := h1 } := fun m h1' h2' h3' h4' => by
          refine widen (s := { s with heap := h1 }) ho1 ⟨hex.1, hex.2.1, hex.2.2⟩ rfl hin T2 (by rw [hlen, f3, q4]; rcases two with ⟨e, e2⟩ | ⟨e, e2⟩ <;> omega) nd1 keys1 ld1 (by rw [hlen]; exact hfew) h1' h2' h3' (by rw [hlen]; exact h4') ?_
          intro h2 L2 es2 ep2 t3 sb2 R2 pm2
          exact wpAny_pure (hQ true h2 L2 es2 ep2 t3 (sb.trans sb2) R2 (fun z => absurd z hm) fun _ => pm2.trans pm)
        rcases two with ⟨_, e2⟩ | ⟨_, e2⟩
        · exact go 31 (by rw [e2, size_20]) (.inr (.inl rfl)) (by rw [e2, size_20]; decide) (by omega)
        · exact go 127 (by rw [e2, size_76]) (.inr (.inr rfl)) (by rw [e2, size_76]; decide) (by omega)
      · first
          | refine wp_if_neg (by simp [hf]) ?_
          | (refine wpAny_bind ?_; refine wp_if_neg (by simp [hf]) ?_; refine wpAny_pure ?_)
        refine wpAny_pure (hQ true h1 L1 es1 (ep + 1) t2 sb ⟨⟨_, ho1, ⟨hex.1, hex.2.1, hex.2.2⟩, rfl⟩, hin, T2, nd1, keys1, ld1, ?_, by rw [hlen]; exact hfew⟩ (fun z => absurd z hm) fun _ => pm)
        have h := hf
        unfold SetTable.tooFull at h
        rw [decide_eq_true_eq, f5, q9, List.length_map] at h
        rw [hlen]
        omega
    by_cases hpl : t1.plain = true
    · first
        | (refine wpAny_bind ?_; refine wp_if_pos hpl ?_)
        | refine wp_if_pos hpl (wpAny_bind ?_)
      refine byVal_key _ _ 8 s hx.1 hx.2 _ _ _ fun b _ => ?_
      cases b with
      | true => simp only [if_true]; exact fin t1 rfl rfl rfl rfl rfl rfl
      | false => simp only [Bool.false_eq_true, if_false]; exact fin _ rfl rfl rfl rfl rfl rfl
    · first
        | (refine wpAny_bind ?_; refine wp_if_neg hpl ?_; refine wpAny_pure ?_)
        | refine wp_if_neg hpl (wpAny_bind (wpAny_pure ?_))
      simp only [if_true]
      exact fin t1 rfl rfl rfl rfl rfl rfl
/-- what the set has of the first items -/
structure Has (ks : List Mem) (i : Nat) (L : List Mem) : Prop where
  sub : ∀ p ∈ L, p ∈ ks.take i
  all : ∀ p ∈ ks.take i, p.2 ∈ L.map (·.2)
  len : L.length ≤ i
theorem Has.next {ks L L' : List Mem} {i : Nat} {x : Mem} (g : Has ks i L) (h : ks[i]? = some x) (c1 : x.2 ∈ L.map (·.2) → L' = L) (c2 : x.2 ∉ L.map (·.2) → L'.Perm (x :: L)) : Has ks (i + 1) L' := by
  have tk : ks.take (i + 1) = ks.take i ++ [x] := by rw [List.take_succ, h] <;> rfl
  have here : ∀ p, p ∈ ks.take (i + 1) → p ∈ ks.take i ∨ p = x := fun p hp => by
    rw [tk] at hp
    rcases List.mem_append.mp hp with z | z
    · exact .inl z
    · exact .inr (List.mem_singleton.mp z)
  have up : ∀ p, p ∈ ks.take i → p ∈ ks.take (i + 1) := fun p hp => by rw [tk]; exact List.mem_append_left _ hp
  by_cases c : x.2 ∈ L.map (·.2)
  · rw [c1 c]
    refine ⟨fun p hp => up p (g.sub p hp), fun p hp => ?_, Nat.le_succ_of_le g.len⟩
    rcases here p hp with z | z
    · exact g.all p z
    · rw [z]; exact c
  · have pm := c2 c
    refine ⟨fun p hp => ?_, fun p hp => ?_, by rw [pm.length_eq]; exact Nat.succ_le_succ g.len⟩
    · rcases List.mem_cons.mp (pm.mem_iff.mp hp) with z | z
      · rw [z, tk]; exact List.mem_append_right _ (List.mem_singleton.mpr rfl)
      · exact up p (g.sub p z)
    · rw [(pm.map (·.2)).mem_iff, List.map_cons]
      rcases here p hp with z | z
      · exact List.mem_cons_of_mem _ (g.all p z)
      · rw [z]; exact List.mem_cons_self
theorem KSet.on {h h' : Heap} (R : KSet P w h a L es ep t) (ha : ∀ o, h.get? a = some o → h'.get? a = some o) (hk : ∀ p ∈ L, KAt P w h' p.2 p.1) : KSet P w h' a L es ep t := by
  obtain ⟨o, ho, r⟩ := R.ob
  exact ⟨⟨o, ha o ho, r⟩, R.rows, R.tab, R.nd, hk, R.led, R.room, R.few⟩
abbrev newSetO (w : World) : Obj := { cls := .type "set", dict := none, data := .set #[] 0 (.fresh 0 0 (!w.params.followText "set-order")) }
theorem kset_new {h : Heap} (ho : h.get? a = some (newSetO w)) : KSet P w h a [] #[] 0 (.fresh 0 0 (!w.params.followText "set-order")) where
  ob := ⟨_, ho, ⟨rfl, rfl, rfl⟩, rfl⟩
  rows := rfl
  tab := ⟨List.Pairwise.nil, rfl, rfl, .inl rfl, fun x hx => (by cases hx), fun i h j hi => (by simp at hi)⟩
  nd := List.nodup_nil
  keys := fun p hp => (by cases hp)
  led := by cases e : w.params.followText "set-order" <;> simp [SetTable.fresh]
  room := by show 0 * 5 < 7 * 3; decide
  few := by show 0 < 64; decide
/-- the loop of set.update -/
theorem update_keys {I : Addr} {fp wr : List Addr} {G : Array GenState → Array GenState → Prop} {n : Nat} {Pv : Nat → Value → Prop} {St : Nat → Shared → Prop} {R : Result → Shared → Prop}
    (W : WalksS P w A.in1 I fp wr G n Pv St) (S : Addr) (hSf : S ∉ fp) (ks : List Mem) (hn : n = ks.length) (hfew : ks.length < 64) (hval : ∀ i v, Pv i v → ∃ p, ks[i]? = some p ∧ v = .ref p.1)
    (h0 : Heap) (hk : ∀ p ∈ ks, KAt P w h0 p.2 p.1) (hS0 : h0.get? S = none) (hw0 : ∀ b ∈ wr, h0.get? b = none) (hu : A.in1.units + 8 < cLine) :
    ∀ (k i : Nat) (s : Shared), n - i = k → i ≤ n → St i s → (∀ b o, h0.get? b = some o → s.heap.get? b = some o) → (∃ L es ep t, KSet P w s.heap S L es ep t ∧ Has ks i L) →
      (∀ s' L es ep t, Moved (S :: wr) G s s' → KSet P w s'.heap S L es ep t → Has ks n L → (∀ b o, h0.get? b = some o → s'.heap.get? b = some o) → R (.ok (.ret .none)) s') →
      codeAny (model P w) A (.builtin "set.update.loop" ⟨[.ref S, .ref I], []⟩) R s := by
  have hSw : S ∉ wr := fun h => hSf (W.sub _ h)
  have hsub : ∀ b ∈ wr, b ∈ S :: wr := fun b hb => List.mem_cons_of_mem _ hb
  have stay : ∀ {s s' : Shared}, Moved wr G s s' → (∀ b o, h0.get? b = some o → s.heap.get? b = some o) → ∀ b o, h0.get? b = some o → s'.heap.get? b = some o := fun hm hkp b o e =>
    hm.heap b o (fun hb => by rw [hw0 b hb] at e; cases e) (hkp b o e)
  intro k
  induction k with
  | zero =>
    intro i s hk' hi hst hkp ⟨L, es, ep, t, hS, g⟩ hR
    have hin : i = n := by omega
    subst hin
    refine codeAny_builtin F.entry_set_update_loop ?_
    rw [Around.under_plainId F.plain_set_update_loop _]
    show wpAny _ A.in1 (pyNext (.ref I) >>= _) _ _ s
    refine wpAny_bind (W.done s _ _ hst fun s' hm => ?_)
    show wpAny _ A.in1 (ret Value.none) _ _ s'
    have hkp' := stay hm hkp
    exact wpAny_pure (hR s' L es ep t (hm.mono hsub) (hS.on (fun o e => hm.heap S o hSw e) fun p hp => kAt_on (hk p (List.mem_of_mem_take (g.sub p hp))) hkp') g hkp')
  | succ k ih =>
    intro i s hk' hi hst hkp ⟨L, es, ep, t, hS, g⟩ hR
    have hlt : i < n := by omega
    refine codeAny_builtin F.entry_set_update_loop ?_
    rw [Around.under_plainId F.plain_set_update_loop _]
    show wpAny _ A.in1 (pyNext (.ref I) >>= _) _ _ s
    refine wpAny_bind (W.item i s _ _ hlt hst fun v s' hP hst' hm => ?_)
    obtain ⟨p, hp, rfl⟩ := hval i v hP
    have hkp' := stay hm hkp
    have hS' : KSet P w s'.heap S L es ep t := hS.on (fun o e => hm.heap S o hSw e) fun q hq => kAt_on (hk q (List.mem_of_mem_take (g.sub q hq))) hkp'
    have hx : KAt P w s'.heap p.2 p.1 := kAt_on (hk p (List.mem_of_getElem? hp)) hkp'
    show wpAny _ A.in1 (holding [Value.ref p.1] (setAdd S (.ref p.1)) >>= _) _ _ s'
    refine wpAny_bind (wpAny_holding ?_)
    unfold setAdd
    refine wpAny_holding ?_
    refine wpAny_bind ((nestedKind P w).pyHash hu hx ?_)
    refine put_in (s := { s' with toks := s'.toks + (nestedKind P w).draws p.2 }) hS' hx hu (by have := g.len; omega) fun b h' L' es' ep' t' hsb hS2 c1 c2 => ?_
    have hkp2 : ∀ b o, h0.get? b = some o → h'.get? b = some o := fun b o e => (hsb.2 b (fun z => by rw [z, hS0] at e; cases e)).trans (hkp' b o e)
    refine wpAny_pure ⟨plainId_quiet F.plain_set_update_loop _, ih (i + 1) _ (by omega) hlt (W.frame _ s' _ _ hst' (Nat.le_add_right _ _) fun b hb o e => ?_) hkp2 ⟨L', es', ep', t', hS2, g.next hp c1 c2⟩ fun s'' L2 es2 ep2 t2 hm'' hS'' g'' hkp'' => ?_⟩
    · rw [hsb.2 b (fun h : b = S => hSf (by rw [← h]; exact hb))]; exact e
    · refine hR s'' L2 es2 ep2 t2 (Moved.trans W.gtrans ((hm.mono hsub).then_heap (Nat.le_add_right _ _) fun b o hb e => ?_) hm'') hS'' g'' hkp''
      rw [hsb.2 b (fun h : b = S => hb (by rw [h]; exact List.mem_cons_self))]; exact e
end
end Ev
end

section
set_option Elab.async false
set_option linter.all false
set_option autoImplicit false
set_option maxRecDepth 100000
set_option maxHeartbeats 4000000
/-! # set(xs) of a list or a tuple of keys -/
namespace Ev
open PySem PySem.Spec PyProof.Rows L2
section
variable {P : Program} {w : World} {A : Around} {E : Value → Shared → Prop} {s : Shared}
/-- the set, the walk of the source behind it -/
theorem fill_set {l I : Addr} {ic : Obj} {ks : List Mem} {n : Nat} {Pv : Nat → Value → Prop} {St : Nat → Shared → Prop} {R : Result → Shared → Prop} {G : Array GenState → Array GenState → Prop}
    (W : WalksS P w A.in1 I [I, l] [I] G n Pv St) (hI : I = s.heap.objs.size + 1) (hl : l < s.heap.objs.size) (hn : n = ks.length) (hfew : ks.length < 64) (hval : ∀ i v, Pv i v → ∃ p, ks[i]? = some p ∧ v = .ref p.1)
    (hk : ∀ p ∈ ks, KAt P w s.heap p.2 p.1) (hu : A.in1.units + 8 < cLine) (hst : St 0 { s with heap := (s.heap.push (newSetO w)).push ic })
    (h : ∀ s' L es ep t, Moved [s.heap.objs.size, I] G { s with heap := (s.heap.push (newSetO w)).push ic } s' → KSet P w s'.heap s.heap.objs.size L es ep t → Has ks ks.length L → (∀ b o, s.heap.get? b = some o → s'.heap.get? b = some o) → R (.ok (.ret .none)) s') :
    codeAny (model P w) A (.builtin "set.update.loop" ⟨[.ref s.heap.objs.size, .ref I], []⟩) R { s with heap := (s.heap.push (newSetO w)).push ic } := by
  have far : ∀ b, s.heap.objs.size ≤ b → s.heap.get? b = none := fun b hb => by
    cases q : s.heap.get? b with
    | none => rfl
    | some o => exact absurd (Nat.lt_of_lt_of_le (Heap.lt_size q) hb) (Nat.lt_irrefl _)
  have hget : ((s.heap.push (newSetO w)).push ic).get? s.heap.objs.size = some (newSetO w) := Heap.get?_push_of_some _ (Heap.get?_push_size _ rfl)
  subst hn
  refine update_keys W s.heap.objs.size (by rw [hI]; simp only [List.mem_cons, List.not_mem_nil, or_false, not_or]; exact ⟨Nat.ne_of_lt (Nat.lt_succ_self _), Nat.ne_of_gt hl⟩) ks rfl hfew hval s.heap hk (far _ (Nat.le_refl _)) (fun b hb => far b (by rw [List.mem_singleton.mp hb, hI]; exact Nat.le_succ _)) hu
    (ks.length - 0) 0 _ rfl (Nat.zero_le _) hst (fun b o e => Heap.get?_push_of_some _ (Heap.get?_push_of_some _ e)) ⟨[], #[], 0, _, kset_new hget, fun p hp => (by cases hp), fun p hp => (by simp at hp), Nat.le_refl _⟩ h

theorem call_set_list {l : Addr} {items : Array Value} (ks : List Mem) {Q : Value → Shared → Prop} (hh : A.handled = none) (hl : s.heap.IsList l items) (hit : items.toList = ks.map fun p => Value.ref p.1)
    (hk : ∀ p ∈ ks, KAt P w s.heap p.2 p.1) (hfew : ks.length < 64) (hu : A.units + 20 < cLine)
    (h : ∀ (h' : Heap) (tk : Nat) L es ep t, KSet P w h' s.heap.objs.size L es ep t → Has ks ks.length L → (∀ b o, s.heap.get? b = some o → h'.get? b = some o) → Q (.ref s.heap.objs.size) { s with heap := h', toks := tk }) :
    wpAny (model P w) A (call (.type "set") [.ref l]) Q E s := by
  have hisz : items.size = ks.length := by
    have q := congrArg List.length hit
    rwa [Array.length_toList, List.length_map] at q
  obtain ⟨c, tl, hmro⟩ := F.called_set.mro
  have hmade := F.called_set.made
  have hsub := F.called_set.sub
  refine wpAny_call (codeAny_of_tree ?_)
  show wpAny _ _ (callAny (.type "set") _) _ _ _
  refine wpAny_pure ⟨Code.quiet_builtin _ (by decide +kernel), codeAny_builtin F.entry_type_call ?_⟩
  rw [Around.under_plain (weight_type_call_type "set" [.ref l] []) rfl]
  have h1 := F.called_set.notType
  have h2 := F.called_set.canCreate
  have hct := F.typeCall_set_1 (.ref l)
  repeat (any_goals (first | assumption | wp_step))
  refine codeAny_mono (code_set_led1 (.ref l) (E := E) (Q₁ := fun obj s₁ => obj = .ref s.heap.objs.size ∧ s₁ = { s with heap := s.heap.push (newSetO w) }) ⟨rfl, rfl⟩) fun r s₁ hr => ?_
  cases r with
  | error e => exact hr
  | ok fl =>
    cases fl with
    | ret obj =>
      obtain ⟨rfl, rfl⟩ := hr
      have hT : Shared.TypeIs { s with heap := s.heap.push (newSetO w) } (.ref s.heap.objs.size) "set" := ⟨_, Heap.get?_push_size _ rfl, rfl⟩
      have hli := F.called_set.init.lookup
      have hbi := F.called_set.init.bind (.ref s.heap.objs.size)
      repeat (any_goals (first | assumption | wp_step))
      refine codeAny_mono (codeAny_call_builtin (R := wants (fun r s₂ => r = .none ∧ ∃ h' tk L es ep t, s₂ = { s with heap := h', toks := tk } ∧ KSet P w h' s.heap.objs.size L es ep t ∧ Has ks ks.length L ∧
          (∀ b o, s.heap.get? b = some o → h'.get? b = some o)) E) F.called_set.init.plain F.entry_set_init (check_set_init_1 hT ?_)) fun r₂ s₂ hr₂ => ?_
      · obtain ⟨ol, hol, hcl, nl, hdl⟩ := hl
        obtain ⟨ocls, odict, odata, oslots⟩ := ol
        simp only at hcl hdl
        subst hcl; subst hdl
        have hol' : (s.heap.push (newSetO w)).get? l = some { cls := .type "list", dict := odict, data := .seq items nl, slots := oslots } := Heap.get?_push_of_some _ hol
        have hsls := F.sub_list_set
        have hslf := F.sub_list_frozenset
        have hne : (Value.type "list" == Value.type "dict") = false := by decide
        have hl1 : (s.heap.push (newSetO w)).IsList l items := ⟨_, hol', rfl, nl, rfl⟩
        unfold Builtin.«set.__init__» noKeywords Builtin.Frozenset.updateFrom
        generalize hPI : pyIter = PI
        wp_walk
        subst hPI
        refine wpAny_pyIter_list hl1 ?_
        refine wpAny_bind (wpAny_runValue ?_)
        have hlS : l < s.heap.objs.size := Heap.lt_size hol
        have hh3 : A.in1.in1.in1.handled = none := by simp [hh]
        have hz1 : (s.heap.push (newSetO w)).objs.size = s.heap.objs.size + 1 := Heap.size_push ..
        have hneI : l ≠ (s.heap.push (newSetO w)).objs.size := by rw [hz1]; exact Nat.ne_of_lt (Nat.lt_succ_of_lt hlS)
        have e3 : A.units + 1 + 1 + 1 + 8 < cLine := by omega
        have hu3 : A.in1.in1.in1.units + 8 < cLine := e3
        refine fill_set (ks := ks) ((Walks.list hh3 _ l hneI items).toS) hz1 hlS hisz hfew (fun i v hv => ?_) hk hu3 ⟨⟨_, Heap.get?_push_size _ rfl, rfl, rfl⟩, (hl1.push _)⟩ fun s' L es ep t hm hS' g' hkp => ?_
        · have q : items.toList[i]? = some v := by rw [Array.getElem?_toList]; exact hv
          rw [hit, List.getElem?_map] at q
          cases hq : ks[i]? with
          | none => rw [hq] at q; cases q
          | some p => rw [hq] at q; exact ⟨p, rfl, (Option.some.inj q).symm⟩
        · obtain ⟨h', g2, d', tk', os'⟩ := s'
          have eg : g2 = s.gens := hm.gens
          have ed : d' = s.drawn := hm.drawn
          have eo : os' = s.os := hm.os
          subst eg; subst ed; subst eo
          show wpAny _ _ _ _ _ _
          refine wpAny_pure ?_
          show wpAny _ _ (ret Value.none) _ _ _
          exact wpAny_pure ⟨rfl, h', tk', L, es, ep, t, rfl, hS', g', hkp⟩
      · cases r₂ with
        | error e => exact hr₂
        | ok fl₂ =>
          cases fl₂ with
          | ret r =>
            obtain ⟨rfl, h', tk, L, es, ep, t, rfl, hS', g', hk'⟩ := hr₂
            repeat (any_goals (first | assumption | wp_step))
            exact h _ _ _ _ _ _ hS' g' hk'
          | _ => exact hr₂.elim
    | _ => exact hr.elim

theorem call_set_tuple {l : Addr} {items : Array Value} (ks : List Mem) {Q : Value → Shared → Prop} (hh : A.handled = none) (hl : s.heap.IsTuple l items) (hit : items.toList = ks.map fun p => Value.ref p.1)
    (hk : ∀ p ∈ ks, KAt P w s.heap p.2 p.1) (hfew : ks.length < 64) (hu : A.units + 20 < cLine)
    (h : ∀ (h' : Heap) (tk : Nat) L es ep t, KSet P w h' s.heap.objs.size L es ep t → Has ks ks.length L → (∀ b o, s.heap.get? b = some o → h'.get? b = some o) → Q (.ref s.heap.objs.size) { s with heap := h', toks := tk }) :
    wpAny (model P w) A (call (.type "set") [.ref l]) Q E s := by
  have hisz : items.size = ks.length := by
    have q := congrArg List.length hit
    rwa [Array.length_toList, List.length_map] at q
  obtain ⟨c, tl, hmro⟩ := F.called_set.mro
  have hmade := F.called_set.made
  have hsub := F.called_set.sub
  refine wpAny_call (codeAny_of_tree ?_)
  show wpAny _ _ (callAny (.type "set") _) _ _ _
  refine wpAny_pure ⟨Code.quiet_builtin _ (by decide +kernel), codeAny_builtin F.entry_type_call ?_⟩
  rw [Around.under_plain (weight_type_call_type "set" [.ref l] []) rfl]
  have h1 := F.called_set.notType
  have h2 := F.called_set.canCreate
  have hct := F.typeCall_set_1 (.ref l)
  repeat (any_goals (first | assumption | wp_step))
  refine codeAny_mono (code_set_led1 (.ref l) (E := E) (Q₁ := fun obj s₁ => obj = .ref s.heap.objs.size ∧ s₁ = { s with heap := s.heap.push (newSetO w) }) ⟨rfl, rfl⟩) fun r s₁ hr => ?_
  cases r with
  | error e => exact hr
  | ok fl =>
    cases fl with
    | ret obj =>
      obtain ⟨rfl, rfl⟩ := hr
      have hT : Shared.TypeIs { s with heap := s.heap.push (newSetO w) } (.ref s.heap.objs.size) "set" := ⟨_, Heap.get?_push_size _ rfl, rfl⟩
      have hli := F.called_set.init.lookup
      have hbi := F.called_set.init.bind (.ref s.heap.objs.size)
      repeat (any_goals (first | assumption | wp_step))
      refine codeAny_mono (codeAny_call_builtin (R := wants (fun r s₂ => r = .none ∧ ∃ h' tk L es ep t, s₂ = { s with heap := h', toks := tk } ∧ KSet P w h' s.heap.objs.size L es ep t ∧ Has ks ks.length L ∧
          (∀ b o, s.heap.get? b = some o → h'.get? b = some o)) E) F.called_set.init.plain F.entry_set_init (check_set_init_1 hT ?_)) fun r₂ s₂ hr₂ => ?_
      · obtain ⟨ol, hol, hcl, nl, hdl⟩ := hl
        obtain ⟨ocls, odict, odata, oslots⟩ := ol
        simp only at hcl hdl
        subst hcl; subst hdl
        have hol' : (s.heap.push (newSetO w)).get? l = some { cls := .type "tuple", dict := odict, data := .seq items nl, slots := oslots } := Heap.get?_push_of_some _ hol
        have hsls := F.sub_tuple_set
        have hslf := F.sub_tuple_frozenset
        have hne : (Value.type "tuple" == Value.type "dict") = false := by decide
        have hl1 : (s.heap.push (newSetO w)).IsTuple l items := ⟨_, hol', rfl, nl, rfl⟩
        unfold Builtin.«set.__init__» noKeywords Builtin.Frozenset.updateFrom
        generalize hPI : pyIter = PI
        wp_walk
        subst hPI
        refine wpAny_pyIter_tuple hl1 ?_
        refine wpAny_bind (wpAny_runValue ?_)
        have hlS : l < s.heap.objs.size := Heap.lt_size hol
        have hh3 : A.in1.in1.in1.handled = none := by simp [hh]
        have hz1 : (s.heap.push (newSetO w)).objs.size = s.heap.objs.size + 1 := Heap.size_push ..
        have hneI : l ≠ (s.heap.push (newSetO w)).objs.size := by rw [hz1]; exact Nat.ne_of_lt (Nat.lt_succ_of_lt hlS)
        have e3 : A.units + 1 + 1 + 1 + 8 < cLine := by omega
        have hu3 : A.in1.in1.in1.units + 8 < cLine := e3
        refine fill_set (ks := ks) ((Walks.tuple hh3 _ l hneI items).toS) hz1 hlS hisz hfew (fun i v hv => ?_) hk hu3 ⟨⟨_, Heap.get?_push_size _ rfl, rfl, rfl⟩, (hl1.push _)⟩ fun s' L es ep t hm hS' g' hkp => ?_
        · have q : items.toList[i]? = some v := by rw [Array.getElem?_toList]; exact hv
          rw [hit, List.getElem?_map] at q
          cases hq : ks[i]? with
          | none => rw [hq] at q; cases q
          | some p => rw [hq] at q; exact ⟨p, rfl, (Option.some.inj q).symm⟩
        · obtain ⟨h', g2, d', tk', os'⟩ := s'
          have eg : g2 = s.gens := hm.gens
          have ed : d' = s.drawn := hm.drawn
          have eo : os' = s.os := hm.os
          subst eg; subst ed; subst eo
          show wpAny _ _ _ _ _ _
          refine wpAny_pure ?_
          show wpAny _ _ (ret Value.none) _ _ _
          exact wpAny_pure ⟨rfl, h', tk', L, es, ep, t, rfl, hS', g', hkp⟩
      · cases r₂ with
        | error e => exact hr₂
        | ok fl₂ =>
          cases fl₂ with
          | ret r =>
            obtain ⟨rfl, h', tk, L, es, ep, t, rfl, hS', g', hk'⟩ := hr₂
            repeat (any_goals (first | assumption | wp_step))
            exact h _ _ _ _ _ _ hS' g' hk'
          | _ => exact hr₂.elim
    | _ => exact hr.elim
end
end Ev
end

section
set_option Elab.async false
set_option linter.all false
set_option autoImplicit false
set_option maxRecDepth 100000
set_option maxHeartbeats 4000000
/-! # More operations: len(set(xs)), str(x), xs.count(y), x[::-1] -/
namespace Ev
open PySem PySem.Spec PyProof.Rows L2
/-! ### data as keys -/
mutual
def nkD : PyData → NestedKey
  | .none => .none
  | .bool b => .num (if b = true then 1 else 0)
  | .int i => .num i
  | .str z => .text z
  | .tuple ks => .tup (nksD ks)
  | .list _ => .none
  | .dict _ => .none
def nksD : List PyData → List NestedKey
  | [] => []
  | p :: r => nkD p :: nksD r
end
mutual
theorem nk_reads {h : Heap} : ∀ {p : PyData} {v : Value} {as : List Addr}, Reads h v p as → keyB p = true → NestedIs h (nkD p) v
  | _, _, _, .none, _ => .none
  | _, _, _, .bool b, _ => .bool rfl
  | _, _, _, .int i t, _ => .int i t
  | _, _, _, .str x t, _ => .text x t
  | _, _, _, .list _ _ _ _, e => by cases e
  | _, _, _, .tuple h1 h2 h3 h4, e => .tup h1 h2 h3 (nks_reads h4 e)
  | _, _, _, .dict _ _ _ _ _, e => by cases e
theorem nks_reads {h : Heap} : ∀ {ps : List PyData} {vs : List Value} {as : List Addr}, ReadsAll h vs ps as → keysB ps = true → NestedAll h (nksD ps) vs
  | _, _, _, .nil, _ => .nil
  | _, _, _, .cons a r, e => by
    have e : (keyB _ && keysB _) = true := e
    rw [Bool.and_eq_true] at e
    exact .cons (nk_reads a e.1) (nks_reads r e.2)
end
theorem beq_dec {α : Type} [BEq α] [LawfulBEq α] [DecidableEq α] (a b : α) : (a == b) = decide (a = b) := by rw [Bool.eq_iff_iff]; simp
mutual
theorem nk_eqv : ∀ (a b : PyData), keyB a = true → keyB b = true → PyData.eqv a b = NestedKey.beq (nkD a) (nkD b)
  | .none, b, _, h => by cases b <;> first | rfl | cases h
  | .bool x, b, _, h => by
    cases b with
    | bool y => show (x == y) = decide ((if x = true then (1 : Int) else 0) = if y = true then 1 else 0); cases x <;> cases y <;> decide
    | int j => show ((if x = true then (1 : Int) else 0) == j) = decide ((if x = true then (1 : Int) else 0) = j); exact beq_dec _ _
    | _ => first | rfl | cases h
  | .int i, b, _, h => by
    cases b with
    | bool y => show (i == (if y = true then (1 : Int) else 0)) = decide (i = (if y = true then (1 : Int) else 0)); exact beq_dec _ _
    | int j => show (i == j) = decide (i = j); exact beq_dec _ _
    | _ => first | rfl | cases h
  | .str x, b, _, h => by
    cases b with
    | str y => show (x == y) = decide (x = y); exact beq_dec _ _
    | _ => first | rfl | cases h
  | .tuple xs, b, h1, h => by
    cases b with
    | tuple ys => exact nks_eqv xs ys h1 h
    | _ => first | rfl | cases h
  | .list _, _, h, _ => by cases h
  | .dict _, _, h, _ => by cases h
theorem nks_eqv : ∀ (xs ys : List PyData), keysB xs = true → keysB ys = true → PyData.eqvAll xs ys = NestedKey.beqAll (nksD xs) (nksD ys)
  | [], [], _, _ => rfl
  | [], _ :: _, _, _ => rfl
  | _ :: _, [], _, _ => rfl
  | x :: xs, y :: ys, h1, h2 => by
    have h1 : (keyB x && keysB xs) = true := h1
    have h2 : (keyB y && keysB ys) = true := h2
    rw [Bool.and_eq_true] at h1 h2
    show (PyData.eqv x y && PyData.eqvAll xs ys) = (NestedKey.beq (nkD x) (nkD y) && NestedKey.beqAll (nksD xs) (nksD ys))
    rw [nk_eqv x y h1.1 h2.1, nks_eqv xs ys h1.2 h2.2]
end
theorem nk_same {a b : PyData} (ha : keyB a = true) (hb : keyB b = true) : PyData.eqv a b = decide (nkD a = nkD b) := by rw [nk_eqv a b ha hb, NestedKey.decide_eq]
mutual
theorem nk_depth : ∀ p : PyData, keyB p = true → (nkD p).depth = p.depth
  | .none, _ => rfl
  | .bool _, _ => rfl
  | .int _, _ => rfl
  | .str _, _ => rfl
  | .tuple ks, h => by
    show NestedKey.depthAll (nksD ks) + 1 = PyData.depthAll ks + 1
    rw [nks_depth ks h]
  | .list _, h => by cases h
  | .dict _, h => by cases h
theorem nks_depth : ∀ ps : List PyData, keysB ps = true → NestedKey.depthAll (nksD ps) = PyData.depthAll ps
  | [], _ => rfl
  | p :: r, h => by
    have h : (keyB p && keysB r) = true := h
    rw [Bool.and_eq_true] at h
    show max (nkD p).depth (NestedKey.depthAll (nksD r)) = max p.depth (PyData.depthAll r)
    rw [nk_depth p h.1, nks_depth r h.2]
end
/-! ### len(set(xs)) -/
theorem keysB_mem : ∀ {ps : List PyData} {p : PyData}, keysB ps = true → p ∈ ps → keyB p = true
  | q :: r, p, h, m => by
    have h : (keyB q && keysB r) = true := h
    rw [Bool.and_eq_true] at h
    rcases List.mem_cons.mp m with e | m
    · rw [e]; exact h.1
    · exact keysB_mem h.2 m
theorem tupKey_key {p : PyData} (h : tupKey p = true) : keyB p = true ∧ p.depth ≤ 8 ∧ ∃ ks, p = .tuple ks := by
  cases p with
  | tuple ks =>
    have h : (keysB ks && decide (PyData.depthAll ks < 8)) = true := h
    rw [Bool.and_eq_true, decide_eq_true_eq] at h
    exact ⟨h.1, (show PyData.depthAll ks + 1 ≤ 8 by omega), ks, rfl⟩
  | _ => cases h
/-- the members, each once, are as many as the different ones among the data -/
theorem dist_keys : ∀ (ps seen : List PyData), (∀ p ∈ ps, keyB p = true) → (∀ p ∈ seen, keyB p = true) →
    ((distD seen ps).map nkD).Nodup ∧ ∀ k, k ∈ (distD seen ps).map nkD ↔ k ∈ ps.map nkD ∧ k ∉ seen.map nkD
  | [], seen, _, _ => ⟨List.nodup_nil, fun k => by simp [distD]⟩
  | p :: r, seen, h, hs => by
    have hp := h p List.mem_cons_self
    have e : (seen.any fun y => PyData.eqv y p) = true ↔ nkD p ∈ seen.map nkD := by
      rw [List.any_eq_true, List.mem_map]
      constructor
      · rintro ⟨y, hy, q⟩
        rw [nk_same (hs y hy) hp] at q
        exact ⟨y, hy, of_decide_eq_true q⟩
      · rintro ⟨y, hy, q⟩
        exact ⟨y, hy, by rw [nk_same (hs y hy) hp]; exact decide_eq_true q⟩
    unfold distD
    by_cases c : (seen.any fun y => PyData.eqv y p) = true
    · rw [if_pos c]
      obtain ⟨h1, h2⟩ := dist_keys r seen (fun q hq => h q (List.mem_cons_of_mem _ hq)) hs
      refine ⟨h1, fun k => (h2 k).trans ⟨fun z => ⟨by rw [List.map_cons]; exact List.mem_cons_of_mem _ z.1, z.2⟩, fun z => ⟨?_, z.2⟩⟩⟩
      rcases List.mem_cons.mp (by rw [List.map_cons] at z; exact z.1) with q | q
      · exact absurd (by rw [q]; exact e.mp c) z.2
      · exact q
    · rw [if_neg c]
      obtain ⟨h1, h2⟩ := dist_keys r (p :: seen) (fun q hq => h q (List.mem_cons_of_mem _ hq)) (fun q hq => by
        rcases List.mem_cons.mp hq with z | z
        · rw [z]; exact hp
        · exact hs q z)
      have c' : nkD p ∉ seen.map nkD := fun z => c (e.mpr z)
      rw [List.map_cons]
      refine ⟨List.nodup_cons.mpr ⟨fun z => ((h2 _).mp z).2 (by rw [List.map_cons]; exact List.mem_cons_self), h1⟩, fun k => ?_⟩
      rw [List.mem_cons, h2, List.map_cons, List.map_cons, List.mem_cons, List.mem_cons, not_or]
      constructor
      · rintro (z | ⟨z1, z2, z3⟩)
        · exact ⟨.inl z, by rw [z]; exact c'⟩
        · exact ⟨.inr z1, z3⟩
      · rintro ⟨z | z, z2⟩
        · exact .inl z
        · by_cases q : k = nkD p
          · exact .inl q
          · exact .inr ⟨z, q, z2⟩
theorem len_same {ks L : List Mem} {ps : List PyData} (g : Has ks ks.length L) (nd : (L.map (·.2)).Nodup) (hk : ks.map (·.2) = ps.map nkD) (hp : ∀ p ∈ ps, keyB p = true) : L.length = (distD [] ps).length := by
  obtain ⟨h1, h2⟩ := dist_keys ps [] hp fun p hp => by cases hp
  have pm : (L.map (·.2)).Perm ((distD [] ps).map nkD) := (List.perm_ext_iff_of_nodup nd h1).mpr fun k => by
    rw [h2 k, ← hk]
    constructor
    · intro z
      obtain ⟨q, hq, e⟩ := List.mem_map.mp z
      refine ⟨List.mem_map.mpr ⟨q, List.mem_of_mem_take (g.sub q hq), e⟩, by simp⟩
    · rintro ⟨z, _⟩
      obtain ⟨q, hq, e⟩ := List.mem_map.mp z
      rw [← e]
      exact g.all q (by rw [List.take_length]; exact hq)
  have e := pm.length_eq
  rwa [List.length_map, List.length_map] at e
theorem reads_mems {h : Heap} : ∀ {ps : List PyData} {vs : List Value} {as : List Addr}, ReadsAll h vs ps as → (∀ p ∈ ps, tupKey p = true) → ∀ {P : Program} {w : World}, ∃ ks : List Mem, vs = ks.map (fun p => Value.ref p.1) ∧ ks.map (·.2) = ps.map nkD ∧ ∀ p ∈ ks, KAt P w h p.2 p.1
  | _, _, _, .nil, _, _, _ => ⟨[], rfl, rfl, fun p hp => by cases hp⟩
  | p :: r, _, _, .cons a b, hp, P, w => by
    obtain ⟨k1, k2, ts, rfl⟩ := tupKey_key (hp p List.mem_cons_self)
    obtain ⟨ks, e1, e2, e3⟩ := reads_mems b (fun q hq => hp q (List.mem_cons_of_mem _ hq)) (P := P) (w := w)
    have hn := nk_reads a k1
    cases a with
    | @tuple ad ob vl n _ _ g1 g2 g3 g4 =>
      refine ⟨(ad, nkD (.tuple ts)) :: ks, by rw [e1] <;> rfl, by rw [List.map_cons, List.map_cons, e2], fun q hq => ?_⟩
      rcases List.mem_cons.mp hq with z | z
      · rw [z]; exact ⟨hn, by rw [nk_depth _ k1]; exact k2⟩
      · exact e3 q z
theorem Rs.reads {X : Cx} {pins : List (Addr × Obj)} {σ : L2.St} {H : Hp} {s : Shared} {M : Ms} (I : Inv X pins σ H s) {x : V} {p : PyData} {v : Value} (h : Rs X.K M H x p) (r : RelV x v) : ∃ as, Reads s.heap v p as := Dp.reads I p x v h.dp r
/-- len(set(xs)) -/
def tLenS (K : W.Frag) (T : List (Addr × Str)) (ta : TE) : TE := fun σ H Q => ta σ H fun x H1 => ∃ M S p r, Rs K M H1 x p ∧ StOk K T M S H1 ∧ lensetD p = some r ∧ Wish K T M S H1 r Q
theorem pe_lenset {X : Cx} {T : List (Addr × Str)} {a : Expr} {ta : TE} {p p2 q pos : Pos} (hc : X.calm = true) (hu : X.A.units + 70 < cLine) (hg : Gl X "len") (hm : X.mg "len" = none) (hg2 : Gl X "set") (hm2 : X.mg "set" = none) (ha : PE X a ta)
    (na : starEach [a] X.env = (false, eval a X.env) :: starEach [] X.env) : PE X (.Call (.Name "len" p) [.Call (.Name "set" p2) [a] [] q] [] pos) (tLenS X.K T ta) := by
  refine ⟨fun pins s σ H Q I h => ?_⟩
  refine Call_ (ld_blt I hg hm PySem.boot_len ?_)
  refine PyProof.Rows.callWith_builtin1 (PyProof.Rows.args_cons ?_ rfl) rfl rfl
  refine Call_ (ld_blt I hg2 hm2 PyProof.Rows.boot_set ?_)
  refine PyProof.Rows.callWith_type1 (PyProof.Rows.args_cons (thn (ha.run pins s σ H _ I h) fun v s1 ⟨x, H1, I1, r1, q1⟩ => PyProof.Rows.args_nil ?_) na) na rfl
  obtain ⟨M, S, d, r, rx, st, e, w⟩ := q1
  have fin : ∀ {ks L : List Mem} {xs : List PyData} {h' : Heap} {tk : Nat} {es : Array (Int × Value)} {ep : Nat} {t : SetTable}, (∀ p ∈ xs, tupKey p = true) → r = .int (distD [] xs).length → ks.map (·.2) = xs.map nkD →
      KSet X.prog X.w h' s1.heap.objs.size L es ep t → Has ks ks.length L → (∀ b o, s1.heap.get? b = some o → h'.get? b = some o) →
      wpAny (model X.prog X.w) X.A (call (.builtin "len") [.ref s1.heap.objs.size]) (EP X pins σ Q) X.xe { s1 with heap := h', toks := tk } := fun {ks L xs h' tk es ep t} hx er hk R g k => by
    obtain ⟨o, ho, hex, hd⟩ := R.ob
    have hl := len_same g R.nd hk fun p hp => (tupKey_key (hx p hp)).1
    have hsz := rowsK_len R.rows
    have hfew := R.few
    have I2 : Inv X pins σ H1 { s1 with heap := h', toks := tk } := I1.kept k
    refine call_len_set ho hex hd R.fits (by rw [hsz]; omega) ⟨.int (distD [] xs).length, H1, I2.tok _, ⟨_, by rw [hsz, hl]⟩, ?_⟩
    subst er
    exact w.here st (.int _)
  unfold lensetD at e
  cases es : seqD d with
  | none => rw [es] at e; cases e
  | some xs =>
    rw [es] at e
    have e : (if (decide (xs.length < 64) && xs.all tupKey) = true then some (PyData.int (distD [] xs).length) else none) = some r := e
    split at e
    · rename_i hx
      rw [Bool.and_eq_true, decide_eq_true_eq, List.all_eq_true] at hx
      cases e
      obtain ⟨as, rd⟩ := Rs.reads I1 rx r1
      cases d with
      | list ys =>
        cases es
        cases rd with
        | list g1 g2 g3 g4 =>
          obtain ⟨ks, e1, e2, e3⟩ := reads_mems g4 hx.2 (P := X.prog) (w := X.w)
          have hkl : ks.length = xs.length := by have z := congrArg List.length e2; rwa [List.length_map, List.length_map] at z
          exact call_set_list ks (I1.ok.hd hc) ⟨_, g1, g2, _, g3⟩ e1 e3 (by rw [hkl]; exact hx.1) (by omega) fun h' tk L es ep t R g k => PyProof.Rows.args_nil (fin hx.2 rfl e2 R g k)
      | tuple ys =>
        cases es
        cases rd with
        | tuple g1 g2 g3 g4 =>
          obtain ⟨ks, e1, e2, e3⟩ := reads_mems g4 hx.2 (P := X.prog) (w := X.w)
          have hkl : ks.length = xs.length := by have z := congrArg List.length e2; rwa [List.length_map, List.length_map] at z
          exact call_set_tuple ks (I1.ok.hd hc) ⟨_, g1, g2, _, g3⟩ e1 e3 (by rw [hkl]; exact hx.1) (by omega) fun h' tk L es ep t R g k => PyProof.Rows.args_nil (fin hx.2 rfl e2 R g k)
      | _ => cases es
    · cases e
end Ev
end

section
set_option Elab.async false
set_option linter.all false
set_option autoImplicit false
set_option maxRecDepth 100000
set_option maxHeartbeats 4000000
/-! # str(x); count, index; x[::-1] -/
namespace Ev
open PySem PySem.Spec PyProof.Rows L2
section
variable {X : Cx} {T : List (Addr × Str)}
theorem call_str_bl : CallR X (.type "str") (fun xs H Q => ∃ b : Bool, xs = [.bl b] ∧ Q (.str (if b = true then "True" else "False")) H) := by
  intro pins s σ H xs us Q I r h
  obtain ⟨b, rfl, q⟩ := h
  obtain ⟨u, rfl, r1⟩ := vals1 r
  cases r1
  exact PySem.P.str_of_bool ⟨.str _, H, I.tok _, ⟨_, rfl⟩, q⟩
theorem blt_str : CallR X (.type "str") (rB X.K T .str) := by
  intro pins s σ H xs us Q I r ⟨M, S, x, u, p, d, ex, ru, st, e1, e2, w⟩
  subst ex
  have rp := rs_of ru st e1
  unfold bltD at e2
  cases p with
  | int i =>
    have e2 : (if i.natAbs.log2 < 1920 then some (PyData.str (toString i)) else none) = some d := e2
    split at e2
    · rename_i hz
      cases e2
      exact call_str_int pins s σ H _ us Q I r ⟨i, by rw [rp.int], hz, w.here st (.str _)⟩
    · cases e2
  | bool b =>
    cases e2
    exact call_str_bl pins s σ H _ us Q I r ⟨b, by rw [rp.bool], w.here st (.str _)⟩
  | str z =>
    cases e2
    exact SkE.call_str_str pins s σ H _ us Q I r ⟨z, by rw [rp.str], w.here st (.str _)⟩
  | _ => cases e2
/-! ### count, index -/
/-- a method, the receiver of a kind -/
def rMK (K : W.Frag) (T : List (Addr × Str)) (m : Mth) (k : PyData → Bool) : V → List V → Hp → VK → Prop := fun x xs H Q => ∃ M S y p q r, xs = [y] ∧ Rs K M H x p ∧ Rs K M H y q ∧ StOk K T M S H ∧ k p = true ∧ mthD m p [q] = some r ∧ Wish K T M S H r Q
def isListD : PyData → Bool
  | .list _ => true
  | _ => false
def isTupD : PyData → Bool
  | .tuple _ => true
  | _ => false
theorem mth_lcount (hu : X.A.units + 65 < cLine) : MtR X "list.count" (rMK X.K T .count isListD) := by
  intro pins s σ H x xs v us Q I rx rxs h
  obtain ⟨M, S, y, p, q, r, rfl, rp, rq, st, hk, e, w⟩ := h
  cases p with
  | list ys =>
    have e : (if (SeqAt.shaped q && SeqAt.shaped (.list ys)) = true then some (PyData.int (ys.countP fun z => PyData.eqv z q)) else none) = some r := e
    split at e
    · rename_i hs
      rw [Bool.and_eq_true] at hs
      cases e
      obtain ⟨u, rfl, ru⟩ := rxs.one
      obtain ⟨as, r1⟩ := Rs.reads I rp rx
      obtain ⟨bs, r2⟩ := Rs.reads I rq ru
      cases r1 with
      | list g1 g2 g3 g4 =>
        have d1 := SeqAt.depth_of_shaped hs.1
        exact SeqAt.count_list_data ⟨_, g1, g2, _, g3⟩ g4 r2 (PyData.plainAll_of_canLay0 _ (SeqAt.canLay_of_shaped hs.2)) (PyData.plain_of_canLay0 _ (SeqAt.canLay_of_shaped hs.1)) (by omega) ⟨.int _, H, I.tok _, ⟨_, rfl⟩, w.here st (.int _)⟩
    · cases e
  | _ => cases hk
theorem mth_tcount (hu : X.A.units + 65 < cLine) : MtR X "tuple.count" (rMK X.K T .count isTupD) := by
  intro pins s σ H x xs v us Q I rx rxs h
  obtain ⟨M, S, y, p, q, r, rfl, rp, rq, st, hk, e, w⟩ := h
  cases p with
  | tuple ys =>
    have e : (if (SeqAt.shaped q && SeqAt.shaped (.tuple ys)) = true then some (PyData.int (ys.countP fun z => PyData.eqv z q)) else none) = some r := e
    split at e
    · rename_i hs
      rw [Bool.and_eq_true] at hs
      cases e
      obtain ⟨u, rfl, ru⟩ := rxs.one
      obtain ⟨as, r1⟩ := Rs.reads I rp rx
      obtain ⟨bs, r2⟩ := Rs.reads I rq ru
      cases r1 with
      | tuple g1 g2 g3 g4 =>
        have d1 := SeqAt.depth_of_shaped hs.1
        exact SeqAt.count_tuple_data ⟨_, g1, g2, _, g3⟩ g4 r2 (PyData.plainAll_of_canLay0 _ (SeqAt.canLay_of_shaped hs.2)) (PyData.plain_of_canLay0 _ (SeqAt.canLay_of_shaped hs.1)) (by omega) ⟨.int _, H, I.tok _, ⟨_, rfl⟩, w.here st (.int _)⟩
    · cases e
  | _ => cases hk
def isStrD : PyData → Bool
  | .str _ => true
  | _ => false
theorem mth_scount : MtR X "str.count" (rMK X.K T .count isStrD) := by
  intro pins s σ H x xs v us Q I rx rxs h
  obtain ⟨M, S, y, p, q, r, rfl, rp, rq, st, hk, e, w⟩ := h
  cases p with
  | str a =>
    cases q with
    | str b =>
      cases e
      exact mt_count pins s σ H _ _ v us Q I rx rxs ⟨a, b, rp.str, by rw [rq.str], w.here st (.int _)⟩
    | _ => cases e
  | _ => cases hk
theorem mth_lindex (hu : X.A.units + 65 < cLine) : MtR X "list.index" (rMK X.K T .index isListD) := by
  intro pins s σ H x xs v us Q I rx rxs h
  obtain ⟨M, S, y, p, q, r, rfl, rp, rq, st, hk, e, w⟩ := h
  cases p with
  | list ys =>
    have e : (if (SeqAt.shaped q && SeqAt.shaped (.list ys)) = true then (ys.findIdx? fun z => PyData.eqv z q).map fun (j : Nat) => PyData.int j else none) = some r := e
    split at e
    · rename_i hs
      rw [Bool.and_eq_true] at hs
      obtain ⟨j, e1, rfl⟩ := map_some e
      obtain ⟨a, zs, rfl, h2, h3⟩ := rp
      obtain ⟨hj, hz, hno⟩ := List.findIdx?_eq_some_iff_getElem.mp e1
      refine mt_indexD hu pins s σ H _ _ v us Q I rx rxs ⟨a, y, q, ys, j, ys[j], rfl, rfl, .lst (.inl (.inl h2)) (RpA.dp h3), rq.dp, hs.2, hs.1, List.getElem?_eq_getElem hj, hz, fun m z' hm hz' => ?_, w.here st (.int _)⟩
      obtain ⟨hml, e2⟩ := List.getElem?_eq_some_iff.mp hz'
      have z := hno m hm
      rw [← e2]
      simpa using z
    · cases e
  | _ => cases hk
/-! ### xs[::-1] of a tuple, of a text -/
theorem rev_adjust (n : Nat) : Builtin.Slice.sliceAdjust none none (-1) (n : Int) = ((n : Int) - 1, -1) := by
  unfold Builtin.Slice.sliceAdjust
  simp
theorem rev_places (n : Nat) : Builtin.Slice.slicePlaces ((n : Int) - 1) (-1) (-1) = n := by
  unfold Builtin.Slice.slicePlaces
  rw [if_neg (by decide)]
  by_cases h : n = 0
  · subst h; decide
  · rw [if_pos (by omega)]
    have e : ((n : Int) - 1 - -1 - 1) / (- -1) + 1 = n := by
      have : (- -1 : Int) = 1 := rfl
      rw [this, Int.ediv_one]
      omega
    rw [e]
    rfl
theorem fm_congr {α β : Type} {f g : α → Option β} : ∀ {l : List α}, (∀ a ∈ l, f a = g a) → l.filterMap f = l.filterMap g
  | [], _ => rfl
  | a :: l, h => by rw [List.filterMap_cons, List.filterMap_cons, h a List.mem_cons_self, fm_congr fun b hb => h b (List.mem_cons_of_mem _ hb)]
theorem rev_pick {α : Type} (xs : List α) : ((List.range xs.length).filterMap fun (m : Nat) => xs.toArray[(((xs.length : Int) - 1) + (m : Int) * (-1)).toNat]?) = xs.reverse := by
  apply List.ext_getElem?
  intro i
  have e : ∀ l : List Nat, (∀ m ∈ l, m < xs.length) → l.filterMap (fun (m : Nat) => xs.toArray[(((xs.length : Int) - 1) + (m : Int) * (-1)).toNat]?) = l.filterMap fun m => xs.reverse[m]? := fun l hl => by
    refine fm_congr fun m hm => ?_
    have hm := hl m hm
    rw [List.getElem?_reverse hm]
    have : (((xs.length : Int) - 1) + (m : Int) * (-1)).toNat = xs.length - 1 - m := by omega
    rw [this]
    simp
  rw [e _ fun m hm => List.mem_range.mp hm]
  have z := filterMap_range xs.reverse xs.reverse.length (Nat.le_refl _)
  rw [List.length_reverse] at z
  rw [z, ← List.length_reverse, List.take_length]
section
variable {prog : Program} {w : World} {A : Around} {E : Value → Shared → Prop} {s : Shared}
theorem applied_rev {sl : Addr} {vl vu vs : Value} {n : Nat} {Q : Int × Int × Nat → Shared → Prop} (hs : s.heap.IsSliceOf sl vl vu vs) (pl : IsPart vl none) (pu : IsPart vu none) (ps : IsPart vs (some (-1)))
    (h : Q ((n : Int) - 1, -1, n) s) : wpAny (model prog w) A (Builtin.Slice.sliceApplied (.ref sl) (pure (n : Int))) Q E s := by
  obtain ⟨os, hos, hcs, hds⟩ := id hs
  unfold Builtin.Slice.sliceApplied Builtin.Slice.sliceFields
  refine wpAny_bind (wpAny_bind (wpAny_field hos hds (x := vl) rfl (wpAny_bind (wpAny_field hos hds (x := vu) rfl (wpAny_bind (wpAny_field hos hds (x := vs) rfl (wpAny_pure ?_)))))))
  refine wpAny_bind (HT.slicePart_ ps ?_)
  show wpAny _ _ (if ((-1 : Int) == 0) = true then _ else _) _ _ s
  rw [if_neg (by decide)]
  refine wpAny_bind (HT.slicePart_ pl (wpAny_bind (HT.slicePart_ pu (wpAny_bind (wpAny_pure ?_)))))
  show wpAny _ _ (match Builtin.Slice.sliceAdjust none none (-1) (n : Int) with | (lo, hi) => pure (lo, (-1 : Int), Builtin.Slice.slicePlaces lo hi (-1))) _ _ s
  rw [rev_adjust]
  show wpAny _ _ (pure ((n : Int) - 1, (-1 : Int), Builtin.Slice.slicePlaces ((n : Int) - 1) (-1) (-1))) _ _ s
  rw [rev_places]
  exact wpAny_pure h
theorem item_rev_tup {t sl : Addr} {items : List Value} {vl vu vs : Value} {Q : Value → Shared → Prop} (ht : IsTup s.heap t items.toArray) (hs : s.heap.IsSliceOf sl vl vu vs) (pl : IsPart vl none) (pu : IsPart vu none) (ps : IsPart vs (some (-1)))
    (hsz : items.length ≤ sizeLine) (h : Q (.ref s.heap.objs.size) { s with heap := s.heap.push { cls := .type "tuple", data := .seq items.reverse.toArray } }) : wpAny (model prog w) A (getItem (.ref t) (.ref sl)) Q E s := by
  have hok : sizeOk (.seq items.reverse.toArray) := by
    show items.reverse.toArray.size ≤ sizeLine
    rw [List.size_toArray, List.length_reverse]
    exact hsz
  obtain ⟨os, hos, hcs, hds⟩ := id hs
  have hTs : s.TypeIs (.ref sl) "slice" := ⟨os, hos, hcs⟩
  unfold getItem
  try with_reducible refine wpAny_holding ?_
  first | refine wpAny_bind (wpAny_pure ?_) | skip
  refine wpAny_bind (wpAny_sequenceKey ht.typeIs (by decide) ?_)
  refine wpAny_bind (wpAny_callSpecial?_slot (name := Str.ofString "__getitem__") ht.typeIs PyProof.Rows.slot_tuple_getitem
    (wpAny_call_entry PyProof.Rows.slot_tuple_getitem ht.typeIs entry_tuple_getitem ?_ (args_tuple_getitem _ _)))
  show wpAny _ _ (Builtin.Tuple.tupleItemsOf (.ref t) >>= _) _ _ s
  refine wpAny_bind (PyProof.Rows.tupleItemsOf_ ht ?_)
  refine wpAny_bind (wpAny_typeOf hTs ?_)
  rw [if_pos (by decide)]
  refine wpAny_bind (applied_rev hs pl pu ps ?_)
  have no : ¬ ((((items.toArray.size : Int) - 1) == 0 && (-1 : Int) == 1 && items.toArray.size == items.toArray.size) = true) := by
    rw [show ((-1 : Int) == 1) = false from rfl, Bool.and_false, Bool.false_and]
    decide
  show wpAny _ _ (if (((items.toArray.size : Int) - 1) == 0 && (-1 : Int) == 1 && items.toArray.size == items.toArray.size) = true then _ else _) _ _ s
  rw [if_neg no, List.size_toArray, rev_pick]
  first
    | exact wpAny_bind (m := Builtin.Tuple.tupleExact _) (wpAny_newObj_type (wpAny_pure ⟨_, rfl, wpAny_pure h⟩) hok)
    | exact wpAny_bind (m := Builtin.Tuple.tupleExact _) (wpAny_newObj_type (wpAny_bind (wpAny_pure (wpAny_pure ⟨_, rfl, wpAny_pure h⟩))) hok)
    | exact wpAny_bind (wpAny_bind (m := Builtin.Tuple.tupleExact _) (wpAny_newObj_type (wpAny_pure (wpAny_pure ⟨_, rfl, wpAny_pure h⟩)) hok))
    | exact wpAny_bind (wpAny_bind (m := Builtin.Tuple.tupleExact _) (wpAny_newObj_type (wpAny_pure ⟨_, rfl, wpAny_pure h⟩) hok))
end
end
/-- x[::-1], by the little language's -/
def tRevA (K : W.Frag) (T : List (Addr × Str)) (te : TE) : TE := fun σ H Q => te σ H fun x H1 => ∃ M S p r, Rs K M H1 x p ∧ StOk K T M S H1 ∧ revD p = some r ∧ Wish K T M S H1 r Q
theorem rev_text (z : Str) : ((Builtin.Str.strSliceIndices none none (-1) z.length).filterMap (z.cps[·]?)).toArray = z.cps.toList.reverse.toArray := by
  show ((sliceRange ((z.length : Int) - 1) (-1) (-1)).filterMap (z.cps[·]?)).toArray = _
  rw [PySem.W.krv_sliceRange, PySem.W.krv_range, List.filterMap_reverse]
  show ((List.range z.cps.size).filterMap (z.cps[·]?)).reverse.toArray = _
  rw [PySem.W.krv_all]
theorem pe_revA {X : Cx} {T : List (Addr × Str)} {e : Expr} {te : TE} {k : Nat} {p1 p2 p3 pos : Pos} (he : PE X e te) : PE X (.Subscript e (.Slice none none (some (.UnaryOp .USub (.Constant (.int 1) k p1) p2)) p3) pos) (tRevA X.K T te) := by
  refine ⟨fun pins s σ H Q I h => ?_⟩
  refine Subscript_ (thn (he.run pins s σ H _ I h) fun v s1 ⟨x, H1, I1, r1, q1⟩ => ?_)
  obtain ⟨M, S, p, r, rp, st, e1, w⟩ := q1
  have hst : PO X (some (.UnaryOp .USub (.Constant (.int 1) k p1) p2)) (tPart (tUn (rU fun i => .int (-i)) (tC (.int 1)))) := po_some (pe_un un_neg pe_int)
  refine wpAny_Slice (thn (po_none.run pins s1 σ H1 (fun o H2 => o = none ∧ H2 = H1) I1 ⟨rfl, rfl⟩) fun vl s2 ⟨l, H2, I2, pl, el, e2⟩ => ?_)
  subst el e2
  refine thn (po_none.run pins s2 σ H2 (fun o H3 => o = none ∧ H3 = H2) I2 ⟨rfl, rfl⟩) fun vu s3 ⟨u, H3, I3, pu, eu, e3⟩ => ?_
  subst eu e3
  refine thn (hst.run pins s3 σ H3 (fun o H4 => o = some (-1) ∧ H4 = H3) I3 ⟨1, rfl, -1, rfl, rfl, rfl⟩) fun vs s4 ⟨o, H4, I4, ps, eo, e4⟩ => ?_
  subst eo e4
  have I5 : Inv X pins σ H4 { s4 with heap := s4.heap.push { cls := .type "slice", data := .fields #[vl, vu, vs] } } := I4.kept (t' := s4.toks) fun b ob q => Heap.get?_push_of_some _ q
  have isl := Heap.IsSliceOf.new s4.heap vl vu vs
  show wpAny (model X.prog X.w) X.A (subscriptTail e (.Slice none none (some (.UnaryOp .USub (.Constant (.int 1) k p1) p2)) p3) v (.ref s4.heap.objs.size)) (EP X pins σ Q) X.xe { s4 with heap := s4.heap.push { cls := .type "slice", data := .fields #[vl, vu, vs] } }
  cases p with
  | list ds =>
    cases e1
    obtain ⟨a, xs, rfl, h2, h3⟩ := rp
    cases r1
    obtain ⟨its, rv, ht, hz⟩ := I5.list (SqL.of h2)
    refine tail_any (ops := [.ref a, .ref s4.heap.objs.size]) ht.isList.typeIs (PySem.slot_list_getitem.lookup) ?_ (by with_unfolding_all rfl)
    refine wpAny_getItem_list_slice ht.isList isl pl pu ps (by decide) ?_ (by rw [List.size_toArray, ← rv.length]; omega)
    rw [PySem.W.krv_pick]
    refine ⟨.ref _, _, I5.laid (t' := s4.toks) (o := .lst xs.reverse) (fun b ob q => Heap.get?_push_of_some _ q) (Nat.le_refl _) ?_, rfl, w.list st (I5.hok.fresh (Nat.le_refl _)) h3.rev⟩
    exact ⟨by rw [List.length_reverse]; exact hz, _, 0, rv.reverse, Heap.get?_push_size _ rfl⟩
  | tuple ds =>
    have e1 : (if ds.length ≤ line then some (PyData.tuple ds.reverse) else none) = some r := e1
    split at e1
    · cases e1
      obtain ⟨a, xs, rfl, h2, h3⟩ := rp.tup
      cases r1
      obtain ⟨its, rv, ht, hz⟩ := I5.tuple h2.sq
      refine tail_any (ops := [.ref a, .ref s4.heap.objs.size]) ht.typeIs (PyProof.Rows.slot_tuple_getitem.lookup) ?_ (by with_unfolding_all rfl)
      refine item_rev_tup ht isl pl pu ps (by rw [← rv.length]; exact hz) ?_
      exact new_tup I5 rv.reverse (by rw [List.length_reverse]; exact hz) (w.tuple st h3.rev)
    · cases e1
  | str z =>
    have e1 : (if z.length ≤ line then some (PyData.str ⟨z.cps.toList.reverse.toArray⟩) else none) = some r := e1
    split at e1
    · rename_i hz
      cases e1
      have rz := rp.str
      subst rz
      obtain ⟨t, rfl⟩ := r1
      obtain ⟨os, hos, hcs, hds⟩ := isl
      cases pl
      cases pu
      obtain ⟨i, rfl⟩ : ∃ t2, vs = .int (-1) t2 := by cases ps; exact ⟨_, rfl⟩
      refine tail_any (ops := [.str z t, .ref s4.heap.objs.size]) (typeIs_str _ _ _) F.slot_str_getitem.lookup ?_ (by with_unfolding_all rfl)
      refine wpAny_getItem_str_slice (l := none) (u := none) (st := some (-1, i)) ⟨os, hos, hcs, hds⟩ rfl ?_
      show Made.post (if ((-1 : Int) == 1 && (Builtin.Str.strSliceIndices none none (-1) z.length).length == z.length) = true then Made.val (.str z t)
        else Made.str ⟨((Builtin.Str.strSliceIndices none none (-1) z.length).filterMap (z.cps[·]?)).toArray⟩) (EP X pins σ Q) _
      rw [if_neg (by rw [show ((-1 : Int) == 1) = false from rfl, Bool.false_and]; decide), rev_text]
      have hl : (⟨z.cps.toList.reverse.toArray⟩ : Str).length ≤ sizeLine := by
        show z.cps.toList.reverse.toArray.size ≤ sizeLine
        rw [List.size_toArray, List.length_reverse, ← line_eq]
        exact hz
      exact ⟨hl, .str _, H4, I5.tok _, ⟨_, rfl⟩, w.here st (.str _)⟩
    · cases e1
  | _ => cases e1
end Ev
end

section
set_option Elab.async false
set_option linter.all false
set_option autoImplicit false
set_option maxRecDepth 100000
set_option maxHeartbeats 4000000
/-! # From the program's syntax to the little language -/
namespace Ev
open PySem
structure Cfg where
  fnIx : Str → Option Nat
  clIx : Str → Option Nat
  clTx : Str → Option Nat
  con : Str → Option PyData
  /-- the defs that call what they get, and tell the error -/
  errs : Str → Bool
  /-- the names whose lists are changed in place -/
  bx : List Str
  /-- there are lambdas; what is handed back is a list that is changed in place -/
  lam : Bool
  keep : Bool
  /-- how many parameters a def has -/
  np : Nat → Option Nat
def ixOf (N : List Str) (x : Str) : Option Nat :=
  match N.findIdx? (fun y => decide (y = x)) with
  | some i => if N[i]? = some x then some i else none
  | none => none
def visB (sc : Scope) (x : Str) : Bool :=
  match sc.names.lookup x with
  | some .local => true
  | some .cell => true
  | some .free => true
  | _ => false
def locB (sc : Scope) (x : Str) : Bool :=
  match sc.names.lookup x with
  | some .local => true
  | some .cell => true
  | _ => false
def glB (sc : Scope) (x : Str) : Bool := decide (sc.names.lookup x = some .globalImplicit)
def odd (x : Str) : Bool := (x == ("__debug__" : Str)) || (x == ("__classdict__" : Str)) || (x == ("__name__" : Str))
def starred : Expr → Bool
  | .Starred _ _ => true
  | _ => false
/-- f() without arguments: never the receiver of a method -/
def bareCall : Expr → Bool
  | .Call _ [] _ _ => true
  | _ => false
def isSet : Expr → Bool
  | .Set _ _ _ => true
  | _ => false
def isSlice : Expr → Bool
  | .Slice _ _ _ _ => true
  | _ => false
def isComp : Expr → Bool
  | .ListComp _ _ _ _ => true
  | .SetComp _ _ _ _ => true
  | .DictComp _ _ _ _ _ => true
  | _ => false
def cL (f : Expr → Option X) : List Expr → Option Xs
  | [] => some .nil
  | e :: r => if starred e = true then none else (f e).bind fun x => (cL f r).map fun xs => .cons x xs
def cO (f : Expr → Option X) : Option Expr → Option Xs
  | none => some .nil
  | some e => (f e).map fun x => .cons x .nil
def bltOf (x : Str) : Option Blt :=
  if x = "len" then some .len else if x = "all" then some .all else if x = "sum" then some .sum else if x = "int" then some .int else
  if x = "bool" then some .bool else if x = "abs" then some .abs else if x = "tuple" then some .tuple else if x = "list" then some .list else if x = "sorted" then some .sorted else if x = "str" then some .str else none
def mthOf (x : Str) : Option Mth :=
  if x = "join" then some .join else if x = "split" then some .split else if x = "strip" then some .strip else if x = "count" then some .count else if x = "index" then some .index else none
def tyOf (x : Str) : Option String :=
  if x = "int" then some "int" else if x = "bool" then some "bool" else if x = "str" then some "str" else if x = "tuple" then some "tuple" else if x = "list" then some "list" else none
/-- len(set(a)): a -/
def setArg (sc : Scope) (f : Str) : Expr → Option Expr
  | .Call (.Name h _) [b] [] _ => if (decide (f = "len") && decide (h = "set") && glB sc h && !starred b) = true then some b else none
  | _ => none
/-- the slots of a comprehension's own names -/
def ownOf (N : List Str) (scope : Scope) : List (Str × Nat) :=
  scope.names.filterMap fun y => match y.2 with
    | .local => (ixOf N y.1).map fun i => (y.1, i)
    | .cell => (ixOf N y.1).map fun i => (y.1, i)
    | _ => none
/-- which names a place may store -/
abbrev Fb := Str → Bool
def fbDef : Fb := fun _ => true
def fbBlk (scope sc' : Scope) : Fb := fun x => decide (scope.names.lookup x = some .cell) || decide (sc'.names.lookup x = some .local)
mutual
/-- a target -/
def cT (N : List Str) (sc : Scope) (fb : Fb) : Nat → Expr → Option Tg
  | 0, _ => none
  | n + 1, e => match e with
    | .Name x _ => if (locB sc x && fb x) = true then (ixOf N x).map .nm else none
    | .Tuple es _ _ => cTs N sc fb n es
    | _ => none
def cTs (N : List Str) (sc : Scope) (fb : Fb) : Nat → List Expr → Option Tg
  | 0, _ => none
  | _ + 1, [] => some .nil
  | n + 1, e :: r => if starred e = true then none else (cT N sc fb n e).bind fun a => (cTs N sc fb n r).map fun b => .cons a b
end
/-- the slots of a target -/
def Tg.slots : Tg → List Nat
  | .nm i => [i]
  | .nil => []
  | .cons a r => a.slots ++ r.slots
def isTup : Expr → Bool
  | .Tuple _ _ _ => true
  | _ => false
mutual
def cE (g : Cfg) (N : List Str) : Nat → Scope → Fb → Expr → Option X
  | 0, _, _, _ => none
  | n + 1, sc, fb, e => match e with
    | .Constant (.int i) _ _ => some (.con (.int i))
    | .Constant (.bool b) _ _ => some (.con (.bool b))
    | .Constant .none _ _ => some (.con .none)
    | .Constant (.str z) _ _ => some (.con (.str z))
    | .Name x _ => if odd x = true then none else if visB sc x = true then (ixOf N x).map .loc else if glB sc x = true then (g.con x).map .con else none
    | .BinOp a op b _ => (cE g N n sc fb a).bind fun x => (cE g N n sc fb b).map fun y => .bin op x y
    | .UnaryOp .USub a _ => (cE g N n sc fb a).map .neg
    | .UnaryOp .Not a _ => (cE g N n sc fb a).map .not
    | .Compare a [op] [b] _ => if behindInMarks op b = true then none else (cE g N n sc fb a).bind fun x => (cE g N n sc fb b).map fun y => .cmp op x y
    | .Compare a [o, p] [b, c] _ => if lastMarks [o, p] [b, c] = true then none else (cE g N n sc fb a).bind fun x => (cE g N n sc fb b).bind fun y => (cE g N n sc fb c).map fun z => .chn o p x y z
    | .BoolOp .And [a] _ => cE g N n sc fb a
    | .BoolOp .And (a :: b :: r) pos => (cE g N n sc fb a).bind fun x => (cE g N n sc fb (.BoolOp .And (b :: r) pos)).map fun y => .and x y
    | .BoolOp .Or [a] _ => cE g N n sc fb a
    | .BoolOp .Or (a :: b :: r) pos => (cE g N n sc fb a).bind fun x => (cE g N n sc fb (.BoolOp .Or (b :: r) pos)).map fun y => .or x y
    | .IfExp c a b _ => (cE g N n sc fb c).bind fun z => (cE g N n sc fb a).bind fun x => (cE g N n sc fb b).map fun y => .ife z x y
    | .List es _ => (cL (cE g N n sc fb) es).map .lst
    | .Tuple es _ _ => (cL (cE g N n sc fb) es).map .tup
    | .Subscript a (.Slice none none (some (.UnaryOp .USub (.Constant (.int 1) _ _) _)) _) _ => (cE g N n sc fb a).map .rev
    | .Subscript a (.Slice lo hi none _) _ => (cE g N n sc fb a).bind fun x => (cO (cE g N n sc fb) lo).bind fun l => (cO (cE g N n sc fb) hi).map fun h => .slc x l h
    | .Subscript a i _ => if isSlice i = true then none else (cE g N n sc fb a).bind fun x => (cE g N n sc fb i).map fun y => .idx x y
    | .ListComp elt [⟨tg, it, ifs, k⟩] scope _ => if (L2.blkC N sc scope (ownOf N scope) && decide (k = 0) && !isSet it && decide (ifs.length ≤ 1)) = true then
        (cI g N n sc fb (isTup tg) it).bind fun i => (cT N (L2.relS scope sc) (fbBlk scope (L2.relS scope sc)) n tg).bind fun t =>
        if (t.slots.all fun i => decide (i ∈ (ownOf N scope).map (·.2))) = false then none else (cL (cE g N n (L2.relS scope sc) (fbBlk scope (L2.relS scope sc))) ifs).bind fun c => (cE g N n (L2.relS scope sc) (fbBlk scope (L2.relS scope sc)) elt).map fun e =>
          .lc ((ownOf N scope).map (·.2)) t i c e else none
    | .Call (.Name f _) [.Lambda params body scope _] [] _ => if (g.errs f && g.lam && glB sc f && !odd f && LamX.lamSB sc scope) = true then (match params with
        | ⟨[], [], none, [], [], none, []⟩ => (cE g N n scope (fun _ => false) body).map .err
        | _ => none) else none
    | .Call (.Name f _) as [] _ => if (odd f || !glB sc f) = true then none else match g.fnIx f with
      | some i => if g.errs f = true then none else (cL (cE g N n sc fb) as).map fun xs => .call i xs
      | none => match as with
        | [a] => if starred a = true then none else match setArg sc f a with
          | some b => (cE g N n sc fb b).map fun x => .blt .lenset x
          | none => (bltOf f).bind fun b => (cE g N n sc fb a).map fun x => .blt b x
        | [a, .Name t _] => if (decide (f = "isinstance") && glB sc t && !starred a) = true then (tyOf t).bind fun T => (cE g N n sc fb a).map fun x => .blt (.isi T) x else none
        | _ => none
    | .Call (.Attribute o m apos) [a] [] pos => if (starred a || bareCall o || !(apos.endLine == pos.line)) = true then none else
        (mthOf m).bind fun k => (cE g N n sc fb o).bind fun x => (cE g N n sc fb a).map fun y => .mth k x (.cons y .nil)
    | _ => none
/-- what is walked -/
def cI (g : Cfg) (N : List Str) : Nat → Scope → Fb → Bool → Expr → Option It
  | 0, _, _, _, _ => none
  | n + 1, sc, fb, tup, e => match e with
    | .Call (.Name f _) [a] [] _ =>
      if (decide (f = "range") && glB sc f && !starred a) = true then (cE g N n sc fb a).map fun x => .rng (.cons x .nil)
      else if (decide (f = "enumerate") && glB sc f && !starred a && tup) = true then (cE g N n sc fb a).map .enm
      else (cE g N n sc fb e).map .val
    | .Call (.Name f _) [a, b] [] _ =>
      if (decide (f = "range") && glB sc f && !starred a && !starred b) = true then (cE g N n sc fb a).bind fun x => (cE g N n sc fb b).map fun y => .rng (.cons x (.cons y .nil))
      else if (decide (f = "zip") && glB sc f && !starred a && !starred b && tup) = true then (cE g N n sc fb a).bind fun x => (cE g N n sc fb b).map fun y => .zip x y
      else (cE g N n sc fb e).map .val
    | .Call (.Name f _) [a, b, d] [] _ =>
      if (decide (f = "range") && glB sc f && !starred a && !starred b && !starred d) = true then (cE g N n sc fb a).bind fun x => (cE g N n sc fb b).bind fun y => (cE g N n sc fb d).map fun z => .rng (.cons x (.cons y (.cons z .nil)))
      else (cE g N n sc fb e).map .val
    | _ => (cE g N n sc fb e).map .val
end
end Ev
end

section
set_option Elab.async false
set_option linter.all false
set_option autoImplicit false
set_option maxRecDepth 100000
set_option maxHeartbeats 4000000
/-! # A lambda handed to a def: what it raises has no context -/
namespace Ev
open PySem PySem.Spec PyProof.Rows L2 LamX
theorem takesN0 {X : Cx} : L2N.Takes X (fun _ _ _ _ => False) := fun _ _ x => by
  obtain ⟨_, _, _, _, _, _, _, _, _, _, _, _, _, _, _, _, z⟩ := x
  exact z.elim
/-- the context of the lambda's body -/
abbrev lamN (X : Cx) (A : Around) (outer : List Env) (s : Shared) (H : Hp) (E : XK) (scope : Scope) (f c' : Addr) : Cx :=
  (LamX.lamCx X A outer s H E scope f c').wish fun e s' => wpAny (model X.prog X.w) (A.deeper (lamEnv X scope s.heap.objs.size f c')) (leaving (lamEnv X scope s.heap.objs.size f c') e) (fun _ s'' => L2N.CX X.prog X.w outer H s E e s'') (fun e' s'' => L2N.CX X.prog X.w outer H s E e' s'') s'
section
variable {X : Cx}
/-- the def that got it, in its own words -/
abbrev gotN (X : Cx) (Ng : List Str) (x : Str) (sg : Scope) (g : Addr) (cdg : Value) (s : Shared) (H : Hp) : Cx := cxOf C8.CX0 X.prog X.w X.K X.mg X.base Ng x sg g cdg X.A X.stack s H C8.E0
/-- a() there -/
theorem pe_actN {pins : List (Addr × Obj)} {σ : L2.St} {H : Hp} {s : Shared} {Ng : List Str} {qg : Str} {sg : Scope} {g f c' : Addr} {cdg pm ctv : Value} {params : Arguments} {body : Expr} {scope : Scope} {k : Nat} {a : Str} {pn : List (Addr × Obj)} {xe : Value → Shared → Prop} {W : WX} {E : XK} {tb : TE} {p1 p2 : Pos}
    (I : Inv X pins σ H s) (L : LamS X.env.scope scope) (hf : s.heap.get? f = some (PySem.W.kla_obj "<lambda>" (X.env.qual ++ "<lambda>") params body scope (cloFrom X.env.cells scope.names []) pm c' ctv)) (hfn : H f = none) (hfr : f ∉ frs X.stack)
    (hbind : bindArgs (PySem.W.kla_fn "<lambda>" (X.env.qual ++ "<lambda>") params body scope (cloFrom X.env.cells scope.names []) pm (.ref c') ctv) ⟨[], []⟩ = pure [])
    (tk : L2N.Takes ((gotN X Ng qg sg g cdg s H).tr pn xe) W) (hW : ∀ cls d σ' H', E cls d H' → W cls d σ' H') (hr : Room (k + 1) (X.A.deeper (envOfC qg sg s.heap.objs.size g cdg)))
    (hbody : ∀ (A : Around) (outer : List Env) (s : Shared) (H : Hp), Room k (A.deeper (lamEnv X scope s.heap.objs.size f c')) → PE (lamN X A outer s H E scope f c') body tb)
    (hN : Ng[0]? = some a) (hv : Vis sg a) (hd : (a == ("__debug__" : Str)) = false) (hcd : (a == ("__classdict__" : Str)) = false) :
    PE ((gotN X Ng qg sg g cdg s H).tr pn xe) (.Call (.Name a p1) [] [] p2) (fun σZ HZ Q => σZ[0]? = some (some (.ref f)) ∧ HZ c' = some (CodeO c' (X.env.qual ++ "<lambda>")) ∧ tb σ HZ Q) := by
  refine ⟨fun pinsZ sZ σZ HZ Q IZ ⟨hs, hc, ht⟩ => ?_⟩
  refine wpAny_Call_Name_kw (thn ((pe_var (pos := p1) (i := 0) hN hv hd hcd).run pinsZ sZ σZ HZ (fun v H1 => v = .ref f ∧ H1 = HZ) IZ ⟨.ref f, hs, rfl, rfl⟩) fun u s1 ⟨v, H1, I1, r1, ev, eH⟩ => ?_)
  subst ev
  rw [eH] at I1
  cases (show u = Value.ref f from r1)
  have of1 := I1.base.keep f _ hf hfn hfr (fun z => nomatch (show f ∈ ([] : List Addr) from z))
  refine PySem.W.callWith_F0 ⟨_, _, _, _, of1⟩ ?_
  have un : Un (frs X.stack) [] H HZ s.heap s1.heap := I1.base
  obtain ⟨⟨oc, vs, t, hoc, hdc, hvc⟩, _, _⟩ := I1.hok c' _ hc
  have hx : Passes (L2N.CX X.prog X.w) ((gotN X Ng qg sg g cdg s H).tr pn xe) E := L2N.passes_call tk hW
  have rc : codeAny (model X.prog X.w) (X.A.deeper (envOfC qg sg s.heap.objs.size g cdg)) (.call (.ref f) ⟨[], []⟩) (CR (L2N.CX X.prog X.w) (envOfC qg sg s.heap.objs.size g cdg :: X.stack) X.prog X.w HZ s1 Q E) s1 := by
    refine PySem.W.kla_callFunE hr.depth of1 rfl L.co L.gen rfl ⟨c', oc, vs, t, rfl, hoc, hdc, hvc⟩ ?_
    rw [hbind]
    refine wpAny_pure (wpAny_newFunctionEnv (fun y hy => (L.own y hy).2) (fun y hy => absurd hy (by simp)) (fun h₁ hns hsb => ⟨I1.nolimit.fresh _ hsb, ?_⟩) L.kind)
    show codeAny _ _ (.expr body (lamEnv X scope s1.heap.objs.size f c')) _ _
    have J := (lam_start2 (E := E) (f := f) (c' := c') (tk := s1.toks + ([] : List (Str × Value)).length) I L I1.env0 hr.hd un hns fun b o e => hsb.extBut b o (Nat.ne_of_lt (Heap.lt_size e)) (Heap.get?_push_of_some _ e)).wish
      (fun e s' => wpAny (model X.prog X.w) ((X.A.deeper (envOfC qg sg s.heap.objs.size g cdg)).deeper (lamEnv X scope s1.heap.objs.size f c')) (leaving (lamEnv X scope s1.heap.objs.size f c') e) (fun _ s'' => L2N.CX X.prog X.w (envOfC qg sg s.heap.objs.size g cdg :: X.stack) HZ s1 E e s'') (fun e' s'' => L2N.CX X.prog X.w (envOfC qg sg s.heap.objs.size g cdg :: X.stack) HZ s1 E e' s'') s')
    refine PySem.W.kla_codeExpr (wpAny_mono ((hbody _ _ s1 HZ (hr.deeper _)).run [] _ _ HZ Q J ht) (fun v s' ⟨w', H', J', rv, q⟩ => ?_) fun e s' hq => hq)
    exact ⟨w', H', J'.os, J'.bare, J'.base, J'.hok, rv, q⟩
  refine wpAny_call (codeAny_mono rc fun r s' hq => ?_)
  cases r with
  | error e => exact hx pinsZ σZ HZ s1 e s' I1 hq
  | ok fl =>
    cases fl with
    | ret u => exact I1.after hq
    | next => exact False.elim hq
    | brk => exact False.elim hq
    | cont => exact False.elim hq
/-- the def that calls what it got; TT: what it makes of the lambda's reading -/
def GivesN (X : Cx) (Ng : List Str) (x : Str) (sg : Scope) (g : Addr) (cdg : Value) (bg : List Stmt) (a : Str) (q : Str) (TT : (XK → Hp → VK → Prop) → Hp → VK → Prop) : Prop :=
  ∀ (f c' : Addr) (s : Shared) (H : Hp) (Q : VK) (tl : XK → Hp → VK → Prop),
    (∀ (W : WX) (pn : List (Addr × Obj)) (xe : Value → Shared → Prop) (E : XK) (p1 p2 : Pos), L2N.Takes ((gotN X Ng x sg g cdg s H).tr pn xe) W → (∀ cls d σ' H', E cls d H' → W cls d σ' H') →
      PE ((gotN X Ng x sg g cdg s H).tr pn xe) (.Call (.Name a p1) [] [] p2) (fun σZ HZ Q => σZ[0]? = some (some (.ref f)) ∧ HZ c' = some (CodeO c' q) ∧ tl E HZ Q)) →
    H c' = some (CodeO c' q) → TT tl H Q → ∃ t, PSs (gotN X Ng x sg g cdg s H).nox bg t ∧ t { nx := fun _ H' => Q .non H', rt := Q } (L2.start Ng [.ref f]) H
/-- x(lambda: body) -/
theorem pe_lamN {T : List (Addr × Str)} {TT : (XK → Hp → VK → Prop) → Hp → VK → Prop} {x a : Str} {g c P : Addr} {k : Nat} {pg : Arguments} {bg : List Stmt} {sg : Scope} {dV kV doc pm cdv ct oc : Value} {an od : Option Addr} {osl : Array (Option Value)} {Ng : List Str}
    {params : Arguments} {body : Expr} {scope : Scope} {t : XK → TE} {p lpos pos : Pos} (hg : Gl X x) (hm : X.mg x = some (.ref g)) (hk : PySem.W.keepIn X.K (.ref g) = true)
    (lk : X.K.lookup g = some ⟨oc, od, .func (PySem.W.fnOf x x pg bg sg dV kV doc pm an cdv ct), osl⟩) (hcg : PySem.W.codeIn X.K cdv x = true) (hb : L2.Binds X.K (PySem.W.fnOf x x pg bg sg dV kV doc pm an cdv ct) [a] []) (Sg : FnScope Ng [a] sg) (hNg : Ng[0]? = some a) (hva : Vis sg a)
    (hG : GivesN X Ng x sg g cdv bg a (X.env.qual ++ "<lambda>") TT)
    (TB : TabB X.base X.mg c P) (hcode : X.env.code = .ref c) (hmT : (P, X.env.qual ++ "<lambda>") ∈ T) (hu : ∀ p ∈ T, p.1 = P → p.2 = X.env.qual ++ "<lambda>") (hr : Room (k + 2) X.A) (L : LamS X.env.scope scope) (hdef : defaultsOf params X.env = ([], []))
    (hbind : ∀ (q : Str) (cl : List (Str × Addr)) (pm cv ctv : Value), bindArgs (PySem.W.kla_fn "<lambda>" q params body scope cl pm cv ctv) ⟨[], []⟩ = pure [])
    (hbody : ∀ (A : Around) (outer : List Env) (s : Shared) (H : Hp) (E : XK) (f c' : Addr), Room k (A.deeper (lamEnv X scope s.heap.objs.size f c')) → PE (lamN X A outer s H E scope f c') body (t E))
    (hdb : (x == ("__debug__" : Str)) = false) (hd : (a == ("__debug__" : Str)) = false) (hcd : (a == ("__classdict__" : Str)) = false) :
    PE X (.Call (.Name x p) [.Lambda params body scope lpos] [] pos) (tLam T TT t) := by
  refine ⟨fun pins s σ H Q I ⟨hT, h⟩ => ?_⟩
  refine wpAny_Call_Name_kw (ld_glob I hg hm (PySem.W.callWith_K (h₀ := X.base) I.ok.mod.kin hk ?_ (by rfl) (by rfl)) hdb)
  show wpAny _ _ (spliced ((false, eval (.Lambda params body scope lpos) X.env) :: backTo pos (starEach [] X.env))) _ _ s
  refine Calls.spliced_cons (lam_make2 I TB hcode hmT hu hT hdef (L.has I.ok) fun f c' pm' ctv H1 s' I1 eN T1 hf hfn hfr hco => Calls.spliced_nil ⟨I1.kIn, ?_⟩)
  have rc : codeAny (model X.prog X.w) X.A (.call (.ref g) ⟨[.ref f], []⟩) (CR C8.CX0 X.stack X.prog X.w H1 s' Q C8.E0) s' := by
    refine run_ofS (N := Ng) (ps := [a]) (us := [.ref f]) (vs := [.ref f]) lk hcg Sg hr I1.env0 (hb s' [.ref f] I1.kIn rfl) (.cons rfl .nil) rfl fun hr' => ?_
    obtain ⟨t', ht', hq'⟩ := hG f c' s' H1 Q (fun E H' Q' => t E σ H' Q') (fun W pn xe E p1 p2 tk hW => pe_actN I1 L hf hfn hfr (hbind _ _ _ _ _) tk hW hr' (fun A outer s H hr2 => hbody A outer s H E f c' hr2) hNg hva hd hcd) hco (h H1 eN T1)
    exact ⟨t', ht'.nox, hq'⟩
  refine wpAny_call (codeAny_mono rc fun r s2 hq => ?_)
  cases r with
  | error e => exact (show False from hq).elim
  | ok fl =>
    cases fl with
    | ret u => exact I1.after hq
    | next => exact False.elim hq
    | brk => exact False.elim hq
    | cont => exact False.elim hq
end
end Ev
end

section
set_option Elab.async false
set_option linter.all false
set_option autoImplicit false
set_option maxRecDepth 100000
set_option maxHeartbeats 4000000
/-! # An own exception whose maker calls the one above it, and keeps what it got -/
namespace Ev
open PySem PySem.Spec PyProof.Rows L2
/-- what is known of the maker fI of the class C: its text, its cell, its code -/
structure TmDef (P : Program) (K : W.Frag) (mg : Str → Option Value) (C fI : Addr) (f : Str) : Prop where
  oex : OexC K C
  sup : W.ks_superIn K C C "__init__" = some (some (.builtin "ValueError.__init__"))
  sub : W.subIn K (.ref C) (.type "ValueError") = some true
  mro : W.mroIn K C (.ref C) = some true
  opq : W.nsIn K cStatics "thirdparty.any" = some none
  noS : mg "super" = none
  top : (P.main.scope.names.lookup ("super" : Str)).isSome = false
  fld : W.findIn K (.ref C) f = some none
  txt : ∃ (cda cc : Addr) (nm qual m file : Str) (ar1 ar2 : Arg) (scope : Scope) (dV kV doc pm ct oc ccl cl : Value) (an od cdd cld : Option Addr) (osl ccs csl : Array (Option Value)) (vs : Array Value) (tf : Tok) (j : Nat) (p0 p1 p2 p3 p4 p5 p6 p7 p8 p9 : Pos),
    K.lookup fI = some ⟨oc, od, .func (W.ksFn nm qual ⟨[], [ar1, ar2], none, [], [], none, []⟩ [.Expr (.Call (.Attribute (.Call (.Name "super" p0) [] [] p1) "__init__" p2) [.Constant (.str m) j p3] [] p4) p5, .Assign [.Attribute (.Name ar1.arg p6) f p7] (.Name ar2.arg p8) p9] scope dV kV doc pm an (.ref cda) ct cc), osl⟩ ∧
    W.codeIn K (.ref cda) qual = true ∧ K.lookup cda = some ⟨ccl, cdd, .fields vs, ccs⟩ ∧ vs[2]? = some (.str file tf) ∧ ((P.main.file : Str) == file) = true ∧ K.lookup cc = some ⟨cl, cld, .cell (some (.ref C)), csl⟩ ∧
    scope.names.lookup ("super" : Str) = some .globalImplicit ∧ scope.names.lookup ("__class__" : Str) = some .free ∧ scope.names.lookup ar1.arg = some .local ∧ scope.names.lookup ar2.arg = some .local ∧ scope.kind = .function ∧ scope.isCoroutine = false ∧ scope.isGenerator = false ∧
    (∀ x ∈ scope.names, x.2 ≠ .cell) ∧ (ar1.arg == ("__debug__" : Str)) = false ∧ (ar2.arg == ("__debug__" : Str)) = false ∧ ar2.arg ≠ ar1.arg ∧ (p2.endLine == p4.line) = true ∧ (∀ (s : Shared) (a v : Value), BindsTo s (W.ksFn nm qual ⟨[], [ar1, ar2], none, [], [], none, []⟩ [.Expr (.Call (.Attribute (.Call (.Name "super" p0) [] [] p1) "__init__" p2) [.Constant (.str m) j p3] [] p4) p5, .Assign [.Attribute (.Name ar1.arg p6) f p7] (.Name ar2.arg p8) p9] scope dV kV doc pm an (.ref cda) ct cc) ⟨[a, v], []⟩ [(ar1.arg, a), (ar2.arg, v)])
theorem excO_inst {h : Heap} {a C t1 : Addr} (ho : h.get? a = some (PySem.HandSPX.excO C t1)) : W.InstAt h a (PySem.HandSPX.excO C t1) C none := ⟨ho, rfl, rfl, trivial⟩
theorem tm_init {P : Program} {w : World} {K : W.Frag} {mg : Str → Option Value} {base hp : Heap} {A : Around} {R : Result → Shared → Prop} {g : Array GenState} {d : Drawn} {t : Nat} {os : OsState}
    {fI C a t1 : Addr} {v : Value} {f : Str} (Md : Mod K mg base) (bk : ∀ b o, base.get? b = some o → hp.get? b = some o) (D : TmDef P K mg C fI f) (hroom : A.depth < recursionLimit) (ho : hp.get? a = some (PySem.HandSPX.excO C t1)) (ha0 : base.get? a = none)
    (hq : ∀ h' tk' dx t2, (∀ b o, b ≠ a → hp.get? b = some o → h'.get? b = some o) → hp.objs.size ≤ dx → dx ≠ a → h'.get? a = some { cls := .ref C, dict := some dx, data := .fields #[.ref t2, .none, .none, .none, .bool false, .none] } →
      h'.Ns1 dx (fun y => if y = f then some v else none) → R (.ok (.ret .none)) ⟨h', g, d, tk', os⟩) :
    codeAny (model P w) A (.call (.ref fI) ⟨[.ref a, v], []⟩) R ⟨hp, g, d, t, os⟩ := by
  obtain ⟨cda, cc, nm, qual, m, file, ar1, ar2, scope, dV, kV, doc, pm, ct, oc, ccl, cl, an, od, cdd, cld, osl, ccs, csl, vs, tf, j, p0, p1, p2, p3, p4, p5, p6, p7, p8, p9, hf, hcd, hcode, hvs, hfile, hcell, hks, hkc, hka, hkb, hk, hco, hgen, hnc, hd1, hd2, hne, hline, hbind⟩ := D.txt
  obtain ⟨sk, sn0, sg0, sc0, sm0⟩ := scope
  dsimp only at hks hkc hka hkb hk hco hgen hnc
  subst hk hco hgen
  have X : K.In hp := Md.kin.keeps bk
  refine ks_codeAny_call_defAt (binds := [(ar1.arg, .ref a), (ar2.arg, v)]) hroom (X _ _ hf) rfl (Md.nolimit.keeps bk) (W.codeRec_of X hcd) rfl (hbind _ _ _) hnc (fun y hy => ?_) (fun h₀ hns k0 => ?_) rfl rfl rfl
  · simp only [List.mem_cons, List.not_mem_nil, or_false] at hy
    rcases hy with rfl | rfl
    · exact hka
    · exact hkb
  have F1 : K.In h₀ := X.keeps k0
  have hk' : (callEnv (W.ksFn nm qual ⟨[], [ar1, ar2], none, [], [], none, []⟩ [.Expr (.Call (.Attribute (.Call (.Name "super" p0) [] [] p1) "__init__" p2) [.Constant (.str m) j p3] [] p4) p5, .Assign [.Attribute (.Name ar1.arg p6) f p7] (.Name ar2.arg p8) p9] ⟨.function, sn0, false, false, sm0⟩ dV kV doc pm an (.ref cda) ct cc) hp.objs.size fI) = W.ksEnv qual ⟨.function, sn0, false, false, sm0⟩ hp.objs.size fI (.ref cda) cc := rfl
  rw [hk']
  obtain ⟨mb, hb1, hb2⟩ := Md.blt
  have k1 : ∀ b o, base.get? b = some o → h₀.get? b = some o := fun b o e => k0 b o (bk b o e)
  have I0 := excO_inst (k0 a _ ho)
  obtain ⟨nmC, qC, N, bs, bm, sn, sub, ab, col, dd, c0, c1, c2, c3, c5, hC, hbm⟩ := D.oex.cls
  have hsz : hp.objs.size ≤ h₀.objs.size := by
    obtain ⟨oL, _, _, hL, _⟩ := hns
    exact Nat.le_of_lt (Heap.lt_size hL)
  refine ks_wpAt_execs_cons (ks_wpAt_Expr_any (ks_wpAt_MethodCall (pl := do return (← importBound (.Call (.Name "super" p0) [] [] p1) (W.ksEnv qual ⟨.function, sn0, false, false, sm0⟩ hp.objs.size fI (.ref cda) cc)).getD true) ?_ (by
    refine (arm_eval_Call _ _ _ _ _ _ _).trans ?_
    unfold methodCall methodCallPos
    rw [hline]
    rfl)))
  refine ks_wpAt_super_base (env := W.ksEnv qual ⟨.function, sn0, false, false, sm0⟩ hp.objs.size fI (.ref cda) cc) hks hkc rfl rfl (F1 _ _ hf) rfl (ar := ar1) rfl rfl (F1 _ _ hcode) rfl hvs hfile D.top ?_
  refine W.ks_loadName_global rfl hks (Calls.loadGlobal_builtin (env := W.ksEnv qual ⟨.function, sn0, false, false, sm0⟩ hp.objs.size fI (.ref cda) cc) (Md.glob.keeps k1) D.noS (hb1.keeps k1) ((hb2 _ (by decide)).trans (show bootBuiltins "super" = some (.type "super") by first | boot_by_name | rfl | kernel_rfl)) ⟨rfl, ?_⟩)
  refine wpAny_loadName_free rfl hkc rfl ⟨_, F1 _ _ hcell, rfl⟩ ?_
  have hself : ([(ar1.arg, Value.ref a), (ar2.arg, v)] : List (Str × Value)).reverse.lookup ar1.arg = some (.ref a) := by
    have e1 : (ar1.arg == ar2.arg) = false := by
      rw [beq_eq_false_iff_ne]
      exact Ne.symm hne
    simp [List.lookup, e1]
  have hlim : ([(ar1.arg, Value.ref a), (ar2.arg, v)] : List (Str × Value)).reverse.lookup ar2.arg = some v := by
    simp [List.lookup]
  refine wpAny_loadName_local rfl hka hns hself ?_
  have hC0 := F1 _ _ hC
  refine ks_wpAny_isType_cls hC0 rfl ⟨rfl, ?_⟩
  refine ks_wpAny_call_super hC0 rfl (k0 a _ ho) rfl (fun c e => by cases e) (W.looks_mroIn F1 D.mro) (fun h2 hs2 k2 => ?_)
  have F2 : K.In h2 := F1.keeps k2
  have I2 := excO_inst (k2 a _ (k0 a _ ho))
  obtain ⟨cd, hcl⟩ : ∃ cd, W.clsIn K C = some cd := by
    have h := D.sup
    unfold W.ks_superIn at h
    cases hc : W.clsIn K C with
    | none => rw [hc] at h; cases h
    | some cd => exact ⟨cd, rfl⟩
  have hsup := D.sup
  unfold W.ks_superIn at hsup
  rw [hcl, Option.bind_some] at hsup
  refine W.kxs_getMethod W.kxs_ValueError hs2 (W.looks_opaque F2 D.opq) (l₀ := cd.mro) (fun A Q E s k q => wpAny_bind ((W.looks_clsIn F2 hcl) A _ E s k (wpAny_pure q))) rfl F2 hsup (I2.type.andThen (W.looks_subIn F2 D.sub)) (W.ks_ne F2 I2 hcl) (by decide) ?_
  refine W.kxs_callWith (i := "ValueError.__init__") (x := a) rfl (Calls.evalArgs_plain (PyProof.Rows.spliced_more (pos := p4) (rest := []) (Calls.Constant_str (PyProof.Rows.spliced_none ⟨?_, ?_⟩))))
  · exact Heap.get?_push_at rfl rfl
  have k3 : ∀ b o, h2.get? b = some o → (h2.push (W.kxs_mw "ValueError.__init__" a)).get? b = some o := fun b o e => Heap.get?_push_of_some _ e
  have hu : (h2.push (W.kxs_mw "ValueError.__init__" a)).get? h2.objs.size = some (W.kxs_mw "ValueError.__init__" a) := Heap.get?_push_at rfl rfl
  have z3 : hp.objs.size ≤ (h2.push (W.kxs_mw "ValueError.__init__" a)).objs.size := by
    obtain ⟨oL, _, _, hL, _⟩ := hns
    exact Nat.le_of_lt (Heap.lt_size (k3 _ _ (k2 _ _ hL)))
  generalize h2.push (W.kxs_mw "ValueError.__init__" a) = h3 at *
  have kk3 : ∀ b o, hp.get? b = some o → h3.get? b = some o := fun b o e => k3 b o (k2 b o (k0 b o e))
  have F3 : K.In h3 := X.keeps kk3
  have ho3 := kk3 a _ ho
  have hns3 := hns.keeps fun b o e => k3 b o (k2 b o e)
  have hLa : hp.objs.size ≠ a := fun e => by
    have := Heap.lt_size ho
    rw [← e] at this
    exact absurd this (Nat.lt_irrefl _)
  -- the call of what the super object has handed over
  refine wpAny_call (codeAny_of_tree ?_)
  show wpAny _ _ (callAny (.ref h2.objs.size) ⟨_, []⟩) _ _ _
  simp only [callAny]
  refine wpAny_bind (wpAny_load hu ?_)
  simp only [W.kxs_mw, show (Value.type "method-wrapper" == Value.type "method" || Value.type "method-wrapper" == Value.type "builtin_function_or_method" || Value.type "method-wrapper" == Value.type "method-wrapper") = true by decide, if_true]
  refine W.KFB.if_so (by decide) ?_
  refine wpAny_bind (W.check_bound_init PySem.F.excBase_ValueError.toExcCallFacts (F3 _ _ hC) ho3 rfl ?_)
  refine wpAny_bind (wpAny_pure (wpAny_pure ?_))
  refine ⟨plainId_quiet PySem.F.excBase_ValueError.init.plain _, codeAny_builtin PySem.F.excBase_ValueError.initEntry ?_⟩
  refine W.exc_init_tree (cls := .ref C) (t0 := t1) (dv := none) (c2 := .none) (c3 := .none) (b4 := .bool false) ho3 (by show 1 ≤ sizeLine; rw [sizeLine_eq]; omega) (fun h4 k4 e4 _ => ?_)
  have ho4 : h4.get? a = some (PySem.HandSPX.excO C h3.objs.size) := e4
  have F4 : K.In h4 := fun b o e => k4 b o (fun z => by
    have := Md.kin b o e
    rw [z, ha0] at this
    cases this) (F3 b o e)
  have hns4 := hns3.at fun o y => k4 _ o hLa y
  have z4 : hp.objs.size ≤ h4.objs.size := by
    obtain ⟨oL, _, _, hL, _⟩ := hns4
    exact Nat.le_of_lt (Heap.lt_size hL)
  show PySem.wpAt _ _ _ (execs _ _) _ _ _
  refine ks_wpAt_execs_cons (ks_wpAt_Assign_Attr ?_)
  refine wpAt_of_wpAny (PySem.ESX.ldL hns4 hlim ?_ rfl hkb hd2)
  refine PySem.ESX.ldL hns4 hself ?_ rfl hka hd1
  have hcl' : W.clsIn K C = some { name := nmC, bases := bs, mro := .ref C :: bm, ns := N, qualname := qC, hasDict := true, slotNames := sn, subclasses := sub, abstract := ab, collection := col, hasDel := false } := by unfold W.clsIn; rw [hC] <;> rfl
  refine W.set_plain F4 (ox := PySem.HandSPX.excO C h3.objs.size) (od := none) (excO_inst ho4) D.oex.sa ?_
  refine PySem.HandSPX.exc_osa F4 ho4 hcl' (show PySem.HandSPX.refsVE (.ref C :: bm) = true from hbm) rfl D.fld (fun h' tk' dx k dn dne hx hn => ?_)
  show PySem.wpAt _ _ _ (execs [] _) _ _ _
  refine wpAt_of_wpAny (wpAny_pure ?_)
  exact hq h' tk' dx _ (fun b o hb e => k b o hb (k4 b o hb (kk3 b o e))) (Nat.le_trans z4 dn) dne hx hn
/-- C(e): the class's own maker keeps what it gets under f -/
def tTm (C : Addr) (f : Str) (te : TE) : L2.St → Hp → XK → Prop := fun σ H Q => tCons te tNil σ H fun vs H1 => ∃ v, vs = [v] ∧ ∀ d, H1 d = none → Q (.ref C) (some d) (upd H1 d (.xd [(f, v)]))
theorem pmk_tm {X : Cx} {x f : Str} {C fI : Addr} {k : Nat} {e : Expr} {te : TE} {p pos : Pos} (D : TmDef X.prog X.K X.mg C fI f) (iC : W.findIn X.K (.ref C) "__init__" = some (some (.ref fI))) (tI : W.typeIn X.K (.ref fI) = some (.type "function"))
    (hr : Room k X.A) (hg : Gl X x) (hm : X.mg x = some (.ref C)) (he : PE X e te) (hdb : (x == ("__debug__" : Str)) = false) (hst : starEach [e] X.env = (false, eval e X.env) :: starEach [] X.env) : L2N.PMk X (.Call (.Name x p) [e] [] pos) (tTm C f te) := by
  intro pins s σ H Q I h
  have T := D.oex
  obtain ⟨nm, q, N, bs, bm, sn, sub, ab, col, dd, k0, k1, k2, k3, k5, hC, hbm⟩ := T.cls
  refine wpAny_Call_Name_kw (ld_glob I hg hm ?_ hdb)
  have ha : PA X [e] (tCons te tNil) := pa_cons he pa_nil hst
  refine W.callWith_K (h₀ := X.base) I.ok.mod.kin T.kC (thn (ha.run pos pins s σ H (fun vs H1 => ∃ v, vs = [v] ∧ ∀ d, H1 d = none → Q (.ref C) (some d) (upd H1 d (.xd [(f, v)]))) I ?_) fun us s1 ⟨vs, H1, I1, r1, v, ev, q1⟩ => ⟨I1.kIn, ?_⟩) hst rfl
  · exact h
  subst ev
  cases r1 with
  | @cons _ u _ ur ru rn =>
    cases rn
    show wpAny _ _ (call (.ref C) [u]) _ _ _
    obtain ⟨hp, g, dr, tk, os⟩ := s1
    have hsz : hp.objs.size ≤ hp.objs.size + 1 := Nat.le_succ _
    have hn : H1 (hp.objs.size + 1) = none := I1.hok.fresh hsz
    have kk : ∀ b o, hp.get? b = some o → ((hp.push (W.kdv_tup [u])).push (PySem.HandSPX.excO C hp.objs.size)).get? b = some o := fun b o e => Heap.get?_push_of_some _ (Heap.get?_push_of_some _ e)
    have hget : ((hp.push (W.kdv_tup [u])).push (PySem.HandSPX.excO C hp.objs.size)).get? (hp.objs.size + 1) = some (PySem.HandSPX.excO C hp.objs.size) := by heap_get
    have I2 : Inv X pins σ (upd H1 (hp.objs.size + 1) (exo (hp.objs.size + 1) C none)) ⟨(hp.push (W.kdv_tup [u])).push (PySem.HandSPX.excO C hp.objs.size), g, dr, tk, os⟩ :=
      I1.laid (t' := tk) (a := hp.objs.size + 1) (o := exo (hp.objs.size + 1) C none) (h' := (hp.push (W.kdv_tup [u])).push (PySem.HandSPX.excO C hp.objs.size)) kk hsz (exo_ok hget)
    have ha0 : X.base.get? (hp.objs.size + 1) = none := by
      cases z : X.base.get? (hp.objs.size + 1) with
      | none => rfl
      | some o =>
        exact absurd (Heap.lt_size (I1.bk _ _ z)) (Nat.not_lt.mpr (Nat.le_succ _))
    refine wpAny_call (PySem.HandSPX.call_own F.excBase_ValueError (fun Y => PySem.HandSPX.refsVE_contains Y bm hbm) (I1.kIn _ _ hC) (W.looks_findIn I1.kIn iC) (fun self => W.bind_fn I1.kIn self tI) (by show 1 ≤ sizeLine; rw [sizeLine_eq]; omega)
      (tm_init I1.mod (fun b o e => kk b o (I1.bk b o e)) D (by rw [make_depth]; have := hr.dp; omega) hget ha0 fun h' tk' dx t2 k dn dne hx hns => ?_))
    refine ⟨rfl, ?_⟩
    generalize (hp.push (W.kdv_tup [u])).push (PySem.HandSPX.excO C hp.objs.size) = hp2 at *
    have e1 : upd H1 (hp.objs.size + 1) (exo (hp.objs.size + 1) C none) (hp.objs.size + 1) = some (exo (hp.objs.size + 1) C none) := upd_same
    have hnd : upd H1 (hp.objs.size + 1) (exo (hp.objs.size + 1) C none) dx = none := I2.hok.fresh dn
    have nd : ∀ {b : Addr} {o : Obj}, hp2.get? b = some o → b ≠ dx := fun {b o} q => Nat.ne_of_lt (Nat.lt_of_lt_of_le (Heap.lt_size q) dn)
    have na : ∀ {b : Addr}, upd H1 (hp.objs.size + 1) (exo (hp.objs.size + 1) C none) b = none → b ≠ hp.objs.size + 1 := fun {b} n z => by
      rw [z, e1] at n
      cases n
    let a : Addr := hp.objs.size + 1
    let Ha : Hp := upd H1 a (exo a C none)
    let H2 : Hp := upd (upd Ha dx (exd dx [(f, v)])) a (exo a C (some dx))
    have un : Un (frs X.stack) [] Ha H2 hp2 h' := {
      keep := fun b o q n _ _ => k b o (na n) q
      slot := fun b o q n _ _ => ⟨o.slots, k b o (na n) q⟩
      free := fun b o q n _ => by
        show upd (upd Ha dx (exd dx [(f, v)])) a (exo a C (some dx)) b = none
        rw [upd_ne (na n), upd_ne (nd q)]
        exact n
      there := fun b o q _ => by
        by_cases hb : b = a
        · exact ⟨_, by rw [hb]; exact hx⟩
        · exact ⟨o, k b o hb q⟩
      tups := fun b xs q => by
        show upd (upd Ha dx (exd dx [(f, v)])) a (exo a C (some dx)) b = _
        rw [upd_ne (at_ne e1 q exo_tup), upd_ne (ne_of_none q hnd)]
        exact q
      frzs := fun b o w q => by
        show upd (upd Ha dx (exd dx [(f, v)])) a (exo a C (some dx)) b = _
        rw [upd_ne (at_ne e1 q exo_frz), upd_ne (ne_of_none q hnd)]
        exact q
      tbls := fun b ps q => ⟨#[], by
        show upd (upd Ha dx (exd dx [(f, v)])) a (exo a C (some dx)) b = _
        rw [upd_ne (at_ne e1 q exo_tbl), upd_ne (ne_of_none q hnd), q]
        simp⟩ }
    have ed0 : ObjOk X.prog X.w H2 h' dx (exd dx [(f, v)]) := exd_ok hns (relO_put (fs := []) ru fun g => True.intro)
    have hok : HOk X.prog X.w H2 h' := fun b o q => by
      have q : upd (upd Ha dx (exd dx [(f, v)])) a (exo a C (some dx)) b = some o := q
      by_cases hb : b = a
      · rw [hb, upd_same] at q
        cases q
        rw [hb]
        exact exo_ok hx
      · rw [upd_ne hb] at q
        by_cases hd : b = dx
        · rw [hd, upd_same] at q
          cases q
          rw [hd]
          exact ed0
        · rw [upd_ne hd] at q
          exact (I2.hok b o q).stay (fun c w hc z => k c w (by
              rcases hc with hc | hc
              · rw [hc]
                exact hb
              · exact at_ne e1 hc exo_own) z)
            (fun c hc => by
              show upd (upd Ha dx (exd dx [(f, v)])) a (exo a C (some dx)) c = _
              rw [upd_ne (at_ne e1 hc exo_own), upd_ne (ne_of_none hc hnd)]
              exact hc) (fun c xs hc => by
              show upd (upd Ha dx (exd dx [(f, v)])) a (exo a C (some dx)) c = _
              rw [upd_ne (at_ne e1 hc exo_tup), upd_ne (ne_of_none hc hnd)]
              exact hc)
    have ea2 : H2 a = some (exo a C (some dx)) := upd_same
    have ed2 : H2 dx = some (exd dx [(f, v)]) := by
      show upd (upd Ha dx (exd dx [(f, v)])) a (exo a C (some dx)) dx = _
      rw [upd_ne dne, upd_same]
    have hd1 : H1 dx = none := by
      have z := hnd
      rw [upd_ne dne] at z
      exact z
    obtain ⟨t0, G, J, kG, ge, hoe, nA⟩ := mk_end0 (d2 := dr) (t2 := tk') I1 hsz kk un hok rfl I1.bare ea2 ed2 hd1
    have eH : upd (del H2 a) dx (.xd [(f, v)]) = upd H1 dx (.xd [(f, v)]) := by
      funext b
      by_cases hb : b = dx
      · rw [hb, upd_same, upd_same]
      · rw [upd_ne hb, upd_ne hb]
        by_cases ha : b = a
        · rw [ha, del_same, hn]
        · rw [del_ne ha]
          show upd (upd Ha dx (exd dx [(f, v)])) a (exo a C (some dx)) b = _
          rw [upd_ne ha, upd_ne hb]
          exact upd_ne ha
    rw [eH] at J nA
    exact ⟨a, _, _, ⟨G, g, dr, tk', os⟩, _, .ref C, some dx, rfl, J, kG, ge, hoe, ⟨rfl, rfl, fun vs hv => by cases hv; rfl⟩, rfl, rfl, nA, rfl, I1.bare, raises_own T.exC T.tyC, q1 dx hd1⟩
end Ev
end

section
set_option Elab.async false
set_option linter.all false
set_option autoImplicit false
set_option maxRecDepth 100000
set_option maxHeartbeats 4000000
/-! # What the syntax does is what the little language says: expressions -/
namespace Ev
open PySem PySem.Spec PyProof.Rows L2
theorem pe_imp {X : Cx} {e : Expr} {t t' : TE} (h : PE X e t) (i : ∀ σ H Q, t' σ H Q → t σ H Q) : PE X e t' := ⟨fun pins s σ H Q I q => h.run pins s σ H Q I (i σ H Q q)⟩
theorem pt_imp {X : Cx} {e : Expr} {t t' : TT} (h : PT X e t) (i : ∀ σ H Q, t' σ H Q → t σ H Q) : PT X e t' := ⟨fun pins s σ H Q I q => h.run pins s σ H Q I (i σ H Q q)⟩
theorem pw_imp {X : Cx} {e : Expr} {t t' : TT} (h : PW X e t) (i : ∀ σ H Q, t' σ H Q → t σ H Q) : PW X e t' := ⟨fun wh pins s σ H Q I q => h.run wh pins s σ H Q I (i σ H Q q)⟩
theorem pa_imp {X : Cx} {e : List Expr} {t t' : TA} (h : PA X e t) (i : ∀ σ H Q, t' σ H Q → t σ H Q) : PA X e t' := ⟨fun pos pins s σ H Q I q => h.run pos pins s σ H Q I (i σ H Q q)⟩
section
variable (K : W.Frag) (T : List (Addr × Str)) (cl : Nat → Option Addr) (E : XK) (c : Cn)
def eqB : Ms → Hp → Bool → Bool → Prop := fun _ _ b b' => b = b'
def tX (ir : X) : TE := fun σ H Q => ∃ ρ M S, EnvOk K ρ σ M H ∧ StOk K T M S H ∧ Out K T cl E M H (evX c ir ρ S) (RU K) Q
def tXs (ir : Xs) : TA := fun σ H Q => ∃ ρ M S, EnvOk K ρ σ M H ∧ StOk K T M S H ∧ Out K T cl E M H (evXs c ir ρ S) (RUs K) Q
def tTr (ir : X) : TT := fun σ H Q => ∃ ρ M S, EnvOk K ρ σ M H ∧ StOk K T M S H ∧ Out K T cl E M H (truR (evX c ir ρ S)) eqB Q
/-- what a def promises: what the little language says of the call -/
def spC (cf : CF) (f np : Nat) : Sp := fun vs H Q E => ∃ M S us, RUs K M H vs us ∧ StOk K T M S H ∧ us.length = np ∧ Out K T cl E M H (cf f us S) (RU K) Q
end
/-- the builtins whose names the program leaves as they are -/
abbrev bltNames : List Str := ["len", "all", "sum", "int", "bool", "abs", "tuple", "list", "isinstance", "str", "range", "enumerate", "zip", "sorted", "set", "max", "min"]
/-- the code object of the code that makes lambdas -/
def LamAt (T : List (Addr × Str)) (X : Cx) : Prop := ∃ cA P, LamX.TabB X.base X.mg cA P ∧ X.env.code = .ref cA ∧ (P, X.env.qual ++ "<lambda>") ∈ T ∧ ∀ p ∈ T, p.1 = P → p.2 = X.env.qual ++ "<lambda>"
/-- told: the error's names, or an empty text -/
def TTerr (K : W.Frag) (T : List (Addr × Str)) (cl : Nat → Option Addr) (nm : Nat → Option Str) : (XK → Hp → VK → Prop) → Hp → VK → Prop := fun tl H Q =>
  tl (fun cls d H' => ∃ M S C i z, Dic d H' ∧ StOk K T M S H' ∧ cls = .ref C ∧ cl i = some C ∧ nm i = some z ∧ ∀ M' H'', Gr M H' M' H'' → StOk K T M' S H'' → Q (.str z) H'') H fun _ H' => Q (.str ⟨#[]⟩) H'
/-- the def that calls what it gets, and tells the error -/
def ErrDef (T : List (Addr × Str)) (cl : Nat → Option Addr) (nm : Nat → Option Str) (P : Program) (w : World) (K : W.Frag) (mg : Str → Option Value) (base : Heap) (x : Str) : Prop :=
  ∃ (g : Addr) (pg : Arguments) (bg : List Stmt) (sg : Scope) (dV kV doc pm cdv ct oc : Value) (an od : Option Addr) (osl : Array (Option Value)) (Ng : List Str) (a : Str),
    mg x = some (.ref g) ∧ W.keepIn K (.ref g) = true ∧ K.lookup g = some ⟨oc, od, .func (W.fnOf x x pg bg sg dV kV doc pm an cdv ct), osl⟩ ∧ W.codeIn K cdv x = true ∧ Binds K (W.fnOf x x pg bg sg dV kV doc pm an cdv ct) [a] [] ∧ FnScope Ng [a] sg ∧
    Ng[0]? = some a ∧ Vis sg a ∧ odd a = false ∧ ∀ (X : Cx), X.prog = P → X.w = w → X.K = K → X.mg = mg → X.base = base → Room 2 X.A → ∀ q, GivesN X Ng x sg g cdv bg a q (TTerr K T cl nm)
/-- where one stands -/
structure Good (g : Cfg) (T : List (Addr × Str)) (cl : Nat → Option Addr) (c : Cn) (k l : Nat) (X : Cx) (N : List Str) (sc : Scope) (fb : Fb) : Prop where
  names : X.N = N
  nd : N.Nodup
  scope : X.env.scope = sc
  calm : X.calm = true
  room : Room k X.A
  fbk : ∀ x, fb x = true → X.fn x = true ∨ X.env.scope.names.lookup x = some .local
  fns : ∀ x f, g.fnIx x = some f → ∃ a fd ps n, g.np f = some n ∧ ps.length = n ∧ X.mg x = some (.ref a) ∧ W.keepIn X.K (.ref a) = true ∧ Binds X.K fd ps [] ∧
    FnOk X.prog X.w X.K X.mg X.base (L2N.CX X.prog X.w) k a fd ps (spC X.K T cl c.call f n) ∧ ∀ lf, c.low = some lf → FnOk X.prog X.w X.K X.mg X.base (L2N.CX X.prog X.w) l a fd ps (spC X.K T cl lf f n)
  low : ∀ lf, c.low = some lf → l + 2 ≤ k ∧ (g.lam = true → LamAt T X)
  clss : ∀ x i, g.clIx x = some i → ∃ C, cl i = some C ∧ X.mg x = some (.ref C) ∧ W.keepIn X.K (.ref C) = true ∧ W.excIn X.K C [.type "ValueError", .type "Exception", .type "BaseException", .type "object"] "ValueError.__new__" = true ∧ W.subIn X.K (.ref C) (.type "BaseException") = some true ∧ W.typeIn X.K (.ref C) = some (.type "type")
  clst : ∀ x i, g.clTx x = some i → ∃ C f fI, cl i = some C ∧ X.mg x = some (.ref C) ∧ TmDef X.prog X.K X.mg C fI f ∧ W.findIn X.K (.ref C) "__init__" = some (some (.ref fI)) ∧ W.typeIn X.K (.ref fI) = some (.type "function")
  nms : ∀ i z, c.nm i = some z → ∃ C, cl i = some C
  errs : ∀ x, g.errs x = true → ErrDef T cl c.nm X.prog X.w X.K X.mg X.base x
  ar : ∀ (f : Nat) n us S, g.np f = some n → us.length ≠ n → c.call f us S = .bad
  arL : ∀ lf, c.low = some lf → ∀ (f : Nat) n us S, g.np f = some n → us.length ≠ n → lf f us S = .bad
  blts : ∀ x, x ∈ bltNames → X.mg x = none
  cons : ∀ x p, g.con x = some p → ∃ u v, X.mg x = some u ∧ RelV v u ∧ ∀ M H, Rp X.K M H v p
section
variable {K : W.Frag} {T : List (Addr × Str)} {cl : Nat → Option Addr} {E : XK} {c : Cn} {X : Cx} {M : Ms} {H : Hp} {S : Store} {ρ : Rho} {σ : L2.St}
theorem tX_b {α β : Type} {ir : Ev.X} {f : U → Store → R α} {rel : Ms → Hp → β → α → Prop} {Q : β → Hp → Prop} (en : EnvOk K ρ σ M H) (st : StOk K T M S H) (h : Out K T cl E M H ((evX c ir ρ S).bind f) rel Q) {R : VK}
    (q : ∀ v M1 H1 S1 u, Gr M H M1 H1 → EnvOk K ρ σ M1 H1 → StOk K T M1 S1 H1 → RU K M1 H1 v u → Out K T cl E M1 H1 (f u S1) rel Q → R v H1) : tX K T cl E c ir σ H R :=
  ⟨ρ, M, S, en, st, Out.mono (Out.bind h) fun v H1 ⟨M1, S1, u, g1, st1, r1, h1⟩ => q v M1 H1 S1 u g1 (en.mono g1) st1 r1 h1⟩
theorem tXs_b {α β : Type} {ir : Xs} {f : List U → Store → R α} {rel : Ms → Hp → β → α → Prop} {Q : β → Hp → Prop} (en : EnvOk K ρ σ M H) (st : StOk K T M S H) (h : Out K T cl E M H ((evXs c ir ρ S).bind f) rel Q) {R : List V → Hp → Prop}
    (q : ∀ v M1 H1 S1 u, Gr M H M1 H1 → EnvOk K ρ σ M1 H1 → StOk K T M1 S1 H1 → RUs K M1 H1 v u → Out K T cl E M1 H1 (f u S1) rel Q → R v H1) : tXs K T cl E c ir σ H R :=
  ⟨ρ, M, S, en, st, Out.mono (Out.bind h) fun v H1 ⟨M1, S1, u, g1, st1, r1, h1⟩ => q v M1 H1 S1 u g1 (en.mono g1) st1 r1 h1⟩
theorem tTr_b {α β : Type} {ir : Ev.X} {f : Bool → Store → R α} {rel : Ms → Hp → β → α → Prop} {Q : β → Hp → Prop} (en : EnvOk K ρ σ M H) (st : StOk K T M S H) (h : Out K T cl E M H ((truR (evX c ir ρ S)).bind f) rel Q) {R : Bool → Hp → Prop}
    (q : ∀ b M1 H1 S1, Gr M H M1 H1 → EnvOk K ρ σ M1 H1 → StOk K T M1 S1 H1 → Out K T cl E M1 H1 (f b S1) rel Q → R b H1) : tTr K T cl E c ir σ H R :=
  ⟨ρ, M, S, en, st, Out.mono (Out.bind (rel := eqB) h) fun b H1 ⟨M1, S1, b', g1, st1, r1, h1⟩ => q b M1 H1 S1 g1 (en.mono g1) st1 (by cases (show b = b' from r1); exact h1)⟩
/-- an answer that is there -/
theorem out_here {α β : Type} {a : α} {b : β} {rel : Ms → Hp → β → α → Prop} {Q : β → Hp → Prop} (st : StOk K T M S H) (h : Out K T cl E M H (.ok a S) rel Q) (r : rel M H b a) : Q b H := h b M H (Gr.refl _ _) st r
theorem ix_of {N : List Str} {x : Str} {i : Nat} (h : ixOf N x = some i) : N[i]? = some x := by
  unfold ixOf at h
  split at h
  · split at h
    · rename_i hc
      cases h
      exact hc
    · cases h
  · cases h
theorem vis_of {sc : Scope} {x : Str} (h : visB sc x = true) : Vis sc x := by
  unfold visB at h
  unfold Vis
  split at h
  · exact .inl (by assumption)
  · exact .inr (.inl (by assumption))
  · exact .inr (.inr (by assumption))
  · cases h
theorem loc_of {sc : Scope} {x : Str} (h : locB sc x = true) : L2.Loc sc x := by
  unfold locB at h
  unfold L2.Loc
  split at h
  · exact .inl (by assumption)
  · exact .inr (by assumption)
  · cases h
theorem gl_of {x : Str} {sc : Scope} (hs : X.env.scope = sc) (h : glB sc x = true) : Gl X x := by
  unfold glB at h
  unfold Gl Env.kindOf
  rw [hs]
  exact of_decide_eq_true h
theorem odd_of {x : Str} (h : odd x = false) : (x == ("__debug__" : Str)) = false ∧ (x == ("__classdict__" : Str)) = false ∧ x ≠ "__name__" := by
  unfold odd at h
  simp only [Bool.or_eq_false_iff] at h
  exact ⟨h.1.1, h.1.2, by simpa using h.2⟩
/-! ### one construct at a time -/
theorem px_loc {N : List Str} {sc : Scope} {x : Str} {i : Nat} {pos : Pos} (hN : X.N = N) (hs : X.env.scope = sc) (ho : odd x = false) (hv : visB sc x = true) (hi : ixOf N x = some i) : PE X (.Name x pos) (tX X.K T cl E c (.loc i)) :=
  pe_imp (pe_var (i := i) (by rw [hN]; exact ix_of hi) (by rw [hs]; exact vis_of hv) (odd_of ho).1 (odd_of ho).2.1) fun σ H Q ⟨ρ, M, S, en, st, h⟩ => by
    unfold evX at h
    split at h
    · rename_i u e
      obtain ⟨v, e1, r⟩ := en.at_ i u e
      exact ⟨v, e1, out_here st h r⟩
    · exact h.elim
theorem px_con {e : Expr} {v : V} {p : PyData} (h : PE X e (tC v)) (r : ∀ M H, Rp X.K M H v p) : PE X e (tX X.K T cl E c (.con p)) :=
  pe_imp h fun σ H Q ⟨ρ, M, S, en, st, h⟩ => by
    unfold evX at h
    exact out_here st h (r M H)
theorem px_bin {a b : Expr} {op : Operator} {pos : Pos} {x y : Ev.X} (ha : PE X a (tX X.K T cl E c x)) (hb : PE X b (tX X.K T cl E c y)) : PE X (.BinOp a op b pos) (tX X.K T cl E c (.bin op x y)) :=
  pe_imp (pe_op (bin_ok (T := T) (cl := cl) (E := E) op) ha hb) fun σ H Q ⟨ρ, M, S, en, st, h⟩ => by
    unfold evX at h
    exact tX_b en st h fun v M1 H1 S1 u g1 en1 st1 r1 h1 => tX_b en1 st1 h1 fun w M2 H2 S2 u2 g2 _ st2 r2 h2 => ⟨M2, S2, u, u2, r1.mono g2, r2, st2, h2⟩
theorem px_neg {a : Expr} {pos : Pos} {x : Ev.X} (ha : PE X a (tX X.K T cl E c x)) : PE X (.UnaryOp .USub a pos) (tX X.K T cl E c (.neg x)) :=
  pe_imp (pe_un un_neg ha) fun σ H Q ⟨ρ, M, S, en, st, h⟩ => by
    unfold evX at h
    refine tX_b en st h fun v M1 H1 S1 u g1 en1 st1 r1 h1 => ?_
    split at h1
    · cases r1
      exact ⟨_, rfl, out_here st1 h1 (Rp.int _)⟩
    · exact h1.elim
theorem out_tru {u : U} {v : V} {Q : Bool → Hp → Prop} (st : StOk K T M S H) (r : RU K M H v u) (h : Out K T cl E M H (R.of S ((deref S u).bind truD)) eqB Q) : ∃ k, TruV K v H k ∧ Q k H := by
  cases e1 : deref S u with
  | none => rw [e1] at h; exact h.elim
  | some p =>
    rw [e1] at h
    have h : Out K T cl E M H (R.of S (truD p)) eqB Q := h
    cases e2 : truD p with
    | none => rw [e2] at h; exact h.elim
    | some b =>
      rw [e2] at h
      exact ⟨b, truV_of r st e1 e2, out_here (a := b) st h rfl⟩
/-- an expression that is no and, or, not, if, comparison is tested by its truth -/
theorem pt_plain {a : Expr} {x : Ev.X} (ha : PE X a (tX X.K T cl E c x)) (he : ∀ whole, isTrue a X.env whole = (do let v ← whole; standAt a.pos; holding [v] (truthy v))) : PT X a (tTr X.K T cl E c x) :=
  pt_imp (pt_truth ha he) fun σ H Q ⟨ρ, M, S, en, st, h⟩ => tX_b en st h fun v M1 H1 S1 u g1 en1 st1 r1 h1 => out_tru st1 r1 h1
theorem bind_assoc {α β γ : Type} (r : R α) (f : α → Store → R β) (g : β → Store → R γ) : (r.bind f).bind g = r.bind fun a S => (f a S).bind g := by cases r <;> rfl
theorem of_bind {α β γ : Type} {o : Option α} {f : α → Store → R β} {rel : Ms → Hp → γ → β → Prop} {Q : γ → Hp → Prop} (h : Out K T cl E M H ((R.of S o).bind f) rel Q) : ∃ a, o = some a ∧ Out K T cl E M H (f a S) rel Q := by
  cases o with
  | none => exact h.elim
  | some a => exact ⟨a, rfl, h⟩
theorem bindO {α β : Type} {o : Option α} {f : α → Option β} {b : β} (h : o.bind f = some b) : ∃ a, o = some a ∧ f a = some b := by
  cases o with
  | none => cases h
  | some a => exact ⟨a, rfl, h⟩
theorem px_not {a : Expr} {pos : Pos} {x : Ev.X} (ha : PE X a (tX X.K T cl E c x)) : PE X (.UnaryOp .Not a pos) (tX X.K T cl E c (.not x)) :=
  pe_imp (pe_notT ha) fun σ H Q ⟨ρ, M, S, en, st, h⟩ => by
    unfold evX truR at h
    rw [bind_assoc] at h
    refine tX_b en st h fun v M1 H1 S1 u g1 en1 st1 r1 h1 => ?_
    obtain ⟨b, e, h2⟩ := of_bind h1
    obtain ⟨p, e1, e2⟩ := bindO e
    exact ⟨b, truV_of r1 st1 e1 e2, out_here st1 h2 (Rp.bl _)⟩
theorem pt_not' {a : Expr} {pos : Pos} {x : Ev.X} (ha : PT X a (tTr X.K T cl E c x)) : PT X (.UnaryOp .Not a pos) (tTr X.K T cl E c (.not x)) :=
  pt_imp (pt_not ha) fun σ H Q ⟨ρ, M, S, en, st, h⟩ => by
    unfold truR evX at h
    rw [bind_assoc] at h
    exact tTr_b en st h fun b M1 H1 S1 g1 en1 st1 h1 => out_here (b := !b) (a := !b) st1 h1 rfl
theorem px_cmp {a b : Expr} {op : CmpOp} {pos : Pos} {x y : Ev.X} (hu : X.A.units + 65 < cLine) (hm : behindInMarks op b = false) (ha : PE X a (tX X.K T cl E c x)) (hb : PE X b (tX X.K T cl E c y)) : PE X (.Compare a [op] [b] pos) (tX X.K T cl E c (.cmp op x y)) :=
  pe_imp (pe_cmpR (cmp_ok (T := T) (cl := cl) (E := E) op hu) ha hb hm) fun σ H Q ⟨ρ, M, S, en, st, h⟩ => by
    unfold evX at h
    exact tX_b en st h fun v M1 H1 S1 u g1 en1 st1 r1 h1 => tX_b en1 st1 h1 fun w M2 H2 S2 u2 g2 _ st2 r2 h2 => ⟨M2, S2, u, u2, r1.mono g2, r2, st2, h2⟩
/-- a truth value's truth -/
theorem out_trb {o : Option Bool} {Q : Bool → Hp → Prop} (h : Out K T cl E M H ((R.of S (o.map fun b => U.d (.bool b))).bind fun u S1 => R.of S1 ((deref S1 u).bind truD)) eqB Q) : Out K T cl E M H (R.of S (o.map fun b => U.d (.bool b))) (RU K) fun v H' => ∃ k, v = .bl k ∧ Q k H' := by
  cases o with
  | none => exact h.elim
  | some b =>
    intro v M' H' g s r
    cases (show Rp K M' H' v (.bool b) from r)
    exact ⟨b, rfl, h b M' H' g s rfl⟩
theorem pt_cmp' {a b : Expr} {op : CmpOp} {pos : Pos} {x y : Ev.X} (hu : X.A.units + 65 < cLine) (hm : behindInMarks op b = false) (ha : PE X a (tX X.K T cl E c x)) (hb : PE X b (tX X.K T cl E c y)) : PT X (.Compare a [op] [b] pos) (tTr X.K T cl E c (.cmp op x y)) :=
  pt_imp (pt_cmpR (cmp_ok (T := T) (cl := cl) (E := E) op hu) ha hb hm) fun σ H Q ⟨ρ, M, S, en, st, h⟩ => by
    unfold truR evX at h
    simp only [bind_assoc] at h
    exact tX_b en st h fun v M1 H1 S1 u g1 en1 st1 r1 h1 => tX_b en1 st1 h1 fun w M2 H2 S2 u2 g2 _ st2 r2 h2 => ⟨M2, S2, u, u2, r1.mono g2, r2, st2, out_trb h2⟩
/-- a chain: r's answer is asked, then the second comparison -/
theorem px_chn {a b d : Expr} {o p : CmpOp} {pos : Pos} {x y z : Ev.X} (hu : X.A.units + 65 < cLine) (hm : lastMarks [o, p] [b, d] = false) (ha : PE X a (tX X.K T cl E c x)) (hb : PE X b (tX X.K T cl E c y)) (hd : PE X d (tX X.K T cl E c z)) :
    PE X (.Compare a [o, p] [b, d] pos) (tX X.K T cl E c (.chn o p x y z)) :=
  pe_imp (pe_chain (cmp_ok (T := T) (cl := cl) (E := E) o hu) (cmp_ok (T := T) (cl := cl) (E := E) p hu) ha hb hd hm) fun σ H Q ⟨ρ, M, S, en, st, h⟩ => by
    unfold evX at h
    refine tX_b en st h fun v M1 H1 S1 u g1 en1 st1 r1 h1 => tX_b en1 st1 h1 fun w M2 H2 S2 u2 g2 en2 st2 r2 h2 => ⟨M2, S2, u, u2, r1.mono g2, r2, st2, ?_⟩
    obtain ⟨k, e, h3⟩ := of_bind h2
    dsimp only
    rw [e]
    intro v3 M3 H3 g3 st3 r3
    cases (show Rp X.K M3 H3 v3 (.bool k) from r3)
    refine ⟨k, rfl, ?_⟩
    cases k with
    | false => exact out_here st3 (Out.later h3 g3) (Rp.bl _)
    | true => exact tX_b (en2.mono g3) st3 (Out.later h3 g3) fun v4 M4 H4 S4 u4 g4 en4 st4 r4 h4 => ⟨M4, S4, u2, u4, (r2.mono g3).mono g4, r4, st4, h4⟩
theorem pt_chn' {a b d : Expr} {o p : CmpOp} {pos : Pos} {x y z : Ev.X} (hu : X.A.units + 65 < cLine) (hm : lastMarks [o, p] [b, d] = false) (ha : PE X a (tX X.K T cl E c x)) (hb : PE X b (tX X.K T cl E c y)) (hd : PE X d (tX X.K T cl E c z)) :
    PT X (.Compare a [o, p] [b, d] pos) (tTr X.K T cl E c (.chn o p x y z)) :=
  pt_imp (pt_chain (cmp_ok (T := T) (cl := cl) (E := E) o hu) (cmp_ok (T := T) (cl := cl) (E := E) p hu) ha hb hd hm) fun σ H Q ⟨ρ, M, S, en, st, h⟩ => by
    unfold truR evX at h
    simp only [bind_assoc] at h
    refine tX_b en st h fun v M1 H1 S1 u g1 en1 st1 r1 h1 => tX_b en1 st1 h1 fun w M2 H2 S2 u2 g2 en2 st2 r2 h2 => ⟨M2, S2, u, u2, r1.mono g2, r2, st2, ?_⟩
    obtain ⟨k, e, h3⟩ := of_bind h2
    dsimp only
    rw [e]
    intro v3 M3 H3 g3 st3 r3
    cases (show Rp X.K M3 H3 v3 (.bool k) from r3)
    refine ⟨k, rfl, ?_⟩
    cases k with
    | false => exact ⟨false, rfl, out_here (a := false) st3 (Out.later h3 g3) rfl⟩
    | true =>
      rw [if_pos rfl, bind_assoc] at h3
      exact tX_b (en2.mono g3) st3 (Out.later h3 g3) fun v4 M4 H4 S4 u4 g4 en4 st4 r4 h4 => ⟨M4, S4, u2, u4, (r2.mono g3).mono g4, r4, st4, out_trb h4⟩
end
end Ev
end

section
set_option Elab.async false
set_option linter.all false
set_option autoImplicit false
set_option maxRecDepth 100000
set_option maxHeartbeats 4000000
namespace Ev
open PySem PySem.Spec PyProof.Rows L2
section
variable {K : W.Frag} {T : List (Addr × Str)} {cl : Nat → Option Addr} {E : XK} {c : Cn} {X : Cx} {M : Ms} {H : Hp} {S : Store} {ρ : Rho} {σ : L2.St}
theorem asB_some {u : U} {b : Bool} (h : asB u = some b) : u = .d (.bool b) := by
  unfold asB at h
  split at h
  · cases h; rfl
  · cases h
/-- a truth value as a value -/
theorem out_asB {u : U} {v : V} {α β : Type} {f : Bool → Store → R α} {rel : Ms → Hp → β → α → Prop} {Q : β → Hp → Prop} (r : RU K M H v u) (h : Out K T cl E M H ((R.of S (asB u)).bind f) rel Q) : ∃ b, v = .bl b ∧ Out K T cl E M H (f b S) rel Q := by
  obtain ⟨b, e, h1⟩ := of_bind h
  have e' := asB_some e
  subst e'
  cases (show Rp K M H v (.bool b) from r)
  exact ⟨b, rfl, h1⟩
theorem px_and {a b : Expr} {rest : List Expr} {pos : Pos} {x y : Ev.X} (ha : PE X a (tX X.K T cl E c x)) (hb : PE X (.BoolOp .And (b :: rest) pos) (tX X.K T cl E c y)) : PE X (.BoolOp .And (a :: b :: rest) pos) (tX X.K T cl E c (.and x y)) :=
  pe_imp (pe_and ha hb) fun σ H Q ⟨ρ, M, S, en, st, h⟩ => by
    unfold evX boolR at h
    rw [bind_assoc] at h
    refine tX_b en st h fun v M1 H1 S1 u g1 en1 st1 r1 h1 => ?_
    obtain ⟨k, e, h2⟩ := out_asB r1 h1
    refine ⟨k, e, ?_⟩
    cases k with
    | false => exact out_here st1 h2 (Rp.bl _)
    | true => exact ⟨ρ, M1, S1, en1, st1, h2⟩
theorem px_or {a b : Expr} {rest : List Expr} {pos : Pos} {x y : Ev.X} (ha : PE X a (tX X.K T cl E c x)) (hb : PE X (.BoolOp .Or (b :: rest) pos) (tX X.K T cl E c y)) : PE X (.BoolOp .Or (a :: b :: rest) pos) (tX X.K T cl E c (.or x y)) :=
  pe_imp (pe_or ha hb) fun σ H Q ⟨ρ, M, S, en, st, h⟩ => by
    unfold evX boolR at h
    rw [bind_assoc] at h
    refine tX_b en st h fun v M1 H1 S1 u g1 en1 st1 r1 h1 => ?_
    obtain ⟨k, e, h2⟩ := out_asB r1 h1
    refine ⟨k, e, ?_⟩
    cases k with
    | true => exact out_here st1 h2 (Rp.bl _)
    | false => exact ⟨ρ, M1, S1, en1, st1, h2⟩
/-- a truth value that is asked for its truth -/
theorem bool_tru {x : Ev.X} {α β : Type} {f : Bool → Store → R α} {rel : Ms → Hp → β → α → Prop} {Q : β → Hp → Prop} (h : Out K T cl E M H ((boolR (evX c x ρ S)).bind f) rel Q) : Out K T cl E M H ((truR (evX c x ρ S)).bind f) rel Q := by
  cases e : evX c x ρ S with
  | ok u S1 =>
    rw [e] at h
    have h : Out K T cl E M H ((R.of S1 (asB u)).bind f) rel Q := h
    obtain ⟨b, e1, h1⟩ := of_bind h
    have e' := asB_some e1
    subst e'
    exact h1
  | exc k S1 => rw [e] at h; exact h
  | bad => rw [e] at h; exact h
theorem pw_and' {a b : Expr} {rest : List Expr} {pos : Pos} {x y : Ev.X} (ha : PT X a (tTr X.K T cl E c x)) (hb : PW X (.BoolOp .And (b :: rest) pos) (tTr X.K T cl E c y)) : PW X (.BoolOp .And (a :: b :: rest) pos) (tTr X.K T cl E c (.and x y)) :=
  pw_imp (pw_and ha hb) fun σ H Q ⟨ρ, M, S, en, st, h⟩ => by
    unfold truR evX at h
    rw [bind_assoc] at h
    refine tTr_b en st (bool_tru h) fun k M1 H1 S1 g1 en1 st1 h1 => ?_
    cases k with
    | false => exact out_here (a := false) st1 h1 rfl
    | true => exact ⟨ρ, M1, S1, en1, st1, h1⟩
theorem pw_or' {a b : Expr} {rest : List Expr} {pos : Pos} {x y : Ev.X} (ha : PT X a (tTr X.K T cl E c x)) (hb : PW X (.BoolOp .Or (b :: rest) pos) (tTr X.K T cl E c y)) : PW X (.BoolOp .Or (a :: b :: rest) pos) (tTr X.K T cl E c (.or x y)) :=
  pw_imp (pw_or ha hb) fun σ H Q ⟨ρ, M, S, en, st, h⟩ => by
    unfold truR evX at h
    rw [bind_assoc] at h
    refine tTr_b en st (bool_tru h) fun k M1 H1 S1 g1 en1 st1 h1 => ?_
    cases k with
    | true => exact out_here (a := true) st1 h1 rfl
    | false => exact ⟨ρ, M1, S1, en1, st1, h1⟩
theorem px_ife {d a b : Expr} {pos : Pos} {z x y : Ev.X} (hc : PT X d (tTr X.K T cl E c z)) (ha : PE X a (tX X.K T cl E c x)) (hb : PE X b (tX X.K T cl E c y)) : PE X (.IfExp d a b pos) (tX X.K T cl E c (.ife z x y)) :=
  pe_imp (pe_ifExp hc ha hb) fun σ H Q ⟨ρ, M, S, en, st, h⟩ => by
    unfold evX at h
    refine tTr_b en st h fun k M1 H1 S1 g1 en1 st1 h1 => ?_
    cases k with
    | true => exact ⟨ρ, M1, S1, en1, st1, h1⟩
    | false => exact ⟨ρ, M1, S1, en1, st1, h1⟩
/-- a if t else b as a test -/
theorem pt_ife' {d a b : Expr} {pos : Pos} {z x y : Ev.X} (hc : PT X d (tTr X.K T cl E c z)) (ha : PT X a (tTr X.K T cl E c x)) (hb : PT X b (tTr X.K T cl E c y)) : PT X (.IfExp d a b pos) (tTr X.K T cl E c (.ife z x y)) := by
  refine ⟨fun pins s σ H Q I ⟨ρ, M, S, en, st, h⟩ => ?_⟩
  unfold truR evX at h
  rw [bind_assoc] at h
  rw [PySem.isTrue]
  refine wpAny_bind (thn (hc.run pins s σ H (fun k H1 => if k = true then tTr X.K T cl E c x σ H1 Q else tTr X.K T cl E c y σ H1 Q) I (tTr_b en st h fun k M1 H1 S1 g1 en1 st1 h1 => ?_)) fun k s1 ⟨H1, I1, q1⟩ => ?_)
  · cases k with
    | true => exact ⟨ρ, M1, S1, en1, st1, h1⟩
    | false => exact ⟨ρ, M1, S1, en1, st1, h1⟩
  · cases k with
    | true => exact ha.run pins s1 σ H1 Q I1 q1
    | false => exact hb.run pins s1 σ H1 Q I1 q1
/-! ### arguments, displays, calls -/
theorem star_of {e : Expr} {es : List Expr} {env : Env} (h : starred e = false) : starEach (e :: es) env = (false, eval e env) :: starEach es env := by
  cases e <;> first | rfl | cases h
theorem pax_nil : PA X [] (tXs X.K T cl E c .nil) := pa_imp pa_nil fun σ H Q ⟨ρ, M, S, en, st, h⟩ => by
  unfold evXs at h
  exact out_here st h .nil
theorem pax_cons {e : Expr} {es : List Expr} {x : Ev.X} {xs : Xs} (hs : starred e = false) (ha : PE X e (tX X.K T cl E c x)) (hr : PA X es (tXs X.K T cl E c xs)) : PA X (e :: es) (tXs X.K T cl E c (.cons x xs)) :=
  pa_imp (pa_cons ha hr (star_of hs)) fun σ H Q ⟨ρ, M, S, en, st, h⟩ => by
    unfold evXs at h
    exact tX_b en st h fun v M1 H1 S1 u g1 en1 st1 r1 h1 => tXs_b en1 st1 h1 fun w M2 H2 S2 us g2 _ st2 r2 h2 => out_here st2 h2 (.cons (r1.mono g2) r2)
/-- no star among the arguments -/
def plain (es : List Expr) : Bool := es.all fun e => !starred e
theorem back_plain {es : List Expr} {pos : Pos} {env : Env} (h : plain es = true) : (backTo pos (starEach es env)).any (·.1) = false := by
  induction es with
  | nil => rfl
  | cons e r ih =>
    unfold plain at h
    rw [List.all_cons, Bool.and_eq_true] at h
    rw [star_of (by simpa using h.1)]
    show (false || (backTo pos (starEach r env)).any (·.1)) = false
    rw [ih h.2]
    rfl
theorem cL_plain {f : Expr → Option Ev.X} : ∀ {es : List Expr} {xs : Xs}, cL f es = some xs → plain es = true
  | [], _, _ => rfl
  | e :: r, xs, h => by
    unfold cL at h
    split at h
    · cases h
    · rename_i hs
      obtain ⟨x, _, h⟩ := bindO h
      obtain ⟨ys, h2, _⟩ := map_some h
      show (!starred e && plain r) = true
      rw [cL_plain h2]
      simp [hs]
theorem datas_of {us : List U} {vs : List V} {ps : List PyData} (h : RUs K M H vs us) (e : datas S us = some ps) : RpA K M H vs ps := by
  induction h generalizing ps with
  | nil => cases e; exact .nil
  | cons hu hr ih =>
    rename_i v vs u us
    cases u with
    | d p =>
      unfold datas at e
      obtain ⟨qs, e1, rfl⟩ := map_some e
      exact .cons hu (ih e1)
    | ref i => cases e
    | scr ns => cases e
    | obj a => cases e
    | it ds => cases e
theorem px_lst {es : List Expr} {pos : Pos} {xs : Xs} (ha : PA X es (tXs X.K T cl E c xs)) : PE X (.List es pos) (tX X.K T cl E c (.lst xs)) :=
  pe_imp (pe_lst ha) fun σ H Q ⟨ρ, M, S, en, st, h⟩ => by
    unfold evX at h
    refine tXs_b en st h fun v M1 H1 S1 us g1 en1 st1 r1 h1 => ?_
    cases e : datas S1 us with
    | none => rw [e] at h1; exact h1.elim
    | some ps =>
      rw [e] at h1
      have h1 : Out X.K T cl E M1 H1 (R.of S1 (if ps.length ≤ line then some (U.d (.list ps)) else none)) (RU X.K) Q := h1
      have rp := datas_of r1 e
      split at h1
      · rename_i hl
        exact ⟨by rw [rp.length, ← line_eq]; exact hl, fun p hp => Wish.list (ds := ps) h1 st1 hp rp⟩
      · exact h1.elim
theorem pe_tupF {es : List Expr} {k : Nat} {pos : Pos} {t : TA} (h : PA X es t) : PE X (.Tuple es k pos) (fun σ H Q => t σ H fun xs H1 => xs.length ≤ sizeLine ∧ NewT xs H1 Q) := by
  refine ⟨fun pins s σ H Q I hq => ?_⟩
  exact wpAny_Tuple_spliced (thn (h.run pos pins s σ H _ I hq) fun us s1 ⟨xs, H1, I1, r, z, q⟩ => ⟨by rw [← r.length]; exact z, new_tup I1 r z q⟩)
theorem px_tup {es : List Expr} {k : Nat} {pos : Pos} {xs : Xs} (ha : PA X es (tXs X.K T cl E c xs)) : PE X (.Tuple es k pos) (tX X.K T cl E c (.tup xs)) :=
  pe_imp (pe_tupF ha) fun σ H Q ⟨ρ, M, S, en, st, h⟩ => by
    unfold evX at h
    refine tXs_b en st h fun v M1 H1 S1 us g1 en1 st1 r1 h1 => ?_
    cases e : datas S1 us with
    | none => rw [e] at h1; exact h1.elim
    | some ps =>
      rw [e] at h1
      have h1 : Out X.K T cl E M1 H1 (R.of S1 (if ps.length ≤ line then some (U.d (.tuple ps)) else none)) (RU X.K) Q := h1
      have rp := datas_of r1 e
      split at h1
      · rename_i hl
        exact ⟨by rw [rp.length, ← line_eq]; exact hl, Wish.tuple (ds := ps) h1 st1 rp⟩
      · exact h1.elim
theorem px_box {es : List Expr} {pos : Pos} {xs : Xs} (ha : PA X es (tXs X.K T cl E c xs)) : PE X (.List es pos) (tX X.K T cl E c (.box xs)) :=
  pe_imp (pe_lst ha) fun σ H Q ⟨ρ, M, S, en, st, h⟩ => by
    unfold evX at h
    refine tXs_b en st h fun v M1 H1 S1 us g1 en1 st1 r1 h1 => ?_
    split at h1
    · rename_i ps e
      have rp := datas_of r1 e
      split at h1
      · rename_i hl
        refine ⟨by rw [rp.length, ← line_eq]; exact hl, fun p hp => ?_⟩
        exact h1 (.ref p) (M1.add p) _ (gr_box st1 hp) (st_box st1 hp rp) ⟨p, by show (M1.b ++ [p])[S1.length]? = _; rw [← st1.len, List.getElem?_append_right (Nat.le_refl _)]; simp, rfl⟩
      · exact h1.elim
    · exact h1.elim
theorem px_idx {a b : Expr} {pos : Pos} {x y : Ev.X} (hs : isSlice b = false) (ha : PE X a (tX X.K T cl E c x)) (hb : PE X b (tX X.K T cl E c y)) : PE X (.Subscript a b pos) (tX X.K T cl E c (.idx x y)) :=
  pe_imp (pe_ix (idx_ok (T := T) (cl := cl) (E := E)) ha hb (fun _ _ => by cases b <;> first | rfl | cases hs)) fun σ H Q ⟨ρ, M, S, en, st, h⟩ => by
    unfold evX at h
    exact tX_b en st h fun v M1 H1 S1 u g1 en1 st1 r1 h1 => tX_b en1 st1 h1 fun w M2 H2 S2 u2 g2 _ st2 r2 h2 => ⟨M2, S2, u, u2, r1.mono g2, r2, st2, h2⟩
/-- a slice's part -/
def tPt (K : W.Frag) (T : List (Addr × Str)) (cl : Nat → Option Addr) (E : XK) (c : Cn) (ir : Xs) : TO := fun σ H Q => ∃ ρ M S, EnvOk K ρ σ M H ∧ StOk K T M S H ∧ Out K T cl E M H ((evXs c ir ρ S).bind fun us S1 => R.of S1 (optI us)) (fun _ _ (o o' : Option Int) => o = o') Q
theorem po_imp {e : Option Expr} {t t' : TO} (h : PO X e t) (i : ∀ σ H Q, t' σ H Q → t σ H Q) : PO X e t' := ⟨fun pins s σ H Q I q => h.run pins s σ H Q I (i σ H Q q)⟩
theorem pox_none : PO X none (tPt X.K T cl E c .nil) := po_imp po_none fun σ H Q ⟨ρ, M, S, en, st, h⟩ => by
  unfold evXs at h
  exact out_here (a := (none : Option Int)) st h rfl
theorem pox_some {e : Expr} {x : Ev.X} (ha : PE X e (tX X.K T cl E c x)) : PO X (some e) (tPt X.K T cl E c (.cons x .nil)) := po_imp (po_some ha) fun σ H Q ⟨ρ, M, S, en, st, h⟩ => by
  unfold evXs evXs at h
  rw [bind_assoc] at h
  refine tX_b en st h fun v M1 H1 S1 u g1 en1 st1 r1 h1 => ?_
  have h1 : Out X.K T cl E M1 H1 (R.of S1 (optI [u])) (fun _ _ (o o' : Option Int) => o = o') Q := h1
  unfold optI at h1
  split at h1
  · rename_i e; cases e
  · rename_i i e
    cases e
    cases (show Rp X.K M1 H1 v (.int i) from r1)
    exact ⟨i, rfl, out_here (a := some i) st1 h1 rfl⟩
  · exact h1.elim
theorem px_slc {a : Expr} {lo hi : Option Expr} {pos p2 : Pos} {x : Ev.X} {l h : Xs} (ha : PE X a (tX X.K T cl E c x)) (hl : PO X lo (tPt X.K T cl E c l)) (hh : PO X hi (tPt X.K T cl E c h)) : PE X (.Subscript a (.Slice lo hi none p2) pos) (tX X.K T cl E c (.slc x l h)) :=
  pe_imp (pe_slice (slc_ok (T := T)) ha hl hh) fun σ H Q ⟨ρ, M, S, en, st, q⟩ => by
    unfold evX at q
    refine tX_b en st q fun v M1 H1 S1 u g1 en1 st1 r1 q1 => ?_
    refine ⟨ρ, M1, S1, en1, st1, Out.mono (Out.bind (rel := fun _ _ (o o' : Option Int) => o = o') q1) fun o H2 ⟨M2, S2, o', g2, st2, e2, q2⟩ => ?_⟩
    cases (show o = o' from e2)
    refine ⟨ρ, M2, S2, en1.mono g2, st2, Out.mono (Out.bind (rel := fun _ _ (o o' : Option Int) => o = o') q2) fun o3 H3 ⟨M3, S3, o4, g3, st3, e3, q3⟩ => ?_⟩
    cases (show o3 = o4 from e3)
    obtain ⟨r, e4, w⟩ := out_data q3
    obtain ⟨p, e5, e6⟩ := bindO e4
    exact ⟨M3, S3, u, p, r, (r1.mono g2).mono g3, st3, e5, e6, w⟩
/-- x[::-1] -/
theorem px_rev {e : Expr} {k : Nat} {p1 p2 p3 pos : Pos} {x : Ev.X} (he : PE X e (tX X.K T cl E c x)) : PE X (.Subscript e (.Slice none none (some (.UnaryOp .USub (.Constant (.int 1) k p1) p2)) p3) pos) (tX X.K T cl E c (.rev x)) :=
  pe_imp (pe_revA (T := T) he) fun σ H Q ⟨ρ, M, S, en, st, h⟩ => by
    unfold evX at h
    refine tX_b en st h fun v M1 H1 S1 u g1 en1 st1 r1 h1 => ?_
    obtain ⟨r, e4, w⟩ := out_data h1
    obtain ⟨p, e5, e6⟩ := bindO e4
    exact ⟨M1, S1, p, r, rs_of r1 st1 e5, st1, e6, w⟩
/-! ### calls -/
theorem px_call {g : Cfg} {k l : Nat} {N : List Str} {sc : Scope} {fb : Fb} (G : Good g T cl c k l X N sc fb) (tk : L2N.Takes X fun d a _ H => E d a H) {f : Str} {i : Nat} {es : List Expr} {xs : Xs} {p pos : Pos} (ho : odd f = false) (hg : glB sc f = true) (hi : g.fnIx f = some i)
    (hp : plain es = true) (hn : es = [] → xs = .nil) (ha : PA X es (tXs X.K T cl E c xs)) : PE X (.Call (.Name f p) es [] pos) (tX X.K T cl E c (.call i xs)) := by
  obtain ⟨a, fd, ps, fn, e1, e2, e3, e4, e5, F, _⟩ := G.fns f i hi
  have hx : Passes (L2N.CX X.prog X.w) X E := L2N.passes_call tk fun _ _ _ _ z => z
  have fin : ∀ {M1 : Ms} {S1 : Store} {H1 : Hp} {v : List V} {us : List U} {Q : VK}, StOk X.K T M1 S1 H1 → RUs X.K M1 H1 v us → Out X.K T cl E M1 H1 (c.call i us S1) (RU X.K) Q → spC X.K T cl c.call i fn (v ++ []) H1 Q E := fun {M1 S1 H1 v us Q} st1 r1 h1 => by
    rw [List.append_nil]
    refine ⟨M1, S1, us, r1, st1, ?_, h1⟩
    by_cases hl : us.length = fn
    · exact hl
    · rw [G.ar i fn us S1 e1 hl] at h1
      exact h1.elim
  cases es with
  | nil =>
    have e := hn rfl
    subst e
    exact pe_imp (pe_call0 F G.room (gl_of G.scope hg) e3 e4 e5 .nil hx (odd_of ho).1) fun σ H Q ⟨ρ, M, S, en, st, h⟩ => fin (v := []) st .nil h
  | cons e r =>
    have hp' : starred e = false ∧ plain r = true := by
      unfold plain at hp
      rw [List.all_cons, Bool.and_eq_true] at hp
      exact ⟨by simpa using hp.1, hp.2⟩
    refine pe_imp (pe_call F G.room (gl_of G.scope hg) e3 e4 e5 .nil hx ha (odd_of ho).1 (star_of hp'.1) (back_plain hp'.2)) fun σ H Q ⟨ρ, M, S, en, st, h⟩ => ?_
    unfold evX at h
    exact tXs_b en st h fun v M1 H1 S1 us g1 en1 st1 r1 h1 => fin st1 r1 h1
/-- a built-in of one argument -/
theorem fin_blt {b : Blt} {x : Ev.X} {σ : L2.St} {H : Hp} {Q : VK} (h : tX K T cl E c (.blt b x) σ H Q) : tCons (tX K T cl E c x) tNil σ H fun vs H1 => rB K T b vs H1 Q := by
  obtain ⟨ρ, M, S, en, st, h⟩ := h
  unfold evX at h
  refine tX_b en st h fun v M1 H1 S1 u g1 en1 st1 r1 h1 => ?_
  obtain ⟨r, e, w⟩ := out_data h1
  obtain ⟨p, e1, e2⟩ := bindO e
  exact ⟨M1, S1, v, u, p, r, rfl, r1, st1, e1, e2, w⟩
theorem px_bltB {b : Blt} {f : Str} {id : String} {a : Expr} {x : Ev.X} {p pos : Pos} {sc : Scope} (hsc : X.env.scope = sc) (hc : CallR X (.builtin id) (rB X.K T b)) (ho : odd f = false) (hg : glB sc f = true) (hm : X.mg f = none) (hv : bootBuiltins f = some (.builtin id)) (hs : starred a = false) (ha : PE X a (tX X.K T cl E c x)) :
    PE X (.Call (.Name f p) [a] [] pos) (tX X.K T cl E c (.blt b x)) :=
  pe_imp (pe_callB hc (gl_of hsc hg) hm hv (pa_cons ha pa_nil (star_of hs)) (odd_of ho).2.2 (odd_of ho).1 (star_of hs) rfl) fun σ H Q h => fin_blt h
theorem px_bltT {b : Blt} {f : Str} {id : String} {a : Expr} {x : Ev.X} {p pos : Pos} {sc : Scope} (hsc : X.env.scope = sc) (hc : CallR X (.type id) (rB X.K T b)) (ho : odd f = false) (hg : glB sc f = true) (hm : X.mg f = none) (hv : bootBuiltins f = some (.type id)) (hs : starred a = false) (ha : PE X a (tX X.K T cl E c x)) :
    PE X (.Call (.Name f p) [a] [] pos) (tX X.K T cl E c (.blt b x)) :=
  pe_imp (pe_callTy hc (gl_of hsc hg) hm hv (pa_cons ha pa_nil (star_of hs)) (odd_of ho).2.2 (odd_of ho).1 (star_of hs) rfl) fun σ H Q h => fin_blt h
theorem blt_names : ∀ {f : Str} {b : Blt}, bltOf f = some b → f ∈ bltNames := fun {f b} h => by
  unfold bltOf at h
  repeat (split at h; (rename_i e; subst e; simp))
  cases h
theorem px_blt {g : Cfg} {k l : Nat} {N : List Str} {sc : Scope} {fb : Fb} (G : Good g T cl c k l X N sc fb) {b : Blt} {f : Str} {a : Expr} {x : Ev.X} {p pos : Pos} (ho : odd f = false) (hg : glB sc f = true) (hb : bltOf f = some b) (hs : starred a = false) (ha : PE X a (tX X.K T cl E c x)) :
    PE X (.Call (.Name f p) [a] [] pos) (tX X.K T cl E c (.blt b x)) := by
  have hm := G.blts f (blt_names hb)
  unfold bltOf at hb
  split at hb
  · rename_i e; subst e; cases hb; exact px_bltB G.scope blt_len ho hg hm (by decide +kernel) hs ha
  split at hb
  · rename_i e; subst e; cases hb; exact px_bltB G.scope (blt_all G.calm) ho hg hm (by decide +kernel) hs ha
  split at hb
  · rename_i e; subst e; cases hb; exact px_bltB G.scope (blt_sum G.calm) ho hg hm (by decide +kernel) hs ha
  split at hb
  · rename_i e; subst e; cases hb; exact px_bltT G.scope blt_int ho hg hm (by decide +kernel) hs ha
  split at hb
  · rename_i e; subst e; cases hb; exact px_bltT G.scope blt_bool ho hg hm (by decide +kernel) hs ha
  split at hb
  · rename_i e; subst e; cases hb; exact px_bltB G.scope blt_abs ho hg hm (by decide +kernel) hs ha
  split at hb
  · rename_i e; subst e; cases hb; exact px_bltT G.scope blt_tuple ho hg hm (by decide +kernel) hs ha
  split at hb
  · rename_i e; subst e; cases hb; exact px_bltT G.scope blt_list ho hg hm (by decide +kernel) hs ha
  split at hb
  · rename_i e; subst e; cases hb; exact px_bltB G.scope (blt_sorted (by have := G.room.un; omega)) ho hg hm (by decide +kernel) hs ha
  split at hb
  · rename_i e; subst e; cases hb; exact px_bltT G.scope blt_str ho hg hm (by decide +kernel) hs ha
  cases hb
/-- len(set(a)) -/
theorem px_lenset {g : Cfg} {k l : Nat} {N : List Str} {sc : Scope} {fb : Fb} (G : Good g T cl c k l X N sc fb) {f : Str} {a b : Expr} {x : Ev.X} {p pos : Pos} (hg : glB sc f = true) (h : setArg sc f a = some b) (hb : PE X b (tX X.K T cl E c x)) :
    PE X (.Call (.Name f p) [a] [] pos) (tX X.K T cl E c (.blt .lenset x)) := by
  unfold setArg at h
  split at h
  · split at h
    · rename_i hc
      simp only [Bool.and_eq_true, Bool.not_eq_true', decide_eq_true_eq] at hc
      obtain ⟨⟨⟨rfl, rfl⟩, h3⟩, h4⟩ := hc
      cases h
      refine pe_imp (pe_lenset (T := T) G.calm (by have := G.room.un; omega) (gl_of G.scope hg) (G.blts _ (by simp)) (gl_of G.scope h3) (G.blts _ (by simp)) hb (star_of h4)) fun σ H Q ⟨ρ, M, S, en, st, q⟩ => ?_
      unfold evX at q
      refine tX_b en st q fun v M1 H1 S1 u g1 en1 st1 r1 h1 => ?_
      obtain ⟨r, e, w⟩ := out_data h1
      obtain ⟨d, e1, e2⟩ := bindO e
      exact ⟨M1, S1, d, r, rs_of r1 st1 e1, st1, e2, w⟩
    · cases h
  · cases h
theorem px_isi {g : Cfg} {k l : Nat} {N : List Str} {sc : Scope} {fb : Fb} (G : Good g T cl c k l X N sc fb) {t : Str} {D : String} {a : Expr} {x : Ev.X} {p q pos : Pos} (hg : glB sc "isinstance" = true) (hgt : glB sc t = true) (ht : tyOf t = some D) (hs : starred a = false) (ha : PE X a (tX X.K T cl E c x)) :
    PE X (.Call (.Name "isinstance" p) [a, .Name t q] [] pos) (tX X.K T cl E c (.blt (.isi D) x)) := by
  have hD : D ∈ askT ∧ bootBuiltins t = some (.type D) ∧ t ∈ bltNames ∧ t ≠ "__name__" ∧ (t == ("__debug__" : Str)) = false := by
    unfold tyOf at ht
    split at ht
    · rename_i e; subst e; cases ht; exact ⟨by decide, by decide +kernel, by simp, by decide +kernel, by decide +kernel⟩
    split at ht
    · rename_i e; subst e; cases ht; exact ⟨by decide, by decide +kernel, by simp, by decide +kernel, by decide +kernel⟩
    split at ht
    · rename_i e; subst e; cases ht; exact ⟨by decide, by decide +kernel, by simp, by decide +kernel, by decide +kernel⟩
    split at ht
    · rename_i e; subst e; cases ht; exact ⟨by decide, by decide +kernel, by simp, by decide +kernel, by decide +kernel⟩
    split at ht
    · rename_i e; subst e; cases ht; exact ⟨by decide, by decide +kernel, by simp, by decide +kernel, by decide +kernel⟩
    cases ht
  refine pe_imp (pe_callB (blt_isi (T := T) hD.1) (gl_of G.scope hg) (G.blts _ (by simp)) (by decide +kernel) (pa_cons ha (pa_cons (pe_bltn (v := .ty D) (gl_of G.scope hgt) (G.blts t hD.2.2.1) hD.2.1 rfl hD.2.2.2.1 hD.2.2.2.2) pa_nil) (star_of hs)) (by decide +kernel) (by decide +kernel) (star_of hs) rfl) fun σ H Q ⟨ρ, M, S, en, st, h⟩ => ?_
  unfold evX at h
  refine tX_b en st h fun v M1 H1 S1 u g1 en1 st1 r1 h1 => ?_
  obtain ⟨r, e, w⟩ := out_data h1
  obtain ⟨p, e1, e2⟩ := bindO e
  exact ⟨M1, S1, v, u, p, r, rfl, r1, st1, e1, e2, w⟩
end
end Ev
end

section
set_option Elab.async false
set_option linter.all false
set_option autoImplicit false
set_option maxRecDepth 100000
set_option maxHeartbeats 4000000
/-! # Methods of texts, what is walked, targets, comprehensions -/
namespace Ev
open PySem PySem.Spec PyProof.Rows L2
section
variable {K : W.Frag} {T : List (Addr × Str)} {cl : Nat → Option Addr} {E : XK} {c : Cn} {X : Cx} {M : Ms} {H : Hp} {S : Store} {ρ : Rho} {σ : L2.St}
theorem fin_mth {m : Mth} (hm : ∀ p, seqM m p = false) {x y : Ev.X} {σ : L2.St} {H : Hp} {Q : VK} (h : tX K T cl E c (.mth m x (.cons y .nil)) σ H Q) : tM1 (rM K T m) (tX K T cl E c x) (tX K T cl E c y) σ H Q := by
  obtain ⟨ρ, M, S, en, st, h⟩ := h
  unfold evX at h
  refine tX_b en st h fun v M1 H1 S1 u g1 en1 st1 r1 h1 => ?_
  split at h1
  · rename_i z
    refine ⟨⟨z, (show Rp K M1 H1 v (.str z) from r1).rs.str⟩, ?_⟩
    unfold evXs at h1
    rw [bind_assoc] at h1
    refine tX_b en1 st1 h1 fun w M2 H2 S2 u2 g2 _ st2 r2 h2 => ?_
    rw [bind_assoc] at h2
    unfold evXs at h2
    have h2 : Out K T cl E M2 H2 (R.of S2 (((derefs S2 [u2]).bind fun ps => mthD m (.str z) ps).map U.d)) (RU K) Q := h2
    obtain ⟨r, e, w2⟩ := out_data h2
    obtain ⟨ps, e1, e2⟩ := bindO e
    exact ⟨M2, S2, .d (.str z), [u2], .str z, ps, r, r1.mono g2, .cons r2 .nil, st2, rfl, e1, e2, w2⟩
  · rw [if_neg] at h1
    · exact h1.elim
    · intro z
      obtain ⟨p, _, e⟩ := map_some z
      rw [hm p] at e
      cases e
/-- the receiver has come to u: what is asked of a rule for it -/
theorem mth_at {m : Mth} {x y : Ev.X} {u : U} {S1 : Store} {Q : VK} {kd : PyData → Bool} {Rq : V → Hp → Prop} (en : EnvOk K ρ σ M H) (st : StOk K T M S H) (e : evX c x ρ S = .ok u S1)
    (hR : ∀ {v M' H'}, StOk K T M' S1 H' → RU K M' H' v u → Rq v H') (hk : ∀ {S2 p q r}, deref S2 u = some p → mthD m p [q] = some r → kd p = true)
    (h : Out K T cl E M H ((evXs c (.cons y .nil) ρ S1).bind fun us S2 => R.of S2 (((deref S2 u).bind fun p => (derefs S2 us).bind fun ps => mthD m p ps).map U.d)) (RU K) Q) :
    tX K T cl E c x σ H fun v H1 => Rq v H1 ∧ tX K T cl E c y σ H1 fun w H2 => rMK K T m kd v [w] H2 Q := by
  refine ⟨ρ, M, S, en, st, ?_⟩
  rw [e]
  intro v M1 H1 g1 st1 r1
  refine ⟨hR st1 r1, ?_⟩
  have h1 := Out.later h g1
  unfold evXs at h1
  rw [bind_assoc] at h1
  refine tX_b (en.mono g1) st1 h1 fun w M2 H2 S2 u2 g2 _ st2 r2 h2 => ?_
  rw [bind_assoc] at h2
  unfold evXs at h2
  have h2 : Out K T cl E M2 H2 (R.of S2 (((deref S2 u).bind fun p => (derefs S2 [u2]).bind fun ps => mthD m p ps).map U.d)) (RU K) Q := h2
  obtain ⟨r, e1, w2⟩ := out_data h2
  obtain ⟨p, e2, e3⟩ := bindO e1
  obtain ⟨ps, e4, e5⟩ := bindO e3
  unfold derefs at e4
  obtain ⟨q, e6, e7⟩ := bindO e4
  cases e7
  exact ⟨M2, S2, w, p, q, r, rfl, rs_of (r1.mono g2) st2 e2, rs_of r2 st2 e6, st2, hk e2 e5, e5, w2⟩
theorem pe_or {e : Expr} {t t' : TE} (h : PE X e t) (h' : PE X e t') : PE X e (fun σ H Q => t σ H Q ∨ t' σ H Q) := ⟨fun pins s σ H Q I q => q.elim (h.run pins s σ H Q I) (h'.run pins s σ H Q I)⟩
theorem tyv_list {v : V} {u : U} {S1 : Store} {ds : List PyData} (st : StOk K T M S1 H) (r : RU K M H v u) (e : deref S1 u = some (.list ds)) : tyV K "list" v H := by
  obtain ⟨a, xs, rfl, h2, h3⟩ := (rs_of r st e)
  exact .inl ⟨rfl, xs, SqL.of h2⟩
theorem tup_is {pins : List (Addr × Obj)} {s : Shared} {a : Addr} {xs : List V} (I : Inv X pins σ H s) (h : TupAt X.K M H a xs) : s.TypeIs (.ref a) "tuple" ∧ ∀ b, Value.ref a = .ref b → ∃ ob, s.heap.get? b = some ob ∧ ob.dict = none := by
  rcases h with ⟨_, o, hd, h⟩ | ⟨o, its, n, h1, h2, h3, _⟩
  · obtain ⟨e, _, its, _, o2, e2, hc, _⟩ := I.hok a _ h
    rw [e] at e2
    cases e2
    exact ⟨⟨o, e, hc⟩, fun b z => by cases z; exact ⟨o, e, hd⟩⟩
  · have e := I.kIn a o h1
    exact ⟨⟨o, e, h2⟩, fun b z => by cases z; exact ⟨o, e, h3⟩⟩
/-- a method of a tuple -/
theorem pe_bmT {o e : Expr} {es : List Expr} {to : TE} {t : TA} {name : Str} {apos cpos : Pos} {id : String} {r : V → List V → Hp → VK → Prop} (slot : Slot "tuple" name id) (hty : typeOf (.builtin id) = pure (.type "method_descriptor")) (hm : MtR X id r) (ho : PE X o to) (ha : PA X (e :: es) t)
    (hbase : attributeBase o name X.env (eval o X.env) = eval o X.env)
    (hfew : ((backTo cpos (starEach (e :: es) X.env)).all (fun x => !x.1) && (backToKw cpos (keywordEach [] X.env)).all (fun x => x.1.isSome)
      && decide ((e :: es).length + ([] : List Keyword).length + (if ([] : List Keyword).isEmpty then 0 else 1) < 30)) = true)
    (hline : (apos.endLine == cpos.line) = true) (hs : starEach (e :: es) X.env = (false, eval e X.env) :: starEach es X.env) (hplain : (backTo cpos (starEach es X.env)).any (·.1) = false) :
    PE X (.Call (.Attribute o name apos) (e :: es) [] cpos) (fun σ H Q => to σ H fun x H1 => (∃ M a xs, x = .ref a ∧ TupAt X.K M H1 a xs) ∧ t σ H1 fun xs H2 => r x xs H2 Q) := by
  refine ⟨fun pins s σ H Q I h => ?_⟩
  refine wpAny_Call_method_late hbase hfew hline rfl (thn (ho.run pins s σ H _ I h) fun v s1 ⟨x, H1, I1, r1, ⟨M, a, xs, ex, ty⟩, q1⟩ => ?_)
  subst ex
  cases r1
  obtain ⟨h1, h2⟩ := tup_is I1 ty
  refine ⟨"tuple", id, F.plainAttrs_tuple, slot, hty, h1, h2, ?_⟩
  have hA := ha.run cpos pins s1 σ H1 _ I1 q1
  rw [hs] at hA ⊢
  refine Calls.callWith_builtin (by show (false || (backTo cpos (starEach es X.env)).any (·.1)) = false; rw [hplain] <;> rfl) (Calls.evalArgs_plain ?_)
  exact thn hA fun us s2 ⟨vs, H2, I2, r2, q2⟩ => hm pins s2 σ H2 (.ref a) vs (.ref a) us Q I2 rfl r2 q2
theorem few_one {a : Expr} {pos : Pos} (hs : starred a = false) : ((backTo pos (starEach [a] X.env)).all (fun x => !x.1) && (backToKw pos (keywordEach [] X.env)).all (fun x => x.1.isSome)
      && decide (([a] : List Expr).length + ([] : List Keyword).length + (if ([] : List Keyword).isEmpty then 0 else 1) < 30)) = true := by
  rw [star_of hs]
  rfl
theorem fin_seq {m : Mth} {x y : Ev.X} {Q : VK} {u : U} {S1 : Store} (hu : ∀ z, u ≠ .d (.str z)) (h : Out K T cl E M H (match u with
    | .d (.str z) => (evXs c (.cons y .nil) ρ S1).bind fun us S2 => R.of S2 (((derefs S2 us).bind fun ps => mthD m (.str z) ps).map U.d)
    | w => if ((deref S1 w).map (seqM m)) = some true then (evXs c (.cons y .nil) ρ S1).bind fun us S2 => R.of S2 (((deref S2 w).bind fun p => (derefs S2 us).bind fun ps => mthD m p ps).map U.d) else .bad) (RU K) Q) :
    ∃ p, deref S1 u = some p ∧ seqM m p = true ∧ Out K T cl E M H ((evXs c (.cons y .nil) ρ S1).bind fun us S2 => R.of S2 (((deref S2 u).bind fun p => (derefs S2 us).bind fun ps => mthD m p ps).map U.d)) (RU K) Q := by
  have h' : Out K T cl E M H (if ((deref S1 u).map (seqM m)) = some true then (evXs c (.cons y .nil) ρ S1).bind fun us S2 => R.of S2 (((deref S2 u).bind fun p => (derefs S2 us).bind fun ps => mthD m p ps).map U.d) else .bad) (RU K) Q := by
    split at h
    · exact absurd rfl (hu _)
    · exact h
  split at h'
  · rename_i hc
    obtain ⟨p, e1, e2⟩ := map_some hc
    exact ⟨p, e1, e2, h'⟩
  · exact h'.elim
theorem deref_ref (S : Store) (i : Nat) : deref S (.ref i) = match S[i]? with
    | some (.lst xs) => some (.list xs)
    | some (.dct kvs) => some (.dict kvs)
    | _ => none := rfl
/-- the kinds of a receiver stay while the arguments are told -/
theorem kind_box {S1 S2 : Store} {u : U} {ds : List PyData} {p : PyData} (e : deref S1 u = some (.tuple ds)) (e2 : deref S2 u = some p) : p = .tuple ds := by
  cases u with
  | d q => cases e; cases e2; rfl
  | ref i =>
    rw [deref_ref] at e
    split at e <;> cases e
  | _ => cases e
theorem deref_seq {S1 S2 : Store} {u : U} {ds : List PyData} {p : PyData} (e : deref S1 u = some (.list ds)) (e2 : deref S2 u = some p) : isListD p = true ∨ ∃ kvs, p = .dict kvs := by
  cases u with
  | d q =>
    have e : some q = some (.list ds) := e
    have e2 : some q = some p := e2
    cases e
    cases e2
    exact .inl rfl
  | ref i =>
    rw [deref_ref] at e2
    split at e2
    · cases e2; exact .inl rfl
    · cases e2; exact .inr ⟨_, rfl⟩
    · cases e2
  | _ => cases e
theorem mth_sindex0 : MtR X "str.index" (rMK X.K T .index isStrD) := by
  intro pins s σ H x xs v us Q I rx rxs ⟨M, S, y, p, q, r, ex, rp, rq, st, hk, e, w⟩
  cases p with
  | str a => cases e
  | _ => cases hk
theorem px_count {o a : Expr} {x y : Ev.X} {apos pos : Pos} (hu : X.A.units + 65 < cLine) (hs : starred a = false) (hl : (apos.endLine == pos.line) = true) (hbase : attributeBase o "count" X.env (eval o X.env) = eval o X.env) (ho : PE X o (tX X.K T cl E c x)) (ha : PE X a (tX X.K T cl E c y)) :
    PE X (.Call (.Attribute o "count" apos) [a] [] pos) (tX X.K T cl E c (.mth .count x (.cons y .nil))) := by
  have A := pa_cons ha pa_nil (star_of hs)
  refine pe_imp (pe_or (pe_or (pe_m1 F.slot_str_count F.type_str_count (mth_scount (T := T)) ho ha (star_of hs) hbase hl)
    (pe_bmT F.slot_tuple_count F.type_tuple_count (mth_tcount (T := T) hu) ho A hbase (few_one hs) hl (star_of hs) rfl))
    (pe_bm F.plainAttrs_list F.slot_list_count F.type_list_count (mth_lcount (T := T) hu) ho A hbase (few_one hs) hl (star_of hs) rfl)) fun σ H Q ⟨ρ, M, S, en, st, h⟩ => ?_
  unfold evX at h
  cases e : evX c x ρ S with
  | bad => rw [e] at h; exact h.elim
  | exc k S1 => rw [e] at h; exact .inl (.inl ⟨ρ, M, S, en, st, by rw [e]; exact h⟩)
  | ok u S1 =>
    rw [e] at h
    by_cases hz : ∃ z, u = .d (.str z)
    · obtain ⟨z, rfl⟩ := hz
      refine .inl (.inl ?_)
      have h : Out X.K T cl E M H ((evXs c (.cons y .nil) ρ S1).bind fun us S2 => R.of S2 (((derefs S2 us).bind fun ps => mthD .count (.str z) ps).map U.d)) (RU X.K) Q := h
      exact mth_at (Rq := fun v _ => ∃ a, v = .str a) (kd := isStrD) (u := .d (.str z)) en st e (fun _ r => ⟨z, (show Rp X.K _ _ _ (.str z) from r).rs.str⟩) (fun e1 e2 => by cases e1; rfl) h
    · obtain ⟨p, e1, e2, h2⟩ := fin_seq (x := x) (fun z q => hz ⟨z, q⟩) h
      cases p with
      | tuple ds =>
        refine .inl (.inr ?_)
        exact mth_at (Rq := fun v H1 => ∃ M a xs, v = .ref a ∧ TupAt X.K M H1 a xs) (kd := isTupD) en st e (fun st' r => let ⟨a, xs, q1, q2, _⟩ := (rs_of r st' e1).tup; ⟨_, a, xs, q1, q2⟩) (fun e3 e4 => by rw [kind_box e1 e3]; rfl) h2
      | list ds =>
        refine .inr ?_
        exact mth_at (Rq := fun v H1 => tyV X.K "list" v H1) (kd := isListD) en st e (fun st' r => tyv_list st' r e1) (fun e3 e4 => by
          rcases deref_seq e1 e3 with z | ⟨kvs, rfl⟩
          · exact z
          · cases e4) h2
      | _ => cases e2
theorem px_index {o a : Expr} {x y : Ev.X} {apos pos : Pos} (hu : X.A.units + 65 < cLine) (hs : starred a = false) (hl : (apos.endLine == pos.line) = true) (hbase : attributeBase o "index" X.env (eval o X.env) = eval o X.env) (ho : PE X o (tX X.K T cl E c x)) (ha : PE X a (tX X.K T cl E c y)) :
    PE X (.Call (.Attribute o "index" apos) [a] [] pos) (tX X.K T cl E c (.mth .index x (.cons y .nil))) := by
  have A := pa_cons ha pa_nil (star_of hs)
  refine pe_imp (pe_or (pe_m1 F.slot_str_index F.type_str_index (mth_sindex0 (T := T)) ho ha (star_of hs) hbase hl) (pe_bm F.plainAttrs_list F.slot_list_index F.type_list_index (mth_lindex (T := T) hu) ho A hbase (few_one hs) hl (star_of hs) rfl)) fun σ H Q ⟨ρ, M, S, en, st, h⟩ => ?_
  unfold evX at h
  cases e : evX c x ρ S with
  | bad => rw [e] at h; exact h.elim
  | exc k S1 => rw [e] at h; exact .inl ⟨ρ, M, S, en, st, by rw [e]; exact h⟩
  | ok u S1 =>
    rw [e] at h
    by_cases hz : ∃ z, u = .d (.str z)
    · obtain ⟨z, rfl⟩ := hz
      have h : Out X.K T cl E M H ((evXs c (.cons y .nil) ρ S1).bind fun us S2 => R.of S2 (((derefs S2 us).bind fun ps => mthD .index (.str z) ps).map U.d)) (RU X.K) Q := h
      exact .inl (mth_at (Rq := fun v _ => ∃ a, v = .str a) (kd := isStrD) (u := .d (.str z)) en st e (fun _ r => ⟨z, (show Rp X.K _ _ _ (.str z) from r).rs.str⟩) (fun e1 e2 => by cases e1; rfl) h)
    · obtain ⟨p, e1, e2, h2⟩ := fin_seq (x := x) (fun z q => hz ⟨z, q⟩) h
      cases p with
      | list ds =>
        refine .inr ?_
        exact mth_at (Rq := fun v H1 => tyV X.K "list" v H1) (kd := isListD) en st e (fun st' r => tyv_list st' r e1) (fun e3 e4 => by
          rcases deref_seq e1 e3 with z | ⟨kvs, rfl⟩
          · exact z
          · cases e4) h2
      | _ => cases e2
theorem px_mth {k : Mth} {m : Str} {o a : Expr} {x y : Ev.X} {apos pos : Pos} (hu : X.A.units + 65 < cLine) (hm : mthOf m = some k) (hs : starred a = false) (hb : bareCall o = false) (hl : (apos.endLine == pos.line) = true) (ho : PE X o (tX X.K T cl E c x)) (ha : PE X a (tX X.K T cl E c y)) :
    PE X (.Call (.Attribute o m apos) [a] [] pos) (tX X.K T cl E c (.mth k x (.cons y .nil))) := by
  have hbase : attributeBase o m X.env (eval o X.env) = eval o X.env := by
    unfold attributeBase
    split
    · cases hb
    · rfl
  unfold mthOf at hm
  split at hm
  · rename_i e
    subst e; cases hm
    exact pe_imp (pe_m1 F.slot_str_join F.type_str_join (mth_join (T := T)) ho ha (star_of hs) hbase hl) fun σ H Q h => fin_mth (fun p => rfl) h
  split at hm
  · rename_i e
    subst e; cases hm
    exact pe_imp (pe_m1 F.slot_str_split F.type_str_split (mth_split (T := T)) ho ha (star_of hs) hbase hl) fun σ H Q h => fin_mth (fun p => rfl) h
  split at hm
  · rename_i e
    subst e; cases hm
    exact pe_imp (pe_m1 F.slot_str_strip F.type_str_strip (mth_strip (T := T)) ho ha (star_of hs) hbase hl) fun σ H Q h => fin_mth (fun p => rfl) h
  split at hm
  · rename_i e
    subst e; cases hm
    exact px_count hu hs hl hbase ho ha
  split at hm
  · rename_i e
    subst e; cases hm
    exact px_index hu hs hl hbase ho ha
  cases hm
/-! ### targets -/
/-- a target, by the little language's -/
def tTg (K : W.Frag) (T : List (Addr × Str)) (t : Tg) : TG := fun v σ H Q => ∃ ρ M S u ρ', EnvOk K ρ σ M H ∧ StOk K T M S H ∧ RU K M H v u ∧ bindT t u ρ = some ρ' ∧ ∀ σ', EnvOk K ρ' σ' M H → Q σ' H
/-- the items of a tuple of targets -/
def tTgs (K : W.Frag) (T : List (Addr × Str)) (t : Tg) : TGs := fun vs σ H Q => ∃ ρ M S ds ρ', EnvOk K ρ σ M H ∧ StOk K T M S H ∧ RpA K M H vs ds ∧ bindT t (.d (.tuple ds)) ρ = some ρ' ∧ ∀ σ', EnvOk K ρ' σ' M H → Q σ' H
/-- how many items a tuple of targets takes -/
def Tg.len : Tg → Nat
  | .nm _ => 0
  | .nil => 0
  | .cons _ r => r.len + 1
def Tg.isList : Tg → Bool
  | .nm _ => false
  | .nil => true
  | .cons _ r => r.isList
theorem bindT_len : ∀ {t : Tg} {ds : List PyData} {ρ ρ' : Rho}, t.isList = true → bindT t (.d (.tuple ds)) ρ = some ρ' → ds.length = t.len
  | .nm _, _, _, _, h, _ => by cases h
  | .nil, [], _, _, _, _ => rfl
  | .nil, _ :: _, _, _, _, h => by cases h
  | .cons a r, [], _, _, _, h => by cases h
  | .cons a r, d :: ds, ρ, ρ', h, e => by
    unfold bindT at e
    obtain ⟨ρ1, e1, e2⟩ := bindO e
    show ds.length + 1 = r.len + 1
    rw [bindT_len (t := r) h e2]
theorem bindT_it : ∀ {t : Tg} {ds : List PyData} {ρ : Rho}, t.isList = true → bindT t (.it ds) ρ = bindT t (.d (.tuple ds)) ρ
  | .nm _, _, _, h => by cases h
  | .nil, [], _, _ => rfl
  | .nil, _ :: _, _, _ => rfl
  | .cons a r, [], _, _ => rfl
  | .cons a r, d :: ds, ρ, h => by
    show ((bindT a (.d d) ρ).bind fun ρ' => bindT r (.it ds) ρ') = ((bindT a (.d d) ρ).bind fun ρ' => bindT r (.d (.tuple ds)) ρ')
    congr 1
    funext ρ'
    exact bindT_it (t := r) h
theorem pg_imp {e : Expr} {t t' : TG} (h : PG X e t) (i : ∀ v σ H Q, t' v σ H Q → t v σ H Q) : PG X e t' := ⟨fun pins s σ H v u Q I r q => h.run pins s σ H v u Q I r (i v σ H Q q)⟩
theorem pgs_imp {e : List Expr} {t t' : TGs} (h : PGs X e t) (i : ∀ v σ H Q, t' v σ H Q → t v σ H Q) : PGs X e t' := ⟨fun pins s σ H v u Q I r q => h.run pins s σ H v u Q I r (i v σ H Q q)⟩
theorem pgx_name {N : List Str} {sc : Scope} {fb : Fb} {x : Str} {i : Nat} {pos : Pos} (hN : X.N = N) (nd : N.Nodup) (hs : X.env.scope = sc) (hf : ∀ x, fb x = true → X.fn x = true ∨ X.env.scope.names.lookup x = some .local) (hl : locB sc x = true) (hb : fb x = true) (hi : ixOf N x = some i) : PG X (.Name x pos) (tTg X.K T (.nm i)) :=
  pg_imp (pg_name (i := i) (by rw [hN]; exact nd) (by rw [hN]; exact ix_of hi) (by rw [hs]; exact loc_of hl) (hf x hb)) fun v σ H Q ⟨ρ, M, S, u, ρ', en, st, r, e, q⟩ => by
    cases e
    exact q _ (en.set r)
/-- no star among the targets -/
theorem each_of {e : Expr} {es : List Expr} {env : Env} (h : starred e = false) : assignEach (e :: es) env = (false, assign e env) :: assignEach es env := by
  cases e <;> first | rfl | cases h
theorem pgsx_nil : PGs X [] (tTgs X.K T .nil) := pgs_imp pgs_nil fun v σ H Q ⟨ρ, M, S, ds, ρ', en, st, r, e, q⟩ => by
  cases ds with
  | nil =>
    cases e
    cases r
    exact ⟨rfl, q _ en⟩
  | cons d ds => cases e
theorem pgsx_cons {e : Expr} {es : List Expr} {a r : Tg} (hs : starred e = false) (h1 : PG X e (tTg X.K T a)) (h2 : PGs X es (tTgs X.K T r)) : PGs X (e :: es) (tTgs X.K T (.cons a r)) :=
  pgs_imp (pgs_cons h1 h2 (by rw [each_of hs]; rfl)) fun v σ H Q ⟨ρ, M, S, ds, ρ', en, st, ra, e, q⟩ => by
    cases ra with
    | nil => cases e
    | cons r1 r2 =>
      unfold bindT at e
      obtain ⟨ρ1, e1, e2⟩ := bindO e
      exact ⟨_, _, rfl, ρ, M, S, .d _, ρ1, en, st, r1, e1, fun σ1 en1 => ⟨ρ1, M, S, _, ρ', en1, st, r2, e2, q⟩⟩
theorem each_len {es : List Expr} {env : Env} : (assignEach es env).length = es.length := by
  induction es with
  | nil => rfl
  | cons e r ih => cases e <;> (show (assignEach r env).length + 1 = _; rw [ih]; rfl)
theorem each_plain {es : List Expr} {env : Env} (h : plain es = true) : (assignEach es env).findIdx? (·.1) = none := by
  rw [List.findIdx?_eq_none_iff]
  induction es with
  | nil => intro x hx; cases hx
  | cons e r ih =>
    unfold plain at h
    rw [List.all_cons, Bool.and_eq_true] at h
    rw [each_of (by simpa using h.1)]
    intro x hx
    rcases List.mem_cons.mp hx with hx | hx
    · rw [hx]
    · exact ih h.2 x hx
theorem pgx_tup {es : List Expr} {k : Nat} {pos : Pos} {t : Tg} (hc : X.calm = true) (hl : t.isList = true) (hn : t.len = es.length) (hp : plain es = true) (h : PGs X es (tTgs X.K T t)) : PG X (.Tuple es k pos) (tTg X.K T t) :=
  pg_imp (pg_tup (n := es.length) hc h each_len (each_plain hp)) fun v σ H Q ⟨ρ, M, S, u, ρ', en, st, r, e, q⟩ => by
    have hu : (∃ ds, u = .d (.tuple ds)) ∨ ∃ ds, u = .it ds := by
      cases t with
      | nm i => cases hl
      | nil =>
        unfold bindT at e
        split at e
        · exact .inl ⟨_, rfl⟩
        · exact .inr ⟨_, rfl⟩
        · cases e
      | cons a b =>
        unfold bindT at e
        split at e
        · exact .inl ⟨_, rfl⟩
        · exact .inr ⟨_, rfl⟩
        · cases e
    rcases hu with ⟨ds, rfl⟩ | ⟨ds, rfl⟩
    · obtain ⟨a, xs, e1, t1, r1⟩ := (show Rp X.K M H v (.tuple ds) from r).rs.tup
      exact ⟨a, xs, e1, t1.sq, by rw [r1.length, bindT_len hl e, hn], ρ, M, S, ds, ρ', en, st, r1, e, q⟩
    · obtain ⟨a, xs, e1, _, t1, r1⟩ := r
      rw [bindT_it hl] at e
      exact ⟨a, xs, e1, .inl (.inl t1), by rw [r1.length, bindT_len hl e, hn], ρ, M, S, ds, ρ', en, st, r1, e, q⟩
/-- targets, by the compiler -/
theorem tg_ok {N : List Str} {sc : Scope} {fb : Fb} (hN : X.N = N) (nd : N.Nodup) (hc : X.calm = true) (hs : X.env.scope = sc) (hf : ∀ x, fb x = true → X.fn x = true ∨ X.env.scope.names.lookup x = some .local) :
    ∀ n, (∀ e t, cT N sc fb n e = some t → PG X e (tTg X.K T t)) ∧ ∀ es t, cTs N sc fb n es = some t → PGs X es (tTgs X.K T t) ∧ t.isList = true ∧ t.len = es.length ∧ plain es = true := by
  intro n
  induction n with
  | zero => exact ⟨fun e t h => (by unfold cT at h; cases h), fun e t h => (by unfold cTs at h; cases h)⟩
  | succ n ih =>
    refine ⟨fun e t h => ?_, fun es t h => ?_⟩
    · unfold cT at h
      split at h
      · split at h
        · rename_i hx
          rw [Bool.and_eq_true] at hx
          obtain ⟨i, hi, rfl⟩ := map_some h
          exact pgx_name hN nd hs hf hx.1 hx.2 hi
        · cases h
      · obtain ⟨h1, h2, h3, h4⟩ := ih.2 _ _ h
        exact pgx_tup hc h2 h3 h4 h1
      · cases h
    · cases es with
      | nil =>
        unfold cTs at h
        cases h
        exact ⟨pgsx_nil, rfl, rfl, rfl⟩
      | cons e r =>
        unfold cTs at h
        split at h
        · cases h
        · rename_i hst
          obtain ⟨a, h1, h⟩ := bindO h
          obtain ⟨b, h2, rfl⟩ := map_some h
          obtain ⟨i1, i2, i3, i4⟩ := ih.2 _ _ h2
          refine ⟨pgsx_cons (by simpa using hst) (ih.1 _ _ h1) i1, i2, congrArg (· + 1) i3, ?_⟩
          show (!starred e && plain r) = true
          rw [i4]
          simp [hst]
/-! ### what is walked -/
/-- the items come, wherever one stands by then -/
def Feed (K : W.Frag) (M : Ms) (H : Hp) (J : L2.It) : Src → Prop
  | .fix us => ∀ M' H', Gr M H M' H' → ∀ i, (us[i]? = none → J.stop i H') ∧ ∀ u, us[i]? = some u → J.go i H' ∧ ∀ x H'', J.yld i H' x H'' → ∀ T S, StOk K T M' S H' → Gr M' H' M' H'' ∧ StOk K T M' S H'' ∧ RU K M' H'' x u
  | .live b => ∃ a, M.b[b]? = some a ∧ J = Itl K a
def tIt (K : W.Frag) (T : List (Addr × Str)) (cl : Nat → Option Addr) (E : XK) (c : Cn) (it : Ev.It) : TI := fun σ H R => ∃ ρ M S, EnvOk K ρ σ M H ∧ StOk K T M S H ∧ Out K T cl E M H (evIt c it ρ S) (fun M H J s => Feed K M H J s) R
theorem pi_imp {tg iter : Expr} {w w' : TI} (h : PI X tg iter w) (i : ∀ σ H R, w' σ H R → w σ H R) : PI X tg iter w' := ⟨fun pins s σ H R I q => h.run pins s σ H R I (i σ H R q)⟩
def iAny (K : W.Frag) (tl : TE) : TI := fun σ H R => tl σ H fun x H1 => (∃ a xs, x = .ref a ∧ SqL K H1 a xs ∧ R (Itl K a) H1) ∨ (∃ a xs, x = .ref a ∧ SqT K H1 a xs ∧ R (Itt K a) H1) ∨ ∃ z, x = .str z ∧ R (Its z) H1
theorem pi_any {tg l : Expr} {tl : TE} (hl : PE X l tl) : PI X tg l (iAny X.K tl) := by
  refine ⟨fun pins s σ H R I h => ?_⟩
  refine thn (hl.run pins s σ H _ I h) fun v s1 ⟨x, H1, I1, r1, q1⟩ => ?_
  rcases q1 with ⟨a, xs, e, hq, q⟩ | ⟨a, xs, e, hq, q⟩ | ⟨z, e, q⟩
  · subst e
    cases r1
    obtain ⟨its, rv, p, hz⟩ := I1.list hq
    refine wpAny_pyIter_list p.isList ?_
    exact pi_one (tk := s1.toks) I1 _ (turn_list a _) ⟨_, Heap.get?_push_size _ rfl, rfl, rfl⟩ q
  · subst e
    cases r1
    obtain ⟨its, rv, p, hz⟩ := I1.tuple hq
    refine wpAny_pyIter_tuple (show s1.heap.IsTuple a its.toArray from p) ?_
    exact pi_one (tk := s1.toks) I1 _ (turn_tuple a _) ⟨_, Heap.get?_push_size _ rfl, rfl, rfl⟩ q
  · subst e
    obtain ⟨t, rfl⟩ := r1
    cases ha : z.cps.all (· < 128)
    · exact wpAny_pyIter_wide ha (pi_one (tk := s1.toks) I1 _ (turn_str _ z t "str_iterator" (.inr rfl)) ⟨_, Heap.get?_push_size _ rfl, rfl, rfl⟩ q)
    · exact wpAny_pyIter_ascii ha (pi_one (tk := s1.toks) I1 _ (turn_str _ z t "str_ascii_iterator" (.inl rfl)) ⟨_, Heap.get?_push_size _ rfl, rfl, rfl⟩ q)
theorem feed_list {a : Addr} {xs : List V} {ds : List PyData} (n : a ∉ M) (h : H a = some (.lst xs)) (r : RpA K M H xs ds) : Feed K M H (Itl K a) (.fix (ds.map .d)) := by
  intro M' H' g i
  obtain ⟨n', h'⟩ := g.at_ h n fun ps z => by cases z
  have r' := r.mono g
  refine ⟨fun e => ⟨xs, SqL.of h', ?_⟩, fun u e => ?_⟩
  · rw [List.getElem?_eq_none_iff, List.length_map] at e
    rw [r.length]; exact e
  · rw [List.getElem?_map] at e
    obtain ⟨d, e1, rfl⟩ := map_some e
    obtain ⟨v, e2, r2⟩ := r'.get e1
    refine ⟨⟨xs, v, SqL.of h', e2⟩, fun x H'' ⟨eH, hx⟩ T S st => ?_⟩
    subst eH
    have := hx xs (SqL.of h')
    rw [e2] at this
    cases this
    exact ⟨Gr.refl _ _, st, r2⟩
theorem feed_tup {a : Addr} {xs : List V} {ds : List PyData} (t : TupAt K M H a xs) (r : RpA K M H xs ds) : Feed K M H (Itt K a) (.fix (ds.map .d)) := by
  intro M' H' g i
  have t' := t.mono g
  have r' := r.mono g
  refine ⟨fun e => ⟨xs, t'.sq, ?_⟩, fun u e => ?_⟩
  · rw [List.getElem?_eq_none_iff, List.length_map] at e
    rw [r.length]; exact e
  · rw [List.getElem?_map] at e
    obtain ⟨d, e1, rfl⟩ := map_some e
    obtain ⟨v, e2, r2⟩ := r'.get e1
    refine ⟨⟨xs, v, t'.sq, e2⟩, fun x H'' ⟨eH, hx⟩ T S st => ?_⟩
    subst eH
    have := hx xs t'.sq
    rw [e2] at this
    cases this
    exact ⟨Gr.refl _ _, st, r2⟩
theorem feed_str {z : Str} : Feed K M H (Its z) (.fix (strItems z)) := by
  intro M' H' g i
  unfold strItems
  refine ⟨fun e => ?_, fun u e => ?_⟩
  · rw [List.getElem?_eq_none_iff, List.length_map, Array.length_toList] at e
    exact e
  · rw [List.getElem?_map, Array.getElem?_toList] at e
    obtain ⟨d, e1, rfl⟩ := map_some e
    refine ⟨(Array.getElem?_eq_some_iff.mp e1).1, fun x H'' ⟨eH, c, hx, ex⟩ T S st => ?_⟩
    subst eH
    rw [e1] at hx
    cases hx
    exact ⟨Gr.refl _ _, st, by rw [ex]; exact Rp.str _⟩
theorem feed_rng {lo : Int} {n : Nat} : Feed K M H (Itr lo n) (.fix (rngItems lo n)) := by
  intro M' H' g i
  unfold rngItems
  refine ⟨fun e => ?_, fun u e => ?_⟩
  · rw [List.getElem?_eq_none_iff, List.length_map, List.length_range] at e
    exact e
  · rw [List.getElem?_map] at e
    obtain ⟨d, e1, rfl⟩ := map_some e
    obtain ⟨h1, h2⟩ := List.getElem?_eq_some_iff.mp e1
    rw [List.getElem_range] at h2
    subst h2
    rw [List.length_range] at h1
    refine ⟨h1, fun x H'' ⟨eH, ex⟩ T S st => ?_⟩
    subst eH
    exact ⟨Gr.refl _ _, st, by rw [ex]; exact Rp.int _⟩
theorem feed_rngC {lo : Int} {n : Nat} : Feed K M H (Itc lo (-1) n) (.fix ((List.range n).map fun k => U.d (.int (lo - (k : Nat))))) := by
  intro M' H' g i
  refine ⟨fun e => ?_, fun u e => ?_⟩
  · rw [List.getElem?_eq_none_iff, List.length_map, List.length_range] at e
    exact e
  · rw [List.getElem?_map] at e
    obtain ⟨d, e1, rfl⟩ := map_some e
    obtain ⟨h1, h2⟩ := List.getElem?_eq_some_iff.mp e1
    rw [List.getElem_range] at h2
    subst h2
    rw [List.length_range] at h1
    refine ⟨h1, fun x H'' ⟨eH, ex⟩ T S st => ?_⟩
    subst eH
    refine ⟨Gr.refl _ _, st, ?_⟩
    have : lo + (i : Int) * -1 = lo - (i : Int) := by omega
    rw [ex, this]
    exact Rp.int _
end
end Ev
end

section
set_option Elab.async false
set_option linter.all false
set_option autoImplicit false
set_option maxRecDepth 100000
set_option maxHeartbeats 4000000
/-! # enumerate over a list, a tuple, a text -/
namespace Ev
open PySem PySem.Spec PyProof.Rows L2
theorem meets_enumerate_newT (l : Addr) (items : Array Value) :
    Meets (Builtin.«enumerate.__new__» ⟨[.type "enumerate", .ref l], []⟩) (fun _ R s => s.heap.IsTuple l items ∧
      R (.ok (.ret (.ref (s.heap.push { cls := .type "tuple_iterator", data := .fields #[.ref l, .int 0 0] }).objs.size)))
        { s with heap := (s.heap.push { cls := .type "tuple_iterator", data := .fields #[.ref l, .int 0 0] }).push { cls := .type "enumerate", data := .fields #[.none, .bool false, .ref s.heap.objs.size, rawInt 0, .none, .none] } }) :=
  .of_wp fun prog w A R s h => by
    obtain ⟨hp, g, d, tk, os⟩ := s; obtain ⟨hl, h⟩ := h
    have hsub := sub_enumerate
    wp_walk
    refine wpAny_stack_any fun st => wpAny_pure ?_
    split
    · rename_i c _ _ _ _ _
      cases (c == Value.type "enumerate")
      · wp_walk using wpAny_pyIter_tuple hl
        exact ⟨_, rfl, h⟩
      · wp_walk using wpAny_pyIter_tuple hl
        exact ⟨_, rfl, h⟩
    · wp_walk using wpAny_pyIter_tuple hl
      exact ⟨_, rfl, h⟩
section
variable {prog : Program} {w : World} {A : Around} {E : Value → Shared → Prop} {s : Shared}
theorem call_enumerate_tuple {l : Addr} {items : Array Value} {Q : Value → Shared → Prop} (hL : s.heap.IsTuple l items)
    (h : ∀ h', IsEnum h' (s.heap.objs.size + 1) s.heap.objs.size 0 .none → h'.IsTupleIter s.heap.objs.size l 0 → h'.objs.size = s.heap.objs.size + 2 →
      (∀ b o, s.heap.get? b = some o → h'.get? b = some o) → Q (.ref (s.heap.objs.size + 1)) { s with heap := h' }) :
    wpAny (model prog w) A (call (.type "enumerate") [.ref l]) Q E s := by
  refine callType_new F.called_enumerate (by decide) (F.typeCall_enumerate_1 _) (F.newCall_enumerate_1 _) (fun obj => F.args_object_init_2 obj _) F.entry_enumerate_new
    (meets_enumerate_newT l items) ⟨hL, ?_⟩
  have hz : (s.heap.push { cls := .type "tuple_iterator", data := .fields #[.ref l, .int 0 0] }).objs.size = s.heap.objs.size + 1 := Heap.size_push ..
  show _ ∧ _
  rw [hz]
  have he : IsEnum ((s.heap.push { cls := .type "tuple_iterator", data := .fields #[.ref l, .int 0 0] }).push
      { cls := .type "enumerate", data := .fields #[.none, .bool false, .ref s.heap.objs.size, rawInt 0, .none, .none] }) (s.heap.objs.size + 1) s.heap.objs.size 0 .none := by
    have := Heap.get?_push_size (s.heap.push { cls := .type "tuple_iterator", data := .fields #[.ref l, .int 0 0] })
      (o := { cls := .type "enumerate", data := .fields #[.none, .bool false, .ref s.heap.objs.size, rawInt 0, .none, .none] }) rfl
    rw [hz] at this; exact this
  refine ⟨⟨_, he, rfl⟩, h _ he ⟨_, Heap.get?_push_of_some _ (Heap.get?_push_size _ rfl), rfl, rfl⟩ (by rw [Heap.size_push, hz]) fun b o x => Heap.get?_push_of_some _ (Heap.get?_push_of_some _ x)⟩
end
/-- the tuple at a, each item in a new pair -/
def Itet (K : W.Frag) (a : Addr) : L2.It :=
  ⟨fun i H => ∃ (xs : List V) (x : V), SqT K H a xs ∧ xs[i]? = some x, fun i H v H' => ∃ T x, v = .ref T ∧ H T = none ∧ H' = upd H T (.tup [.int (i : Nat), x]) ∧ ∀ xs, SqT K H a xs → xs[i]? = some x, fun i H => ∃ xs : List V, SqT K H a xs ∧ xs.length ≤ i⟩
/-- a text, each sign in a new pair -/
def Ites (x : Str) : L2.It :=
  ⟨fun i _ => i < x.cps.size, fun i H v H' => ∃ T c, v = .ref T ∧ H T = none ∧ H' = upd H T (.tup [.int (i : Nat), .str ⟨#[c]⟩]) ∧ x.cps[i]? = some c, fun i _ => x.cps.size ≤ i⟩
/-- a turn of enumerate, over what its iterator draws -/
theorem enum_turn {X : Cx} {pins : List (Addr × Obj)} {s : Shared} {σ : L2.St} {H : Hp} {E : Value → Shared → Prop} {elts : List Expr} {kk : Nat} {tpos : Pos} {e it : Addr} {fp : List Addr} {n i : Nat} {Pv : Nat → Value → Prop} {Sd : Nat → Heap → Prop} {old : Value} {yld : V → Hp → Prop} {tn : Heap → Prop}
    (D1 : Draws X.prog X.w X.A.in1 it fp n Pv Sd) (he : IsEnum s.heap e it ((i : Nat) : Int) old) (hst : Sd i s.heap) (hlt : i < n) (hne : e ≠ it) (hef : e ∉ fp) (I : Inv X pins σ H s) (hf : ∀ b ∈ [e, it], FpOk X pins H b)
    (hP : ∀ u, Pv i u → ∃ x, RelV x u ∧ yld (.ref s.heap.objs.size) (upd H s.heap.objs.size (.tup [.int (i : Nat), x])))
    (hT : ∀ h'' old', IsEnum h'' e it (((i + 1 : Nat) : Nat) : Int) old' → Sd (i + 1) h'' → tn h'') :
    wpAny (model X.prog X.w) X.A (pyNext (.ref e)) (fun r s1 => ∃ u, r = some u ∧
      wpAny (model X.prog X.w) X.A (letOwnedTupleGo (.Tuple elts kk tpos) (.ref e) u) (fun _ s2 => ∃ x H', Inv X pins σ H' s2 ∧ RelV x u ∧ yld x H' ∧ tn s2.heap ∧ ∀ b ∈ [e, it], H' b = none) E s1) E s := by
  have hel : e < s.heap.objs.size := Heap.lt_size he
  have hil : it < s.heap.objs.size := by obtain ⟨_, q⟩ := D1.live _ _ hst; exact Heap.lt_size q
  refine wpAny_pyNext_enum_itemD D1 he hst hlt hne hef fun u h' tk hPu ho hit' hT' hsz hk => ?_
  obtain ⟨x, ru, hy⟩ := hP u hPu
  refine ⟨_, rfl, wpAny_letOwnedTupleGo_enum (s := { s with heap := h', toks := tk + 1 }) ho fun h'' he' sb => ?_⟩
  have hT2 : h''.get? s.heap.objs.size = some { cls := .type "tuple", data := .seq #[.int i tk, u] } := (sb.2 _ (Nat.ne_of_gt hel)).trans hT'
  have new : ObjOk X.prog X.w (upd H s.heap.objs.size (.tup [.int (i : Nat), x])) h'' s.heap.objs.size (.tup [.int (i : Nat), x]) :=
    ⟨by show 2 ≤ sizeLine; decide, [.int i tk, u], .cons ⟨_, rfl⟩ (.cons ru .nil), ⟨_, hT2, rfl, _, rfl⟩⟩
  have I1 : Inv X pins σ (upd H s.heap.objs.size (.tup [.int (i : Nat), x])) { s with heap := h'', toks := tk + 1 } :=
    I.turnedNew (ch := [e, it]) (fun b ob hb q => (sb.2 b (fun z => hb (by simp [z]))).trans (hk b ob (fun z => hb (by simp [z])) (fun z => hb (by simp [z])) q)) hf (Nat.le_refl _) new
  refine ⟨.ref s.heap.objs.size, _, I1, rfl, hy, hT h'' u ?_ (D1.frame _ _ _ hit' fun b hb o q => (sb.2 b fun z => hef (z ▸ hb)).trans q), fun b hb => ?_⟩
  · have e1 : ((i + 1 : Nat) : Int) = (i : Int) + 1 := by omega
    rw [e1]; exact he'
  · have hb' : b < s.heap.objs.size := by
      have e' : b = e ∨ b = it := by simpa using hb
      rcases e' with z | z
      · rw [z]; exact hel
      · rw [z]; exact hil
    rw [upd_ne (Nat.ne_of_lt hb')]
    exact (hf b hb).1
theorem enum_endN {prog : Program} {w : World} {A : Around} {E : Value → Shared → Prop} {s : Shared} {e it : Addr} {i : Int} {old : Value} {Q : Option Value → Shared → Prop} (he : IsEnum s.heap e it i old)
    (hn : ∀ (Q : Value → Shared → Prop) (E : Value → Shared → Prop), (∀ h' x, Heap.ExtBut it s.heap h' → (∃ o, h'.get? x = some o ∧ o.cls = .type "StopIteration") → E (.ref x) { s with heap := h' }) → wpAny (model prog w) A.in1 (Builtin.SmallTypes.nextOf (.ref it)) Q E s)
    (hQ : ∀ h', Heap.ExtBut it s.heap h' → Q none { s with heap := h' }) : wpAny (model prog w) A (pyNext (.ref e)) Q E s := by
  have hT : s.TypeIs (.ref e) "enumerate" := ⟨_, he, rfl⟩
  unfold pyNext
  refine wpAny_bind (wpAny_attempt (wpAny_callSpecial?_slot (name := Str.ofString "__next__") hT F.slot_enumerate_next
    (wpAny_call_entry F.slot_enumerate_next hT F.entry_enumerate_next ?_ (F.args_enumerate_next_1 _))))
  show wpAny _ _ (field (.ref e) 2 >>= _) _ _ _
  refine wpAny_bind (wpAny_field he rfl (x := .ref it) rfl ?_)
  refine wpAny_bind (hn _ _ fun h' x he' hx' => ?_)
  obtain ⟨o, ho, hc⟩ := hx'
  refine wpAny_bind (wpAny_isInstance (T := "StopIteration") (b := true) ⟨o, ho, hc⟩ isSubtype_stop ?_)
  exact wpAny_pure (hQ _ he')
theorem turn_enumT {P : Program} {w : World} {K : W.Frag} {elts : List Expr} {kk : Nat} {tpos : Pos} (a e it : Addr) :
    Turn P w K (.Tuple elts kk tpos) (Itet K a) [e, it] e (fun i h => (∃ old, IsEnum h e it ((i : Nat) : Int) old) ∧ h.IsTupleIter it a i ∧ e ≠ it) where
  mem := by simp
  obj := fun i h st b hb => by
    obtain ⟨⟨old, he⟩, ⟨o, ho, hc, hd⟩, _⟩ := st
    have e' : b = e ∨ b = it := by simpa using hb
    rcases e' with z | z
    · rw [z]; exact ⟨_, he, fun v q => nomatch q⟩
    · rw [z]; exact ⟨o, ho, fun v q => by rw [hd] at q; cases q⟩
  keep := fun i h h' st k => let ⟨⟨old, he⟩, hi, hne⟩ := st; ⟨⟨old, k e (by simp) _ he⟩, hi.at fun o q => k it (by simp) o q, hne⟩
  item := by
    intro X hP hw hK hc i pins s σ H E I hf st hg
    subst hP hw hK
    obtain ⟨⟨old, he⟩, hit, hne⟩ := st
    obtain ⟨xs, x, hq, hx⟩ := hg
    obtain ⟨its, rv, p, hz⟩ := I.tuple hq
    obtain ⟨u, hu, ru⟩ := rv.get hx
    have hta : s.heap.IsTuple a its.toArray := p
    have hea : e ≠ a := fun z => by
      obtain ⟨o, e1, e2, _⟩ := id hta
      rw [← z, he] at e1
      cases e1
      exact absurd (Value.type.inj e2) (by decide)
    have hia : a ≠ it := fun z => by
      obtain ⟨o, e1, e2, _⟩ := id hta
      obtain ⟨o', e3, e4, _⟩ := id hit
      rw [z, e3] at e1
      cases e1
      rw [e4] at e2
      exact absurd e2 (by decide)
    exact enum_turn (yld := (Itet X.K a).yld i H) (tn := fun h => (∃ old, IsEnum h e it (((i + 1 : Nat) : Nat) : Int) old) ∧ h.IsTupleIter it a (i + 1) ∧ e ≠ it) (D1 := Draws.tuple (A := X.A.in1) (I.ok.hd hc) it a hia its.toArray) he ⟨hit, hta⟩ (by rw [List.size_toArray]; exact (List.getElem?_eq_some_iff.mp hu).1) hne (by simp [hne, hea]) I hf
      (fun u' hu' => ⟨x, by have e3 : its[i]? = some u' := by simpa using hu'
                            rw [hu] at e3; cases e3; exact ru, _, x, rfl, I.hok.fresh (Nat.le_refl _), rfl, fun ys hy => by rw [I.tuple_inj hy hq]; exact hx⟩)
      fun h'' old' h1 h2 => ⟨⟨old', h1⟩, h2.1, hne⟩
  done := by
    intro X hP hw hK hc i pins s σ H E I hf st hg
    subst hP hw hK
    obtain ⟨⟨old, he⟩, hit, hne⟩ := st
    obtain ⟨xs, hq, hx⟩ := hg
    obtain ⟨its, rv, p, hz⟩ := I.tuple hq
    obtain ⟨f0, f1, f2, f3, f4, f5⟩ := hf it (by simp)
    have hl := rv.length
    exact enum_endN he (fun Q E hE => wpAny_nextOf_tuple_end (I.ok.hd hc) hit (show s.heap.IsTuple a its.toArray from p) (by simp; omega) hE) fun h' eb => ⟨rfl, I.turned (t' := s.toks) (fun b o hb q => eb b o hb q) f0 f1 f3 f4 f5⟩
  self := fun A i s Q E st h => let ⟨⟨_, he⟩, _⟩ := st; wpAny_pyIter_enum he h
theorem turn_enumS {P : Program} {w : World} {K : W.Frag} {elts : List Expr} {kk : Nat} {tpos : Pos} (x : Str) (t : Tok) (e it : Addr) :
    Turn P w K (.Tuple elts kk tpos) (Ites x) [e, it] e (fun i h => (∃ old, IsEnum h e it ((i : Nat) : Int) old) ∧ h.IsStrIter it (strIterType x) x t i ∧ e ≠ it) where
  mem := by simp
  obj := fun i h st b hb => by
    obtain ⟨⟨old, he⟩, ⟨o, ho, hc, hd⟩, _⟩ := st
    have e' : b = e ∨ b = it := by simpa using hb
    rcases e' with z | z
    · rw [z]; exact ⟨_, he, fun v q => nomatch q⟩
    · rw [z]; exact ⟨o, ho, fun v q => by rw [hd] at q; cases q⟩
  keep := fun i h h' st k => let ⟨⟨old, he⟩, hi, hne⟩ := st; ⟨⟨old, k e (by simp) _ he⟩, (let ⟨o, ho, r⟩ := hi; ⟨o, k it (by simp) o ho, r⟩), hne⟩
  item := by
    intro X hP hw hK hc i pins s σ H E I hf st hg
    subst hP hw hK
    obtain ⟨⟨old, he⟩, hit, hne⟩ := st
    exact enum_turn (yld := (Ites x).yld i H) (tn := fun h => (∃ old, IsEnum h e it (((i + 1 : Nat) : Nat) : Int) old) ∧ h.IsStrIter it (strIterType x) x t (i + 1) ∧ e ≠ it) (D1 := Draws.text (A := X.A.in1) (I.ok.hd hc) it x t) he hit hg hne (by simp [hne]) I hf
      (fun u' ⟨c, tt, hu', ev⟩ => ⟨.str ⟨#[c]⟩, ⟨tt, ev⟩, _, c, rfl, I.hok.fresh (Nat.le_refl _), rfl, hu'⟩)
      fun h'' old' h1 h2 => ⟨⟨old', h1⟩, h2, hne⟩
  done := by
    intro X hP hw hK hc i pins s σ H E I hf st hg
    subst hP hw hK
    obtain ⟨⟨old, he⟩, hit, hne⟩ := st
    obtain ⟨f0, f1, f2, f3, f4, f5⟩ := hf it (by simp)
    have hx : x.cps[i]? = none := Array.getElem?_eq_none hg
    refine enum_endN he (fun Q E hE => ?_) fun h' eb => ⟨rfl, I.turned (t' := s.toks) (fun b o hb q => eb b o hb q) f0 f1 f3 f4 f5⟩
    unfold strIterType at hit
    split at hit
    · exact wpAny_nextOf_ascii_end (I.ok.hd hc) hit hx hE
    · exact wpAny_nextOf_wide_end (I.ok.hd hc) hit hx hE
  self := fun A i s Q E st h => let ⟨⟨_, he⟩, _⟩ := st; wpAny_pyIter_enum he h
/-- enumerate of what comes: a list, a tuple, a text -/
def iEnumA (K : W.Frag) (ta : TA) : TI := fun σ H R => ta σ H fun vs H1 =>
  (∃ a xs, vs = [.ref a] ∧ SqL K H1 a xs ∧ R (Ite K a) H1) ∨ (∃ a xs, vs = [.ref a] ∧ SqT K H1 a xs ∧ R (Itet K a) H1) ∨ (∃ x, vs = [.str x] ∧ R (Ites x) H1)
theorem pi_enumA {X : Cx} {e : Expr} {ta : TA} {p pos tpos : Pos} {elts : List Expr} {kk : Nat} (hg : Gl X "enumerate") (hm : X.mg "enumerate" = none) (ha : PA X [e] ta) (hs : starEach [e] X.env = [(false, eval e X.env)] := by rfl) :
    PI X (.Tuple elts kk tpos) (.Call (.Name "enumerate" p) [e] [] pos) (iEnumA X.K ta) := by
  refine ⟨fun pins s σ H R I h => ?_⟩
  refine Call_ (ld_blt I hg hm boot_enumerate (PyProof.Rows.callWith_type1 (thn (ha.run pos pins s σ H _ I h) fun us s1 ⟨vs, H1, I1, r1, q1⟩ => ?_) hs rfl))
  have hfp : ∀ b ∈ [s1.heap.objs.size + 1, s1.heap.objs.size], FpOk X pins H1 b := fun b hb => by
    have e' : b = s1.heap.objs.size + 1 ∨ b = s1.heap.objs.size := by simpa using hb
    have hle : s1.heap.objs.size ≤ b := by
      rcases e' with z | z
      · rw [z]; exact Nat.le_add_right _ _
      · rw [z]; exact Nat.le_refl _
    exact I1.fpOk hle (I1.hok.fresh hle)
  rcases q1 with ⟨a, xs, ex, hq, q⟩ | ⟨a, xs, ex, hq, q⟩ | ⟨x, ex, q⟩
  · subst ex
    cases r1 with
    | cons r rr =>
      cases rr
      cases r
      obtain ⟨its, rv, p', hz⟩ := I1.list hq
      refine call_enumerate_list p'.isList fun h' he hit hsz hk => wpAny_pyIter_enum he ?_
      exact ⟨s1.heap.objs.size + 1, [s1.heap.objs.size + 1, s1.heap.objs.size], _, _, H1, rfl, I1.kept (t' := s1.toks) hk, turn_enum a (s1.heap.objs.size + 1) s1.heap.objs.size, ⟨⟨.none, he⟩, hit, Nat.succ_ne_self _⟩, hfp, q⟩
  · subst ex
    cases r1 with
    | cons r rr =>
      cases rr
      cases r
      obtain ⟨its, rv, p', hz⟩ := I1.tuple hq
      refine call_enumerate_tuple p' fun h' he hit hsz hk => wpAny_pyIter_enum he ?_
      exact ⟨s1.heap.objs.size + 1, [s1.heap.objs.size + 1, s1.heap.objs.size], _, _, H1, rfl, I1.kept (t' := s1.toks) hk, turn_enumT a (s1.heap.objs.size + 1) s1.heap.objs.size, ⟨⟨.none, he⟩, hit, Nat.succ_ne_self _⟩, hfp, q⟩
  · subst ex
    cases r1 with
    | cons r rr =>
      cases rr
      obtain ⟨t, rfl⟩ := r
      refine call_enumerate_str fun h' he hit hsz hk => wpAny_pyIter_enum he ?_
      exact ⟨s1.heap.objs.size + 1, [s1.heap.objs.size + 1, s1.heap.objs.size], _, _, H1, rfl, I1.kept (t' := s1.toks) hk, turn_enumS x t (s1.heap.objs.size + 1) s1.heap.objs.size, ⟨⟨.none, he⟩, hit, Nat.succ_ne_self _⟩, hfp, q⟩
end Ev
end

section
set_option Elab.async false
set_option linter.all false
set_option autoImplicit false
set_option maxRecDepth 100000
set_option maxHeartbeats 4000000
/-! # What is walked, comprehensions -/
namespace Ev
open PySem PySem.Spec PyProof.Rows L2
section
variable {K : W.Frag} {T : List (Addr × Str)} {cl : Nat → Option Addr} {E : XK} {c : Cn} {X : Cx} {M : Ms} {H : Hp} {S : Store} {ρ : Rho} {σ : L2.St}
theorem pix_val {tg e : Expr} {x : Ev.X} (he : PE X e (tX X.K T cl E c x)) : PI X tg e (tIt X.K T cl E c (.val x)) :=
  pi_imp (pi_any he) fun σ H R ⟨ρ, M, S, en, st, h⟩ => by
    unfold evIt at h
    refine tX_b en st h fun v M1 H1 S1 u g1 en1 st1 r1 h1 => ?_
    obtain ⟨src, e, h2⟩ : ∃ src, srcU S1 u = some src ∧ ∀ J, Feed X.K M1 H1 J src → R J H1 := by
      cases e : srcU S1 u with
      | none => rw [e] at h1; exact h1.elim
      | some src =>
        rw [e] at h1
        exact ⟨src, rfl, fun J f => h1 J M1 H1 (Gr.refl _ _) st1 f⟩
    unfold srcU at e
    split at e
    · cases e
      cases (show Rp X.K M1 H1 v _ from r1) with
      | lst n hl ra => exact .inl ⟨_, _, rfl, SqL.of hl, h2 _ (feed_list n hl ra)⟩
    · cases e
      obtain ⟨a, xs, e1, t1, ra⟩ := (show Rp X.K M1 H1 v _ from r1).rs.tup
      exact .inr (.inl ⟨_, _, e1, t1.sq, h2 _ (feed_tup t1 ra)⟩)
    · cases e
      have e1 := (show Rp X.K M1 H1 v _ from r1).rs.str
      exact .inr (.inr ⟨_, e1, h2 _ feed_str⟩)
    · rename_i i
      split at e
      · rename_i ds e2
        cases e
        obtain ⟨a, e3, e4⟩ := r1
        obtain ⟨xs, e5, _⟩ := st1.lst e3 e2
        exact .inl ⟨_, _, e4, SqL.of e5, h2 _ ⟨a, e3, rfl⟩⟩
      · cases e
    · cases e
theorem small_of {i : Int} (h : smallR i = true) : -(2 ^ 62) ≤ i ∧ i < 2 ^ 62 := by
  unfold smallR at h
  rw [Bool.and_eq_true, decide_eq_true_eq, decide_eq_true_eq] at h
  exact h
def Xs.len : Xs → Nat
  | .nil => 0
  | .cons _ r => r.len + 1
theorem evXs_chk (g : Cn) : ∀ (xs : Xs) (ρ : Rho) (S : Store), evXs g xs ρ S = (evXs g xs ρ S).bind fun us S1 => if us.length = xs.len then .ok us S1 else .bad
  | .nil, ρ, S => by unfold evXs; rfl
  | .cons a r, ρ, S => by
    have ih := evXs_chk g r
    unfold evXs
    cases evX g a ρ S with
    | ok x S1 =>
      show ((evXs g r ρ S1).bind fun xs S2 => R.ok (x :: xs) S2) = ((evXs g r ρ S1).bind fun xs S2 => R.ok (x :: xs) S2).bind _
      rw [bind_assoc, ih ρ S1]
      cases evXs g r ρ S1 with
      | ok xs S2 =>
        show (if xs.length = r.len then R.ok xs S2 else R.bad).bind _ = (if xs.length = r.len then R.ok xs S2 else R.bad).bind _
        split
        · rename_i e
          show R.ok (x :: xs) S2 = if (x :: xs).length = r.len + 1 then R.ok (x :: xs) S2 else R.bad
          rw [if_pos (by rw [List.length_cons, e])]
        · rfl
      | exc _ _ => rfl
      | bad => rfl
    | exc _ _ => rfl
    | bad => rfl
/-- arguments, counted -/
theorem tXs_n {α β : Type} {ir : Xs} {f : List U → Store → R α} {rel : Ms → Hp → β → α → Prop} {Q : β → Hp → Prop} (en : EnvOk K ρ σ M H) (st : StOk K T M S H) (h : Out K T cl E M H ((evXs c ir ρ S).bind f) rel Q) {G : List V → Hp → Prop}
    (q : ∀ v M1 H1 S1 u, Gr M H M1 H1 → EnvOk K ρ σ M1 H1 → StOk K T M1 S1 H1 → RUs K M1 H1 v u → u.length = ir.len → Out K T cl E M1 H1 (f u S1) rel Q → G v H1) : tXs K T cl E c ir σ H G := by
  rw [evXs_chk, bind_assoc] at h
  refine tXs_b en st h fun v M1 H1 S1 u g1 en1 st1 r1 h1 => ?_
  by_cases e : u.length = ir.len
  · rw [if_pos e] at h1
    exact q v M1 H1 S1 u g1 en1 st1 r1 e h1
  · rw [if_neg e] at h1
    exact h1.elim
theorem datas_len {S : Store} : ∀ {us : List U} {ps : List PyData}, datas S us = some ps → ps.length = us.length
  | [], _, e => by cases e; rfl
  | .d p :: r, _, e => by
    unfold datas at e
    obtain ⟨qs, e1, rfl⟩ := map_some e
    show qs.length + 1 = r.length + 1
    rw [datas_len e1]
  | .ref _ :: _, _, e => by cases e
  | .scr _ :: _, _, e => by cases e
  | .it _ :: _, _, e => by cases e
  | .obj _ :: _, _, e => by cases e
/-- the ints of a range -/
theorem fin_rng {xs : Xs} {σ : L2.St} {H : Hp} {G : L2.It → Hp → Prop} {G2 : List V → Hp → Prop} (h : tIt K T cl E c (.rng xs) σ H G)
    (q : ∀ M1 H1 vs (ps : List PyData) us, RpA K M1 H1 vs ps → ps.length = xs.len → rngD ps = some us → (∀ J, Feed K M1 H1 J (.fix us) → G J H1) → G2 vs H1) : tXs K T cl E c xs σ H G2 := by
  obtain ⟨ρ, M, S, en, st, h⟩ := h
  unfold evIt at h
  refine tXs_n en st h fun v M1 H1 S1 us g1 en1 st1 r1 hl h1 => ?_
  cases e : datas S1 us with
  | none => rw [e] at h1; exact h1.elim
  | some ps =>
    rw [e] at h1
    have h1 : Out K T cl E M1 H1 (R.of S1 ((rngD ps).map Src.fix)) (fun M H J s => Feed K M H J s) G := h1
    cases e2 : rngD ps with
    | none => rw [e2] at h1; exact h1.elim
    | some is =>
      rw [e2] at h1
      exact q M1 H1 v ps is (datas_of r1 e) (by rw [datas_len e, hl]) e2 fun J f => h1 J M1 H1 (Gr.refl _ _) st1 f
theorem rng1 {p : PyData} {us : List U} (h : rngD [p] = some us) : ∃ j, p = .int j ∧ (-(2 ^ 62) ≤ j ∧ j < 2 ^ 62) ∧ us = rngItems 0 j.toNat := by
  unfold rngD at h
  split at h
  · rename_i j e
    cases e
    split at h
    · rename_i hs
      cases h
      exact ⟨j, rfl, small_of hs, rfl⟩
    · cases h
  · rename_i e; cases e
  · rename_i e; cases e
  · cases h
theorem rng2 {p q : PyData} {us : List U} (h : rngD [p, q] = some us) : ∃ i j, p = .int i ∧ q = .int j ∧ (-(2 ^ 62) ≤ i ∧ i < 2 ^ 62) ∧ (-(2 ^ 62) ≤ j ∧ j < 2 ^ 62) ∧ us = rngItems i (j - i).toNat := by
  unfold rngD at h
  split at h
  · rename_i e; cases e
  · rename_i i j e
    cases e
    split at h
    · rename_i hs
      rw [Bool.and_eq_true] at hs
      cases h
      exact ⟨i, j, rfl, rfl, small_of hs.1, small_of hs.2, rfl⟩
    · cases h
  · rename_i e; cases e
  · cases h
theorem rng3 {p q r : PyData} {us : List U} (h : rngD [p, q, r] = some us) : ∃ i j, p = .int i ∧ q = .int j ∧ r = .int (-1) ∧ (-(2 ^ 62) ≤ i ∧ i < 2 ^ 62) ∧ (-(2 ^ 62) ≤ j ∧ j < 2 ^ 62) ∧ us = (List.range (i - j).toNat).map fun k => .d (.int (i - (k : Nat))) := by
  unfold rngD at h
  split at h
  · rename_i e; cases e
  · rename_i e; cases e
  · rename_i i j k e
    cases e
    split at h
    · rename_i hs
      rw [Bool.and_eq_true] at hs
      cases h
      obtain ⟨rfl, h1, h2⟩ := hs
      exact ⟨i, j, rfl, rfl, rfl, small_of h1, small_of h2, rfl⟩
    · cases h
  · cases h
theorem pix_rng1 {tg a : Expr} {p pos : Pos} {x : Ev.X} (hg : Gl X "range") (hm : X.mg "range" = none) (hs : starred a = false) (ha : PA X [a] (tXs X.K T cl E c (.cons x .nil))) :
    PI X tg (.Call (.Name "range" p) [a] [] pos) (tIt X.K T cl E c (.rng (.cons x .nil))) :=
  pi_imp (pi_range1 hg hm ha (star_of hs)) fun σ H G h => fin_rng h fun M1 H1 vs ps us r1 hl e q => by
    match ps, hl with
    | [p], _ =>
      obtain ⟨j, rfl, hj, rfl⟩ := rng1 e
      cases r1 with
      | cons r rr =>
        cases rr
        cases r
        exact ⟨j, rfl, hj.1, hj.2, q _ feed_rng⟩
theorem pix_rng2 {tg a b : Expr} {p pos : Pos} {x y : Ev.X} (hg : Gl X "range") (hm : X.mg "range" = none) (hs : starred a = false) (hs2 : starred b = false) (ha : PA X [a, b] (tXs X.K T cl E c (.cons x (.cons y .nil)))) :
    PI X tg (.Call (.Name "range" p) [a, b] [] pos) (tIt X.K T cl E c (.rng (.cons x (.cons y .nil)))) :=
  pi_imp (pi_range2 hg hm ha (by rw [star_of hs, star_of hs2]; rfl) (star_of hs2)) fun σ H G h => fin_rng h fun M1 H1 vs ps us r1 hl e q => by
    match ps, hl with
    | [p, p'], _ =>
      obtain ⟨i, j, rfl, rfl, hi, hj, rfl⟩ := rng2 e
      cases r1 with
      | cons r rr =>
        cases rr with
        | cons r' rr =>
          cases rr
          cases r
          cases r'
          exact ⟨i, j, rfl, ⟨hi.1, hi.2, hj.1, hj.2⟩, q _ feed_rng⟩
theorem pix_rng3 {tg a b d : Expr} {p pos : Pos} {x y z : Ev.X} (hg : Gl X "range") (hm : X.mg "range" = none) (hs : starred a = false) (hs2 : starred b = false) (hs3 : starred d = false) (ha : PA X [a, b, d] (tXs X.K T cl E c (.cons x (.cons y (.cons z .nil))))) :
    PI X tg (.Call (.Name "range" p) [a, b, d] [] pos) (tIt X.K T cl E c (.rng (.cons x (.cons y (.cons z .nil))))) :=
  pi_imp (pi_range3 hg hm ha (star_of hs) (by rw [star_of hs2, star_of hs3]; rfl)) fun σ H G h => fin_rng h fun M1 H1 vs ps us r1 hl e q => by
    match ps, hl with
    | [p, p', p''], _ =>
      obtain ⟨i, j, rfl, rfl, rfl, hi, hj, rfl⟩ := rng3 e
      cases r1 with
      | cons r rr =>
        cases rr with
        | cons r' rr =>
          cases rr with
          | cons r'' rr =>
            cases rr
            cases r
            cases r'
            cases r''
            exact ⟨i, j, -1, _, rfl, RgC.neg hi.1 hi.2 hj.1 hj.2, q _ feed_rngC⟩
theorem gr_tup {p : Addr} {xs : List V} (s : StOk K T M S H) (h : H p = none) : Gr M H M (upd H p (.tup xs)) := gr_new s h
/-- enumerate -/
theorem enm_at (ds : List PyData) : ∀ k i : Nat, (enmItems k ds)[i]? = (ds[i]?).map fun d => U.it [.int ((k + i : Nat) : Int), d] := by
  induction ds with
  | nil => intro k i; simp [enmItems]
  | cons d ds ih =>
    intro k i
    cases i with
    | zero => simp [enmItems]
    | succ i =>
      show (enmItems (k + 1) ds)[i]? = _
      rw [ih, List.getElem?_cons_succ]
      congr 1
      funext d
      have : k + 1 + i = k + (i + 1) := by omega
      rw [this]
theorem feed_enm {ds : List PyData} {J : L2.It} {xs : List V}
    (hJ : ∀ M' H', Gr M H M' H' → ∀ i, (xs.length ≤ i → J.stop i H') ∧ ∀ x, xs[i]? = some x → J.go i H' ∧ ∀ v H'', J.yld i H' v H'' → ∃ t, v = .ref t ∧ H' t = none ∧ H'' = upd H' t (.tup [.int (i : Nat), x]))
    (r : RpA K M H xs ds) : Feed K M H J (.fix (enmItems 0 ds)) := by
  intro M' H' g i
  have r' := r.mono g
  obtain ⟨j1, j2⟩ := hJ M' H' g i
  rw [enm_at ds 0 i, Nat.zero_add]
  refine ⟨fun e => j1 ?_, fun u e => ?_⟩
  · rw [Option.map_eq_none_iff, List.getElem?_eq_none_iff] at e
    rw [r.length]; exact e
  · obtain ⟨d, e1, rfl⟩ := map_some e
    obtain ⟨v, e2, r2⟩ := r'.get e1
    obtain ⟨j3, j4⟩ := j2 v e2
    refine ⟨j3, fun x H'' hy T S st => ?_⟩
    obtain ⟨t, ex, ht, eH⟩ := j4 x H'' hy
    subst eH ex
    exact ⟨gr_new st ht, st_new st ht, t, _, rfl, st.free ht, upd_same, .cons (.int _) (.cons (r2.mono (gr_new st ht)) .nil)⟩
theorem strP_rp (z : Str) : RpA K M H (z.cps.toList.map fun c => V.str ⟨#[c]⟩) (strP z) := by
  unfold strP
  induction z.cps.toList with
  | nil => exact .nil
  | cons c l ih => exact .cons (Rp.str _) ih
theorem pix_enm {a : Expr} {tes : List Expr} {tk : Nat} {p pos tpos : Pos} {x : Ev.X} (hg : Gl X "enumerate") (hm : X.mg "enumerate" = none) (hs : starred a = false) (ha : PE X a (tX X.K T cl E c x)) :
    PI X (.Tuple tes tk tpos) (.Call (.Name "enumerate" p) [a] [] pos) (tIt X.K T cl E c (.enm x)) :=
  pi_imp (pi_enumA hg hm (pa_cons ha pa_nil (star_of hs)) (star_of hs)) fun σ H G ⟨ρ, M, S, en, st, h⟩ => by
    unfold evIt at h
    refine tX_b en st h fun v M1 H1 S1 u g1 en1 st1 r1 h1 => ?_
    split at h1
    · rename_i ds
      cases (show Rp X.K M1 H1 v _ from r1) with
      | lst n hl ra =>
        refine .inl ⟨_, _, rfl, SqL.of hl, h1 _ M1 H1 (Gr.refl _ _) st1 (feed_enm (fun M' H' g i => ?_) ra)⟩
        obtain ⟨n', h'⟩ := g.at_ hl n fun ps z => by cases z
        exact ⟨fun e => ⟨_, SqL.of h', e⟩, fun x e => ⟨⟨_, x, SqL.of h', e⟩, fun v H'' ⟨t, y, ex, ht, eH, hx⟩ => ⟨t, ex, ht, by rw [eH, Option.some.inj (e.symm.trans (hx _ (SqL.of h')))]⟩⟩⟩
    · rename_i ds
      obtain ⟨a, xs, e1, t1, ra⟩ := (show Rp X.K M1 H1 v _ from r1).rs.tup
      rw [e1]
      refine .inr (.inl ⟨_, _, rfl, t1.sq, h1 _ M1 H1 (Gr.refl _ _) st1 (feed_enm (fun M' H' g i => ?_) ra)⟩)
      have t' := t1.mono g
      exact ⟨fun e => ⟨_, t'.sq, e⟩, fun x e => ⟨⟨_, x, t'.sq, e⟩, fun v H'' ⟨t, y, ex, ht, eH, hx⟩ => ⟨t, ex, ht, by rw [eH, Option.some.inj (e.symm.trans (hx _ t'.sq))]⟩⟩⟩
    · rename_i z
      have e1 := (show Rp X.K M1 H1 v _ from r1).rs.str
      rw [e1]
      refine .inr (.inr ⟨_, rfl, h1 _ M1 H1 (Gr.refl _ _) st1 (feed_enm (fun M' H' g i => ?_) (strP_rp z))⟩)
      refine ⟨fun e => ?_, fun x e => ?_⟩
      · show z.cps.size ≤ i
        rw [List.length_map, Array.length_toList] at e
        exact e
      · rw [List.getElem?_map, Array.getElem?_toList] at e
        obtain ⟨d, e2, rfl⟩ := map_some e
        refine ⟨(Array.getElem?_eq_some_iff.mp e2).1, fun v H'' ⟨t, c', ex, ht, eH, hx⟩ => ⟨t, ex, ht, ?_⟩⟩
        rw [eH, Option.some.inj (e2.symm.trans hx)]
    · exact h1.elim
theorem zip_at : ∀ (xs ys : List PyData) (i : Nat), (zipItems xs ys)[i]? = (xs[i]?).bind fun x => (ys[i]?).map fun y => U.it [x, y]
  | [], ys, i => by unfold zipItems; simp
  | x :: xs, [], i => by unfold zipItems; cases i <;> simp
  | x :: xs, y :: ys, 0 => by unfold zipItems; simp
  | x :: xs, y :: ys, i + 1 => by
    unfold zipItems
    rw [List.getElem?_cons_succ, zip_at xs ys i]
    simp
theorem feed_zip {a b : Addr} {xs ys : List V} {ds es : List PyData} {J : L2.It}
    (hJ : ∀ M' H', Gr M H M' H' → ∀ i, ((xs.length ≤ i ∨ ys.length ≤ i) → J.stop i H') ∧ ∀ x y, xs[i]? = some x → ys[i]? = some y → J.go i H' ∧ ∀ v H'', J.yld i H' v H'' → ∃ t, v = .ref t ∧ H' t = none ∧ H'' = upd H' t (.tup [x, y]))
    (r : RpA K M H xs ds) (q : RpA K M H ys es) : Feed K M H J (.fix (zipItems ds es)) := by
  intro M' H' g i
  have r' := r.mono g
  have q' := q.mono g
  obtain ⟨j1, j2⟩ := hJ M' H' g i
  rw [zip_at]
  refine ⟨fun e => j1 ?_, fun u e => ?_⟩
  · cases e1 : ds[i]? with
    | none => exact .inl (by rw [r.length]; exact List.getElem?_eq_none_iff.mp e1)
    | some d =>
      rw [e1] at e
      cases e2 : es[i]? with
      | none => exact .inr (by rw [q.length]; exact List.getElem?_eq_none_iff.mp e2)
      | some d' => rw [e2] at e; cases e
  · obtain ⟨d, e1, e⟩ := bindO e
    obtain ⟨d', e2, rfl⟩ := map_some e
    obtain ⟨v, e3, r2⟩ := r'.get e1
    obtain ⟨v', e4, q2⟩ := q'.get e2
    obtain ⟨j3, j4⟩ := j2 v v' e3 e4
    refine ⟨j3, fun x H'' y T S st => ?_⟩
    obtain ⟨t, rfl, ht, rfl⟩ := j4 x H'' y
    exact ⟨gr_new st ht, st_new st ht, t, _, rfl, st.free ht, upd_same, .cons (r2.mono (gr_new st ht)) (.cons (q2.mono (gr_new st ht)) .nil)⟩
theorem pix_zip {a b : Expr} {tes : List Expr} {tk : Nat} {p pos tpos : Pos} {x y : Ev.X} (hg : Gl X "zip") (hm : X.mg "zip" = none) (hs : starred a = false) (hs2 : starred b = false) (ha : PE X a (tX X.K T cl E c x)) (hb : PE X b (tX X.K T cl E c y)) :
    PI X (.Tuple tes tk tpos) (.Call (.Name "zip" p) [a, b] [] pos) (tIt X.K T cl E c (.zip x y)) :=
  pi_imp (RZ.pi_zipA hg hm (pa_cons ha (pa_cons hb pa_nil (star_of hs2)) (star_of hs)) (star_of hs) (by rw [star_of hs2]; rfl)) fun σ H G ⟨ρ, M, S, en, st, h⟩ => by
    unfold evIt at h
    refine tX_b en st h fun v M1 H1 S1 u g1 en1 st1 r1 h1 => tX_b en1 st1 h1 fun w M2 H2 S2 u2 g2 _ st2 r2 h2 => ?_
    have r1 := r1.mono g2
    split at h2
    · cases (show Rp X.K M2 H2 v _ from r1) with
      | lst n hl ra =>
        cases (show Rp X.K M2 H2 w _ from r2) with
        | lst n' hl' ra' =>
          refine ⟨_, _, _, _, rfl, .inl ⟨SqL.of hl, SqL.of hl', h2 _ M2 H2 (Gr.refl _ _) st2 (feed_zip (a := 0) (b := 0) (fun M' H' g i => ?_) ra ra')⟩⟩
          obtain ⟨_, h3⟩ := g.at_ hl n fun ps z => by cases z
          obtain ⟨_, h4⟩ := g.at_ hl' n' fun ps z => by cases z
          refine ⟨fun z => ⟨_, _, SqL.of h3, SqL.of h4, z⟩, fun x y ex ey => ⟨⟨_, _, x, y, SqL.of h3, SqL.of h4, ex, ey⟩, fun v H'' ⟨t, x', y', e1, e2, e3, e4, e5⟩ => ?_⟩⟩
          have e4 := e4 _ (SqL.of h3)
          have e5 := e5 _ (SqL.of h4)
          rw [ex] at e4
          rw [ey] at e5
          cases e4
          cases e5
          exact ⟨t, e1, e2, e3⟩
    · obtain ⟨a1, xs1, rfl, t1, ra⟩ := (show Rp X.K M2 H2 v _ from r1).rs.tup
      obtain ⟨a2, xs2, rfl, t2, ra'⟩ := (show Rp X.K M2 H2 w _ from r2).rs.tup
      refine ⟨_, _, _, _, rfl, .inr ⟨t1.sq, t2.sq, h2 _ M2 H2 (Gr.refl _ _) st2 (feed_zip (a := 0) (b := 0) (fun M' H' g i => ?_) ra ra')⟩⟩
      have h3 := (t1.mono g).sq
      have h4 := (t2.mono g).sq
      refine ⟨fun z => ⟨_, _, h3, h4, z⟩, fun x y ex ey => ⟨⟨_, _, x, y, h3, h4, ex, ey⟩, fun v H'' ⟨t, x', y', e1, e2, e3, e4, e5⟩ => ?_⟩⟩
      have e4 := e4 _ h3
      have e5 := e5 _ h4
      rw [ex] at e4
      rw [ey] at e5
      cases e4
      cases e5
      exact ⟨t, e1, e2, e3⟩
    · exact h2.elim
end
end Ev
end

section
set_option Elab.async false
set_option linter.all false
set_option autoImplicit false
set_option maxRecDepth 100000
set_option maxHeartbeats 4000000
/-! # Comprehensions -/
namespace Ev
open PySem PySem.Spec PyProof.Rows L2
/-- nobody takes an exception -/
abbrev noE : XK := fun _ _ _ => False
theorem wipe_at {σ : L2.St} : ∀ {vs : List Nat} {i : Nat}, i ∈ vs → i < σ.length → (L2.wipe σ vs)[i]? = some none
  | v :: vs, i, h, hl => by
    unfold L2.wipe
    by_cases e : v = i
    · subst e
      rw [List.getElem?_set_self (by rw [L2.wipe_length]; exact hl)]
    · rw [List.getElem?_set_ne e]
      exact wipe_at ((List.mem_cons.mp h).resolve_left fun z => e z.symm) hl
theorem wipe_out {σ : L2.St} : ∀ {vs : List Nat} {i : Nat}, i ∉ vs → (L2.wipe σ vs)[i]? = σ[i]?
  | [], _, _ => rfl
  | v :: vs, i, h => by
    unfold L2.wipe
    rw [List.getElem?_set_ne (fun e => h (by rw [e]; exact List.mem_cons_self))]
    exact wipe_out fun z => h (List.mem_cons_of_mem _ z)
theorem wipe_ext {σ τ : L2.St} {vs : List Nat} (hl : σ.length = τ.length) (h : ∀ i, i ∉ vs → σ[i]? = τ[i]?) : L2.wipe σ vs = L2.wipe τ vs := by
  apply List.ext_getElem?
  intro i
  by_cases hi : i ∈ vs
  · by_cases h2 : i < σ.length
    · rw [wipe_at hi h2, wipe_at hi (by rw [← hl]; exact h2)]
    · rw [List.getElem?_eq_none (by rw [L2.wipe_length]; omega), List.getElem?_eq_none (by rw [L2.wipe_length]; omega)]
  · rw [wipe_out hi, wipe_out hi, h i hi]
section
variable {K : W.Frag} {T : List (Addr × Str)} {cl : Nat → Option Addr} {E : XK} {c : Cn} {X : Cx} {M : Ms} {H : Hp} {S : Store} {ρ : Rho} {σ : L2.St}
/-- a target, and that it leaves the other slots alone -/
def tTw (K : W.Frag) (T : List (Addr × Str)) (t : Tg) : TG := fun v σ H Q => ∃ ρ M S u ρ', EnvOk K ρ σ M H ∧ StOk K T M S H ∧ RU K M H v u ∧ bindT t u ρ = some ρ' ∧ ∀ σ', EnvOk K ρ' σ' M H → σ'.length = σ.length → (∀ i, i ∉ t.slots → σ'[i]? = σ[i]?) → Q σ' H
def tTws (K : W.Frag) (T : List (Addr × Str)) (t : Tg) : TGs := fun vs σ H Q => ∃ ρ M S ds ρ', EnvOk K ρ σ M H ∧ StOk K T M S H ∧ RpA K M H vs ds ∧ bindT t (.d (.tuple ds)) ρ = some ρ' ∧ ∀ σ', EnvOk K ρ' σ' M H → σ'.length = σ.length → (∀ i, i ∉ t.slots → σ'[i]? = σ[i]?) → Q σ' H
theorem pgw_name {N : List Str} {sc : Scope} {fb : Fb} {x : Str} {i : Nat} {pos : Pos} (hN : X.N = N) (nd : N.Nodup) (hs : X.env.scope = sc) (hf : ∀ x, fb x = true → X.fn x = true ∨ X.env.scope.names.lookup x = some .local) (hl : locB sc x = true) (hb : fb x = true) (hi : ixOf N x = some i) : PG X (.Name x pos) (tTw X.K T (.nm i)) :=
  pg_imp (pg_name (i := i) (by rw [hN]; exact nd) (by rw [hN]; exact ix_of hi) (by rw [hs]; exact loc_of hl) (hf x hb)) fun v σ H Q ⟨ρ, M, S, u, ρ', en, st, r, e, q⟩ => by
    cases e
    refine q _ (en.set r) (by simp) fun j hj => ?_
    rw [List.getElem?_set_ne]
    rintro rfl
    exact hj (by simp [Tg.slots])
theorem pgsw_nil : PGs X [] (tTws X.K T .nil) := pgs_imp pgs_nil fun v σ H Q ⟨ρ, M, S, ds, ρ', en, st, r, e, q⟩ => by
  cases ds with
  | nil =>
    cases e
    cases r
    exact ⟨rfl, q _ en rfl fun _ _ => rfl⟩
  | cons d ds => cases e
theorem pgsw_cons {e : Expr} {es : List Expr} {a r : Tg} (hs : starred e = false) (h1 : PG X e (tTw X.K T a)) (h2 : PGs X es (tTws X.K T r)) : PGs X (e :: es) (tTws X.K T (.cons a r)) :=
  pgs_imp (pgs_cons h1 h2 (by rw [each_of hs]; rfl)) fun v σ H Q ⟨ρ, M, S, ds, ρ', en, st, ra, e, q⟩ => by
    cases ra with
    | nil => cases e
    | cons r1 r2 =>
      unfold bindT at e
      obtain ⟨ρ1, e1, e2⟩ := bindO e
      refine ⟨_, _, rfl, ρ, M, S, .d _, ρ1, en, st, r1, e1, fun σ1 en1 l1 w1 => ⟨ρ1, M, S, _, ρ', en1, st, r2, e2, fun σ2 en2 l2 w2 => q σ2 en2 (by rw [l2, l1]) fun i hi => ?_⟩⟩
      have hi : i ∉ a.slots ++ r.slots := hi
      rw [List.mem_append, not_or] at hi
      rw [w2 i hi.2, w1 i hi.1]
theorem pgw_tup {es : List Expr} {k : Nat} {pos : Pos} {t : Tg} (hc : X.calm = true) (hl : t.isList = true) (hn : t.len = es.length) (hp : plain es = true) (h : PGs X es (tTws X.K T t)) : PG X (.Tuple es k pos) (tTw X.K T t) :=
  pg_imp (pg_tup (n := es.length) hc h each_len (each_plain hp)) fun v σ H Q ⟨ρ, M, S, u, ρ', en, st, r, e, q⟩ => by
    have hu : (∃ ds, u = .d (.tuple ds)) ∨ ∃ ds, u = .it ds := by
      cases t with
      | nm i => cases hl
      | nil =>
        unfold bindT at e
        split at e
        · exact .inl ⟨_, rfl⟩
        · exact .inr ⟨_, rfl⟩
        · cases e
      | cons a b =>
        unfold bindT at e
        split at e
        · exact .inl ⟨_, rfl⟩
        · exact .inr ⟨_, rfl⟩
        · cases e
    obtain ⟨ds, a, xs, e1, t1, r1, e⟩ : ∃ ds a xs, v = .ref a ∧ SqT X.K H a xs ∧ RpA X.K M H xs ds ∧ bindT t (.d (.tuple ds)) ρ = some ρ' := by
      rcases hu with ⟨ds, rfl⟩ | ⟨ds, rfl⟩
      · obtain ⟨a, xs, e1, t1, r1⟩ := (show Rp X.K M H v (.tuple ds) from r).rs.tup
        exact ⟨ds, a, xs, e1, t1.sq, r1, e⟩
      · obtain ⟨a, xs, e1, _, t1, r1⟩ := r
        rw [bindT_it hl] at e
        exact ⟨ds, a, xs, e1, .inl (.inl t1), r1, e⟩
    exact ⟨a, xs, e1, t1, by rw [r1.length, bindT_len hl e, hn], ρ, M, S, ds, ρ', en, st, r1, e, q⟩
theorem tgw_ok {N : List Str} {sc : Scope} {fb : Fb} (hN : X.N = N) (nd : N.Nodup) (hc : X.calm = true) (hs : X.env.scope = sc) (hf : ∀ x, fb x = true → X.fn x = true ∨ X.env.scope.names.lookup x = some .local) :
    ∀ n, (∀ e t, cT N sc fb n e = some t → PG X e (tTw X.K T t)) ∧ ∀ es t, cTs N sc fb n es = some t → PGs X es (tTws X.K T t) ∧ t.isList = true ∧ t.len = es.length ∧ plain es = true := by
  intro n
  induction n with
  | zero => exact ⟨fun e t h => (by unfold cT at h; cases h), fun e t h => (by unfold cTs at h; cases h)⟩
  | succ n ih =>
    refine ⟨fun e t h => ?_, fun es t h => ?_⟩
    · unfold cT at h
      split at h
      · split at h
        · rename_i hx
          rw [Bool.and_eq_true] at hx
          obtain ⟨i, hi, rfl⟩ := map_some h
          exact pgw_name hN nd hs hf hx.1 hx.2 hi
        · cases h
      · obtain ⟨h1, h2, h3, h4⟩ := ih.2 _ _ h
        exact pgw_tup hc h2 h3 h4 h1
      · cases h
    · cases es with
      | nil =>
        unfold cTs at h
        cases h
        exact ⟨pgsw_nil, rfl, rfl, rfl⟩
      | cons e r =>
        unfold cTs at h
        split at h
        · cases h
        · rename_i hst
          obtain ⟨a, h1, h⟩ := bindO h
          obtain ⟨b, h2, rfl⟩ := map_some h
          obtain ⟨i1, i2, i3, i4⟩ := ih.2 _ _ h2
          refine ⟨pgsw_cons (by simpa using hst) (ih.1 _ _ h1) i1, i2, congrArg (· + 1) i3, ?_⟩
          show (!starred e && plain r) = true
          rw [i4]
          simp [hst]
/-! ### the comprehension -/
/-- its tests -/
def tCs (K : W.Frag) (T : List (Addr × Str)) (cl : Nat → Option Addr) (E : XK) (c : Cn) (xs : Xs) : TT := fun σ H Q => ∃ ρ M S, EnvOk K ρ σ M H ∧ StOk K T M S H ∧ Out K T cl E M H (evC c xs ρ S) eqB Q
theorem pts_imp {es : List Expr} {t t' : TT} (h : PTs X es t) (i : ∀ σ H Q, t' σ H Q → t σ H Q) : PTs X es t' := ⟨fun pins s σ H Q I q => h.run pins s σ H Q I (i σ H Q q)⟩
theorem ptsx_nil : PTs X [] (tCs X.K T cl E c .nil) := pts_imp pts_nil fun σ H Q ⟨ρ, M, S, en, st, h⟩ => by
  unfold evC at h
  exact out_here (a := true) st h rfl
theorem ptsx_one {e : Expr} {x : Ev.X} {r : Xs} (h : PT X e (tTr X.K T cl E c x)) : PTs X [e] (tCs X.K T cl E c (.cons x r)) := pts_imp (pts_one h) fun σ H Q ⟨ρ, M, S, en, st, h⟩ => by
  unfold evC at h
  exact ⟨ρ, M, S, en, st, h⟩
theorem out_noexc {α β : Type} {r : R α} {rel : Ms → Hp → β → α → Prop} {Q : β → Hp → Prop} (h : Out K T cl E M H (noexc r) rel Q) : Out K T cl noE M H r rel Q := by
  cases r with
  | ok a S => exact h
  | exc k S => exact h.elim
  | bad => exact h.elim
theorem out_noexcE {α β : Type} {r : R α} {rel : Ms → Hp → β → α → Prop} {Q : β → Hp → Prop} (h : Out K T cl E M H (noexc r) rel Q) : Out K T cl E M H r rel Q := by
  cases r with
  | ok a S => exact h
  | exc k S => exact h.elim
  | bad => exact h.elim
theorem out_noexcE_bind {α α' β : Type} {r : R α} {f : α → Store → R α'} {rel : Ms → Hp → β → α' → Prop} {Q : β → Hp → Prop} (h : Out K T cl E M H ((noexc r).bind f) rel Q) : Out K T cl E M H (r.bind f) rel Q := by
  cases r with
  | ok a S => exact h
  | exc k S => exact h.elim
  | bad => exact h.elim
theorem noexc_bind {α β : Type} (r : R α) (f : α → Store → R β) : noexc (r.bind f) = (noexc r).bind fun a S => noexc (f a S) := by cases r <;> rfl
/-- an evaluation behind another one, the end as from an earlier state -/
theorem Out.bindB {α α' β β' : Type} {M1 : Ms} {H1 : Hp} {r : R α} {f : α → Store → R α'} {rel : Ms → Hp → β → α → Prop} {rel' : Ms → Hp → β' → α' → Prop} {Q : β' → Hp → Prop}
    (h : Out K T cl E M1 H1 (r.bind f) rel' Q) (g : Gr M1 H1 M H) : Out K T cl E M H r rel fun b H2 => ∃ M2 S2 a, Gr M H M2 H2 ∧ StOk K T M2 S2 H2 ∧ rel M2 H2 b a ∧ Out K T cl E M1 H1 (f a S2) rel' Q := by
  cases r with
  | ok a S => exact fun b M2 H2 g2 s2 q => ⟨M2, S, a, g2, s2, q, h⟩
  | exc k S =>
    obtain ⟨C, hC, h⟩ := h
    exact ⟨C, hC, fun d M2 H2 hd g2 s2 => h d M2 H2 hd (g.trans g2) s2⟩
  | bad => exact h
/-! an object that nobody hands out is written -/
section
variable {D : Addr} {o : HO}
theorem TupAt.wrx {a : Addr} {xs : List V} (hD : D ∈ M) (h : TupAt K M H a xs) : TupAt K M (upd H D o) a xs := by
  rcases h with ⟨n, ob, d, h⟩ | h
  · exact .inl ⟨n, ob, d, by rw [upd_ne (fun z => n (by rw [z]; exact hD))]; exact h⟩
  · exact .inr h
mutual
theorem Rp.wrx (hD : D ∈ M) : ∀ {v : V} {d : PyData}, Rp K M H v d → Rp K M (upd H D o) v d
  | _, _, .non => .non
  | _, _, .bl b => .bl b
  | _, _, .int i => .int i
  | _, _, .str x => .str x
  | _, _, .lst n h r => .lst n (by rw [upd_ne (fun z => n (by rw [z]; exact hD))]; exact h) (RpA.wrx hD r)
  | _, _, .tup h r => .tup (h.wrx hD) (RpA.wrx hD r)
theorem RpA.wrx (hD : D ∈ M) : ∀ {vs : List V} {ds : List PyData}, RpA K M H vs ds → RpA K M (upd H D o) vs ds
  | _, _, .nil => .nil
  | _, _, .cons h r => .cons (Rp.wrx hD h) (RpA.wrx hD r)
end
theorem RU.wrx {v : V} {u : U} (hD : D ∈ M) (h : RU K M H v u) : RU K M (upd H D o) v u := by
  cases u with
  | d p => exact Rp.wrx hD h
  | ref i => exact h
  | obj a => exact h
  | it ds =>
    obtain ⟨a, xs, e, n, q, r⟩ := h
    exact ⟨a, xs, e, n, by rw [upd_ne (fun z => n (by rw [z]; exact hD))]; exact q, r.wrx hD⟩
  | scr ns =>
    obtain ⟨a, e, q⟩ := h
    refine ⟨a, e, q.imp (fun z => ⟨z.1, ?_⟩) id⟩
    have : a ≠ D := fun y => z.1 (by rw [y]; exact hD)
    rcases z.2 with y | ⟨ob, y⟩
    · exact .inl (by rw [upd_ne this]; exact y)
    · exact .inr ⟨ob, by rw [upd_ne this]; exact y⟩
theorem EnvOk.wrx (hD : D ∈ M) (e : EnvOk K ρ σ M H) : EnvOk K ρ σ M (upd H D o) := ⟨e.len, fun i u h => let ⟨v, h1, h2⟩ := e.at_ i u h; ⟨v, h1, h2.wrx hD⟩⟩
theorem StOk.wrx {xs ys : List V} (hD : D ∈ M.x) (he : H D = some (.lst xs)) (s : StOk K T M S H) : StOk K T M S (upd H D (.lst ys)) where
  len := s.len
  nd := s.nd
  box := fun i a b e1 e2 => by
    have hb := s.box i a b e1 e2
    have n : a ≠ D := fun z => (s.xt D hD).1 (by rw [← z]; exact List.mem_of_getElem? e1)
    cases b with
    | lst ds =>
      obtain ⟨zs, h1, h2⟩ := hb
      exact ⟨zs, by rw [upd_ne n]; exact h1, h2.wrx (.inr hD)⟩
    | dct _ => exact hb
    | ins _ _ => exact hb
  xt := fun a ha => ⟨(s.xt a ha).1, by
    by_cases z : a = D
    · subst z
      exact ⟨_, upd_same, fun ps z => by cases z⟩
    · rw [upd_ne z]
      exact (s.xt a ha).2⟩
  tab := tab_wr s.tab he (fun ps z => by cases z) fun q => lst_code
theorem gr_wrx {M1 : Ms} {H1 : Hp} (hD : H1 D = none) (ht : ∀ ps, o ≠ .tbl ps) (g : Gr M1 H1 M H) : Gr M1 H1 M (upd H D o) where
  pre := g.pre
  ext := g.ext
  keep := fun a u e n t => by rw [upd_ne (ne_of_none e hD)]; exact g.keep a u e n t
  new := g.new
  newb := g.newb
  dom := fun a z => g.dom a (upd_dom (.inl ht) z)
end
/-- the state of the loop: what has been made, what comes -/
def LcAt (K : W.Frag) (T : List (Addr × Str)) (cl : Nat → Option Addr) (c : Cn) (t : Tg) (tests : Xs) (e : Ev.X) (us : List U) (M1 : Ms) (H1 : Hp) (ρ : Rho) (σ : L2.St) (D : Addr) (Q : VK) (i n : Nat) (H : Hp) : Prop :=
  n = us.length - i ∧ i ≤ us.length ∧ ∃ M S acc ds, Gr M1 H1 M H ∧ D ∈ M.x ∧ StOk K T M S H ∧ EnvOk K ρ σ M H ∧ H D = some (.lst acc) ∧ RpA K M H acc ds ∧ acc.length ≤ i ∧
    Out K T cl noE M1 H1 ((compL t (fun ρ S => evC c tests ρ S) (fun ρ S => dataR (evX c e ρ S)) ρ (us.drop i) S).bind fun ys S2 => .ok (.d (.list (ds ++ ys))) S2) (RU K) Q
/-- .. over a list of the store -/
def LcAtB (K : W.Frag) (T : List (Addr × Str)) (cl : Nat → Option Addr) (c : Cn) (t : Tg) (tests : Xs) (e : Ev.X) (b : Nat) (M1 : Ms) (H1 : Hp) (ρ : Rho) (σ : L2.St) (D : Addr) (Q : VK) (i n : Nat) (H : Hp) : Prop :=
  i + n = 100000 ∧ ∃ M S acc ds, Gr M1 H1 M H ∧ D ∈ M.x ∧ StOk K T M S H ∧ EnvOk K ρ σ M H ∧ H D = some (.lst acc) ∧ RpA K M H acc ds ∧ acc.length ≤ i ∧
    Out K T cl noE M1 H1 ((compB t (fun ρ S => evC c tests ρ S) (fun ρ S => dataR (evX c e ρ S)) ρ b n i S).bind fun ys S2 => .ok (.d (.list (ds ++ ys))) S2) (RU K) Q
theorem BoxOk.less {M' : Ms} {a : Addr} {b : Box} (l : ∀ a, a ∈ M' → a ∈ M) (h : BoxOk K M H a b) : BoxOk K M' H a b := by
  cases b with
  | lst ds => obtain ⟨xs, e, r⟩ := h; exact ⟨xs, e, r.less l⟩
  | dct _ => exact h
  | ins _ _ => exact h
theorem lc_conv {own : List Nat} {it : Ev.It} {t : Tg} {tests : Xs} {e : Ev.X} (hsl : ∀ i, i ∈ t.slots → i ∈ own) {σ : L2.St} {H : Hp} {Q : VK} (h : tX K T cl E c (.lc own t it tests e) σ H Q) :
    tLc (tIt K T cl E c it) (tTw K T t) (tCs K T cl noE c tests) (tX K T cl noE c e) own σ H Q := by
  obtain ⟨ρ, M, S, en, st, h⟩ := h
  unfold evX at h
  refine ⟨ρ, M, S, en, st, Out.mono (Out.bind (rel := fun M H J s => Feed K M H J s) (out_noexcE_bind h)) fun J H1 ⟨M1, S1, src, g1, st1, fd, h1⟩ => ?_⟩
  intro D hD
  have en1 := (en.mono g1).wipe own
  cases src with
  | live b =>
    obtain ⟨a, ha, rfl⟩ := fd
    have h1 : Out K T cl E M1 H1 ((noexc (compB t (fun ρ S => evC c tests ρ S) (fun ρ S => dataR (evX c e ρ S)) (wipe ρ own) b 100000 0 S1)).bind fun ys S2 => .ok (U.d (.list ys)) S2) (RU K) Q := h1
    have h2 : Out K T cl noE M1 H1 ((compB t (fun ρ S => evC c tests ρ S) (fun ρ S => dataR (evX c e ρ S)) (wipe ρ own) b 100000 0 S1).bind fun ys S2 => .ok (U.d (.list ([] ++ ys))) S2) (RU K) Q := by
      cases e1 : compB t (fun ρ S => evC c tests ρ S) (fun ρ S => dataR (evX c e ρ S)) (wipe ρ own) b 100000 0 S1 with
      | ok ys S2 => rw [e1] at h1; exact h1
      | exc k S2 => rw [e1] at h1; exact h1.elim
      | bad => rw [e1] at h1; exact h1.elim
    refine ⟨fun i m H => LcAtB K T cl c t tests e b M1 H1 (wipe ρ own) (L2.wipe σ own) D Q i m H, ⟨100000, rfl, M1.hide D, S1, [], [], gr_hide st1 hD, List.mem_cons_self, st_hide st1 hD, en1.mono (gr_hide st1 hD), upd_same, .nil, Nat.le_refl _, h2⟩, ?_⟩
    rintro i m H ⟨him, M2, S2, acc, ds, g2, hDx, st2, en2, hacc, ra, hal, ho⟩
    cases m with
    | zero => unfold compB at ho; exact ho.elim
    | succ m =>
      unfold compB at ho
      cases eb : S2[b]? with
      | none => rw [eb] at ho; exact ho.elim
      | some bx =>
        rw [eb] at ho
        cases bx with
        | dct _ => exact ho.elim
        | ins _ _ => exact ho.elim
        | lst vs =>
          have e3 := g2.get ha
          obtain ⟨xs, e4, r4⟩ := st2.lst e3 eb
          cases ei : vs[i]? with
          | none =>
            dsimp only at ho
            rw [ei] at ho
            left
            refine ⟨⟨xs, SqL.of e4, by rw [r4.length]; exact List.getElem?_eq_none_iff.mp ei⟩, ?_⟩
            have ho : Out K T cl noE M1 H1 (.ok (U.d (.list (ds ++ []))) S2) (RU K) Q := ho
            rw [List.append_nil] at ho
            have less : ∀ a, a ∈ (⟨M2.b, M1.x⟩ : Ms) → a ∈ M2 := fun a z => z.imp id (g2.ext a)
            refine ho (.ref D) ⟨M2.b, M1.x⟩ H ⟨g2.pre, fun _ z => z, g2.keep, fun a z => ?_, g2.newb, g2.dom⟩ ⟨st2.len, st2.nd, fun j a b e1 e2 => (st2.box j a b e1 e2).less less, fun a ha => st2.xt a (g2.ext a ha), st2.tab⟩ (.lst ?_ hacc (ra.less less))
            · rcases z with z | z
              · exact (g2.newb a z).imp .inl id
              · exact .inl (.inr z)
            · rintro (z | z)
              · exact (st2.xt D hDx).1 z
              · obtain ⟨o, eo, _⟩ := (st1.xt D z).2
                rw [hD] at eo
                cases eo
          | some u =>
            dsimp only at ho
            rw [ei] at ho
            right
            obtain ⟨v, e5, r5⟩ := r4.get ei
            refine ⟨⟨xs, v, SqL.of e4, e5⟩, fun H' => LcAtB K T cl c t tests e b M1 H1 (wipe ρ own) (L2.wipe σ own) D Q (i + 1) m H', fun H' w => ⟨m, by omega, w⟩, fun x H' ⟨eH, hx⟩ => ?_⟩
            subst eH
            have hx := hx xs (SqL.of e4)
            rw [e5] at hx
            cases hx
            dsimp only at ho
            split at ho
            · exact ho.elim
            · rename_i ρ1 eb
              refine ⟨_, M2, S2, .d u, ρ1, en2, st2, r5, eb, fun σ1 en4 hl1 hw1 => ⟨?_, ?_⟩⟩
              · rw [L2.wipe_length] at hl1
                refine wipe_ext hl1 fun j hj => ?_
                rw [hw1 j fun z => hj (hsl j z), wipe_out hj]
              · rw [bind_assoc] at ho
                refine ⟨ρ1, M2, S2, en4, st2, Out.mono (Out.bindB (rel := eqB) ho g2) fun b H3 ⟨M3, S3, b', g4, st4, eb', ho3⟩ => ?_⟩
                cases (show b = b' from eb')
                have acc4 := g4.keep D _ hacc (st2.xt D hDx).1 fun ps z => by cases z
                have hDx3 : D ∈ M3.x := g4.ext D hDx
                cases b with
                | false =>
                  rw [if_neg (by decide)]
                  rw [if_neg (by decide)] at ho3
                  exact ⟨by omega, M3, S3, acc, ds, g2.trans g4, hDx3, st4, en2.mono g4, acc4, ra.mono g4, by omega, ho3⟩
                | true =>
                  rw [if_pos rfl]
                  rw [if_pos rfl, bind_assoc] at ho3
                  unfold dataR at ho3
                  rw [bind_assoc] at ho3
                  refine ⟨ρ1, M3, S3, en4.mono g4, st4, Out.mono (Out.bindB (rel := RU K) ho3 (g2.trans g4)) fun y H4 ⟨M4, S4, w, g5, st5, ry, ho4⟩ => ?_⟩
                  have acc5 := g5.keep D _ acc4 (st4.xt D hDx3).1 fun ps z => by cases z
                  have hDx4 : D ∈ M4.x := g5.ext D hDx3
                  refine ⟨acc, acc5, by rw [sizeLine_eq]; omega, by omega, M4, S4, acc ++ [y], ?_⟩
                  cases w with
                  | d p =>
                    refine ⟨ds ++ [p], gr_wrx hD (fun ps z => by cases z) ((g2.trans g4).trans g5), hDx4, st5.wrx hDx4 acc5, ((en2.mono g4).mono g5).wrx (.inr hDx4), upd_same, (((ra.mono g4).mono g5).append (.cons ry .nil)).wrx (.inr hDx4), by rw [List.length_append]; simp; omega, ?_⟩
                    have ho4 : Out K T cl noE M1 H1 (((compB t (fun ρ S => evC c tests ρ S) (fun ρ S => dataR (evX c e ρ S)) (wipe ρ own) _ m (i + 1) S4).bind fun ys S3 => R.ok (p :: ys) S3).bind fun ys S2 => .ok (.d (.list (ds ++ ys))) S2) (RU K) Q := ho4
                    rw [bind_assoc] at ho4
                    simp only [List.append_assoc, List.singleton_append]
                    exact ho4
                  | ref j => exact ho4.elim
                  | scr ns => exact ho4.elim
                  | obj a => exact ho4.elim
                  | it ds => exact ho4.elim
  | fix us =>
    have h1 : Out K T cl E M1 H1 (if us.length ≤ line then (noexc (compL t (fun ρ S => evC c tests ρ S) (fun ρ S => dataR (evX c e ρ S)) (wipe ρ own) us S1)).bind fun ys S2 => .ok (U.d (.list ys)) S2 else .bad) (RU K) Q := h1
    split at h1
    case isFalse => exact h1.elim
    rename_i hlen
    rw [line_eq] at hlen
    have h2 : Out K T cl noE M1 H1 ((compL t (fun ρ S => evC c tests ρ S) (fun ρ S => dataR (evX c e ρ S)) (wipe ρ own) us S1).bind fun ys S2 => .ok (U.d (.list ([] ++ ys))) S2) (RU K) Q := by
      cases e1 : compL t (fun ρ S => evC c tests ρ S) (fun ρ S => dataR (evX c e ρ S)) (wipe ρ own) us S1 with
      | ok ys S2 => rw [e1] at h1; exact h1
      | exc k S2 => rw [e1] at h1; exact h1.elim
      | bad => rw [e1] at h1; exact h1.elim
    refine ⟨fun i m H => LcAt K T cl c t tests e us M1 H1 (wipe ρ own) (L2.wipe σ own) D Q i m H, ⟨us.length, rfl, Nat.zero_le _, M1.hide D, S1, [], [], gr_hide st1 hD, List.mem_cons_self, st_hide st1 hD, en1.mono (gr_hide st1 hD), upd_same, .nil, Nat.le_refl _, h2⟩, ?_⟩
    rintro i m H ⟨rfl, hi, M2, S2, acc, ds, g2, hDx, st2, en2, hacc, ra, hal, ho⟩
    obtain ⟨f1, f2⟩ := fd M2 H g2 i
    by_cases hlt : i < us.length
    · right
      have hu : us[i]? = some us[i] := by simp [hlt]
      generalize us[i] = u at hu
      obtain ⟨f3, f4⟩ := f2 u hu
      refine ⟨f3, fun H' => LcAt K T cl c t tests e us M1 H1 (wipe ρ own) (L2.wipe σ own) D Q (i + 1) (us.length - (i + 1)) H', fun H' w => ⟨_, by omega, w⟩, fun x H' hy => ?_⟩
      obtain ⟨g3, st3, rx⟩ := f4 x H' hy T S2 st2
      have hd : us.drop i = u :: us.drop (i + 1) := by
        rw [List.drop_eq_getElem_cons hlt]
        have := hu
        simp [hlt] at this
        rw [this]
      rw [hd] at ho
      unfold compL at ho
      have en3 := en2.mono g3
      have g13 := g2.trans g3
      have nb : ∀ {Mx : Ms}, Gr M2 H' Mx H' → True := fun _ => trivial
      have acc3 := g3.keep D _ hacc (st2.xt D hDx).1 fun ps z => by cases z
      split at ho
      · exact ho.elim
      · rename_i ρ1 eb
        refine ⟨_, M2, S2, u, ρ1, en3, st3, rx, eb, fun σ1 en4 hl1 hw1 => ⟨?_, ?_⟩⟩
        · rw [L2.wipe_length] at hl1
          refine wipe_ext hl1 fun j hj => ?_
          rw [hw1 j fun z => hj (hsl j z), wipe_out hj]
        · rw [bind_assoc] at ho
          refine ⟨ρ1, M2, S2, en4, st3, Out.mono (Out.bindB (rel := eqB) ho g13) fun b H3 ⟨M3, S3, b', g4, st4, eb', ho3⟩ => ?_⟩
          cases (show b = b' from eb')
          have acc4 := g4.keep D _ acc3 (st3.xt D hDx).1 fun ps z => by cases z
          have hDx3 : D ∈ M3.x := g4.ext D hDx
          cases b with
          | false =>
            rw [if_neg (by decide)]
            rw [if_neg (by decide)] at ho3
            exact ⟨rfl, hlt, M3, S3, acc, ds, g13.trans g4, hDx3, st4, en3.mono g4, acc4, (ra.mono g3).mono g4, by omega, ho3⟩
          | true =>
            rw [if_pos rfl]
            rw [if_pos rfl, bind_assoc] at ho3
            unfold dataR at ho3
            rw [bind_assoc] at ho3
            refine ⟨ρ1, M3, S3, en4.mono g4, st4, Out.mono (Out.bindB (rel := RU K) ho3 (g13.trans g4)) fun y H4 ⟨M4, S4, w, g5, st5, ry, ho4⟩ => ?_⟩
            have acc5 := g5.keep D _ acc4 (st4.xt D hDx3).1 fun ps z => by cases z
            have hDx4 : D ∈ M4.x := g5.ext D hDx3
            refine ⟨acc, acc5, by omega, rfl, hlt, M4, S4, acc ++ [y], ?_⟩
            cases w with
            | d p =>
              refine ⟨ds ++ [p], gr_wrx hD (fun ps z => by cases z) ((g13.trans g4).trans g5), hDx4, st5.wrx hDx4 acc5, ((en3.mono g4).mono g5).wrx (.inr hDx4), upd_same, ((((ra.mono g3).mono g4).mono g5).append (.cons ry .nil)).wrx (.inr hDx4), by rw [List.length_append]; simp; omega, ?_⟩
              have ho4 : Out K T cl noE M1 H1 (((compL t (fun ρ S => evC c tests ρ S) (fun ρ S => dataR (evX c e ρ S)) (wipe ρ own) (us.drop (i + 1)) S4).bind fun ys S3 => R.ok (p :: ys) S3).bind fun ys S2 => .ok (.d (.list (ds ++ ys))) S2) (RU K) Q := ho4
              rw [bind_assoc] at ho4
              simp only [List.append_assoc, List.singleton_append]
              exact ho4
            | ref j => exact ho4.elim
            | scr ns => exact ho4.elim
            | obj a => exact ho4.elim
            | it ds => exact ho4.elim
    · left
      have ei : i = us.length := by omega
      have e0 : us[i]? = none := by rw [ei]; simp
      refine ⟨f1 e0, ?_⟩
      have hd : us.drop i = [] := by rw [ei]; simp
      rw [hd] at ho
      unfold compL at ho
      have ho : Out K T cl noE M1 H1 (.ok (U.d (.list (ds ++ []))) S2) (RU K) Q := ho
      rw [List.append_nil] at ho
      have less : ∀ a, a ∈ (⟨M2.b, M1.x⟩ : Ms) → a ∈ M2 := fun a z => z.imp id (g2.ext a)
      refine ho (.ref D) ⟨M2.b, M1.x⟩ H ⟨g2.pre, fun _ z => z, g2.keep, fun a z => ?_, g2.newb, g2.dom⟩ ⟨st2.len, st2.nd, fun j a b e1 e2 => (st2.box j a b e1 e2).less less, fun a ha => st2.xt a (g2.ext a ha), st2.tab⟩ (.lst ?_ hacc (ra.less less))
      · rcases z with z | z
        · exact (g2.newb a z).imp .inl id
        · exact .inl (.inr z)
      · rintro (z | z)
        · exact (st2.xt D hDx).1 z
        · obtain ⟨o, eo, _⟩ := (st1.xt D z).2
          rw [hD] at eo
          cases eo
theorem px_lc {elt tg iter : Expr} {ifs : List Expr} {scope : Scope} {own : List (Str × Nat)} {pos : Pos} {it : Ev.It} {t : Tg} {tests : Xs} {e : Ev.X} (hc : X.calm = true) (hN : X.N.Nodup) (hi : PI X tg iter (tIt X.K T cl E c it)) (ok : BlkOk X.N X.env.scope scope own)
    (hg : ∀ (s : Shared) (H : Hp) (C : Addr) (cl : List (Str × Addr)) (fp : List Addr), PG (X.blk s H scope (compEnvC scope cl C X.env) fp) tg (tTw X.K T t))
    (ht : ∀ (s : Shared) (H : Hp) (C : Addr) (cl' : List (Str × Addr)) (fp : List Addr), PTs (X.blk s H scope (compEnvC scope cl' C X.env) fp) ifs (tCs X.K T cl noE c tests))
    (he : ∀ (s : Shared) (H : Hp) (C : Addr) (cl' : List (Str × Addr)) (fp : List Addr), PE (X.blk s H scope (compEnvC scope cl' C X.env) fp) elt (tX X.K T cl noE c e)) (hs : ∀ x, foldedSetIterable iter X.env x = pure x) (hsl : ∀ i, i ∈ t.slots → i ∈ own.map (·.2)) :
    PE X (.ListComp elt [⟨tg, iter, ifs, 0⟩] scope pos) (tX X.K T cl E c (.lc (own.map (·.2)) t it tests e)) :=
  pe_imp (pe_lc hc hN hi ok hg ht he hs) fun σ H Q h => lc_conv hsl h
end
end Ev
end

section
set_option Elab.async false
set_option linter.all false
set_option autoImplicit false
set_option maxRecDepth 100000
set_option maxHeartbeats 4000000
/-! # A lambda handed to the def that tells the error; all expressions -/
namespace Ev
open PySem PySem.Spec PyProof.Rows L2
section
variable {T : List (Addr × Str)} {cl : Nat → Option Addr} {E : XK} {c : Cn} {X : Cx} {g : Cfg} {N : List Str} {sc : Scope} {fb : Fb} {k l : Nat}
/-- in a comprehension's block -/
theorem Good.blk (G : Good g T cl c k l X N sc fb) (s : Shared) (H : Hp) (scope : Scope) (C : Addr) (cells : List (Str × Addr)) (fp : List Addr) : Good g T cl c k l (X.blk s H scope (compEnvC scope cells C X.env) fp) N (relS scope sc) (fbBlk scope (relS scope sc)) where
  names := G.names
  nd := G.nd
  scope := by rw [← G.scope]; rfl
  calm := G.calm
  room := G.room
  fbk := fun x h => by
    unfold fbBlk at h
    rw [Bool.or_eq_true, decide_eq_true_eq, decide_eq_true_eq] at h
    refine h.imp (fun z => ?_) fun z => ?_
    · show (scope.names.lookup x == some .cell) = true
      rw [z]
      decide
    · rw [← G.scope] at z
      exact z
  fns := G.fns
  low := fun lf e => ⟨(G.low lf e).1, fun hl => (G.low lf e).2 hl⟩
  clss := G.clss
  clst := G.clst
  nms := G.nms
  errs := G.errs
  ar := G.ar
  arL := G.arL
  blts := G.blts
  cons := G.cons
theorem takes_no {X : Cx} : L2N.Takes X (fun d a _ H => noE d a H) := takesN0
/-- in a lambda's body -/
theorem Good.lam (G : Good g T cl c k l X N sc fb) {lf : CF} (hl : c.low = some lf) (A : Around) (outer : List Env) (s : Shared) (H : Hp) (E : XK) (scope : Scope) (f c' : Addr) (hr : Room l (A.deeper (LamX.lamEnv X scope s.heap.objs.size f c'))) :
    Good g T cl ⟨lf, none, c.nm⟩ l l (lamN X A outer s H E scope f c') N scope (fun _ => false) where
  names := G.names
  nd := G.nd
  scope := rfl
  calm := rfl
  room := hr
  fbk := fun x h => by cases h
  fns := fun x f h => by
    obtain ⟨a, fd, ps, fn, e1, e2, e3, e4, e5, F, F2⟩ := G.fns x f h
    exact ⟨a, fd, ps, fn, e1, e2, e3, e4, e5, F2 lf hl, fun lf' z => by cases z⟩
  low := fun lf' z => by cases z
  clss := G.clss
  clst := G.clst
  nms := G.nms
  errs := G.errs
  ar := G.arL lf hl
  arL := fun lf' z => by cases z
  blts := G.blts
  cons := G.cons
theorem takes_lam {A : Around} {outer : List Env} {s : Shared} {H : Hp} {scope : Scope} {f c' : Addr} : L2N.Takes (lamN X A outer s H E scope f c') (fun d a _ H => E d a H) := L2N.takes_of rfl rfl rfl rfl
/-- x(lambda: body) -/
theorem px_err {x : Str} {body : Expr} {scope : Scope} {p lpos pos : Pos} {ir : Ev.X} (G : Good g T cl c k l X N sc fb) (hx : g.errs x = true) (hlm : g.lam = true) (hg : glB sc x = true) (ho : odd x = false) (hL : LamX.lamSB sc scope = true)
    (hb : ∀ lf, c.low = some lf → ∀ (A : Around) (outer : List Env) (s : Shared) (H : Hp) (E : XK) (f c' : Addr), Room l (A.deeper (LamX.lamEnv X scope s.heap.objs.size f c')) → PE (lamN X A outer s H E scope f c') body (tX X.K T cl E ⟨lf, none, c.nm⟩ ir)) :
    PE X (.Call (.Name x p) [.Lambda ⟨[], [], none, [], [], none, []⟩ body scope lpos] [] pos) (tX X.K T cl E c (.err ir)) := by
  cases hl : c.low with
  | none =>
    refine ⟨fun pins s σ H Q I ⟨ρ, M, S, en, st, h⟩ => ?_⟩
    unfold evX at h
    rw [hl] at h
    exact h.elim
  | some lf =>
    obtain ⟨gA, pg, bg, sg, dV, kV, doc, pm, cdv, ct, oc, an, od, osl, Ng, a, e1, e2, e3, e4, e5, e6, e7, e8, e9, e10⟩ := G.errs x hx
    obtain ⟨hlk, hlam⟩ := G.low lf hl
    obtain ⟨cA, P, t1, t2, t3, t4⟩ := hlam hlm
    have hr : Room (l + 2) X.A := G.room.mono hlk
    refine pe_imp (pe_lamN (T := T) (TT := TTerr X.K T cl c.nm) (t := fun E' => tX X.K T cl E' ⟨lf, none, c.nm⟩ ir) (k := l) (gl_of G.scope hg) e1 e2 e3 e4 e5 e6 e7 e8
      (e10 X rfl rfl rfl rfl rfl (hr.mono (by omega)) _) t1 t2 t3 t4 hr (LamX.lamS_by (by rw [G.scope]; exact hL)) rfl (fun q cl pm cv ctv => rfl) (hb lf hl) (odd_of ho).1 (odd_of e9).1 (odd_of e9).2.1) fun σ H Q ⟨ρ, M, S, en, st, h⟩ => ?_
    refine ⟨st.tab, fun H1 hx1 ht1 => ?_⟩
    have g1 : Gr M H M H1 := gr_ext hx1
    have st1 := st_ext st hx1 ht1
    refine ⟨ρ, M, S, en.mono g1, st1, ?_⟩
    unfold evX at h
    rw [hl] at h
    have h := Out.later h g1
    dsimp only at h
    cases e : evX ⟨lf, none, c.nm⟩ ir ρ S with
    | ok u S1 =>
      rw [e] at h
      exact fun v M2 H2 g2 st2 r2 => h (.str ⟨#[]⟩) M2 H2 g2 st2 (Rp.str _)
    | exc i S1 =>
      rw [e] at h
      dsimp only at h
      cases ez : c.nm i with
      | none => rw [ez] at h; exact h.elim
      | some z =>
        rw [ez] at h
        obtain ⟨C, ec⟩ := G.nms i z ez
        exact ⟨C, ec, fun d M2 H2 hd g2 st2 => ⟨M2, S1, C, i, z, hd, st2, rfl, ec, ez, fun M3 H3 g3 st3 => h (.str z) M3 H3 (g2.trans g3) st3 (Rp.str _)⟩⟩
    | bad =>
      rw [e] at h
      exact h.elim
end
end Ev
end

section
set_option Elab.async false
set_option linter.all false
set_option autoImplicit false
set_option maxRecDepth 100000
set_option maxHeartbeats 4000000
/-! # All expressions -/
namespace Ev
open PySem PySem.Spec PyProof.Rows L2
def isBoolE : Expr → Bool
  | .BoolOp _ _ _ => true
  | _ => false
section
variable {T : List (Addr × Str)} {cl : Nat → Option Addr} {E : XK} {c : Cn} {X : Cx} {g : Cfg} {N : List Str} {sc : Scope} {fb : Fb} {k l : Nat}
/-- what the compiler's answer promises -/
def EOk (T : List (Addr × Str)) (cl : Nat → Option Addr) (E : XK) (c : Cn) (X : Cx) (e : Expr) (ir : Ev.X) : Prop :=
  PE X e (tX X.K T cl E c ir) ∧ PT X e (tTr X.K T cl E c ir) ∧ (isBoolE e = true → PW X e (tTr X.K T cl E c ir)) ∧
    (isComp e = true → ∀ (i : Nat) (y : Str) (py spos : Pos), X.N[i]? = some y → X.env.scope.names.lookup y = some .local → swapsWith e (some (.Name y py)) spos.line X.env = pure true → PS X (.Assign [.Name y py] e spos) (tAsg (tX X.K T cl E c ir) (gName i)))
theorem ps_imp {st : Stmt} {t t' : TS} (h : PS X st t) (i : ∀ D σ H, t' D σ H → t D σ H) : PS X st t' := ⟨fun pins s σ H D I q => h.run pins s σ H D I (i D σ H q)⟩
theorem eok_plain {e : Expr} {ir : Ev.X} (hb : isBoolE e = false) (hc : isComp e = false) (he : ∀ whole, isTrue e X.env whole = (do let v ← whole; standAt e.pos; holding [v] (truthy v))) (h : PE X e (tX X.K T cl E c ir)) : EOk T cl E c X e ir :=
  ⟨h, pt_plain h he, fun z => (by rw [hb] at z; cases z), fun z => by rw [hc] at z; cases z⟩
theorem cL_ok {f : Expr → Option Ev.X} (h : ∀ e ir, f e = some ir → PE X e (tX X.K T cl E c ir)) : ∀ {es : List Expr} {xs : Xs}, cL f es = some xs → PA X es (tXs X.K T cl E c xs)
  | [], xs, e => by unfold cL at e; cases e; exact pax_nil
  | a :: r, xs, e => by
    unfold cL at e
    split at e
    · cases e
    · rename_i hs
      obtain ⟨x, e1, e⟩ := bindO e
      obtain ⟨ys, e2, rfl⟩ := map_some e
      exact pax_cons (by simpa using hs) (h _ _ e1) (cL_ok h e2)
theorem cL_nil {f : Expr → Option Ev.X} {xs : Xs} (h : cL f [] = some xs) : xs = .nil := by unfold cL at h; cases h; rfl
theorem cO_ok {f : Expr → Option Ev.X} (h : ∀ e ir, f e = some ir → PE X e (tX X.K T cl E c ir)) : ∀ {o : Option Expr} {xs : Xs}, cO f o = some xs → PO X o (tPt X.K T cl E c xs)
  | none, xs, e => by unfold cO at e; cases e; exact pox_none
  | some a, xs, e => by
    unfold cO at e
    obtain ⟨x, e1, rfl⟩ := map_some e
    exact pox_some (h _ _ e1)
theorem fold_ok {e : Expr} (h : isSet e = false) : ∀ x, foldedSetIterable e X.env x = pure x := fun x => by
  cases e <;> first | rfl | cases h
theorem own_ix {scope : Scope} : True := trivial
theorem isi_name {f : Str} (h : decide (f = "isinstance") = true) : f = "isinstance" := of_decide_eq_true h
theorem cE_ok (T : List (Addr × Str)) (cl : Nat → Option Addr) (g : Cfg) (N : List Str) : ∀ n, (∀ {c : Cn} {k l : Nat} {X : Cx} {sc : Scope} {fb : Fb} {E : XK}, Good g T cl c k l X N sc fb → L2N.Takes X (fun d a _ H => E d a H) → ∀ e ir, cE g N n sc fb e = some ir → EOk T cl E c X e ir) ∧
    (∀ {c : Cn} {k l : Nat} {X : Cx} {sc : Scope} {fb : Fb} {E : XK}, Good g T cl c k l X N sc fb → L2N.Takes X (fun d a _ H => E d a H) → ∀ tg e ir, cI g N n sc fb (isTup tg) e = some ir → PI X tg e (tIt X.K T cl E c ir)) := by
  intro n
  induction n with
  | zero => exact ⟨fun _ _ e ir h => (by unfold cE at h; cases h), fun _ _ tg e ir h => (by unfold cI at h; cases h)⟩
  | succ n ih =>
    obtain ⟨ihE, ihI⟩ := ih
    refine ⟨fun {c k l X sc fb E} G tk e ir h => ?_, fun {c k l X sc fb E} G tk tg e ir h => ?_⟩
    · have hu : X.A.units + 65 < cLine := by have := G.room.un; omega
      have ie : ∀ e ir, cE g N n sc fb e = some ir → PE X e (tX X.K T cl E c ir) := fun e ir h => (ihE G tk e ir h).1
      unfold cE at h
      split at h
      · cases h; exact eok_plain rfl rfl (fun _ => rfl) (px_con pe_int fun _ _ => .int _)
      · cases h; exact eok_plain rfl rfl (fun _ => rfl) (px_con pe_bl fun _ _ => .bl _)
      · cases h; exact eok_plain rfl rfl (fun _ => rfl) (px_con pe_non fun _ _ => .non)
      · cases h; exact eok_plain rfl rfl (fun _ => rfl) (px_con pe_str fun _ _ => .str _)
      · split at h
        · cases h
        · rename_i ho
          have ho := by simpa using ho
          split at h
          · rename_i hv
            obtain ⟨i, hi, rfl⟩ := map_some h
            exact eok_plain rfl rfl (fun _ => rfl) (px_loc G.names G.scope ho hv hi)
          · split at h
            · rename_i hg
              obtain ⟨p, hp, rfl⟩ := map_some h
              obtain ⟨u, v, e1, e2, e3⟩ := G.cons _ _ hp
              exact eok_plain rfl rfl (fun _ => rfl) (px_con (pe_glob (gl_of G.scope hg) e1 e2 (odd_of ho).1) e3)
            · cases h
      · obtain ⟨x, h1, h⟩ := bindO h
        obtain ⟨y, h2, rfl⟩ := map_some h
        exact eok_plain rfl rfl (fun _ => rfl) (px_bin (ie _ _ h1) (ie _ _ h2))
      · obtain ⟨x, h1, rfl⟩ := map_some h
        exact eok_plain rfl rfl (fun _ => rfl) (px_neg (ie _ _ h1))
      · obtain ⟨x, h1, rfl⟩ := map_some h
        exact ⟨px_not (ie _ _ h1), pt_not' (ihE G tk _ _ h1).2.1, fun z => (by cases z), fun z => by cases z⟩
      · split at h
        · cases h
        · rename_i hm
          obtain ⟨x, h1, h⟩ := bindO h
          obtain ⟨y, h2, rfl⟩ := map_some h
          have hm := by simpa using hm
          exact ⟨px_cmp hu hm (ie _ _ h1) (ie _ _ h2), pt_cmp' hu hm (ie _ _ h1) (ie _ _ h2), fun z => (by cases z), fun z => by cases z⟩
      · split at h
        · cases h
        · rename_i hm
          obtain ⟨x, h1, h⟩ := bindO h
          obtain ⟨y, h2, h⟩ := bindO h
          obtain ⟨z, h3, rfl⟩ := map_some h
          have hm := by simpa using hm
          exact ⟨px_chn hu hm (ie _ _ h1) (ie _ _ h2) (ie _ _ h3), pt_chn' hu hm (ie _ _ h1) (ie _ _ h2) (ie _ _ h3), fun z => (by cases z), fun z => by cases z⟩
      · have q := ihE G tk _ _ h
        exact ⟨pe_one q.1, (pw_and1 q.2.1).pt, fun _ => pw_and1 q.2.1, fun z => by cases z⟩
      · obtain ⟨x, h1, h⟩ := bindO h
        obtain ⟨y, h2, rfl⟩ := map_some h
        have qa := ihE G tk _ _ h1
        have qb := ihE G tk _ _ h2
        have w := pw_and' qa.2.1 (qb.2.2.1 rfl)
        exact ⟨px_and qa.1 qb.1, w.pt, fun _ => w, fun z => by cases z⟩
      · have q := ihE G tk _ _ h
        exact ⟨pe_one q.1, (pw_or1 q.2.1).pt, fun _ => pw_or1 q.2.1, fun z => by cases z⟩
      · obtain ⟨x, h1, h⟩ := bindO h
        obtain ⟨y, h2, rfl⟩ := map_some h
        have qa := ihE G tk _ _ h1
        have qb := ihE G tk _ _ h2
        have w := pw_or' qa.2.1 (qb.2.2.1 rfl)
        exact ⟨px_or qa.1 qb.1, w.pt, fun _ => w, fun z => by cases z⟩
      · obtain ⟨x, h1, h⟩ := bindO h
        obtain ⟨y, h2, h⟩ := bindO h
        obtain ⟨z, h3, rfl⟩ := map_some h
        have q1 := ihE G tk _ _ h1
        have q2 := ihE G tk _ _ h2
        have q3 := ihE G tk _ _ h3
        exact ⟨px_ife q1.2.1 q2.1 q3.1, pt_ife' q1.2.1 q2.2.1 q3.2.1, fun z => (by cases z), fun z => by cases z⟩
      · obtain ⟨xs, h1, rfl⟩ := map_some h
        exact eok_plain rfl rfl (fun _ => rfl) (px_lst (cL_ok ie h1))
      · obtain ⟨xs, h1, rfl⟩ := map_some h
        exact eok_plain rfl rfl (fun _ => rfl) (px_tup (cL_ok ie h1))
      · obtain ⟨x, h1, rfl⟩ := map_some h
        exact eok_plain rfl rfl (fun _ => rfl) (px_rev (ie _ _ h1))
      · obtain ⟨x, h1, h⟩ := bindO h
        obtain ⟨y, h2, h⟩ := bindO h
        obtain ⟨z, h3, rfl⟩ := map_some h
        exact eok_plain rfl rfl (fun _ => rfl) (px_slc (ie _ _ h1) (cO_ok ie h2) (cO_ok ie h3))
      · split at h
        · cases h
        · rename_i hs
          obtain ⟨x, h1, h⟩ := bindO h
          obtain ⟨y, h2, rfl⟩ := map_some h
          exact eok_plain rfl rfl (fun _ => rfl) (px_idx (by simpa using hs) (ie _ _ h1) (ie _ _ h2))
      · -- a comprehension
        split at h
        · rename_i elt tg it ifs kk scope pos hc
          simp only [Bool.and_eq_true, decide_eq_true_eq, Bool.not_eq_true'] at hc
          obtain ⟨⟨⟨hc1, hc2⟩, hc3⟩, hc4⟩ := hc
          subst hc2
          obtain ⟨i, h1, h⟩ := bindO h
          obtain ⟨t, h2, h⟩ := bindO h
          split at h
          · cases h
          · rename_i hsl
            have hsl := by simpa using hsl
            obtain ⟨cs, h3, h⟩ := bindO h
            obtain ⟨x, h4, rfl⟩ := map_some h
            have hcalm := G.calm
            have Gb := fun s H C cells fp => G.blk s H scope C cells fp
            have pG : ∀ (s : Shared) (H : Hp) (C : Addr) (cells : List (Str × Addr)) (fp : List Addr), PG (X.blk s H scope (compEnvC scope cells C X.env) fp) tg (tTw X.K T t) := fun s H C cells fp =>
              (tgw_ok (Gb s H C cells fp).names G.nd hcalm (Gb s H C cells fp).scope (Gb s H C cells fp).fbk n).1 _ _ h2
            have pT : ∀ (s : Shared) (H : Hp) (C : Addr) (cells : List (Str × Addr)) (fp : List Addr), PTs (X.blk s H scope (compEnvC scope cells C X.env) fp) ifs (tCs X.K T cl noE c cs) := fun s H C cells fp => by
              cases ifs with
              | nil =>
                cases cL_nil h3
                exact ptsx_nil
              | cons a r =>
                cases r with
                | cons b r => simp at hc4
                | nil =>
                  unfold cL at h3
                  split at h3
                  · cases h3
                  · obtain ⟨z, h5, h3⟩ := bindO h3
                    obtain ⟨ys, h6, rfl⟩ := map_some h3
                    exact ptsx_one (ihE (Gb s H C cells fp) takes_no _ _ h5).2.1
            have pX : ∀ (s : Shared) (H : Hp) (C : Addr) (cells : List (Str × Addr)) (fp : List Addr), PE (X.blk s H scope (compEnvC scope cells C X.env) fp) elt (tX X.K T cl noE c x) := fun s H C cells fp => (ihE (Gb s H C cells fp) takes_no _ _ h4).1
            have hN : X.N.Nodup := by rw [G.names]; exact G.nd
            have hB : BlkOk X.N X.env.scope scope (ownOf N scope) := blkOk_by (by rw [G.names, G.scope]; exact hc1)
            have hsl : ∀ i, i ∈ t.slots → i ∈ (ownOf N scope).map (·.2) := fun j hj => by
              have := hsl j hj
              simpa using this
            have main := px_lc (pos := pos) (E := E) (c := c) hcalm hN (ihI G tk tg it i h1) hB pG pT pX (fold_ok hc3) hsl
            exact ⟨main, pt_plain main fun _ => rfl, fun z => (by cases z), fun _ j y py spos hj hl hsw =>
              ps_imp (ps_setLc hcalm hN hj hl hsw (ihI G tk tg it i h1) hB pG pT pX (fold_ok hc3)) fun D σ H q => lc_conv hsl q⟩
        · cases h
      · -- a lambda handed over
        split at h
        · rename_i hc
          simp only [Bool.and_eq_true, Bool.not_eq_true'] at hc
          obtain ⟨⟨⟨⟨h1, h2⟩, h3⟩, h4⟩, h5⟩ := hc
          split at h
          · obtain ⟨x, h6, rfl⟩ := map_some h
            exact eok_plain rfl rfl (fun _ => rfl) (px_err G h1 h2 h3 h4 h5 fun lf hl A outer s H E f c' hr => (ihE (G.lam hl A outer s H E _ f c' hr) takes_lam _ _ h6).1)
          · cases h
        · cases h
      · -- a call
        split at h
        · cases h
        · rename_i hc
          simp only [Bool.or_eq_true, Bool.not_eq_true', not_or, Bool.not_eq_true, Bool.not_eq_false] at hc
          obtain ⟨h1, h2⟩ := hc
          split at h
          · rename_i i hi
            split at h
            · cases h
            · obtain ⟨xs, h3, rfl⟩ := map_some h
              exact eok_plain rfl rfl (fun _ => rfl) (px_call G tk h1 h2 hi (cL_plain h3) (fun e => by subst e; exact cL_nil h3) (cL_ok ie h3))
          · split at h
            · split at h
              · cases h
              · rename_i hs
                split at h
                · rename_i b hset
                  obtain ⟨x, h4, rfl⟩ := map_some h
                  exact eok_plain rfl rfl (fun _ => rfl) (px_lenset G h2 hset (ie _ _ h4))
                · obtain ⟨b, h3, h⟩ := bindO h
                  obtain ⟨x, h4, rfl⟩ := map_some h
                  exact eok_plain rfl rfl (fun _ => rfl) (px_blt G h1 h2 h3 (by simpa using hs) (ie _ _ h4))
            · split at h
              · rename_i hc
                simp only [Bool.and_eq_true, Bool.not_eq_true', decide_eq_true_eq] at hc
                obtain ⟨⟨h3, h4⟩, h5⟩ := hc
                subst h3
                obtain ⟨D, h6, h⟩ := bindO h
                obtain ⟨x, h7, rfl⟩ := map_some h
                exact eok_plain rfl rfl (fun _ => rfl) (px_isi G h2 h4 h6 h5 (ie _ _ h7))
              · cases h
            · cases h
      · split at h
        · cases h
        · rename_i hc
          simp only [Bool.or_eq_true, Bool.not_eq_true', not_or, Bool.not_eq_true, Bool.not_eq_false] at hc
          obtain ⟨⟨h1, h2⟩, h3⟩ := hc
          obtain ⟨m, h4, h⟩ := bindO h
          obtain ⟨x, h5, h⟩ := bindO h
          obtain ⟨y, h6, rfl⟩ := map_some h
          exact eok_plain rfl rfl (fun _ => rfl) (px_mth (by have := G.room.un; omega) h4 h1 h2 h3 (ie _ _ h5) (ie _ _ h6))
      · cases h
    · have ie : ∀ e ir, cE g N n sc fb e = some ir → PE X e (tX X.K T cl E c ir) := fun e ir h => (ihE G tk e ir h).1
      have val : ∀ {e ir}, (cE g N n sc fb e).map Ev.It.val = some ir → PI X tg e (tIt X.K T cl E c ir) := fun {e ir} h => by
        obtain ⟨x, h1, rfl⟩ := map_some h
        exact pix_val (ie _ _ h1)
      have hr : X.mg "range" = none := G.blts _ (by simp)
      unfold cI at h
      split at h
      · split at h
        · rename_i hc
          simp only [Bool.and_eq_true, Bool.not_eq_true', decide_eq_true_eq] at hc
          obtain ⟨⟨h1, h2⟩, h3⟩ := hc
          subst h1
          obtain ⟨x, h4, rfl⟩ := map_some h
          exact pix_rng1 (gl_of G.scope h2) hr h3 (pax_cons h3 (ie _ _ h4) pax_nil)
        · split at h
          · rename_i hc
            simp only [Bool.and_eq_true, Bool.not_eq_true', decide_eq_true_eq] at hc
            obtain ⟨⟨⟨h1, h2⟩, h3⟩, h4⟩ := hc
            subst h1
            obtain ⟨x, h5, rfl⟩ := map_some h
            unfold isTup at h4
            split at h4
            · exact pix_enm (gl_of G.scope h2) (G.blts _ (by simp)) h3 (ie _ _ h5)
            · cases h4
          · exact val h
      · split at h
        · rename_i hc
          simp only [Bool.and_eq_true, Bool.not_eq_true', decide_eq_true_eq] at hc
          obtain ⟨⟨⟨h1, h2⟩, h3⟩, h4⟩ := hc
          subst h1
          obtain ⟨x, h5, h⟩ := bindO h
          obtain ⟨y, h6, rfl⟩ := map_some h
          exact pix_rng2 (gl_of G.scope h2) hr h3 h4 (pax_cons h3 (ie _ _ h5) (pax_cons h4 (ie _ _ h6) pax_nil))
        · split at h
          · rename_i hc
            simp only [Bool.and_eq_true, Bool.not_eq_true', decide_eq_true_eq] at hc
            obtain ⟨⟨⟨⟨h1, h2⟩, h3⟩, h4⟩, h5⟩ := hc
            subst h1
            obtain ⟨x, h6, h⟩ := bindO h
            obtain ⟨y, h7, rfl⟩ := map_some h
            unfold isTup at h5
            split at h5
            · exact pix_zip (gl_of G.scope h2) (G.blts _ (by simp)) h3 h4 (ie _ _ h6) (ie _ _ h7)
            · cases h5
          · exact val h
      · split at h
        · rename_i hc
          simp only [Bool.and_eq_true, Bool.not_eq_true', decide_eq_true_eq] at hc
          obtain ⟨⟨⟨⟨h1, h2⟩, h3⟩, h4⟩, h5⟩ := hc
          subst h1
          obtain ⟨x, h6, h⟩ := bindO h
          obtain ⟨y, h7, h⟩ := bindO h
          obtain ⟨z, h8, rfl⟩ := map_some h
          exact pix_rng3 (gl_of G.scope h2) hr h3 h4 h5 (pax_cons h3 (ie _ _ h6) (pax_cons h4 (ie _ _ h7) (pax_cons h5 (ie _ _ h8) pax_nil)))
        · exact val h
      · exact val h
end
end Ev
end

section
set_option Elab.async false
set_option linter.all false
set_option autoImplicit false
set_option maxRecDepth 100000
set_option maxHeartbeats 4000000
/-! # Statements: the compiler -/
namespace Ev
open PySem
def scF (sc : Scope) : Bool := decide (sc.kind = .function)
def locL (sc : Scope) (x : Str) : Bool := decide (sc.names.lookup x = some .local)
def anyStar (vs : List Expr) : Bool := vs.any fun | .Starred .. => true | _ => false
def swNames (sc : Scope) (ts : List Expr) : List Str := ts.filterMap fun
  | .Name id pos => if (sc.names.lookup id == some .local && pos.line == (ts.head?.map (·.pos.line)).getD 0) = true then some id else none
  | _ => none
def sw (a b c d e : Bool) (names : List Str) : Option (Option (List Str)) :=
  if a = true then some none else if b = true then some none else if c = true then some none else if d = true then some none else if e = true then none else some (some names)
/-- a pair of names that is stored from the right; none: not told -/
def swapB (sc : Scope) (ts vs : List Expr) : Option (Option (List Str)) :=
  sw (!(ts.length == 2 || ts.length == 3) || vs.length != ts.length || (if sc.kind.isAnnotationScope then ScopeKind.function else sc.kind) != .function) (anyStar vs)
    ((swNames sc ts).length != ts.length || (swNames sc ts).eraseDups.length != (swNames sc ts).length) (vs.all (foldedForSure 8)) (vs.all (constantsAlone 8)) (swNames sc ts)
theorem swap_eq (env : Env) (ts vs : List Expr) (k k2 : Nat) (tp p2 : Pos) : swappedStores [.Tuple ts k tp] (.Tuple vs k2 p2) env =
    if (!(ts.length == 2 || ts.length == 3) || vs.length != ts.length || (if env.scope.kind.isAnnotationScope then ScopeKind.function else env.scope.kind) != .function) = true then pure none
    else if anyStar vs = true then pure none
    else if ((swNames env.scope ts).length != ts.length || (swNames env.scope ts).eraseDups.length != (swNames env.scope ts).length) = true then pure none
    else if vs.all (foldedForSure 8) = true then pure none
    else if vs.all (constantsAlone 8) = true then (do unsupported "assign.tuple-of-constant-expressions:order-of-the-stores"; return some (swNames env.scope ts))
    else pure (some (swNames env.scope ts)) := rfl
theorem swap_of {env : Env} {ts vs : List Expr} {k k2 : Nat} {tp p2 : Pos} {r : Option (List Str)} (h : swapB env.scope ts vs = some r) : swappedStores [.Tuple ts k tp] (.Tuple vs k2 p2) env = pure r := by
  rw [swap_eq]
  unfold swapB at h
  generalize (!(ts.length == 2 || ts.length == 3) || vs.length != ts.length || (if env.scope.kind.isAnnotationScope then ScopeKind.function else env.scope.kind) != .function) = a at h ⊢
  generalize anyStar vs = b at h ⊢
  generalize swNames env.scope ts = ns at h ⊢
  generalize (ns.length != ts.length || ns.eraseDups.length != ns.length) = c at h ⊢
  generalize vs.all (foldedForSure 8) = d at h ⊢
  generalize vs.all (constantsAlone 8) = e at h ⊢
  unfold sw at h
  cases a <;> cases b <;> cases c <;> cases d <;> cases e <;> first | (cases h; rfl) | cases h
def isTupE : Expr → Bool
  | .Tuple _ _ _ => true
  | _ => false
/-- a list that is changed in place, made where its name stands -/
def cV (g : Cfg) (N : List Str) (n : Nat) (sc : Scope) (bx : Bool) (e : Expr) : Option X :=
  if bx = true then match e with
    | .List es _ => (cL (cE g N n sc fbDef) es).map .box
    | _ => cE g N n sc fbDef e
  else cE g N n sc fbDef e
mutual
def cS (g : Cfg) (N : List Str) (sc : Scope) : Nat → Stmt → Option St
  | 0, _ => none
  | n + 1, s => match s with
    | .Assign [.Name x _] e _ => if (locB sc x && !isComp e) = true then (ixOf N x).bind fun i => (cV g N n sc (decide (x ∈ g.bx)) e).map fun y => .set i y
        else if (locB sc x) = true then (ixOf N x).bind fun i => (cE g N n sc fbDef e).map fun y => .set i y else none
    | .Assign [.Tuple ts k tp] (.Tuple vs k2 p2) _ => match swapB sc ts vs with
        | none => none
        | some none => (cE g N n sc fbDef (.Tuple vs k2 p2)).bind fun y => (cT N sc fbDef n (.Tuple ts k tp)).map fun t => .sett t y
        | some (some names) => match ts, vs with
          | [.Name x _, .Name y _], [a, b] => if (locL sc x && locL sc y && !starred a && !starred b && decide (names = [x, y])) = true then
              (ixOf N x).bind fun i => (ixOf N y).bind fun j => if i = j then none else (cV g N n sc (decide (x ∈ g.bx)) a).bind fun u => (cV g N n sc (decide (y ∈ g.bx)) b).map fun v => .par [i, j] (.cons u (.cons v .nil)) else none
          | [.Name x _, .Name y _, .Name z _], [a, b, d] => if (locL sc x && locL sc y && locL sc z && !starred a && !starred b && !starred d && decide (names = [x, y, z])) = true then
              (ixOf N x).bind fun i => (ixOf N y).bind fun j => (ixOf N z).bind fun l => if i = j ∨ i = l ∨ j = l then none else
              (cV g N n sc (decide (x ∈ g.bx)) a).bind fun u => (cV g N n sc (decide (y ∈ g.bx)) b).bind fun v => (cV g N n sc (decide (z ∈ g.bx)) d).map fun w => .par [i, j, l] (.cons u (.cons v (.cons w .nil))) else none
          | _, _ => none
    | .Assign [.Tuple ts k tp] e _ => if isTupE e = true then none else (cE g N n sc fbDef e).bind fun y => (cT N sc fbDef n (.Tuple ts k tp)).map fun t => .sett t y
    | .Assign [.Subscript (.Name x _) k _] e _ => if (visB sc x && !odd x && !isSlice k) = true then (ixOf N x).bind fun i => (cE g N n sc fbDef k).bind fun q => (cE g N n sc fbDef e).map fun y => .seti i q y else none
    | .Expr (.Call (.Attribute (.Name x _) m apos) [a] [] cpos) _ => if (decide (m = "append") && visB sc x && !odd x && !starred a && (apos.endLine == cpos.line)) = true then
        (ixOf N x).bind fun i => (cE g N n sc fbDef a).map fun y => .app i y else none
    | .Expr e _ => if isComp e = true then none else (cE g N n sc fbDef e).map .exp
    | .Return none _ => some .retN
    | .Return (some e) _ => (cV g N n sc g.keep e).map .ret
    | .If c a b _ => (cE g N n sc fbDef c).bind fun z => (cSs g N sc n a).bind fun x => (cSs g N sc n b).map fun y => .iff z x y
    | .For tg it b [] _ => if isSet it = true then none else (cI g N n sc fbDef (isTup tg) it).bind fun i => (cT N sc fbDef n tg).bind fun t => (cSs g N sc n b).map fun y => .forr t i y
    | .While c b [] _ => (cE g N n sc fbDef c).bind fun z => (cSs g N sc n b).map fun y => .whil z y
    | .Raise (some (.Call (.Name x _) [.Constant (.str _) _ _] [] _)) none _ => if (glB sc x && !odd x) = true then (g.clIx x).map fun i => .rais i .nil else none
    | .Raise (some (.Call (.Name x _) [e] [] _)) none _ => if (glB sc x && !odd x && !starred e) = true then (g.clTx x).bind fun i => (cE g N n sc fbDef e).map fun y => .rais i (.cons y .nil) else none
    | .Pass _ => some .pass
    | _ => none
def cSs (g : Cfg) (N : List Str) (sc : Scope) : Nat → List Stmt → Option Sts
  | 0, _ => none
  | _ + 1, [] => some .nil
  | n + 1, s :: r => (cS g N sc n s).bind fun a => (cSs g N sc n r).map fun b => .cons a b
end
end Ev
end

section
set_option Elab.async false
set_option linter.all false
set_option autoImplicit false
set_option maxRecDepth 100000
set_option maxHeartbeats 4000000
/-! # Statements -/
namespace Ev
open PySem PySem.Spec PyProof.Rows L2
/-- how a statement's end stands -/
def relF (K : W.Frag) : Ms → Hp → (L2.St ⊕ V) → F → Prop
  | M, H, .inl σ, .nx ρ => EnvOk K ρ σ M H
  | M, H, .inr v, .rt u => RU K M H v u
  | _, _, _, _ => False
def endF (D : Ends) : (L2.St ⊕ V) → Hp → Prop
  | .inl σ, H => D.nx σ H
  | .inr v, H => D.rt v H
def tS (K : W.Frag) (T : List (Addr × Str)) (cl : Nat → Option Addr) (E : XK) (c : Cn) (ir : Ev.St) : TS := fun D σ H => ∃ ρ M S, EnvOk K ρ σ M H ∧ StOk K T M S H ∧ Out K T cl E M H (evS c ir ρ S) (relF K) (endF D)
def tSs (K : W.Frag) (T : List (Addr × Str)) (cl : Nat → Option Addr) (E : XK) (c : Cn) (ir : Sts) : TS := fun D σ H => ∃ ρ M S, EnvOk K ρ σ M H ∧ StOk K T M S H ∧ Out K T cl E M H (evSs c ir ρ S) (relF K) (endF D)
section
variable {K : W.Frag} {T : List (Addr × Str)} {cl : Nat → Option Addr} {E : XK} {c : Cn} {X : Cx} {M : Ms} {H : Hp} {S : Store} {ρ : Rho} {σ : L2.St}
theorem pss_imp {st : List Stmt} {t t' : TS} (h : PSs X st t) (i : ∀ D σ H, t' D σ H → t D σ H) : PSs X st t' := ⟨fun pins s σ H D I q => h.run pins s σ H D I (i D σ H q)⟩
/-- the next statement -/
theorem end_nx {ρ' : Rho} {σ' : L2.St} {D : Ends} (st : StOk K T M S H) (h : Out K T cl E M H (.ok (.nx ρ') S) (relF K) (endF D)) (en : EnvOk K ρ' σ' M H) : D.nx σ' H := h (.inl σ') M H (Gr.refl _ _) st en
theorem end_rt {u : U} {v : V} {D : Ends} (st : StOk K T M S H) (h : Out K T cl E M H (.ok (.rt u) S) (relF K) (endF D)) (r : RU K M H v u) : D.rt v H := h (.inr v) M H (Gr.refl _ _) st r
/-- a statement behind another one -/
theorem seq_of {r : R F} {f : Rho → Store → R F} {D : Ends} (h : Out K T cl E M H (r.bind fun a S1 => match a with
      | .nx ρ1 => f ρ1 S1
      | .rt u => .ok (.rt u) S1) (relF K) (endF D)) {G : L2.St → Hp → Prop}
    (q : ∀ ρ1 σ1 M1 H1 S1, Gr M H M1 H1 → StOk K T M1 S1 H1 → EnvOk K ρ1 σ1 M1 H1 → Out K T cl E M1 H1 (f ρ1 S1) (relF K) (endF D) → G σ1 H1) {b k : L2.St → Hp → Prop} :
    Out K T cl E M H r (relF K) (endF { D with nx := G, bk := b, ct := k }) := by
  refine Out.mono (Out.bind (rel := relF K) h) fun x H1 ⟨M1, S1, a, g1, st1, r1, h1⟩ => ?_
  cases x with
  | inl σ1 =>
    cases a with
    | nx ρ1 => exact q ρ1 σ1 M1 H1 S1 g1 st1 r1 h1
    | rt u => exact r1.elim
  | inr v =>
    cases a with
    | nx ρ1 => exact r1.elim
    | rt u => exact (show Out K T cl E M1 H1 (.ok (.rt u) S1) (relF K) (endF D) from h1) (.inr v) M1 H1 (Gr.refl _ _) st1 r1
theorem ssx_nil : PSs X [] (tSs X.K T cl E c .nil) := pss_imp pss_nil fun D σ H ⟨ρ, M, S, en, st, h⟩ => by
  unfold evSs at h
  exact end_nx st h en
theorem ssx_cons {s : Stmt} {r : List Stmt} {a : Ev.St} {b : Sts} (h1 : PS X s (tS X.K T cl E c a)) (h2 : PSs X r (tSs X.K T cl E c b)) : PSs X (s :: r) (tSs X.K T cl E c (.cons a b)) :=
  pss_imp (pss_cons h1 h2) fun D σ H ⟨ρ, M, S, en, st, h⟩ => by
    unfold evSs at h
    exact ⟨ρ, M, S, en, st, seq_of h fun ρ1 σ1 M1 H1 S1 g1 st1 en1 h1 => ⟨ρ1, M1, S1, en1, st1, h1⟩⟩
/-! ### simple statements -/
theorem swp_no {e : Expr} {t : Option Expr} {l : Nat} {env : Env} (h : isComp e = false) : swapsWith e t l env = pure false := by
  cases e <;> first | rfl | cases h
theorem conv_set {i : Nat} {y : Ev.X} {D : Ends} {σ : L2.St} {H : Hp} (h : tS K T cl E c (.set i y) D σ H) : tAsg (tX K T cl E c y) (gName i) D σ H := by
  obtain ⟨ρ, M, S, en, st, h⟩ := h
  unfold evS at h
  exact tX_b en st h fun v M1 H1 S1 u g1 en1 st1 r1 h1 => end_nx st1 h1 (en1.set r1)
theorem sx_set {i : Nat} {x : Str} {e : Expr} {y : Ev.X} {pos pos' : Pos} (hN : X.N.Nodup) (hi : X.N[i]? = some x) (hx : L2.Loc X.env.scope x) (hf : X.fn x = true ∨ X.env.scope.names.lookup x = some .local) (hc : isComp e = false) (he : PE X e (tX X.K T cl E c y)) :
    PS X (.Assign [.Name x pos'] e pos) (tS X.K T cl E c (.set i y)) :=
  ps_imp (ps_set hN hi hx he (swp_no hc) hf) fun D σ H h => conv_set h
/-- a comprehension -/
theorem sx_setLc {i : Nat} {x : Str} {e : Expr} {y : Ev.X} {pos pos' : Pos} (hN : X.N.Nodup) (hi : X.N[i]? = some x) (hx : L2.Loc X.env.scope x) (hf : X.fn x = true ∨ X.env.scope.names.lookup x = some .local) (he : EOk T cl E c X e y) :
    PS X (.Assign [.Name x pos'] e pos) (tS X.K T cl E c (.set i y)) := by
  by_cases hc : isComp e = true
  · by_cases hsw : swapsWith e (some (.Name x pos')) pos.line X.env = pure true
    · by_cases hl : X.env.scope.names.lookup x = some .local
      · exact ps_imp (he.2.2.2 hc i x pos' pos hi hl hsw) fun D σ H h => conv_set h
      · refine ps_imp (ps_set hN hi hx he.1 ?_ hf) fun D σ H h => conv_set h
        have e1 : X.env.kindOf x = some .local ↔ X.env.scope.names.lookup x = some .local := Iff.rfl
        cases e <;> first | cases hc | skip
        all_goals
          show (pure (X.env.blockKind == .function && X.env.kindOf x == some .local && _ && _) : Sem Bool) = pure false
          rw [show (X.env.kindOf x == some NameKind.local) = false from by simpa using fun z => hl (e1.mp z)]
          simp
    · refine ps_imp (ps_set hN hi hx he.1 ?_ hf) fun D σ H h => conv_set h
      cases e <;> first | cases hc | skip
      all_goals
        have key : ∀ b : Bool, (pure b : Sem Bool) ≠ pure true → (pure b : Sem Bool) = pure false := fun b z => by
          cases b
          · rfl
          · exact absurd rfl z
        exact key _ hsw
  · exact sx_set hN hi hx hf (by simpa using hc) he.1
theorem swS_tup {e : Expr} {ts : List Expr} {k : Nat} {tp : Pos} {l : Nat} {env : Env} : swapsWithSole [.Tuple ts k tp] e l env = pure false := by
  cases e <;> rfl
theorem swS_sub {e a b : Expr} {tp : Pos} {l : Nat} {env : Env} : swapsWithSole [.Subscript a b tp] e l env = pure false := by
  cases e <;> rfl
theorem swp_plain {e : Expr} {ts : List Expr} {k : Nat} {tp : Pos} {env : Env} (h : isTupE e = false) : swappedStores [.Tuple ts k tp] e env = pure none := by
  cases e <;> first | rfl | cases h
theorem swp_sub {e a b : Expr} {tp : Pos} {env : Env} : swappedStores [.Subscript a b tp] e env = pure none := by
  cases e <;> rfl
theorem sx_sett {ts : List Expr} {k : Nat} {tp pos : Pos} {e : Expr} {t : Tg} {y : Ev.X} (hw : swappedStores [.Tuple ts k tp] e X.env = pure none) (he : PE X e (tX X.K T cl E c y)) (hg : PG X (.Tuple ts k tp) (tTw X.K T t)) :
    PS X (.Assign [.Tuple ts k tp] e pos) (tS X.K T cl E c (.sett t y)) :=
  ps_imp (ps_asg he hg swS_tup hw rfl) fun D σ H ⟨ρ, M, S, en, st, h⟩ => by
    unfold evS at h
    refine tX_b en st h fun v M1 H1 S1 u g1 en1 st1 r1 h1 => ?_
    cases e1 : bindT t u ρ with
    | none => rw [e1] at h1; exact h1.elim
    | some ρ' =>
      rw [e1] at h1
      exact ⟨ρ, M1, S1, u, ρ', en1, st1, r1, e1, fun σ' en' _ _ => end_nx st1 h1 en'⟩
theorem sx_par2 {x y : Str} {i j : Nat} {a b : Expr} {px py pt pos : Pos} {kt k2 : Nat} {pt2 : Pos} {u v : Ev.X} (hc : X.calm = true) (hN : X.N.Nodup) (hi : X.N[i]? = some x) (hj : X.N[j]? = some y) (hij : i ≠ j) (hx : X.env.scope.names.lookup x = some .local) (hy : X.env.scope.names.lookup y = some .local)
    (ha : PA X [a, b] (tXs X.K T cl E c (.cons u (.cons v .nil)))) (hw : swappedStores [.Tuple [.Name x px, .Name y py] kt pt] (.Tuple [a, b] k2 pt2) X.env = pure (some [x, y])) :
    PS X (.Assign [.Tuple [.Name x px, .Name y py] kt pt] (.Tuple [a, b] k2 pt2) pos) (tS X.K T cl E c (.par [i, j] (.cons u (.cons v .nil)))) :=
  ps_imp (ps_par hc hN hi hj hij hx hy ha hw swS_tup) fun D σ H ⟨ρ, M, S, en, st, h⟩ => by
    unfold evS at h
    refine tXs_n en st h fun vs M1 H1 S1 us g1 en1 st1 r1 hl h1 => ?_
    cases r1 with
    | nil => cases hl
    | cons r1 rr =>
      cases rr with
      | nil => cases hl
      | cons r2 rr =>
        cases rr with
        | nil => exact ⟨_, _, rfl, end_nx st1 h1 ((en1.set r1).set r2)⟩
        | cons r3 rr => cases hl
theorem sx_par3 {x y z : Str} {i j l : Nat} {a b d : Expr} {px py pz pt pos : Pos} {kt k2 : Nat} {pt2 : Pos} {u v w : Ev.X} (hc : X.calm = true) (hN : X.N.Nodup) (hi : X.N[i]? = some x) (hj : X.N[j]? = some y) (hl : X.N[l]? = some z) (hij : i ≠ j) (hil : i ≠ l) (hjl : j ≠ l)
    (hx : X.env.scope.names.lookup x = some .local) (hy : X.env.scope.names.lookup y = some .local) (hz : X.env.scope.names.lookup z = some .local)
    (ha : PA X [a, b, d] (tXs X.K T cl E c (.cons u (.cons v (.cons w .nil))))) (hw : swappedStores [.Tuple [.Name x px, .Name y py, .Name z pz] kt pt] (.Tuple [a, b, d] k2 pt2) X.env = pure (some [x, y, z])) :
    PS X (.Assign [.Tuple [.Name x px, .Name y py, .Name z pz] kt pt] (.Tuple [a, b, d] k2 pt2) pos) (tS X.K T cl E c (.par [i, j, l] (.cons u (.cons v (.cons w .nil))))) :=
  ps_imp (ps_par3 hc hN hi hj hl hij hil hjl hx hy hz ha hw swS_tup) fun D σ H ⟨ρ, M, S, en, st, h⟩ => by
    unfold evS at h
    refine tXs_n en st h fun vs M1 H1 S1 us g1 en1 st1 r1 hl h1 => ?_
    cases r1 with
    | nil => cases hl
    | cons r1 rr =>
      cases rr with
      | nil => cases hl
      | cons r2 rr =>
        cases rr with
        | nil => cases hl
        | cons r3 rr =>
          cases rr with
          | nil => exact ⟨_, _, _, rfl, end_nx st1 h1 (((en1.set r1).set r2).set r3)⟩
          | cons r4 rr => cases hl
/-- x[k] = e -/
theorem sx_seti {x : Str} {i : Nat} {k e : Expr} {px p pos : Pos} {q y : Ev.X} (hi : X.N[i]? = some x) (hv : Vis X.env.scope x) (ho : odd x = false) (hk : isSlice k = false) (he : PE X e (tX X.K T cl E c y)) (hq : PE X k (tX X.K T cl E c q)) :
    PS X (.Assign [.Subscript (.Name x px) k p] e pos) (tS X.K T cl E c (.seti i q y)) :=
  ps_imp (ps_asg he (pg_sub (pe_var (i := i) hi hv (odd_of ho).1 (odd_of ho).2.1) hq set_list (fun v => by cases k <;> first | rfl | cases hk)) swS_sub swp_sub rfl) fun D σ H ⟨ρ, M, S, en, st, h⟩ => by
    unfold evS at h
    split at h
    case h_2 => exact h.elim
    rename_i b hb
    refine tX_b en st h fun v M1 H1 S1 u g1 en1 st1 r1 h1 => ?_
    obtain ⟨w, e1, a, e2, rfl⟩ := en1.at_ i _ hb
    refine ⟨_, e1, tX_b en1 st1 h1 fun w M2 H2 S2 u2 g2 en2 st2 r2 h2 => ?_⟩
    unfold putL at h2
    split at h2
    case h_2 => exact h2.elim
    rename_i p j
    cases r2
    split at h2
    case h_2 => exact h2.elim
    rename_i ds eb
    split at h2
    case h_2 => exact h2.elim
    rename_i m em
    have e3 := g2.get e2
    obtain ⟨xs, e4, r4⟩ := st2.lst e3 eb
    have hm := List.mem_of_getElem? e3
    refine ⟨a, xs, j, m, rfl, rfl, e4, by rw [r4.length]; exact em, ?_⟩
    have gw : Gr M2 H2 M2 (upd H2 a (.lst (xs.set m v))) := gr_wr M2 hm fun ps z => by cases z
    have r5 : RpA X.K M2 H2 (xs.set m v) (ds.set m p) := RpA.set ((show Rp X.K M1 H1 v p from r1).mono g2) m r4
    exact h2 (.inl σ) M2 _ gw (st_put st2 e3 r5) (en2.mono gw)
/-- x.append(a) -/
theorem sx_app {x : Str} {i : Nat} {a : Expr} {px apos cpos pos : Pos} {y : Ev.X} (hi : X.N[i]? = some x) (hv : Vis X.env.scope x) (ho : odd x = false) (hs : starred a = false) (hl : (apos.endLine == cpos.line) = true) (ha : PE X a (tX X.K T cl E c y)) :
    PS X (.Expr (.Call (.Attribute (.Name x px) "append" apos) [a] [] cpos) pos) (tS X.K T cl E c (.app i y)) :=
  ps_imp (ps_expr (pe_bm PySem.F.plainAttrs_list PySem.F.slot_list_append PySem.F.type_list_append mt_append (pe_var (i := i) hi hv (odd_of ho).1 (odd_of ho).2.1) (pa_cons ha pa_nil (star_of hs)) rfl (by rw [star_of hs]; rfl) hl (star_of hs) rfl)) fun D σ H ⟨ρ, M, S, en, st, h⟩ => by
    unfold evS at h
    split at h
    case h_2 => exact h.elim
    rename_i b hb
    obtain ⟨w, e1, a, e2, rfl⟩ := en.at_ i _ hb
    obtain ⟨bx, e3, hbx⟩ := st.lt e2
    have hty : ∃ xs, H a = some (.lst xs) := by
      cases bx with
      | lst ds => obtain ⟨xs, h1, _⟩ := hbx; exact ⟨xs, h1⟩
      | dct _ => exact hbx.elim
      | ins _ _ => exact hbx.elim
    obtain ⟨xs0, hxs0⟩ := hty
    refine ⟨_, e1, ?_, tX_b en st h fun v M1 H1 S1 u g1 en1 st1 r1 h1 => ?_⟩
    · exact .inl ⟨rfl, xs0, SqL.of hxs0⟩
    · unfold appL at h1
      split at h1
      case h_2 => exact h1.elim
      rename_i p
      split at h1
      case h_2 => exact h1.elim
      rename_i ds eb
      split at h1
      case isFalse => exact h1.elim
      rename_i hlen
      have e4 := g1.get e2
      obtain ⟨xs, e5, r5⟩ := st1.lst e4 eb
      have hm := List.mem_of_getElem? e4
      refine ⟨a, xs, v, rfl, rfl, e5, by rw [r5.length, ← line_eq]; exact hlen, ?_⟩
      have gw : Gr M1 H1 M1 (upd H1 a (.lst (xs ++ [v]))) := gr_wr M1 hm fun ps z => by cases z
      exact h1 (.inl σ) M1 _ gw (st_put st1 e4 (r5.append (.cons r1 .nil))) (en1.mono gw)
theorem sx_exp {e : Expr} {y : Ev.X} {pos : Pos} (hc : isComp e = false) (he : PE X e (tX X.K T cl E c y)) : PS X (.Expr e pos) (tS X.K T cl E c (.exp y)) :=
  ps_imp (ps_expr he (swp_no hc)) fun D σ H ⟨ρ, M, S, en, st, h⟩ => by
    unfold evS at h
    exact tX_b en st h fun v M1 H1 S1 u g1 en1 st1 r1 h1 => end_nx st1 h1 en1
theorem sx_ret {e : Expr} {y : Ev.X} {pos : Pos} (he : PE X e (tX X.K T cl E c y)) : PS X (.Return (some e) pos) (tS X.K T cl E c (.ret y)) :=
  ps_imp (ps_ret he) fun D σ H ⟨ρ, M, S, en, st, h⟩ => by
    unfold evS at h
    exact tX_b en st h fun v M1 H1 S1 u g1 en1 st1 r1 h1 => end_rt st1 h1 r1
theorem sx_retN {pos : Pos} : PS X (.Return none pos) (tS X.K T cl E c .retN) :=
  ps_imp ps_retN fun D σ H ⟨ρ, M, S, en, st, h⟩ => by
    unfold evS at h
    exact end_rt (u := .d .none) st h Rp.non
theorem sx_pass {pos : Pos} : PS X (.Pass pos) (tS X.K T cl E c .pass) :=
  ps_imp ps_pass fun D σ H ⟨ρ, M, S, en, st, h⟩ => by
    unfold evS at h
    exact end_nx st h en
theorem sx_if {d : Expr} {a b : List Stmt} {pos : Pos} {z : Ev.X} {x y : Sts} (hd : PT X d (tTr X.K T cl E c z)) (ha : PSs X a (tSs X.K T cl E c x)) (hb : PSs X b (tSs X.K T cl E c y)) : PS X (.If d a b pos) (tS X.K T cl E c (.iff z x y)) :=
  ps_imp (ps_if hd ha hb) fun D σ H ⟨ρ, M, S, en, st, h⟩ => by
    unfold evS at h
    refine tTr_b en st h fun k M1 H1 S1 g1 en1 st1 h1 => ?_
    cases k with
    | true => exact ⟨ρ, M1, S1, en1, st1, h1⟩
    | false => exact ⟨ρ, M1, S1, en1, st1, h1⟩
theorem sx_raise {g : Cfg} {k l : Nat} {N : List Str} {sc : Scope} {fb : Fb} (G : Good g T cl c k l X N sc fb) (tk : L2N.Takes X fun d a _ H => E d a H) {x m : Str} {i j : Nat} {p p2 p3 pos : Pos} (hg : glB sc x = true) (ho : odd x = false) (hi : g.clIx x = some i) :
    PS X (.Raise (some (.Call (.Name x p) [.Constant (.str m) j p2] [] p3)) none pos) (tS X.K T cl E c (.rais i .nil)) := by
  obtain ⟨C, e1, e2, e3, e4, e5, e6⟩ := G.clss x i hi
  refine ps_imp (L2N.ps_raise G.calm tk (L2N.pmk_own PySem.F.excBase_ValueError e4 e2 e3 (raises_own e5 e6) (gl_of G.scope hg) (odd_of ho).1)) fun D σ H ⟨ρ, M, S, en, st, h⟩ => ?_
  unfold evS evXs at h
  obtain ⟨C', e7, h1⟩ : ∃ C', cl i = some C' ∧ ∀ d M' H', Dic d H' → Gr M H M' H' → StOk X.K T M' S H' → E (.ref C') d H' := h
  rw [e1] at e7
  cases e7
  exact h1 none M H dic_none (Gr.refl _ _) st
theorem sx_raiseT {g : Cfg} {k l : Nat} {N : List Str} {sc : Scope} {fb : Fb} (G : Good g T cl c k l X N sc fb) (tk : L2N.Takes X fun d a _ H => E d a H) {x : Str} {i : Nat} {e : Expr} {y : Ev.X} {p p3 pos : Pos} (hg : glB sc x = true) (ho : odd x = false) (hi : g.clTx x = some i)
    (he : PE X e (tX X.K T cl E c y)) (hs : starred e = false) : PS X (.Raise (some (.Call (.Name x p) [e] [] p3)) none pos) (tS X.K T cl E c (.rais i (.cons y .nil))) := by
  obtain ⟨C, f, fI, e1, e2, e3, e4, e5⟩ := G.clst x i hi
  refine ps_imp (L2N.ps_raise G.calm tk (pmk_tm e3 e4 e5 G.room (gl_of G.scope hg) e2 he (odd_of ho).1 (star_of hs))) fun D σ H ⟨ρ, M, S, en, st, h⟩ => ?_
  unfold evS evXs evXs at h
  rw [bind_assoc] at h
  refine tX_b en st h fun v M1 H1 S1 u g1 en1 st1 r1 h1 => ?_
  refine ⟨v, rfl, fun d hd => ?_⟩
  obtain ⟨C', e7, h2⟩ : ∃ C', cl i = some C' ∧ ∀ d M' H', Dic d H' → Gr M1 H1 M' H' → StOk X.K T M' S1 H' → E (.ref C') d H' := h1
  rw [e1] at e7
  cases e7
  exact h2 (some d) M1 _ (fun dd z => by cases z; exact ⟨_, upd_same⟩) (gr_new st1 hd) (st_new st1 hd)
/-! ### loops -/
theorem sx_while {d : Expr} {b : List Stmt} {pos : Pos} {z : Ev.X} {y : Sts} (hp : PassesOwn (model X.prog X.w) X.A X.env X.xe) (hd : PT X d (tTr X.K T cl E c z)) (hb : PSs X b (tSs X.K T cl E c y)) : PS X (.While d b [] pos) (tS X.K T cl E c (.whil z y)) :=
  ps_imp (ps_while hp hd hb) fun D σ H ⟨ρ, M, S, en, st, h⟩ => by
    unfold evS at h
    refine ⟨fun m σ H => ∃ ρ M S, EnvOk X.K ρ σ M H ∧ StOk X.K T M S H ∧ Out X.K T cl E M H (loopW (fun ρ S => truR (evX c z ρ S)) (fun ρ S => evSs c y ρ S) m ρ S) (relF X.K) (endF D), ⟨1000000, ρ, M, S, en, st, h⟩, ?_⟩
    rintro m σ H ⟨ρ, M, S, en, st, h⟩
    cases m with
    | zero => unfold loopW at h; exact h.elim
    | succ m =>
      unfold loopW at h
      refine tTr_b en st h fun k M1 H1 S1 g1 en1 st1 h1 => ?_
      cases k with
      | false =>
        rw [if_neg (by decide)]
        rw [if_neg (by decide)] at h1
        exact end_nx st1 h1 en1
      | true =>
        rw [if_pos rfl]
        rw [if_pos rfl] at h1
        refine ⟨fun σ' H' => ∃ ρ M S, EnvOk X.K ρ σ' M H' ∧ StOk X.K T M S H' ∧ Out X.K T cl E M H' (loopW (fun ρ S => truR (evX c z ρ S)) (fun ρ S => evSs c y ρ S) m ρ S) (relF X.K) (endF D), fun σ' H' q => ⟨m, by omega, q⟩, ρ, M1, S1, en1, st1, ?_⟩
        exact seq_of (f := fun ρ2 S2 => loopW (fun ρ S => truR (evX c z ρ S)) (fun ρ S => evSs c y ρ S) m ρ2 S2) h1 fun ρ1 σ1 M2 H2 S2 g2 st2 en2 h2 => ⟨ρ1, M2, S2, en2, st2, h2⟩
theorem sx_for {tg iter : Expr} {b : List Stmt} {pos : Pos} {it : Ev.It} {t : Tg} {y : Sts} (hp : PassesOwn (model X.prog X.w) X.A X.env X.xe) (hc : X.calm = true) (hi : PI X tg iter (tIt X.K T cl E c it)) (hg : PG X tg (tTw X.K T t)) (hb : PSs X b (tSs X.K T cl E c y)) (hs : ∀ x, foldedSetIterable iter X.env x = pure x) :
    PS X (.For tg iter b [] pos) (tS X.K T cl E c (.forr t it y)) :=
  ps_imp (ps_for hp hc hi hg hb hs) fun D σ H ⟨ρ, M, S, en, st, h⟩ => by
    unfold evS at h
    refine ⟨ρ, M, S, en, st, Out.mono (Out.bind (rel := fun M H J s => Feed X.K M H J s) h) fun J H1 ⟨M1, S1, src, g1, st1, fd, h1⟩ => ?_⟩
    have en1 := en.mono g1
    cases src with
    | fix us =>
      have h1 : Out X.K T cl E M1 H1 (loopL t (fun ρ S => evSs c y ρ S) us ρ S1) (relF X.K) (endF D) := h1
      refine ⟨fun i m σ H => m = us.length - i ∧ i ≤ us.length ∧ ∃ ρ M S, Gr M1 H1 M H ∧ EnvOk X.K ρ σ M H ∧ StOk X.K T M S H ∧ Out X.K T cl E M H (loopL t (fun ρ S => evSs c y ρ S) (us.drop i) ρ S) (relF X.K) (endF D), ⟨us.length, rfl, Nat.zero_le _, ρ, M1, S1, Gr.refl _ _, en1, st1, h1⟩, ?_⟩
      rintro i m σ H ⟨rfl, hi, ρ, M, S, g, en, st, h⟩
      obtain ⟨f1, f2⟩ := fd M H g i
      by_cases hlt : i < us.length
      · right
        have hu : us[i]? = some us[i] := by simp [hlt]
        have hd : us.drop i = us[i] :: us.drop (i + 1) := List.drop_eq_getElem_cons hlt
        rw [hd] at h
        generalize us[i] = u at hu h
        obtain ⟨f3, f4⟩ := f2 u hu
        refine ⟨f3, fun σ' H' => ∃ ρ M S, Gr M1 H1 M H' ∧ EnvOk X.K ρ σ' M H' ∧ StOk X.K T M S H' ∧ Out X.K T cl E M H' (loopL t (fun ρ S => evSs c y ρ S) (us.drop (i + 1)) ρ S) (relF X.K) (endF D), fun σ' H' q => ⟨_, by omega, rfl, hlt, q⟩, fun x H' hy => ?_⟩
        obtain ⟨g2, st2, rx⟩ := f4 x H' hy T S st
        have h := Out.later h g2
        unfold loopL at h
        split at h
        · exact h.elim
        · rename_i ρ1 eb
          refine ⟨ρ, M, S, u, ρ1, en.mono g2, st2, rx, eb, fun σ1 en3 _ _ => ⟨ρ1, M, S, en3, st2, ?_⟩⟩
          exact seq_of (f := fun ρ2 S2 => loopL t (fun ρ S => evSs c y ρ S) (us.drop (i + 1)) ρ2 S2) h fun ρ4 σ4 M4 H4 S4 g4 st4 en4 h4 => ⟨ρ4, M4, S4, (g.trans g2).trans g4, en4, st4, h4⟩
      · left
        have ei : i = us.length := by omega
        have hd : us.drop i = [] := by rw [ei]; simp
        rw [hd] at h
        unfold loopL at h
        exact ⟨f1 (by rw [ei]; simp), end_nx st h en⟩
    | live bi =>
      obtain ⟨a, ha, rfl⟩ := fd
      have h1 : Out X.K T cl E M1 H1 (loopB t (fun ρ S => evSs c y ρ S) bi 1000000 0 ρ S1) (relF X.K) (endF D) := h1
      refine ⟨fun i m σ H => ∃ ρ M S, Gr M1 H1 M H ∧ EnvOk X.K ρ σ M H ∧ StOk X.K T M S H ∧ Out X.K T cl E M H (loopB t (fun ρ S => evSs c y ρ S) bi m i ρ S) (relF X.K) (endF D), ⟨1000000, ρ, M1, S1, Gr.refl _ _, en1, st1, h1⟩, ?_⟩
      rintro i m σ H ⟨ρ, M, S, g, en, st, h⟩
      cases m with
      | zero => unfold loopB at h; exact h.elim
      | succ m =>
        unfold loopB at h
        split at h
        case h_2 => exact h.elim
        rename_i ds eb
        have e3 := g.get ha
        obtain ⟨xs, e4, r4⟩ := st.lst e3 eb
        split at h
        · rename_i ei
          left
          refine ⟨⟨xs, SqL.of e4, ?_⟩, end_nx st h en⟩
          rw [r4.length]
          exact List.getElem?_eq_none_iff.mp ei
        · rename_i d ei
          right
          obtain ⟨v, e5, r5⟩ := r4.get ei
          refine ⟨⟨xs, v, SqL.of e4, e5⟩, fun σ' H' => ∃ ρ M S, Gr M1 H1 M H' ∧ EnvOk X.K ρ σ' M H' ∧ StOk X.K T M S H' ∧ Out X.K T cl E M H' (loopB t (fun ρ S => evSs c y ρ S) bi m (i + 1) ρ S) (relF X.K) (endF D), fun σ' H' q => ⟨m, by omega, q⟩, fun x H' ⟨eH, hx⟩ => ?_⟩
          subst eH
          have := hx xs (SqL.of e4)
          rw [e5] at this
          cases this
          split at h
          · exact h.elim
          · rename_i ρ1 eb2
            refine ⟨ρ, M, S, .d d, ρ1, en, st, r5, eb2, fun σ1 en3 _ _ => ⟨ρ1, M, S, en3, st, ?_⟩⟩
            exact seq_of (f := fun ρ2 S2 => loopB t (fun ρ S => evSs c y ρ S) bi m (i + 1) ρ2 S2) h fun ρ4 σ4 M4 H4 S4 g4 st4 en4 h4 => ⟨ρ4, M4, S4, g.trans g4, en4, st4, h4⟩
end
end Ev
end

section
set_option Elab.async false
set_option linter.all false
set_option autoImplicit false
set_option maxRecDepth 100000
set_option maxHeartbeats 4000000
/-! # All statements -/
namespace Ev
open PySem PySem.Spec PyProof.Rows L2
section
variable {T : List (Addr × Str)} {cl : Nat → Option Addr} {E : XK} {c : Cn} {X : Cx} {g : Cfg} {N : List Str} {sc : Scope} {k l : Nat}
theorem cV_ok (G : Good g T cl c k l X N sc fbDef) (tk : L2N.Takes X fun d a _ H => E d a H) {n : Nat} {bx : Bool} {e : Expr} {y : Ev.X} (h : cV g N n sc bx e = some y) : PE X e (tX X.K T cl E c y) := by
  have ih := fun e y h => ((cE_ok T cl g N n).1 G tk e y h).1
  unfold cV at h
  split at h
  · split at h
    · obtain ⟨xs, h1, rfl⟩ := map_some h
      exact px_box (cL_ok ih h1)
    · exact ih _ _ h
  · exact ih _ _ h
theorem loc_local {x : Str} (h : locL sc x = true) : sc.names.lookup x = some .local := of_decide_eq_true h
theorem cS_ok (G : Good g T cl c k l X N sc fbDef) (tk : L2N.Takes X fun d a _ H => E d a H) (hp : PassesOwn (model X.prog X.w) X.A X.env X.xe) :
    ∀ n, (∀ s ir, cS g N sc n s = some ir → PS X s (tS X.K T cl E c ir)) ∧ ∀ ss ir, cSs g N sc n ss = some ir → PSs X ss (tSs X.K T cl E c ir) := by
  have hN : X.N.Nodup := by rw [G.names]; exact G.nd
  have ix : ∀ {x : Str} {i : Nat}, ixOf N x = some i → X.N[i]? = some x := fun h => by rw [G.names]; exact ix_of h
  have loc : ∀ {x : Str}, locB sc x = true → L2.Loc X.env.scope x := fun h => by rw [G.scope]; exact loc_of h
  have vis : ∀ {x : Str}, visB sc x = true → Vis X.env.scope x := fun h => by rw [G.scope]; exact vis_of h
  have lcl : ∀ {x : Str}, locL sc x = true → X.env.scope.names.lookup x = some .local := fun h => by rw [G.scope]; exact loc_local h
  intro n
  induction n with
  | zero => exact ⟨fun s ir h => (by unfold cS at h; cases h), fun s ir h => (by unfold cSs at h; cases h)⟩
  | succ n ih =>
    obtain ⟨ih1, ih2⟩ := ih
    have ieo := fun e y h => (cE_ok T cl g N n).1 G tk e y h
    have ie : ∀ e y, cE g N n sc fbDef e = some y → PE X e (tX X.K T cl E c y) := fun e y h => (ieo e y h).1
    have iI := fun tg e y h => (cE_ok T cl g N n).2 G tk tg e y h
    have iT : ∀ e t, cT N sc fbDef n e = some t → PG X e (tTw X.K T t) := (tgw_ok G.names G.nd G.calm G.scope G.fbk n).1
    refine ⟨fun s ir h => ?_, fun ss ir h => ?_⟩
    · unfold cS at h
      split at h
      · -- name = e
        split at h
        · rename_i hc
          simp only [Bool.and_eq_true, Bool.not_eq_true'] at hc
          obtain ⟨i, hi, h⟩ := bindO h
          obtain ⟨y, hy, rfl⟩ := map_some h
          exact sx_set hN (ix hi) (loc hc.1) (G.fbk _ rfl) hc.2 (cV_ok G tk hy)
        · split at h
          · rename_i hc
            obtain ⟨i, hi, h⟩ := bindO h
            obtain ⟨y, hy, rfl⟩ := map_some h
            exact sx_setLc hN (ix hi) (loc hc) (G.fbk _ rfl) (ieo _ _ hy)
          · cases h
      · -- names = values
        split at h
        · cases h
        · rename_i hs
          obtain ⟨y, hy, h⟩ := bindO h
          obtain ⟨t, ht, rfl⟩ := map_some h
          exact sx_sett (swap_of (by rw [G.scope]; exact hs)) (ie _ _ hy) (iT _ _ ht)
        · rename_i names hs
          have hsw := fun k k2 tp p2 => swap_of (env := X.env) (k := k) (k2 := k2) (tp := tp) (p2 := p2) (by rw [G.scope]; exact hs)
          split at h
          · split at h
            · rename_i hc
              simp only [Bool.and_eq_true, Bool.not_eq_true', decide_eq_true_eq] at hc
              obtain ⟨⟨⟨⟨h1, h2⟩, h3⟩, h4⟩, h5⟩ := hc
              subst h5
              obtain ⟨i, hi, h⟩ := bindO h
              obtain ⟨j, hj, h⟩ := bindO h
              split at h
              · cases h
              · rename_i hij
                obtain ⟨u, hu, h⟩ := bindO h
                obtain ⟨v, hv, rfl⟩ := map_some h
                exact sx_par2 G.calm hN (ix hi) (ix hj) hij (lcl h1) (lcl h2) (pax_cons h3 (cV_ok G tk hu) (pax_cons h4 (cV_ok G tk hv) pax_nil)) (hsw _ _ _ _)
            · cases h
          · split at h
            · rename_i hc
              simp only [Bool.and_eq_true, Bool.not_eq_true', decide_eq_true_eq] at hc
              obtain ⟨⟨⟨⟨⟨⟨h1, h2⟩, h3⟩, h4⟩, h5⟩, h6⟩, h7⟩ := hc
              subst h7
              obtain ⟨i, hi, h⟩ := bindO h
              obtain ⟨j, hj, h⟩ := bindO h
              obtain ⟨m, hm, h⟩ := bindO h
              split at h
              · cases h
              · rename_i hij
                obtain ⟨u, hu, h⟩ := bindO h
                obtain ⟨v, hv, h⟩ := bindO h
                obtain ⟨w, hw, rfl⟩ := map_some h
                exact sx_par3 G.calm hN (ix hi) (ix hj) (ix hm) (fun z => hij (.inl z)) (fun z => hij (.inr (.inl z))) (fun z => hij (.inr (.inr z))) (lcl h1) (lcl h2) (lcl h3)
                  (pax_cons h4 (cV_ok G tk hu) (pax_cons h5 (cV_ok G tk hv) (pax_cons h6 (cV_ok G tk hw) pax_nil))) (hsw _ _ _ _)
            · cases h
          · cases h
      · split at h
        · cases h
        · rename_i hc
          obtain ⟨y, hy, h⟩ := bindO h
          obtain ⟨t, ht, rfl⟩ := map_some h
          exact sx_sett (swp_plain (by simpa using hc)) (ie _ _ hy) (iT _ _ ht)
      · split at h
        · rename_i hc
          simp only [Bool.and_eq_true, Bool.not_eq_true'] at hc
          obtain ⟨i, hi, h⟩ := bindO h
          obtain ⟨q, hq, h⟩ := bindO h
          obtain ⟨y, hy, rfl⟩ := map_some h
          exact sx_seti (ix hi) (vis hc.1.1) hc.1.2 hc.2 (ie _ _ hy) (ie _ _ hq)
        · cases h
      · split at h
        · rename_i hc
          simp only [Bool.and_eq_true, Bool.not_eq_true', decide_eq_true_eq] at hc
          obtain ⟨⟨⟨⟨h1, h2⟩, h3⟩, h4⟩, h5⟩ := hc
          subst h1
          obtain ⟨i, hi, h⟩ := bindO h
          obtain ⟨y, hy, rfl⟩ := map_some h
          exact sx_app (ix hi) (vis h2) h3 h4 h5 (ie _ _ hy)
        · cases h
      · split at h
        · cases h
        · rename_i hc
          obtain ⟨y, hy, rfl⟩ := map_some h
          exact sx_exp (by simpa using hc) (ie _ _ hy)
      · cases h; exact sx_retN
      · obtain ⟨y, hy, rfl⟩ := map_some h
        exact sx_ret (cV_ok G tk hy)
      · obtain ⟨z, hz, h⟩ := bindO h
        obtain ⟨x, hx, h⟩ := bindO h
        obtain ⟨y, hy, rfl⟩ := map_some h
        exact sx_if (ieo _ _ hz).2.1 (ih2 _ _ hx) (ih2 _ _ hy)
      · split at h
        · cases h
        · rename_i hs
          obtain ⟨i, hi, h⟩ := bindO h
          obtain ⟨t, ht, h⟩ := bindO h
          obtain ⟨y, hy, rfl⟩ := map_some h
          exact sx_for hp G.calm (iI _ _ _ hi) (iT _ _ ht) (ih2 _ _ hy) (fold_ok (by simpa using hs))
      · obtain ⟨z, hz, h⟩ := bindO h
        obtain ⟨y, hy, rfl⟩ := map_some h
        exact sx_while hp (ieo _ _ hz).2.1 (ih2 _ _ hy)
      · split at h
        · rename_i hc
          simp only [Bool.and_eq_true, Bool.not_eq_true'] at hc
          obtain ⟨i, hi, rfl⟩ := map_some h
          exact sx_raise G tk hc.1 hc.2 hi
        · cases h
      · split at h
        · rename_i hc
          simp only [Bool.and_eq_true, Bool.not_eq_true'] at hc
          obtain ⟨i, hi, h⟩ := bindO h
          obtain ⟨y, hy, rfl⟩ := map_some h
          exact sx_raiseT G tk hc.1.1 hc.1.2 hi (ie _ _ hy) hc.2
        · cases h
      · cases h; exact sx_pass
      · cases h
    · cases ss with
      | nil =>
        unfold cSs at h
        cases h
        exact ssx_nil
      | cons s r =>
        unfold cSs at h
        obtain ⟨a, ha, h⟩ := bindO h
        obtain ⟨b, hb, rfl⟩ := map_some h
        exact ssx_cons (ih1 _ _ ha) (ih2 _ _ hb)
end
end Ev
end

section
set_option Elab.async false
set_option linter.all false
set_option autoImplicit false
set_option maxRecDepth 100000
set_option maxHeartbeats 4000000
/-! # Defs: what is called does what the little language says -/
namespace Ev
open PySem PySem.Spec PyProof.Rows L2
section
variable {K : W.Frag} {T : List (Addr × Str)} {cl : Nat → Option Addr} {E : XK} {M : Ms} {H : Hp} {S : Store}
/-- the boxes made meanwhile are forgotten -/
def Ms.cut (M' M : Ms) : Ms := ⟨M.b, M'.x⟩
theorem cut_less {M' : Ms} (hp : M.b <+: M'.b) : ∀ a, a ∈ M'.cut M → a ∈ M' := fun a z => by
  rcases z with z | z
  · exact .inl (hp.subset z)
  · exact .inr z
theorem gr_cut {M' : Ms} {H' : Hp} (g : Gr M H M' H') : Gr M H (M'.cut M) H' where
  pre := List.prefix_refl _
  ext := g.ext
  keep := g.keep
  new := fun a z => by
    rcases z with z | z
    · exact .inl (.inl z)
    · exact g.new a (.inr z)
  newb := fun a z => .inl z
  dom := g.dom
theorem st_cut {M' : Ms} {H' : Hp} {S' : Store} (st : StOk K T M S H) (g : Gr M H M' H') (s : StOk K T M' S' H') : StOk K T (M'.cut M) (S'.take S.length) H' where
  len := by
    show M.b.length = _
    rw [List.length_take, ← s.len, st.len]
    have := List.IsPrefix.length_le g.pre
    rw [st.len] at this
    omega
  nd := st.nd
  box := fun i a b e1 e2 => by
    have e1' : M.b[i]? = some a := e1
    have hi : i < S.length := by rw [← st.len]; exact (List.getElem?_eq_some_iff.mp e1').1
    rw [List.getElem?_take_of_lt hi] at e2
    exact (s.box i a b (g.get e1') e2).less (cut_less g.pre)
  xt := fun a ha => by
    obtain ⟨n, o⟩ := s.xt a ha
    exact ⟨fun z => n (g.pre.subset z), o⟩
  tab := s.tab
theorem rp_cut {M' : Ms} {H' : Hp} {v : V} {p : PyData} (hp : M.b <+: M'.b) (h : Rp K M' H' v p) : Rp K (M'.cut M) H' v p := h.less (cut_less hp)
/-- a def's end -/
theorem out_finish {keep : Bool} {r : R F} {Q : VK} (st : StOk K T M S H) (h : Out K T cl E M H (finish keep S.length r) (RU K) Q) : Out K T cl E M H r (relF K) (endF { nx := fun _ H' => Q .non H', rt := Q }) := by
  cases r with
  | bad => exact h
  | exc c S1 =>
    obtain ⟨C, e, h⟩ := h
    exact ⟨C, e, fun d M' H' hd g s => h d _ H' hd (gr_cut g) (st_cut st g s)⟩
  | ok f S1 =>
    cases f with
    | nx ρ' =>
      intro x M' H' g s q
      cases x with
      | inr v => exact q.elim
      | inl σ' => exact h .non _ H' (gr_cut g) (st_cut st g s) Rp.non
    | rt u =>
      intro x M' H' g s q
      cases x with
      | inl σ' => exact q.elim
      | inr v =>
        have q : RU K M' H' v u := q
        cases u with
        | d p =>
          have h : Out K T cl E M H (.ok (.d p) (if keep = true then S1 else S1.take S.length)) (RU K) Q := h
          cases keep with
          | true => exact h v M' H' g s q
          | false => exact h v _ H' (gr_cut g) (st_cut st g s) (rp_cut g.pre q)
        | scr ns => exact h.elim
        | obj a => exact h.elim
        | it ds => exact h.elim
        | ref i =>
          cases keep with
          | true => exact h v M' H' g s q
          | false =>
            have h : Out K T cl E M H (if i < S.length then .ok (.ref i) (S1.take S.length) else match deref S1 (.ref i) with
              | some p => .ok (.d p) (S1.take S.length)
              | none => .bad) (RU K) Q := h
            obtain ⟨a, e1, rfl⟩ := q
            split at h
            · rename_i hi
              refine h (.ref a) _ H' (gr_cut g) (st_cut st g s) ⟨a, ?_, rfl⟩
              obtain ⟨b, hb⟩ : ∃ b, M.b[i]? = some b := ⟨M.b[i]'(by rw [st.len]; exact hi), by simp [st.len, hi]⟩
              have := g.get hb
              rw [e1] at this
              cases this
              exact hb
            · rename_i hi
              split at h
              · rename_i p ep
                refine h (.ref a) _ H' (gr_cut g) (st_cut st g s) ?_
                have rs := rs_of (K := K) (T := T) (M := M') (S := S1) (H := H') (v := .ref a) (u := .ref i) ⟨a, e1, rfl⟩ s ep
                have na : a ∉ M'.cut M := by
                  rintro (z | z)
                  · obtain ⟨j, hj⟩ := List.getElem?_of_mem z
                    have hl : j < S.length := by rw [← st.len]; exact (List.getElem?_eq_some_iff.mp hj).1
                    have := nd_ix s.nd e1 (g.get hj)
                    omega
                  · exact (s.xt a z).1 (List.mem_of_getElem? e1)
                cases p with
                | list ds =>
                  obtain ⟨a', xs, e2, h2, r2⟩ := rs
                  cases e2
                  exact .lst na h2 (r2.less (cut_less g.pre))
                | none => cases rs.none
                | bool b => cases rs.bool
                | int b => cases rs.int
                | str b => cases rs.str
                | tuple ds =>
                  obtain ⟨b, hb, hbx⟩ := s.lt e1
                  cases b with
                  | lst ds => simp only [deref, hb] at ep; cases ep
                  | dct _ => exact hbx.elim
                  | ins _ _ => exact hbx.elim
                | dict kvs => cases rs
              · exact h.elim
/-- a def's names, at its start -/
theorem env_start {nn : Nat} {N : List Str} {vs : List V} {us : List U} (hn : N.length = nn) (hl : us.length ≤ nn) (r : RUs K M H vs us) : EnvOk K (start nn us) (L2.start N vs) M H := by
  have e := r.length
  refine ⟨?_, fun i u h => ?_⟩
  · unfold start L2.start
    simp
    omega
  · unfold start at h
    unfold L2.start
    by_cases hi : i < us.length
    · rw [List.getElem?_append_left (by simpa using hi), List.getElem?_map] at h
      obtain ⟨u', e1, e2⟩ := map_some h
      cases e2
      have key : ∀ {vs : List V} {us : List U} {i : Nat} {u : U}, RUs K M H vs us → us[i]? = some u → ∃ v, vs[i]? = some v ∧ RU K M H v u := fun {vs us i u} r => by
        induction r generalizing i with
        | nil => intro h; simp at h
        | cons h1 _ ih =>
          intro h
          cases i with
          | zero => simp at h; subst h; exact ⟨_, rfl, h1⟩
          | succ i => simpa using ih (i := i) (by simpa using h)
      obtain ⟨v, e3, r3⟩ := key r e1
      refine ⟨v, ?_, r3⟩
      rw [List.getElem?_append_left (by simp; omega), List.getElem?_map, e3]
      rfl
    · rw [List.getElem?_append_right (by simpa using hi), List.getElem?_replicate] at h
      split at h <;> cases h
end
end Ev
end

section
set_option Elab.async false
set_option linter.all false
set_option autoImplicit false
set_option maxRecDepth 100000
set_option maxHeartbeats 4000000
/-! # All defs of a program's table -/
namespace Ev
open PySem PySem.Spec PyProof.Rows L2
/-- a def: its name, its text, all its names (the parameters first), its parameters; the names of lists that are changed in place; lambdas are made; a list is handed back that is changed in place -/
structure Row where
  nm : Str
  st : Stmt
  N : List Str
  ps : List Str
  bx : List Str
  lam : Bool
  keep : Bool
def Row.cfg (g : Cfg) (r : Row) : Cfg := { g with bx := r.bx, lam := r.lam, keep := r.keep }
def Row.ir (g : Cfg) (r : Row) : Option Fn := (cSs (r.cfg g) r.N (defScope r.st) 1000 (defBody r.st)).map fun b => ⟨r.ps.length, r.N.length, r.keep, b⟩
/-- how the arguments of a def bind -/
def Row.Bnd (r : Row) : Prop := ∀ (kV doc pm : Value) (an : Option Addr) (cdv ct : Value) (us : List Value), us.length = r.ps.length → bindArgs (W.fnOf r.nm r.nm (defArgs r.st) (defBody r.st) (defScope r.st) .none kV doc pm an cdv ct) ⟨us, []⟩ = pure (r.ps.zip us)
/-- what the program's top has laid -/
structure Lay (g : Cfg) (rows : List Row) (tab : Tab) (T : List (Addr × Str)) (cl : Nat → Option Addr) (P : Program) (w : World) (K : W.Frag) (mg : Str → Option Value) (base : Heap) : Prop where
  ir : ∀ (i : Nat) r, rows[i]? = some r → ∃ fn, tab.fns[i]? = some fn ∧ r.ir g = some fn
  sc : ∀ r, r ∈ rows → FnScope r.N r.ps (defScope r.st)
  bnd : ∀ r, r ∈ rows → r.Bnd
  fn : ∀ r, r ∈ rows → ∃ f fd, mg r.nm = some (.ref f) ∧ FunD K r.nm r.nm (defArgs r.st) (defBody r.st) (defScope r.st) [] [] f fd
  lam : ∀ r, r ∈ rows → r.lam = true → ∀ f fd, mg r.nm = some (.ref f) → FunD K r.nm r.nm (defArgs r.st) (defBody r.st) (defScope r.st) [] [] f fd → ∃ cA Pt, fd.code = .ref cA ∧ LamX.TabB base mg cA Pt ∧ (Pt, r.nm ++ ".<locals>." ++ "<lambda>") ∈ T ∧ ∀ p ∈ T, p.1 = Pt → p.2 = r.nm ++ ".<locals>." ++ "<lambda>"
  ix : ∀ x i, g.fnIx x = some i → ∃ r, rows[i]? = some r ∧ r.nm = x
  np : ∀ i, g.np i = (rows[i]?).map (·.ps.length)
  clss : ∀ x i, g.clIx x = some i → ∃ C, cl i = some C ∧ mg x = some (.ref C) ∧ W.keepIn K (.ref C) = true ∧ W.excIn K C [.type "ValueError", .type "Exception", .type "BaseException", .type "object"] "ValueError.__new__" = true ∧ W.subIn K (.ref C) (.type "BaseException") = some true ∧ W.typeIn K (.ref C) = some (.type "type")
  clst : ∀ x i, g.clTx x = some i → ∃ C f fI, cl i = some C ∧ mg x = some (.ref C) ∧ TmDef P K mg C fI f ∧ W.findIn K (.ref C) "__init__" = some (some (.ref fI)) ∧ W.typeIn K (.ref fI) = some (.type "function")
  nms : ∀ i z, tab.nm i = some z → ∃ C, cl i = some C
  errs : ∀ x, g.errs x = true → ErrDef T cl tab.nm P w K mg base x
  blts : ∀ x, x ∈ bltNames → mg x = none
  cons : ∀ x p, g.con x = some p → ∃ u v, mg x = some u ∧ RelV v u ∧ ∀ M H, Rp K M H v p
section
variable {g : Cfg} {rows : List Row} {tab : Tab} {T : List (Addr × Str)} {cl : Nat → Option Addr} {P : Program} {w : World} {K : W.Frag} {mg : Str → Option Value} {base : Heap}
/-- calls that come to nothing -/
theorem fn_bad {cf : CF} {i k n : Nat} {f : Addr} {fd : FuncData} {ps : List Str} (hl : ps.length = n) (h : ∀ us S, cf i us S = .bad) : FnOk P w K mg base (L2N.CX P w) k f fd ps (spC K T cl cf i n) :=
  ⟨fun vs H Q E ⟨M, S, us, _, _, _, q⟩ => (by rw [h] at q; exact q.elim), fun A outer s H args us vs Q E _ _ _ _ ⟨M, S, us', _, _, _, q⟩ => by rw [h] at q; exact q.elim⟩
/-- a table of calls of one depth keeps its word -/
def All (g : Cfg) (rows : List Row) (T : List (Addr × Str)) (cl : Nat → Option Addr) (P : Program) (w : World) (K : W.Frag) (mg : Str → Option Value) (base : Heap) (k : Nat) (cf : CF) : Prop :=
  ∀ (i : Nat) r, rows[i]? = some r → ∀ f fd, mg r.nm = some (.ref f) → FunD K r.nm r.nm (defArgs r.st) (defBody r.st) (defScope r.st) [] [] f fd → FnOk P w K mg base (L2N.CX P w) k f fd r.ps (spC K T cl cf i r.ps.length)
theorem all_bad {k : Nat} {cf : CF} (h : ∀ i us S, cf i us S = .bad) : All g rows T cl P w K mg base k cf := fun i r hr f fd _ _ => fn_bad rfl fun us S => h i us S
/-- a body that is walked in the context of its def -/
theorem good_of (L : Lay g rows tab T cl P w K mg base) {n : Nat} {c : Cn} {r : Row} (hr : r ∈ rows) {f : Addr} {fd : FuncData} (hf : mg r.nm = some (.ref f)) (F : FunD K r.nm r.nm (defArgs r.st) (defBody r.st) (defScope r.st) [] [] f fd)
    (hc : All g rows T cl P w K mg base (n + 2) c.call) (hl : ∀ lf, c.low = some lf → All g rows T cl P w K mg base n lf) (hnm : c.nm = tab.nm)
    (ar : ∀ (i m : Nat) us S, g.np i = some m → us.length ≠ m → c.call i us S = .bad) (arL : ∀ lf, c.low = some lf → ∀ (i m : Nat) us S, g.np i = some m → us.length ≠ m → lf i us S = .bad)
    {A : Around} {outer : List Env} {s : Shared} {H : Hp} {E : XK} {cdv : Value} (hcd : fd.code = cdv) (hR : Room (n + 2) (A.deeper (envOfC r.nm (defScope r.st) s.heap.objs.size f cdv))) :
    Good (r.cfg g) T cl c (n + 2) n (cxOf (L2N.CX P w) P w K mg base r.N r.nm (defScope r.st) f cdv A outer s H E) r.N (defScope r.st) fbDef where
  names := rfl
  nd := (L.sc r hr).nd
  scope := rfl
  calm := rfl
  room := hR
  fbk := fun _ _ => .inl rfl
  fns := fun x i hi => by
    obtain ⟨r', h1, h2⟩ := L.ix x i hi
    have hm := List.mem_of_getElem? h1
    obtain ⟨f', fd', h3, F'⟩ := L.fn r' hm
    refine ⟨f', fd', r'.ps, r'.ps.length, ?_, rfl, by rw [← h2]; exact h3, F'.kp, F'.bindsN (L.bnd r' hm), hc i r' h1 f' fd' h3 F', fun lf e => hl lf e i r' h1 f' fd' h3 F'⟩
    show g.np i = _
    rw [L.np, h1]
    rfl
  low := fun lf e => ⟨Nat.le_refl _, fun z => by
    obtain ⟨cA, Pt, h1, h2, h3, h4⟩ := L.lam r hr z f fd hf F
    refine ⟨cA, Pt, h2, ?_, h3, h4⟩
    show cdv = _
    rw [← hcd, h1]⟩
  clss := L.clss
  clst := L.clst
  nms := by rw [hnm]; exact L.nms
  errs := by rw [hnm]; exact L.errs
  ar := ar
  arL := arL
  blts := L.blts
  cons := L.cons
theorem runF_ar {c : Cn} (L : Lay g rows tab T cl P w K mg base) (i m : Nat) (us : List U) (S : Store) (h : g.np i = some m) (hl : us.length ≠ m) : runF tab c i us S = .bad := by
  rw [L.np] at h
  obtain ⟨r, e1, rfl⟩ := map_some h
  obtain ⟨fn, e2, e3⟩ := L.ir i r e1
  unfold Row.ir at e3
  obtain ⟨b, _, rfl⟩ := map_some e3
  unfold runF
  rw [e2]
  exact if_neg hl
/-- one depth more -/
theorem all_run (L : Lay g rows tab T cl P w K mg base) {n : Nat} {c : Cn} (hc : All g rows T cl P w K mg base (n + 2) c.call) (hl : ∀ lf, c.low = some lf → All g rows T cl P w K mg base n lf) (hnm : c.nm = tab.nm)
    (ar : ∀ (i m : Nat) us S, g.np i = some m → us.length ≠ m → c.call i us S = .bad) (arL : ∀ lf, c.low = some lf → ∀ (i m : Nat) us S, g.np i = some m → us.length ≠ m → lf i us S = .bad) : All g rows T cl P w K mg base (n + 3) (runF tab c) := by
  intro i r hi f fd hf F
  have hr := List.mem_of_getElem? hi
  obtain ⟨fn, e2, e3⟩ := L.ir i r hi
  have S := L.sc r hr
  obtain ⟨oc, od, dV, kV, doc, pm, an, cdv, ct, osl, efd, lk, hcd, _, _⟩ := F.ex
  have hcode : fd.code = cdv := by rw [efd]
  subst efd
  unfold Row.ir at e3
  obtain ⟨b, e4, e5⟩ := map_some e3
  have hpl : r.ps.length ≤ r.N.length := by
    have := congrArg List.length S.pre
    rw [List.length_take] at this
    omega
  refine fn_of lk hcd S (fun vs H Q E ⟨M, S', us, ru, _, hl', _⟩ => by rw [ru.length, hl']) fun A outer s H vs Q E hR ⟨M, S', us, ru, st, hl', q⟩ => ?_
  have G := good_of L (c := c) hr hf F hc hl hnm ar arL (A := A) (outer := outer) (s := s) (H := H) (E := E) hcode hR
  refine ⟨_, (cS_ok G (L2N.takes_of rfl rfl rfl rfl) (passes_of rfl) 1000).2 _ _ e4, start r.N.length us, M, S', env_start rfl (by omega) ru, st, out_finish (keep := r.keep) st ?_⟩
  unfold runF at q
  rw [e2, ← e5] at q
  dsimp only at q
  rw [if_pos hl'] at q
  exact q
theorem all_ok (L : Lay g rows tab T cl P w K mg base) : ∀ n, (All g rows T cl P w K mg base (n + 2) (callP tab n).a ∧ All g rows T cl P w K mg base (n + 1) (callP tab n).b ∧ All g rows T cl P w K mg base n (callP tab n).c) ∧
    (∀ (i m : Nat) us S, g.np i = some m → us.length ≠ m → (callP tab n).a i us S = .bad) ∧ (∀ (i m : Nat) us S, g.np i = some m → us.length ≠ m → (callP tab n).b i us S = .bad) ∧ ∀ (i m : Nat) us S, g.np i = some m → us.length ≠ m → (callP tab n).c i us S = .bad := by
  intro n
  induction n with
  | zero => exact ⟨⟨all_bad fun _ _ _ => rfl, all_bad fun _ _ _ => rfl, all_bad fun _ _ _ => rfl⟩, fun _ _ _ _ _ _ => rfl, fun _ _ _ _ _ _ => rfl, fun _ _ _ _ _ _ => rfl⟩
  | succ n ih =>
    obtain ⟨⟨h1, h2, h3⟩, a1, a2, a3⟩ := ih
    have low : ∀ lf, (cnN tab n).low = some lf → lf = (callP tab n).c := fun lf e => by cases e; rfl
    exact ⟨⟨all_run L (c := cnN tab n) h1 (fun lf e => by rw [low lf e]; exact h3) rfl a1 (fun lf e => by rw [low lf e]; exact a3), h1, h2⟩, fun i m us S h hl => runF_ar L i m us S h hl, a1, a2⟩
/-- the law's def -/
theorem law_ok (L : Lay g rows tab T cl P w K mg base) {i n : Nat} {r : Row} (hi : rows[i]? = some r) {f : Addr} {fd : FuncData} (hf : mg r.nm = some (.ref f)) (F : FunD K r.nm r.nm (defArgs r.st) (defBody r.st) (defScope r.st) [] [] f fd) :
    FnOk P w K mg base (L2N.CX P w) (n + 2) f fd r.ps (spC K T cl (callN tab n) i r.ps.length) := (all_ok L n).1.1 i r hi f fd hf F
end
end Ev
end

section
set_option Elab.async false
set_option linter.all false
set_option autoImplicit false
set_option maxRecDepth 100000
set_option maxHeartbeats 4000000
/-! # What is to be asked of the class with a maker; a hook that sees the statics too -/
namespace Ev
open PySem PySem.Spec PyProof.Rows L2
theorem tm_binds {nm qual : Str} {n1 n2 : Option Expr} {q1 q2 : Pos} {body : List Stmt} {scope : Scope} {kV doc pm cdv ct : Value} {an : Option Addr} {cc : Addr} (a v : Value) :
    bindArgs (W.ksFn nm qual ⟨[], [⟨"self", n1, q1⟩, ⟨"limit", n2, q2⟩], none, [], [], none, []⟩ body scope .none kV doc pm an cdv ct cc) ⟨[a, v], []⟩ = pure [(("self" : Str), a), (("limit" : Str), v)] := by first | rfl | kernel_rfl
def eqVN : Value → Bool
  | .none => true
  | _ => false
def tmCode (file : Str) (K : W.Frag) (cda : Addr) : Bool := match K.lookup cda with
  | some ⟨_, _, .fields vs, _⟩ => (match (vs[2]? : Option Value) with
    | some (.str z _) => decide (z = file)
    | _ => false)
  | _ => false
def tmCell (K : W.Frag) (cc C : Addr) : Bool := match K.lookup cc with
  | some ⟨_, _, .cell (some (.ref D)), _⟩ => decide (D = C)
  | _ => false
def tmScope (sc : Scope) (x y : Str) : Bool :=
  decide (sc.names.lookup ("super" : Str) = some .globalImplicit) && decide (sc.names.lookup ("__class__" : Str) = some .free) && decide (sc.names.lookup x = some .local) && decide (sc.names.lookup y = some .local) && decide (sc.kind = .function) && !sc.isCoroutine && !sc.isGenerator &&
  (sc.names.all fun z => decide (z.2 ≠ .cell)) && !(x == ("__debug__" : Str)) && !(y == ("__debug__" : Str)) && decide (y ≠ x)
def tmBody (f x y : Str) : List Stmt → Bool
  | [.Expr (.Call (.Attribute (.Call (.Name s _) [] [] _) i p2) [.Constant (.str _) _ _] [] p4) _, .Assign [.Attribute (.Name x1 _) f1 _] (.Name y1 _) _] => decide (s = "super") && decide (i = "__init__") && decide (x1 = x) && decide (y1 = y) && decide (f1 = f) && (p2.endLine == p4.line)
  | _ => false
def tmFun (file : Str) (K : W.Frag) (C fI : Addr) (f : Str) : Bool := match K.lookup fI with
  | some ⟨_, _, .func fd, _⟩ => (match fd.params, fd.body, fd.closure, fd.code with
    | ⟨[], [a1, a2], none, [], [], none, []⟩, .stmts b, [(c, cc)], .ref cda => decide (c = "__class__") && decide (a1.arg = "self") && decide (a2.arg = "limit") && tmBody f a1.arg a2.arg b && tmScope fd.scope a1.arg a2.arg && W.codeIn K (.ref cda) fd.qualname && tmCode file K cda && tmCell K cc C && eqVN fd.defaults && decide (fd.globals = mainGlobals) && decide (fd.builtins = builtinsNs)
    | _, _, _, _ => false)
  | _ => false
def tmCls (K : W.Frag) (C : Addr) : Bool := match K.lookup C with
  | some ⟨.type t, _, .cls cd, sl⟩ => decide (t = "type") && (match cd.mro, sl.toList with
    | .ref D :: bm, [_, _, _, _, some (.builtin n), _] => decide (D = C) && decide (n = "ValueError.__new__") && cd.hasDict && !cd.hasDel && PySem.HandSPX.refsVE bm
    | _, _ => false)
  | _ => false
def tmB (file : Str) (K : W.Frag) (C fI : Addr) (f : Str) : Bool :=
  tmCls K C && decide (W.findIn K (.ref C) "__setattr__" = some (some (.builtin "object.__setattr__"))) && decide (W.subIn K (.ref C) (.type "BaseException") = some true) && decide (W.typeIn K (.ref C) = some (.type "type")) && W.keepIn K (.ref C) &&
  decide (W.ks_superIn K C C "__init__" = some (some (.builtin "ValueError.__init__"))) && decide (W.subIn K (.ref C) (.type "ValueError") = some true) && decide (W.mroIn K C (.ref C) = some true) && decide (W.nsIn K cStatics "thirdparty.any" = some none) && decide (W.findIn K (.ref C) f = some none) &&
  tmFun file K C fI f && decide (W.findIn K (.ref C) "__init__" = some (some (.ref fI))) && decide (W.typeIn K (.ref fI) = some (.type "function"))
theorem eqVN_ok {v : Value} (h : eqVN v = true) : v = .none := by cases v <;> first | rfl | cases h
theorem tmCls_ok {K : W.Frag} {C : Addr} (h : tmCls K C = true) : ∃ nm q N bs bm sn sub ab col dd k0 k1 k2 k3 k5, K.lookup C = some (excClassObj nm q C N bs bm true sn sub ab col dd k0 k1 k2 k3 k5 "ValueError.__new__") ∧ PySem.HandSPX.refsVE bm = true := by
  unfold tmCls at h
  split at h
  · rename_i t dd cd sl e
    rw [Bool.and_eq_true, decide_eq_true_eq] at h
    obtain ⟨rfl, h⟩ := h
    split at h
    · rename_i D bm k0 k1 k2 k3 n k5 hm hs
      simp only [Bool.and_eq_true, decide_eq_true_eq, Bool.not_eq_true'] at h
      obtain ⟨⟨⟨⟨rfl, rfl⟩, h1⟩, h2⟩, h3⟩ := h
      obtain ⟨nm, bs, mro, ns, qn, hd, sn, sub, ab, col, del⟩ := cd
      dsimp only at hm h1 h2
      subst hm h1 h2
      obtain ⟨l⟩ := sl
      have hs : l = [k0, k1, k2, k3, some (.builtin "ValueError.__new__"), k5] := hs
      subst hs
      exact ⟨nm, qn, ns, bs, bm, sn, sub, ab, col, dd, k0, k1, k2, k3, k5, e, h3⟩
    · cases h
  · cases h
theorem tmCode_ok {file : Str} {K : W.Frag} {a : Addr} (h : tmCode file K a = true) : ∃ cl d vs sl t, K.lookup a = some ⟨cl, d, .fields vs, sl⟩ ∧ vs[2]? = some (.str file t) := by
  unfold tmCode at h
  split at h
  · rename_i cl d vs sl e
    split at h
    · rename_i z t e2
      have h := of_decide_eq_true h
      subst h
      exact ⟨cl, d, vs, sl, t, e, e2⟩
    · cases h
  · cases h
theorem tmCell_ok {K : W.Frag} {a C : Addr} (h : tmCell K a C = true) : ∃ cl d sl, K.lookup a = some ⟨cl, d, .cell (some (.ref C)), sl⟩ := by
  unfold tmCell at h
  split at h
  · rename_i cl d D sl e
    have h := of_decide_eq_true h
    subst h
    exact ⟨cl, d, sl, e⟩
  · cases h
theorem tmBody_ok {f x y : Str} {b : List Stmt} (h : tmBody f x y b = true) : ∃ m j p0 p1 p2 p3 p4 p5 p6 p7 p8 p9, (p2.endLine == p4.line) = true ∧
    b = [.Expr (.Call (.Attribute (.Call (.Name "super" p0) [] [] p1) "__init__" p2) [.Constant (.str m) j p3] [] p4) p5, .Assign [.Attribute (.Name x p6) f p7] (.Name y p8) p9] := by
  unfold tmBody at h
  split at h
  · simp only [Bool.and_eq_true, decide_eq_true_eq] at h
    obtain ⟨⟨⟨⟨⟨rfl, rfl⟩, rfl⟩, rfl⟩, rfl⟩, h⟩ := h
    exact ⟨_, _, _, _, _, _, _, _, _, _, _, _, h, rfl⟩
  · cases h
theorem tmB_ok {file : Str} {P : Program} {K : W.Frag} {mg : Str → Option Value} {C fI : Addr} {f : Str} (h : tmB file K C fI f = true) (hfile : ((P.main.file : Str) == file) = true) (htop : (P.main.scope.names.lookup ("super" : Str)).isSome = false) (hmg : mg "super" = none) :
    TmDef P K mg C fI f ∧ W.findIn K (.ref C) "__init__" = some (some (.ref fI)) ∧ W.typeIn K (.ref fI) = some (.type "function") := by
  unfold tmB at h
  simp only [Bool.and_eq_true, decide_eq_true_eq] at h
  obtain ⟨⟨⟨⟨⟨⟨⟨⟨⟨⟨⟨⟨h1, h2⟩, h3⟩, h4⟩, h5⟩, h6⟩, h7⟩, h8⟩, h9⟩, h10⟩, h11⟩, h12⟩, h13⟩ := h
  refine ⟨⟨⟨tmCls_ok h1, h2, h3, h4, h5⟩, h6, h7, h8, h9, hmg, htop, h10, ?_⟩, h12, h13⟩
  unfold tmFun at h11
  split at h11
  · rename_i oc od fd osl e
    obtain ⟨nm, qual, params, fbody, scope, globals, closure, dV, kV, doc, pm, an, code, ct, builtins⟩ := fd
    dsimp only at h11
    split at h11
    · rename_i a1 a2 b c cc cda
      simp only [Bool.and_eq_true, decide_eq_true_eq] at h11
      obtain ⟨⟨⟨⟨⟨⟨⟨⟨⟨⟨h1, h2⟩, h3⟩, h4⟩, h5⟩, h6⟩, h7⟩, h8⟩, h9⟩, h10⟩, h11⟩ := h11
      obtain ⟨x1, n1, q1⟩ := a1
      obtain ⟨x2, n2, q2⟩ := a2
      dsimp only at h2 h3 h4 h5
      have h9 := eqVN_ok h9
      subst h1 h2 h3 h9 h10 h11
      obtain ⟨m, j, p0, p1, p2, p3, p4, p5, p6, p7, p8, p9, hl, rfl⟩ := tmBody_ok h4
      obtain ⟨ccl, cdd, vs, ccs, tf, c1, c2⟩ := tmCode_ok h7
      obtain ⟨cl, cld, csl, d1⟩ := tmCell_ok h8
      unfold tmScope at h5
      simp only [Bool.and_eq_true, decide_eq_true_eq, Bool.not_eq_true', List.all_eq_true] at h5
      obtain ⟨⟨⟨⟨⟨⟨⟨⟨⟨⟨s1, s2⟩, s3⟩, s4⟩, s5⟩, s6⟩, s7⟩, s8⟩, s9⟩, s10⟩, s11⟩ := h5
      refine ⟨cda, cc, nm, qual, m, file, ⟨"self", n1, q1⟩, ⟨"limit", n2, q2⟩, scope, .none, kV, doc, pm, ct, oc, ccl, cl, an, od, cdd, cld, osl, ccs, csl, vs, tf, j, p0, p1, p2, p3, p4, p5, p6, p7, p8, p9, e, h6, c1, c2, hfile, d1, s1, s2, s3, s4, s5, s6, s7, s8, s9, s10, s11, hl, fun s a v => BindsTo.of_eq (tm_binds a v)⟩
    · cases h11
  · cases h11
/-! ### a hook that sees the statics too -/
def asY (g : Addr → Option Obj) (n : Nat) : List Addr := cStatics :: He.asD g n
def obsY (n : Nat) (fa : List He.Fa) (fn : List He.DefD) (tf : List He.Defn) (ex : W.Frag → Bool) (g : Addr → Option Obj) : He.AlX := (He.obsT fa fn [] (He.frT g (asY g n)), ex (He.frT g (asY g n)) && He.tabsB g tf (He.frT g (asY g n)))
theorem saysY {K : W.Frag} {g : Addr → Option Obj} {as : List Addr} (hK : K = He.frT g as) {fa : List He.Fa} {fn : List He.DefD} {tf : List He.Defn} {ex : W.Frag → Bool} {w : World} {h : Heap} (hg : g = h.get?) (e : (He.obsT fa fn [] K, ex K && He.tabsB g tf K) = He.valX fn [] w) : He.SaysX fa fn [] tf ex w h K := by
  obtain ⟨e1, e2⟩ := Prod.mk.inj e
  rw [Bool.and_eq_true] at e2
  have tab : ∀ p, p ∈ tf → W.codeHdIn K (He.cT K p).1 (He.cT K p).2 = true ∧ ∃ o, h.get? (He.cT K p).2 = some o ∧ He.emptyTab o = true := fun p hp => by
    have q := List.all_eq_true.mp e2.2 p hp
    rw [Bool.and_eq_true, hg] at q
    cases z : h.get? (He.cT K p).2 with
    | none => rw [z] at q; cases q.2
    | some o => rw [z] at q; exact ⟨q.1, o, rfl, q.2⟩
  exact {
    t := e1
    more := e2.1
    hd := fun p hp => (tab p hp).1
    out := fun p hp => by
      obtain ⟨_, o, z1, z2⟩ := tab p hp
      have z3 := He.frT_none (as := as) (g := g) (by rw [hg]; exact z1) z2
      rw [← hK] at z3
      exact z3
    empty := fun p hp => by
      obtain ⟨_, o, z1, z2⟩ := tab p hp
      rw [z1, He.emptyTab_eq z2] }
def hookY (n : Nat) (fa : List He.Fa) (fn : List He.DefD) (tf : List He.Defn) (ex : W.Frag → Bool) : W.Hook where
  α := He.AlX
  obs := fun s => obsY n fa fn tf ex s.heap.get?
  val := fun w => He.valX fn [] w
  says := fun w h => ∃ K : W.Frag, K.In h ∧ He.SaysX fa fn [] tf ex w h K
  of := fun _ _ e => ⟨_, He.frT_in, saysY rfl rfl e⟩
  keeps := fun _ _ _ z k => by
    obtain ⟨K, i, c⟩ := z
    exact ⟨K, i.keeps k, ⟨c.t, c.more, c.hd, c.out, fun p hp => k _ _ (c.empty p hp)⟩⟩
theorem obsY_eq {n : Nat} {fa : List He.Fa} {fn : List He.DefD} {tf : List He.Defn} {ex : W.Frag → Bool} {g : Addr → Option Obj} {s : Shared} (h : ∀ a, g a = s.heap.get? a) : obsY n fa fn tf ex g = (hookY n fa fn tf ex).obs s := by
  rw [show g = s.heap.get? from funext h]
  rfl
end Ev
end

section
set_option Elab.async false
set_option linter.all false
set_option autoImplicit false
set_option maxRecDepth 100000
set_option maxHeartbeats 4000000
/-! # While an exception is handled: ends of iterators, tuples taken apart -/
namespace Ev
open PySem PySem.Spec PyProof.Rows L2 HotX
section
variable {prog : Program} {w : World} {A : Around} {E : Value → Shared → Prop} {s : Shared} {x1 : Addr}
theorem hot_keep {h h' : Heap} {it : Addr} (hot : HotAt A x1 h) (n : x1 ≠ it) (k : Heap.ExtBut it h h') : HotAt A x1 h' := by
  obtain ⟨hh, o, vs, e, d, c⟩ := hot
  exact ⟨hh, o, vs, k _ _ n e, d, c⟩
/-- a StopIteration is made and thrown -/
theorem stop_hot {α : Type} {Q : α → Shared → Prop} (hot : HotAt A x1 s.heap)
    (hE : ∀ h' e, (∀ b o, s.heap.get? b = some o → h'.get? b = some o) → (∃ o, h'.get? e = some o ∧ o.cls = .type "StopIteration") → E (.ref e) { s with heap := h' }) :
    wpAny (model prog w) A ((newExc (.type "StopIteration") [] : Sem Value) >>= fun e => (raiseNew e : Sem α)) Q E s := by
  obtain ⟨hh, o1, vs1, h1, d1, c1⟩ := hot
  refine wpAny_bind ?_
  simp only [newExc, newTuple]
  refine wpAny_bind (wpAny_newObj_type ?_ (by size_fits))
  refine wpAny_bind (m := firstArgMember _ _) (wpAny_of_eq (a := Value.none) (by first | rfl | (simp only [firstArgMember]; rfl)) ?_)
  refine wpAny_newObj_type ?_ (by size_fits)
  refine raiseNew_hot ⟨hh, o1, vs1, Heap.get?_push_of_some _ (Heap.get?_push_of_some _ h1), d1, c1⟩ (Nat.ne_of_lt (Heap.lt_size (Heap.get?_push_of_some _ h1))) (Heap.get?_push_size _ rfl) rfl (by first | (simp; done) | (simp; omega) | (simp only [Array.size_append]; simp; omega)) ?_
  refine hE _ _ (fun b o e => ?_) ⟨_, Heap.get?_update_self _ (Heap.get?_push_size _ rfl) rfl, rfl⟩
  rw [Heap.get?_update_other _ _ (Nat.ne_of_gt (Heap.lt_size (Heap.get?_push_of_some _ e)))]
  exact Heap.get?_push_of_some _ (Heap.get?_push_of_some _ e)
/-- the end of a tuple's iterator -/
theorem tupEnd_hot {it t : Addr} {i : Nat} {items : Array Value} {Q : Option Value → Shared → Prop} (hot : HotAt A x1 s.heap) (hn : x1 ≠ it) (hit : IsTupIter s.heap it t i) (ht : IsTup s.heap t items) (hx : items[i]? = none)
    (hQ : ∀ h', Heap.ExtBut it s.heap h' → Q none { s with heap := h' }) : wpAny (model prog w) A (pyNext (.ref it)) Q E s := by
  obtain ⟨o, ho, hc, hd⟩ := id hit
  obtain ⟨ol, hol, _, nl, hdl⟩ := ht
  unfold pyNext
  refine wpAny_bind (wpAny_attempt (wpAny_callSpecial?_slot (name := Str.ofString "__next__") hit.typeIs slot_tupleiter_next
    (wpAny_call_entry slot_tupleiter_next hit.typeIs entry_tupleiter_next ?_ (args_tupleiter_next _))))
  show wpAny _ _ (field (.ref it) 0 >>= _) _ _ s
  refine wpAny_bind (wpAny_field ho hd (x := .ref t) rfl ?_)
  show wpAny _ _ (if (Value.ref t == Value.none) = true then _ else _) _ _ s
  rw [if_neg (show ¬ ((Value.ref t == Value.none) = true) from Bool.false_ne_true)]
  show wpAny _ _ (field (.ref it) 1 >>= _) _ _ s
  refine wpAny_bind (wpAny_field ho hd (x := .int i 0) rfl ?_)
  show wpAny _ _ (seqItems? (.ref t) >>= _) _ _ s
  refine wpAny_bind (wpAny_seqItems hol hdl ?_)
  simp only [Int.toNat_natCast, hx]
  have sb := Heap.SameBut.update s.heap it (Obj.mapFields (·.setIfInBounds 0 .none))
  refine wpAny_bind (wpAny_rule (wpAny_bind (wpAny_setField ho hd (by simp) (stop_hot (hot_keep hot hn sb.extBut) fun h' e k he => ?_))))
  obtain ⟨oe, e1, e2⟩ := he
  refine wpAny_bind (wpAny_isInstance (T := "StopIteration") (b := true) ⟨oe, e1, e2⟩ isSubtype_stop ?_)
  exact wpAny_pure (hQ _ fun b u hb q => k _ _ (sb.extBut b u hb q))
theorem unpackItems_hot {t : Addr} {items : Array Value} {Q : List Value → Shared → Prop} (hot : HotAt A x1 s.heap) (ht : IsTup s.heap t items)
    (hQ : ∀ h', Heap.ExtBut s.heap.objs.size s.heap h' → Q items.toList { s with heap := h' }) : wpAny (model prog w) A (unpackItems (.ref t) items.size none) Q E s := by
  have hlt : t ≠ s.heap.objs.size := by obtain ⟨o, ho, _⟩ := ht; exact Nat.ne_of_lt (Heap.lt_size ho)
  have hx1 : x1 ≠ s.heap.objs.size := by obtain ⟨_, o, _, ho, _⟩ := hot; exact Nat.ne_of_lt (Heap.lt_size ho)
  unfold unpackItems
  refine wpAny_bind ?_
  unfold notIterableAtAll
  refine wpAny_bind (wpAny_specialOf ht.typeIs slot_tuple_iter.lookup ?_)
  refine wpAny_pure ?_
  simp only [Bool.false_eq_true, if_false]
  refine wpAny_bind (wpAny_holding (iter_tuple ht ?_))
  refine wpAny_bind (wpAny_holding (draw_tuple hlt items.size 0 _ _ ⟨_, Heap.get?_push_size _ rfl, rfl, rfl⟩ (ht.push _) (by omega) fun h₁ hit₁ hs₁ => ?_))
  have hall : List.take items.size (List.drop 0 items.toList) = items.toList := by
    rw [List.drop_zero]; exact List.take_of_length_le (by simp)
  rw [hall, if_neg (by simp)]
  have ht₁ : IsTup h₁ t items := (ht.push _).extBut hs₁.extBut hlt
  have k1 : Heap.ExtBut s.heap.objs.size s.heap h₁ := fun b o hb e => hs₁.extBut b o hb (Heap.get?_push_of_some _ e)
  refine wpAny_bind (wpAny_holding (tupEnd_hot (hot_keep hot hx1 k1) hx1 hit₁ ht₁ (by simp) fun h₂ he₂ => ?_))
  simp only [Option.isSome_none, Bool.false_eq_true, if_false]
  exact wpAny_pure (hQ h₂ fun b o hb e => he₂ b o hb (k1 b o hb e))
theorem assignTup_hot {env : Env} {elts : List Expr} {x0} {pos : Pos} {t : Addr} {items : Array Value} {Q : Unit → Shared → Prop} (hot : HotAt A x1 s.heap) (ht : IsTup s.heap t items)
    (hn : (assignEach elts env).length = items.size) (hstar : (assignEach elts env).findIdx? (·.1) = none)
    (h : ∀ h', Heap.ExtBut s.heap.objs.size s.heap h' → wpAny (model prog w) A (assignInOrder ((assignEach elts env).map (·.2)) items.toList) Q E { s with heap := h' }) :
    wpAny (model prog w) A (assign (.Tuple elts x0 pos) env (.ref t)) Q E s := by
  rw [assign_Tuple]
  refine wpAny_bind (wpAny_standAt ?_)
  unfold unpack
  rw [hn, hstar]
  exact wpAny_bind (wpAny_holding (unpackItems_hot hot ht h))
/-- the end of a list's iterator, within zip -/
theorem lstEnd_hot {it l : Addr} {i : Nat} {items : Array Value} {Q : Value → Shared → Prop} (hot : HotAt A x1 s.heap) (hn : x1 ≠ it) (hit : s.heap.IsListIter it l i) (hl : s.heap.IsList l items) (hx : items[i]? = none)
    (hE : ∀ h' e, Heap.ExtBut it s.heap h' → (∃ o, h'.get? e = some o ∧ o.cls = .type "StopIteration") → E (.ref e) { s with heap := h' }) :
    wpAny (model prog w) A (Builtin.SmallTypes.nextOf (.ref it)) Q E s := by
  obtain ⟨o, ho, hc, hd⟩ := id hit
  obtain ⟨ol, hol, _, nl, hdl⟩ := hl
  unfold Builtin.SmallTypes.nextOf
  refine wpAny_bind (wpAny_callSpecial?_slot (name := Str.ofString "__next__") hit.typeIs slot_listiter_next
    (wpAny_call_entry slot_listiter_next hit.typeIs entry_listiter_next ?_ (args_listiter_next _)))
  show wpAny _ _ (field (.ref it) 0 >>= _) _ _ s
  refine wpAny_bind (wpAny_field ho hd (x := .ref l) rfl ?_)
  show wpAny _ _ (if (Value.ref l == Value.none) = true then _ else _) _ _ s
  rw [if_neg (show ¬ ((Value.ref l == Value.none) = true) from Bool.false_ne_true)]
  show wpAny _ _ (field (.ref it) 1 >>= _) _ _ s
  refine wpAny_bind (wpAny_field ho hd (x := .int i 0) rfl ?_)
  show wpAny _ _ (seqItems? (.ref l) >>= _) _ _ s
  refine wpAny_bind (wpAny_seqItems hol hdl ?_)
  simp only [Int.toNat_natCast, hx]
  have sb := Heap.SameBut.update s.heap it (Obj.mapFields (·.setIfInBounds 0 .none))
  refine wpAny_bind (wpAny_rule (wpAny_bind (wpAny_setField ho hd (by simp) (stop_hot (hot_keep hot hn sb.extBut) fun h' e k he => ?_))))
  exact hE _ _ (fun b u hb q => k _ _ (sb.extBut b u hb q)) he
theorem zipEnd_hot {z TI TO i1 i2 l1 l2 : Addr} {k1 k2 : Nat} {xs ys : Array Value} {a b : Value} {Q : Option Value → Shared → Prop} (hot : HotAt A x1 s.heap) (n0 : x1 ≠ z) (n1 : x1 ≠ i1) (n2 : x1 ≠ i2) (nT : x1 ≠ TO) (D : ZipApart z TI TO i1 i2 l1 l2)
    (hz : IsZip s.heap z TI TO .none) (hTI : IsPair s.heap TI (.ref i1) (.ref i2)) (hTO : IsPair s.heap TO a b)
    (h1 : s.heap.IsListIter i1 l1 k1) (h2 : s.heap.IsListIter i2 l2 k2) (hl1 : s.heap.IsList l1 xs) (hl2 : s.heap.IsList l2 ys) (hend : xs[k1]? = none ∨ ys[k2]? = none)
    (hQ : ∀ h', (∀ c o, c ≠ z → c ≠ TO → c ≠ i1 → c ≠ i2 → s.heap.get? c = some o → h'.get? c = some o) → Q none { s with heap := h' }) : wpAny (model prog w) A (pyNext (.ref z)) Q E s := by
  have hT : s.TypeIs (.ref z) "zip" := ⟨_, hz, rfl⟩
  unfold pyNext
  have fin : ∀ h' e, (∀ c o, c ≠ z → c ≠ TO → c ≠ i1 → c ≠ i2 → s.heap.get? c = some o → h'.get? c = some o) → (∃ o, h'.get? e = some o ∧ o.cls = .type "StopIteration") →
      wpAny (model prog w) A (do if ← isInstance (.ref e) (.type "StopIteration") then pure none else throw (.ref e)) Q E { s with heap := h' } := fun h' e hk he => by
    obtain ⟨o, ho, hc⟩ := he
    exact wpAny_bind (wpAny_isInstance (T := "StopIteration") (b := true) ⟨o, ho, hc⟩ isSubtype_stop (wpAny_pure (hQ _ hk)))
  refine wpAny_bind (wpAny_attempt (wpAny_callSpecial?_slot (name := Str.ofString "__next__") hT F.slot_zip_next (wpAny_call_entry F.slot_zip_next hT F.entry_zip_next ?_ (F.args_zip_next_1 _))))
  show wpAny _ _ (field (.ref z) 2 >>= _) _ _ _
  refine wpAny_bind (wpAny_field hz rfl (x := .bool false) rfl ?_)
  show wpAny _ _ (field (.ref z) 3 >>= _) _ _ _
  refine wpAny_bind (wpAny_field hz rfl (x := .ref TI) rfl ?_)
  refine wpAny_bind (wpAny_seqItems hTI rfl ?_)
  show wpAny _ _ (Builtin.SmallTypes.ownedTupleIsFree (.ref z) >>= _) _ _ _
  refine wpAny_bind ?_
  unfold Builtin.SmallTypes.ownedTupleIsFree
  refine wpAny_bind (wpAny_field hz rfl (x := .none) rfl (wpAny_pure ?_))
  simp only [if_true]
  refine wpAny_bind (wpAny_rule ?_)
  refine wpAny_bind (wpAny_field hz rfl (x := .ref TO) rfl ?_)
  refine wpAny_bind (wpAny_setField_rec hz (by simp) fun h₁ hz₁ hs₁ => ?_)
  replace hz₁ : IsZip h₁ z TI TO .ellipsis := hz₁
  refine wpAny_bind ?_
  simp only [List.zipIdx_cons, List.zipIdx_nil, List.forIn_cons, List.forIn_nil]
  refine wpAny_bind (wpAny_bind (wpAny_onRaise ?_))
  show wpAny _ _ (Builtin.SmallTypes.nextOf (.ref i1) >>= _) _ _ _
  cases hx : xs[k1]? with
  | none =>
    refine wpAny_bind (lstEnd_hot (hot_keep hot n0 hs₁.extBut) n1 (h1.extBut hs₁.extBut D.i1z) (hl1.extBut hs₁.extBut D.l1z) hx fun h₂ e hs₂ he => ?_)
    obtain ⟨oe, hoe, hce⟩ := he
    have hz₂ : IsZip h₂ z TI TO .ellipsis := hs₂ _ _ D.i1z.symm hz₁
    have hez : e ≠ z := fun x => by subst x; rw [hz₂] at hoe; cases hoe; simp at hce
    exact wpAny_setField_rec hz₂ (by simp) fun h₃ _ hs₃ => fin h₃ e (fun c o c1 _ c3 _ x => hs₃.extBut _ _ c1 (hs₂ _ _ c3 (hs₁.extBut _ _ c1 x))) ⟨oe, hs₃.extBut _ _ hez hoe, hce⟩
  | some x =>
    have hy : ys[k2]? = none := by
      rcases hend with h | h
      · rw [hx] at h; cases h
      · exact h
    refine wpAny_bind (wpAny_nextOf_list_item (h1.extBut hs₁.extBut D.i1z) (hl1.extBut hs₁.extBut D.l1z) hx fun h₂ h1₂ hs₂ => wpAny_pure ?_)
    have hTO₂ : IsPair h₂ TO a b := hs₂.extBut _ _ D.TOi1 (hs₁.extBut _ _ D.TOz hTO)
    refine wpAny_bind (wpAny_seqItems hTO₂ rfl ?_)
    refine wpAny_bind (wpAny_updateSeq_pair hTO₂ fun h₃ hTO₃ hs₃ => ?_)
    refine wpAny_bind (wpAny_letGo (wpAny_pure ?_))
    refine wpAny_bind (wpAny_bind (wpAny_onRaise ?_))
    show wpAny _ _ (Builtin.SmallTypes.nextOf (.ref i2) >>= _) _ _ _
    refine wpAny_bind (lstEnd_hot (hot_keep (hot_keep (hot_keep hot n0 hs₁.extBut) n1 hs₂.extBut) nT hs₃.extBut) n2 (((h2.extBut hs₁.extBut D.i2z).extBut hs₂.extBut D.i12.symm).extBut hs₃.extBut D.TOi2.symm)
      (((hl2.extBut hs₁.extBut D.l2z).extBut hs₂.extBut D.l2i1).extBut hs₃.extBut D.l2TO) hy fun h₄ e hs₄ he => ?_)
    obtain ⟨oe, hoe, hce⟩ := he
    have hz₄ : IsZip h₄ z TI TO .ellipsis := hs₄ _ _ D.i2z.symm (hs₃.extBut _ _ D.TOz.symm (hs₂.extBut _ _ D.i1z.symm hz₁))
    have hez : e ≠ z := fun x => by subst x; rw [hz₄] at hoe; cases hoe; simp at hce
    exact wpAny_setField_rec hz₄ (by simp) fun h₅ _ hs₅ => fin h₅ e (fun c o c1 c2 c3 c4 x => hs₅.extBut _ _ c1 (hs₄ _ _ c4 (hs₃.extBut _ _ c2 (hs₂.extBut _ _ c3 (hs₁.extBut _ _ c1 x))))) ⟨oe, hs₅.extBut _ _ hez hoe, hce⟩
end
end Ev
end

section
set_option Elab.async false
set_option linter.all false
set_option autoImplicit false
set_option maxRecDepth 100000
set_option maxHeartbeats 4000000
/-! # While an exception is handled: a comprehension over zip -/
namespace Ev
open PySem PySem.Spec PyProof.Rows L2 HotX L2H
/-- the context of a comprehension's block there -/
abbrev bH (X : Cx) (s : Shared) (H : Hp) (scope : Scope) (cenv : Env) (fp : List Addr) : Cx := (X.blk s H scope cenv fp).tr X.pn fun _ _ => False
section
variable {X : Cx}
theorem hotB (hot : HotC X) {s : Shared} {H : Hp} {scope : Scope} {cenv : Env} {fp : List Addr} : HotC (bH X s H scope cenv fp) := hot
/-- two lists walked together -/
theorem zipTurn_hot {P : Program} {w : World} {K : W.Frag} {elts : List Expr} {kk : Nat} {tpos : Pos} {a b z TI TO i1 i2 : Addr} (D : ZipApart z TI TO i1 i2 a b) :
    TurnH P w K (.Tuple elts kk tpos) (Itz K a b) [z, TI, TO, i1, i2] z (fun i h => IsZip h z TI TO .none ∧ IsPair h TI (.ref i1) (.ref i2) ∧ (∃ x y, IsPair h TO x y) ∧ h.IsListIter i1 a i ∧ h.IsListIter i2 b i) where
  mem := (turn_zip (P := P) (w := w) (K := K) (elts := elts) (kk := kk) (tpos := tpos) D).mem
  obj := (turn_zip (P := P) (w := w) (K := K) (elts := elts) (kk := kk) (tpos := tpos) D).obj
  keep := (turn_zip (P := P) (w := w) (K := K) (elts := elts) (kk := kk) (tpos := tpos) D).keep
  self := (turn_zip (P := P) (w := w) (K := K) (elts := elts) (kk := kk) (tpos := tpos) D).self
  item := by
    intro X hP hw hK hc i pins s σ H E I hf st hg
    subst hP hw hK
    obtain ⟨hz, hTI, ⟨x0, y0, hTO⟩, h1, h2⟩ := st
    obtain ⟨xs, ys, x, y, hqx, hqy, hx, hy⟩ := hg
    obtain ⟨its, rv, p, _⟩ := I.list hqx
    obtain ⟨its2, rv2, p2, _⟩ := I.list hqy
    obtain ⟨u, hu, ru⟩ := rv.get hx
    obtain ⟨u2, hu2, ru2⟩ := rv2.get hy
    have hzl : z < s.heap.objs.size := Heap.lt_size hz
    refine wpAny_pyNext_zip_item D hz hTI hTO h1 h2 p.isList p2.isList (x := u) (y := u2) (by simpa using hu) (by simpa using hu2) fun h' z' TO' h1' h2' hT hsz hk => ?_
    refine ⟨_, rfl, wpAny_letOwnedTupleGo_zip (s := { s with heap := h' }) z' fun h'' z'' sb => ?_⟩
    have hT2 : h''.get? s.heap.objs.size = some { cls := .type "tuple", data := .seq #[u, u2] } := (sb.2 _ (Nat.ne_of_gt hzl)).trans hT
    have new : ObjOk X.prog X.w (upd H s.heap.objs.size (.tup [x, y])) h'' s.heap.objs.size (.tup [x, y]) :=
      ⟨by show 2 ≤ sizeLine; decide, [u, u2], .cons ru (.cons ru2 .nil), ⟨_, hT2, rfl, _, rfl⟩⟩
    have I1 : Inv X pins σ (upd H s.heap.objs.size (.tup [x, y])) { s with heap := h'' } :=
      I.turnedNew (t' := s.toks) (ch := [z, TI, TO, i1, i2]) (fun c o hb q => (sb.2 c (fun q' => hb (by simp [q']))).trans (hk c o (fun q' => hb (by simp [q'])) (fun q' => hb (by simp [q'])) (fun q' => hb (by simp [q'])) (fun q' => hb (by simp [q'])) q)) hf (Nat.le_refl _) new
    refine ⟨.ref s.heap.objs.size, _, I1, rfl, ⟨_, x, y, rfl, I.hok.fresh (Nat.le_refl _), rfl, fun l hl => by rw [I.list_inj hl hqx]; exact hx, fun l hl => by rw [I.list_inj hl hqy]; exact hy⟩, ⟨z'', ?_, ⟨u, u2, ?_⟩, ?_, ?_⟩, fun c hcm => ?_⟩
    · exact (sb.2 _ D.TIz).trans (hk _ _ D.TIz D.TITO D.TIi1 D.TIi2 hTI)
    · exact (sb.2 _ D.TOz).trans TO'
    · exact h1'.at fun o q => (sb.2 _ D.i1z).trans q
    · exact h2'.at fun o q => (sb.2 _ D.i2z).trans q
    · have hlt : c < s.heap.objs.size := by
        have e' : c = z ∨ c = TI ∨ c = TO ∨ c = i1 ∨ c = i2 := by simpa using hcm
        rcases e' with q | q | q | q | q
        · rw [q]; exact hzl
        · rw [q]; exact Heap.lt_size hTI
        · rw [q]; exact Heap.lt_size hTO
        · rw [q]; obtain ⟨_, e1, _⟩ := h1; exact Heap.lt_size e1
        · rw [q]; obtain ⟨_, e2, _⟩ := h2; exact Heap.lt_size e2
      rw [upd_ne (Nat.ne_of_lt hlt)]
      exact (hf c hcm).1
  done := by
    intro X hP hw hK hc i pins s σ H E I hf st hg
    subst hP hw hK
    obtain ⟨hz, hTI, ⟨x0, y0, hTO⟩, h1, h2⟩ := st
    obtain ⟨xs, ys, hqx, hqy, hend⟩ := hg
    obtain ⟨its, rv, p, _⟩ := I.list hqx
    obtain ⟨its2, rv2, p2, _⟩ := I.list hqy
    have l1 := rv.length
    have l2 := rv2.length
    have he : its.toArray[i]? = none ∨ its2.toArray[i]? = none := by
      rcases hend with q | q
      · exact .inl (by simp; omega)
      · exact .inr (by simp; omega)
    obtain ⟨q, ⟨hh, v1, e1, c1⟩, hq⟩ := hc
    have hpin := (I.pin q (List.mem_append_left _ hq)).1
    have hot : HotAt X.A q.1 s.heap := ⟨hh, q.2, v1, hpin, e1, c1⟩
    have ne : ∀ c, c ∈ [z, TI, TO, i1, i2] → q.1 ≠ c := fun c hc => (hf c hc).2.2.2.2.2 q (List.mem_append_left _ hq)
    refine zipEnd_hot hot (ne _ (by simp)) (ne _ (by simp)) (ne _ (by simp)) (ne _ (by simp)) D hz hTI hTO h1 h2 p.isList p2.isList he fun h' hk => ⟨rfl, I.turnedL (t' := s.toks) (ch := [z, TI, TO, i1, i2]) (fun c o hb q =>
      hk c o (fun q' => hb (by simp [q'])) (fun q' => hb (by simp [q'])) (fun q' => hb (by simp [q'])) (fun q' => hb (by simp [q'])) q) hf⟩
/-- zip(l, l') of two lists -/
theorem pi_zipH {e e2 : Expr} {ta : TA} {p pos tpos : Pos} {elts : List Expr} {kk : Nat} (hg : Gl X "zip") (hm : X.mg "zip" = none) (ha : PA X [e, e2] ta)
    (hs : starEach [e, e2] X.env = (false, eval e X.env) :: starEach [e2] X.env := by rfl) (hpl : (backTo pos (starEach [e2] X.env)).any (·.1) = false := by rfl) :
    PIH X (.Tuple elts kk tpos) (.Call (.Name "zip" p) [e, e2] [] pos) (iZip X.K ta) := by
  refine ⟨fun pins s σ H R I h => ?_⟩
  refine Call_ (ld_blt I hg hm PyProof.Rows.boot_zip (PyProof.Rows.callWith_type1 (thn (ha.run pos pins s σ H _ I h) fun us s1 ⟨vs, H1, I1, r1, q1⟩ => ?_) hs hpl))
  obtain ⟨a, b, xs, ys, ex, hqx, hqy, q⟩ := q1
  subst ex
  cases r1 with
  | cons r rr =>
    cases rr with
    | cons r' rr =>
      cases rr
      cases r
      cases r'
      obtain ⟨its, rv, p1, _⟩ := I1.list hqx
      obtain ⟨its2, rv2, p2, _⟩ := I1.list hqy
      refine call_zip_2 p1.isList p2.isList fun h' hz hTI hTO h1 h2 hsz hk => wpAny_pyIter_zip hz ?_
      have I2 : Inv X pins σ H1 { s1 with heap := h' } := I1.kept (t' := s1.toks) hk
      refine ⟨s1.heap.objs.size + 4, [s1.heap.objs.size + 4, s1.heap.objs.size + 2, s1.heap.objs.size + 3, s1.heap.objs.size, s1.heap.objs.size + 1], _, _, H1, rfl, I2, zipTurn_hot (W.ktu_apart s1.heap.objs.size a b p1.lt p2.lt), ⟨hz, hTI, ⟨_, _, hTO⟩, h1, h2⟩, fun c hcm => ?_, q⟩
      have hle : s1.heap.objs.size ≤ c := by
        have e' : c = s1.heap.objs.size + 4 ∨ c = s1.heap.objs.size + 2 ∨ c = s1.heap.objs.size + 3 ∨ c = s1.heap.objs.size ∨ c = s1.heap.objs.size + 1 := by simpa using hcm
        have key : ∀ n c : Nat, (c = n + 4 ∨ c = n + 2 ∨ c = n + 3 ∨ c = n ∨ c = n + 1) → n ≤ c := fun n c h => by omega
        exact key _ _ e'
      exact I1.fpOk hle (I1.hok.fresh hle)
/-- a tuple of targets -/
theorem pg_tupH {es : List Expr} {k : Nat} {pos : Pos} {t : TGs} {n : Nat} (hot : HotC X) (h : PGs X es t) (hn : (assignEach es X.env).length = n := by rfl) (hst : (assignEach es X.env).findIdx? (·.1) = none := by rfl) : PG X (.Tuple es k pos) (gTup X.K n t) := by
  refine ⟨fun pins s σ H v u Q I r hw => ?_⟩
  obtain ⟨a, xs, e1, hq, hl, hw⟩ := hw
  subst e1
  cases r
  obtain ⟨its, rv, ht, hz⟩ := I.tuple hq
  obtain ⟨x1, ha⟩ := hot.at I
  refine assignTup_hot ha ht (by simp [hn, ← hl, rv.length]) hst fun h' hx => ?_
  have I1 : Inv X pins σ H { s with heap := h' } := I.kept (t' := s.toks) fun b o e => hx b o (Nat.ne_of_lt (Heap.lt_size e)) e
  exact h.run pins _ σ H xs _ Q I1 (by simpa using rv) hw
theorem pe_lcH {elt tg iter : Expr} {ifs : List Expr} {scope : Scope} {own : List (Str × Nat)} {pos : Pos} {wi : TI} {g : TG} {tt : TT} {te : TE} (hot : HotC X) (hN : X.N.Nodup) (hi : PIH X tg iter wi) (ok : BlkOk X.N X.env.scope scope own)
    (hg : ∀ (s : Shared) (H : Hp) (C : Addr) (cl : List (Str × Addr)) (fp : List Addr), PG (bH X s H scope (compEnvC scope cl C X.env) fp) tg g) (ht : ∀ (s : Shared) (H : Hp) (C : Addr) (cl : List (Str × Addr)) (fp : List Addr), PTs (bH X s H scope (compEnvC scope cl C X.env) fp) ifs tt)
    (he : ∀ (s : Shared) (H : Hp) (C : Addr) (cl : List (Str × Addr)) (fp : List Addr), PE (bH X s H scope (compEnvC scope cl C X.env) fp) elt te) (hs : ∀ x, foldedSetIterable iter X.env x = pure x := by intro _; rfl) :
    PE X (.ListComp elt [⟨tg, iter, ifs, 0⟩] scope pos) (tLc wi g tt te (own.map (·.2))) := by
  refine ⟨fun pins s σ H Q I h => ?_⟩
  rw [eval_ListComp]
  have hfree : ∀ y ∈ scope.names, y.2 = .free → ∃ c, X.env.cells.lookup y.1 = some c := fun y hy e => by
    rcases ok.free y hy e with k | k
    · exact I.ok.has _ (.inl k)
    · exact I.ok.has _ (.inr k)
  refine wpAny_comprehension_free (use := none) rfl hs (closure_ok hfree) ok.kind (fun y hy e => by rw [ok.uniq y hy, e])
    (thn (hi.run pins s σ H _ I h) fun xv s1 hx => thn hx fun itv s2 h2 => ?_)
  obtain ⟨it, fp, tn, J, H2, e, I2, T, st2, f2, q⟩ := h2
  subst e
  refine wpAny_newObj_type (newEnv_comp ?_) (by show 0 ≤ sizeLine; decide)
  generalize hD : s2.heap.objs.size = D
  have hDn : H2 D = none := I2.hok.fresh (Nat.le_of_eq hD)
  obtain ⟨W, ⟨m0, w0⟩, turn⟩ := q D hDn
  generalize hs3 : ({ s2 with heap := s2.heap.push { cls := .type "list", data := .seq ([] : List Value).toArray } } : Shared) = s3
  have I3 : Inv X pins σ (upd H2 D (.lst [])) s3 := by
    rw [← hs3]
    refine I2.laid (t' := s2.toks) (fun b o e => Heap.get?_push_of_some _ e) (Nat.le_of_eq hD) ⟨Nat.zero_le _, [], 0, .nil, ?_⟩
    rw [← hD]
    exact Heap.get?_push_size _ rfl
  have h3 : s3.heap = s2.heap.push { cls := .type "list", data := .seq ([] : List Value).toArray } := by rw [← hs3]
  have f3 : ∀ b ∈ fp, FpOk X pins (upd H2 D (.lst [])) b ∧ b < s3.heap.objs.size := fun b hb => by
    obtain ⟨o, e, _⟩ := T.obj _ _ st2 b hb
    have hlt := Heap.lt_size e
    refine ⟨⟨?_, (f2 b hb).2⟩, by rw [h3, Heap.size_push]; exact Nat.lt_succ_of_lt hlt⟩
    rw [upd_ne (by rw [← hD]; exact Nat.ne_of_lt hlt)]
    exact (f2 b hb).1
  have st3 : tn 0 s3.heap := T.keep _ _ _ st2 fun b _ o e => by rw [h3]; exact Heap.get?_push_of_some _ e
  have I4 := block_start I3 ok hN f3
  have pg := hg s3 (upd H2 D (.lst [])) s3.heap.objs.size (cellsFrom (s3.heap.objs.size + 1) scope.names (cloFrom X.env.cells scope.names [])) fp
  have pt := ht s3 (upd H2 D (.lst [])) s3.heap.objs.size (cellsFrom (s3.heap.objs.size + 1) scope.names (cloFrom X.env.cells scope.names [])) fp
  have pe := he s3 (upd H2 D (.lst [])) s3.heap.objs.size (cellsFrom (s3.heap.objs.size + 1) scope.names (cloFrom X.env.cells scope.names [])) fp
  show codeAny _ _ (.compStart (.ListComp elt [⟨tg, iter, ifs, 0⟩] scope pos) 0 (.ref it) (.ref D) (compEnvC scope (cellsFrom (s3.heap.objs.size + 1) scope.names (cloFrom X.env.cells scope.names [])) s3.heap.objs.size X.env)) (compPost (model X.prog X.w) X.A X.xe none (EP X pins σ Q) (.ref D) s3.heap.objs.size) { s3 with heap := pushCells (s3.heap.push { cls := .type "dict", data := .dict #[] }) scope.names }
  have nfp : ∀ b ∈ fp, (upd H2 D (.lst [])) b = none := fun b hb => (f3 b hb).1.1
  generalize hce : compEnvC scope (cellsFrom (s3.heap.objs.size + 1) scope.names (cloFrom X.env.cells scope.names [])) s3.heap.objs.size X.env = ce at I4 pg pt pe ⊢
  have cL : ce.locals = s3.heap.objs.size := by subst hce; rfl
  generalize hH3 : upd H2 D (.lst []) = H3 at I3 I4 pg pt pe w0 nfp f3
  have kp4 : ∀ b o, s3.heap.get? b = some o → (pushCells (s3.heap.push { cls := .type "dict", data := .dict #[] }) scope.names).get? b = some o := fun b o e => pushCells_keeps _ _ _ _ (Heap.get?_push_of_some _ e)
  generalize hs4 : ({ s3 with heap := pushCells (s3.heap.push { cls := .type "dict", data := .dict #[] }) scope.names } : Shared) = s4 at I4 ⊢
  have kp5 : ∀ b o, s3.heap.get? b = some o → s4.heap.get? b = some o := fun b o e => by rw [← hs4]; exact kp4 b o e
  -- the handled exception stays where it is
  have I4 : Inv (bH X s3 H3 scope ce fp) [] (L2.wipe σ (own.map (·.2))) H3 s4 := (I4.pins_of (pins' := X.pn) fun p hp => by
    obtain ⟨e1, e2, e3, e4, e5⟩ := I3.pin p (List.mem_append_left _ hp)
    refine ⟨kp5 _ _ e1, e2, fun z => ?_, fun z => ?_, e5⟩
    · rw [show (X.blk s3 H3 scope ce fp).env.locals = s3.heap.objs.size from cL] at z
      exact Nat.ne_of_lt (Heap.lt_size e1) z
    · rcases List.mem_cons.mp (I3.stkSub _ z) with z | z
      · exact e3 z
      · exact e4 z).toTry _
  have st4 : tn 0 s4.heap := T.keep _ _ _ st3 fun b _ o e => kp5 _ _ e
  have stat : ∀ {σ' : L2.St} {H' : Hp} {s' : Shared}, Inv (bH X s3 H3 scope ce fp) [] σ' H' s' → (∀ b ∈ fp, H' b = none) → ∀ b ∈ fp, FpOk (bH X s3 H3 scope ce fp) [] H' b := fun {σ' H' s'} I' hn b hb =>
    ⟨hn b hb, (I'.ok.exf b hb).1, I'.ok.exfs b hb, .inl hb, fun x c e => (I'.ok.exf b hb).2 x c e, fun p hp => (f3 b hb).1.2.2.2.2.2 p (List.mem_append_left _ (by have hp' : p ∈ X.pn ++ ([] : List (Addr × Obj)) := hp; simpa using hp'))⟩
  have loop : codeAny (model X.prog X.w) X.A (.compLoop (.ListComp elt [⟨tg, iter, ifs, 0⟩] scope pos) 0 (.ref it) (.ref D) ce) (compPost (model X.prog X.w) X.A X.xe none (EP X pins σ Q) (.ref D) s3.heap.objs.size) s4 := by
    refine compLoop_any (fun n s' => ∃ i H', Inv (bH X s3 H3 scope ce fp) [] (L2.wipe σ (own.map (·.2))) H' s' ∧ tn i s'.heap ∧ (∀ b ∈ fp, H' b = none) ∧ W i n H') ?_ m0 ⟨0, H3, I4, st4, nfp, w0⟩
    rintro n s5 ⟨i, H5, I5, st5, n5, w5⟩
    rcases turn i n H5 w5 with ⟨stop, qq⟩ | ⟨go, Nx, hNx, step⟩
    · have td := T.done (bH X s3 H3 scope ce fp) rfl rfl rfl (hotB hot) i [] s5 _ H5 (fun _ _ => False) I5 (stat I5 n5) st5 stop
      refine thnF td fun r s6 ⟨hr, I6⟩ => ?_
      subst hr
      have I7 : Inv X pins σ H5 s6 := I3.call' (ch := fp) I6.os I6.base I6.hok I6.bare fun b hb => ⟨(f3 b hb).1.2.2.2.1, (f3 b hb).1.2.1, (f3 b hb).1.2.2.2.2.1, (f3 b hb).1.2.2.2.2.2⟩
      have nC : H5 s3.heap.objs.size = none := by
        have z : H5 ce.locals = none := I6.free
        rw [cL] at z
        exact z
      obtain ⟨m, hn, _⟩ := I6.loc
      have hn : s6.heap.Ns ce.locals m := hn
      rw [cL] at hn
      refine ⟨m, hn, fun h'' sb => ?_⟩
      obtain ⟨f0, f1, f2', f3', f4, f5⟩ := I3.fpOk (Nat.le_refl _) nC
      exact ⟨.ref D, H5, I7.turned (t' := s6.toks) (fun b o hb e => (sb.2 b hb).trans e) f0 f1 f3' f4 f5, rfl, qq⟩
    · have ti := T.item (bH X s3 H3 scope ce fp) rfl rfl rfl (hotB hot) i [] s5 _ H5 (fun _ _ => False) I5 (stat I5 n5) st5 go
      refine thnF ti fun r s6 ⟨u, hr, h6⟩ => ?_
      subst hr
      refine thnF h6 fun _ s7 ⟨x, H7, I7, r7, y7, st7, n7⟩ => ?_
      have I7' := I7.pinned (stat I7 n7) (T.obj _ _ st7)
      refine thnF (pg.run _ s7 _ H7 x u _ I7' r7 (step x H7 y7)) fun _ s8 ⟨σ8, H8, I8, hw8, q8⟩ => ?_
      refine thnF (pt.run _ s8 σ8 H8 _ I8 q8) fun b s9 ⟨H9, I9, q9⟩ => ?_
      have fin : ∀ {s' : Shared} {H' : Hp}, Inv (bH X s3 H3 scope ce fp) ([] ++ pinsAt fp s7.heap) σ8 H' s' → Nx H' → ∃ m, m < n ∧ ∃ i H', Inv (bH X s3 H3 scope ce fp) [] (L2.wipe σ (own.map (·.2))) H' s' ∧ tn i s'.heap ∧ (∀ b ∈ fp, H' b = none) ∧ W i m H' := fun {s' H'} I' nx => by
        obtain ⟨m', hm, w'⟩ := hNx H' nx
        have pin' : ∀ b ∈ fp, ∀ o, s7.heap.get? b = some o → s'.heap.get? b = some o ∧ H' b = none := fun b hb o e =>
          let z := I'.pin (b, o) (List.mem_append_right _ (List.mem_append_right _ (mem_pinsAt hb e)))
          ⟨z.1, z.2.1⟩
        have hl : (L2.wipe σ (own.map (·.2))).length = σ8.length := by rw [← hw8, L2.wipe_length]
        refine ⟨m', hm, i + 1, H', (I'.unpinned (pins := [])).weak hl (fun j v e => ?_), T.keep _ _ _ st7 fun b hb o e => (pin' b hb o e).1, fun b hb => ?_, w'⟩
        · rw [← hw8] at e
          exact (wipe_some e).1
        · obtain ⟨o, e, _⟩ := T.obj _ _ st7 b hb
          exact (pin' b hb o e).2
      cases b with
      | false =>
        simp only [Bool.false_eq_true, if_false] at q9 ⊢
        exact fin I9 q9
      | true =>
        simp only [if_true] at q9 ⊢
        refine thnF (pe.run _ s9 σ8 H9 _ I9 q9) fun z s10 ⟨yv, H10, I10, r10, acc, hD10, hz10, nx⟩ => ?_
        exact app_ok (X := bH X s3 H3 scope ce fp) I10 hD10 hz10 r10 fun s11 I11 => fin I11 nx
  exact codeAny_compStart_list loop (T.self X.A 0 _ _ _ st4 loop)
end
end Ev
end

section
set_option Elab.async false
set_option linter.all false
set_option autoImplicit false
set_option maxRecDepth 100000
set_option maxHeartbeats 4000000
/-! # The def that names an error, while the error is handled -/
namespace Ev
open PySem PySem.Spec PyProof.Rows L2 HotX L2H
/-- two names, by themselves in a tuple -/
def pairT (N : List Str) (sc : Scope) (fb : Fb) : Expr → Option Tg
  | .Tuple [.Name x _, .Name y _] _ _ => if (locB sc x && fb x && locB sc y && fb y) = true then (ixOf N x).bind fun i => (ixOf N y).map fun j => .cons (.nm i) (.cons (.nm j) .nil) else none
  | _ => none
def varH (N : List Str) (sc : Scope) : Expr → Option X
  | .Name x _ => if (visB sc x && !odd x) = true then (ixOf N x).map .loc else none
  | _ => none
/-- its expressions, but isinstance -/
def cH (N : List Str) : Nat → Scope → Expr → Option X
  | 0, _, _ => none
  | n + 1, sc, e => match e with
    | .Constant (.str z) _ _ => some (.con (.str z))
    | .Name x p => varH N sc (.Name x p)
    | .List es _ => (cL (cH N n sc) es).map .lst
    | .BinOp a .Add b _ => (cH N n sc a).bind fun x => (cH N n sc b).map fun y => .bin .Add x y
    | .Call (.Attribute o m apos) [a] [] pos => if (starred a || bareCall o || !(apos.endLine == pos.line)) = true then none else
        (mthOf m).bind fun k => (cH N n sc o).bind fun x => (cH N n sc a).map fun y => .mth k x (.cons y .nil)
    | .ListComp elt [⟨.Tuple ts tk tp, .Call (.Name f _) [a, b] [] _, [tst], k⟩] scope _ => if (L2.blkC N sc scope (ownOf N scope) && decide (k = 0) && decide (f = "zip") && glB sc f && !starred a && !starred b) = true then
        (cH N n sc a).bind fun x => (cH N n sc b).bind fun y => (pairT N (L2.relS scope sc) (fbBlk scope (L2.relS scope sc)) (.Tuple ts tk tp)).bind fun t =>
        if (t.slots.all fun i => decide (i ∈ (ownOf N scope).map (·.2))) = false then none else
        (varH N (L2.relS scope sc) tst).bind fun c => (varH N (L2.relS scope sc) elt).map fun e => .lc ((ownOf N scope).map (·.2)) t (.zipL x y) (.cons c .nil) e else none
    | _ => none
section
variable {T : List (Addr × Str)} {cl : Nat → Option Addr} {E : XK} {c : Cn} {X : Cx} {N : List Str} {sc : Scope} {a0 : Addr} {bit : Str → Option Bool}
theorem pgw_tupH {es : List Expr} {k : Nat} {pos : Pos} {t : Tg} (hc : HotC X) (hl : t.isList = true) (hn : t.len = es.length) (hp : plain es = true) (h : PGs X es (tTws X.K T t)) : PG X (.Tuple es k pos) (tTw X.K T t) :=
  pg_imp (pg_tupH (n := es.length) hc h each_len (each_plain hp)) fun v σ H Q ⟨ρ, M, S, u, ρ', en, st, r, e, q⟩ => by
    have hu : (∃ ds, u = .d (.tuple ds)) ∨ ∃ ds, u = .it ds := by
      cases t with
      | nm i => cases hl
      | nil =>
        unfold bindT at e
        split at e
        · exact .inl ⟨_, rfl⟩
        · exact .inr ⟨_, rfl⟩
        · cases e
      | cons a b =>
        unfold bindT at e
        split at e
        · exact .inl ⟨_, rfl⟩
        · exact .inr ⟨_, rfl⟩
        · cases e
    obtain ⟨ds, a, xs, e1, t1, r1, e⟩ : ∃ ds a xs, v = .ref a ∧ SqT X.K H a xs ∧ RpA X.K M H xs ds ∧ bindT t (.d (.tuple ds)) ρ = some ρ' := by
      rcases hu with ⟨ds, rfl⟩ | ⟨ds, rfl⟩
      · obtain ⟨a, xs, e1, t1, r1⟩ := (show Rp X.K M H v (.tuple ds) from r).rs.tup
        exact ⟨ds, a, xs, e1, t1.sq, r1, e⟩
      · obtain ⟨a, xs, e1, _, t1, r1⟩ := r
        rw [bindT_it hl] at e
        exact ⟨ds, a, xs, e1, .inl (.inl t1), r1, e⟩
    exact ⟨a, xs, e1, t1, by rw [r1.length, bindT_len hl e, hn], ρ, M, S, ds, ρ', en, st, r1, e, q⟩
/-- what is asked of the place -/
structure HotG (a0 : Addr) (bit : Str → Option Bool) (X : Cx) (N : List Str) (sc : Scope) : Prop where
  hot : HotC X
  names : X.N = N
  nd : N.Nodup
  scope : X.env.scope = sc
  room : X.A.units + 65 < cLine
  isi : X.mg "isinstance" = none
  zip : X.mg "zip" = none
  bits : ∀ x b, bit x = some b → ∃ v, (∀ p, glB sc x = true → odd x = false → PE X (.Name x p) (tC v)) ∧ CallR X (.builtin "isinstance") (fun xs H Q => xs = [.ref a0, v] ∧ Q (.bl b) H)
theorem var_ok {N : List Str} {sc : Scope} (hN : X.N = N) (hs : X.env.scope = sc) {e : Expr} {ir : Ev.X} (h : varH N sc e = some ir) : PE X e (tX X.K T cl E c ir) ∧ ∀ whole, isTrue e X.env whole = (do let v ← whole; standAt e.pos; holding [v] (truthy v)) := by
  unfold varH at h
  split at h
  · split at h
    · rename_i hc
      simp only [Bool.and_eq_true, Bool.not_eq_true'] at hc
      obtain ⟨i, hi, rfl⟩ := map_some h
      exact ⟨px_loc hN hs hc.2 hc.1 hi, fun _ => rfl⟩
    · cases h
  · cases h
theorem cH_ok (G : HotG a0 bit X N sc) : ∀ n e ir, cH N n sc e = some ir → PE X e (tX X.K T cl E c ir) := by
  intro n
  induction n with
  | zero => intro e ir h; unfold cH at h; cases h
  | succ n ih =>
    intro e ir h
    unfold cH at h
    split at h
    · cases h; exact px_con pe_str fun _ _ => .str _
    · exact (var_ok G.names G.scope h).1
    · obtain ⟨xs, h1, rfl⟩ := map_some h
      exact px_lst (cL_ok ih h1)
    · obtain ⟨x, h1, h⟩ := bindO h
      obtain ⟨y, h2, rfl⟩ := map_some h
      exact px_bin (ih _ _ h1) (ih _ _ h2)
    · split at h
      · cases h
      · rename_i hc
        simp only [Bool.or_eq_true, Bool.not_eq_true', not_or, Bool.not_eq_true, Bool.not_eq_false] at hc
        obtain ⟨⟨h1, h2⟩, h3⟩ := hc
        obtain ⟨m, h4, h⟩ := bindO h
        obtain ⟨x, h5, h⟩ := bindO h
        obtain ⟨y, h6, rfl⟩ := map_some h
        exact px_mth G.room h4 h1 h2 h3 (ih _ _ h5) (ih _ _ h6)
    · split at h
      · rename_i elt ts tk tp f fp a b cp tst k scope pos hc
        simp only [Bool.and_eq_true, Bool.not_eq_true', decide_eq_true_eq] at hc
        obtain ⟨⟨⟨⟨⟨h1, h2⟩, h3⟩, h4⟩, h5⟩, h6⟩ := hc
        subst h2 h3
        obtain ⟨x, hx, h⟩ := bindO h
        obtain ⟨y, hy, h⟩ := bindO h
        obtain ⟨t, ht, h⟩ := bindO h
        split at h
        · cases h
        · rename_i hsl
          have hsl := by simpa using hsl
          obtain ⟨d, hd, h⟩ := bindO h
          obtain ⟨e, he, rfl⟩ := map_some h
          have hsl : ∀ i, i ∈ t.slots → i ∈ (ownOf N scope).map (·.2) := fun j hj => by
            have := hsl j hj
            simpa using this
          have hBs : ∀ (s : Shared) (H : Hp) (C : Addr) (cells : List (Str × Addr)) (fp : List Addr), (bH X s H scope (compEnvC scope cells C X.env) fp).env.scope = relS scope sc := fun s H C cells fp => by rw [← G.scope]; rfl
          have hfb : ∀ (s : Shared) (H : Hp) (C : Addr) (cells : List (Str × Addr)) (fp : List Addr) (x : Str), fbBlk scope (relS scope sc) x = true → (bH X s H scope (compEnvC scope cells C X.env) fp).fn x = true ∨ (bH X s H scope (compEnvC scope cells C X.env) fp).env.scope.names.lookup x = some .local := fun s H C cells fp x h => by
            unfold fbBlk at h
            rw [Bool.or_eq_true, decide_eq_true_eq, decide_eq_true_eq] at h
            refine h.imp (fun z => ?_) fun z => ?_
            · show (scope.names.lookup x == some .cell) = true
              rw [z]
              decide
            · rw [hBs s H C cells fp]
              exact z
          have hB : BlkOk X.N X.env.scope scope (ownOf N scope) := blkOk_by (by rw [G.names, G.scope]; exact h1)
          -- what is walked
          have hI : PIH X (.Tuple ts tk tp) (.Call (.Name "zip" fp) [a, b] [] cp) (tIt X.K T cl E c (.zipL x y)) := by
            have base := pi_zipH (elts := ts) (kk := tk) (tpos := tp) (p := fp) (pos := cp) (gl_of G.scope h4) G.zip (pa_cons (ih _ _ hx) (pa_cons (ih _ _ hy) pa_nil (star_of h6)) (star_of h5)) (star_of h5) (by rw [star_of h6]; rfl)
            refine ⟨fun pins s σ H R I q => base.run pins s σ H R I ?_⟩
            obtain ⟨ρ, M, S, en, st, hq⟩ := q
            unfold evIt at hq
            refine tX_b en st hq fun v M1 H1 S1 u g1 en1 st1 r1 h1 => tX_b en1 st1 h1 fun w M2 H2 S2 u2 g2 _ st2 r2 h2 => ?_
            have r1 := r1.mono g2
            split at h2
            · cases (show Rp X.K M2 H2 v _ from r1) with
              | lst n hl ra =>
                cases (show Rp X.K M2 H2 w _ from r2) with
                | lst n' hl' ra' =>
                  refine ⟨_, _, _, _, rfl, SqL.of hl, SqL.of hl', h2 _ M2 H2 (Gr.refl _ _) st2 (feed_zip (a := 0) (b := 0) (fun M' H' g i => ?_) ra ra')⟩
                  obtain ⟨_, h3⟩ := g.at_ hl n fun ps z => by cases z
                  obtain ⟨_, h4⟩ := g.at_ hl' n' fun ps z => by cases z
                  refine ⟨fun z => ⟨_, _, SqL.of h3, SqL.of h4, z⟩, fun x y ex ey => ⟨⟨_, _, x, y, SqL.of h3, SqL.of h4, ex, ey⟩, fun v H'' ⟨t, x', y', e1, e2, e3, e4, e5⟩ => ?_⟩⟩
                  have e4 := e4 _ (SqL.of h3)
                  have e5 := e5 _ (SqL.of h4)
                  rw [ex] at e4
                  rw [ey] at e5
                  cases e4
                  cases e5
                  exact ⟨t, e1, e2, e3⟩
            · exact h2.elim
          refine pe_imp (pe_lcH G.hot (by rw [G.names]; exact G.nd) hI hB (g := tTw X.K T t) (tt := tCs X.K T cl noE c (.cons d .nil)) (te := tX X.K T cl noE c e) (fun s H C cells fp => ?_) (fun s H C cells fp => ?_) (fun s H C cells fp => ?_)) fun σ H Q q => lc_conv hsl q
          · unfold pairT at ht
            split at ht
            · rename_i heq
              cases heq
              split at ht
              · rename_i hc
                simp only [Bool.and_eq_true] at hc
                obtain ⟨⟨⟨l1, l2⟩, l3⟩, l4⟩ := hc
                obtain ⟨i, hi, ht⟩ := bindO ht
                obtain ⟨j, hj, rfl⟩ := map_some ht
                exact pgw_tupH (hotB G.hot) rfl rfl rfl (pgsw_cons rfl (pgw_name (X := bH X s H scope (compEnvC scope cells C X.env) fp) G.names G.nd (hBs s H C cells fp) (hfb s H C cells fp) l1 l2 hi) (pgsw_cons rfl (pgw_name (X := bH X s H scope (compEnvC scope cells C X.env) fp) G.names G.nd (hBs s H C cells fp) (hfb s H C cells fp) l3 l4 hj) pgsw_nil))
              · cases ht
            · cases ht
          · have q := var_ok (T := T) (cl := cl) (E := noE) (c := c) (X := bH X s H scope (compEnvC scope cells C X.env) fp) G.names (hBs s H C cells fp) hd
            exact ptsx_one (pt_plain q.1 q.2)
          · exact (var_ok (X := bH X s H scope (compEnvC scope cells C X.env) fp) G.names (hBs s H C cells fp) he).1
      · cases h
    · cases h
/-- isinstance(n, C), n the error -/
def bitOf (N : List Str) (bit : Str → Option Bool) (sc : Scope) : Expr → Option Bool
  | .Call (.Name f _) [.Name v _, .Name c _] [] _ => if (decide (f = "isinstance") && glB sc f && visB sc v && !odd v && glB sc c && !odd c && decide (ixOf N v = some 0)) = true then bit c else none
  | _ => none
def bitsOf (N : List Str) (bit : Str → Option Bool) (sc : Scope) : List Expr → Option (List Bool)
  | [] => some []
  | e :: r => (bitOf N bit sc e).bind fun b => (bitsOf N bit sc r).map fun bs => b :: bs
def conBs : List Bool → Xs
  | [] => .nil
  | b :: r => .cons (.con (.bool b)) (conBs r)
/-- an answer, the error standing in the first slot -/
def tJ (a0 : Addr) (t : TE) : TE := fun σ H Q => σ[0]? = some (some (.ref a0)) ∧ t σ H Q
theorem bit_ok (G : HotG a0 bit X N sc) {e : Expr} {b : Bool} (h : bitOf N bit sc e = some b) : PE X e (tJ a0 fun _ H Q => Q (.bl b) H) ∧ starred e = false := by
  unfold bitOf at h
  split at h
  · split at h
    · rename_i hc
      simp only [Bool.and_eq_true, Bool.not_eq_true', decide_eq_true_eq] at hc
      obtain ⟨⟨⟨⟨⟨⟨h1, h2⟩, h3⟩, h4⟩, h5⟩, h6⟩, h7⟩ := hc
      subst h1
      obtain ⟨v, hv, hr⟩ := G.bits _ _ h
      refine ⟨pe_imp (pe_callB hr (gl_of G.scope h2) G.isi (by decide +kernel) (pa_cons (pe_var (i := 0) (by rw [G.names]; exact ix_of h7) (by rw [G.scope]; exact vis_of h3) (odd_of h4).1 (odd_of h4).2.1) (pa_cons (hv _ h5 h6) pa_nil) (star_of rfl)) (by decide +kernel) (by decide +kernel) (star_of rfl) rfl) fun σ H Q ⟨hs, q⟩ => ⟨_, hs, rfl, q⟩, rfl⟩
    · cases h
  · cases h
theorem bits_ok (G : HotG a0 bit X N sc) : ∀ {es : List Expr} {bs : List Bool}, bitsOf N bit sc es = some bs → PA X es (fun σ H Q => σ[0]? = some (some (.ref a0)) ∧ Q (bs.map V.bl) H)
  | [], bs, h => by unfold bitsOf at h; cases h; exact pa_imp pa_nil fun σ H Q q => q.2
  | e :: r, bs, h => by
    unfold bitsOf at h
    obtain ⟨b, h1, h⟩ := bindO h
    obtain ⟨cs, h2, rfl⟩ := map_some h
    obtain ⟨p, hs⟩ := bit_ok G h1
    exact pa_imp (pa_cons p (bits_ok G h2) (star_of hs)) fun σ H Q q => ⟨q.1, q.1, q.2⟩
theorem ev_conBs (g : Cn) (ρ : Rho) (S : Store) : ∀ bs : List Bool, evXs g (conBs bs) ρ S = .ok (bs.map fun b => .d (.bool b)) S
  | [] => by unfold conBs evXs; rfl
  | b :: r => by
    unfold conBs evXs evX
    show ((evXs g (conBs r) ρ S).bind fun xs S2 => R.ok (U.d (.bool b) :: xs) S2) = _
    rw [ev_conBs g ρ S r]
    rfl
theorem datas_bs (S : Store) : ∀ bs : List Bool, datas S (bs.map fun b => U.d (.bool b)) = some (bs.map PyData.bool)
  | [] => rfl
  | b :: r => by
    show (datas S (r.map fun b => U.d (.bool b))).map _ = _
    rw [datas_bs S r]
    rfl
theorem rpA_bs {K : W.Frag} {M : Ms} {H : Hp} : ∀ bs : List Bool, RpA K M H (bs.map V.bl) (bs.map PyData.bool)
  | [] => .nil
  | b :: r => .cons (.bl b) (rpA_bs r)
theorem px_bits (G : HotG a0 bit X N sc) {es : List Expr} {bs : List Bool} {pos : Pos} (h : bitsOf N bit sc es = some bs) : PE X (.List es pos) (tJ a0 (tX X.K T cl E c (.lst (conBs bs)))) :=
  pe_imp (pe_lst (bits_ok G h)) fun σ H Q ⟨hs, ρ, M, S, en, st, h⟩ => by
    refine ⟨hs, ?_⟩
    unfold evX at h
    rw [ev_conBs] at h
    have h : Out X.K T cl E M H (R.of S ((datas S (bs.map fun b => U.d (.bool b))).bind fun ps => if ps.length ≤ line then some (U.d (.list ps)) else none)) (RU X.K) Q := h
    rw [datas_bs] at h
    have h : Out X.K T cl E M H (R.of S (if (bs.map PyData.bool).length ≤ line then some (U.d (.list (bs.map PyData.bool))) else none)) (RU X.K) Q := h
    split at h
    · rename_i hl
      rw [List.length_map] at hl
      exact ⟨by rw [List.length_map, ← line_eq]; exact hl, fun p hp => Wish.list (ds := bs.map PyData.bool) h st hp (rpA_bs bs)⟩
    · exact h.elim
theorem px_more (G : HotG a0 bit X N sc) {e : Expr} {es : List Expr} {bs : List Bool} {x : Ev.X} {pos p2 : Pos} (h : bitsOf N bit sc es = some bs) (he : PE X e (tX X.K T cl E c x)) : PE X (.BinOp e .Add (.List es p2) pos) (tJ a0 (tX X.K T cl E c (.bin .Add x (.lst (conBs bs))))) :=
  pe_imp (pe_op (bin_ok (T := T) (cl := cl) (E := E) .Add) he (px_bits (T := T) (cl := cl) (E := E) (c := c) G h)) fun σ H Q ⟨hs, ρ, M, S, en, st, h⟩ => by
    unfold evX at h
    exact tX_b en st h fun v M1 H1 S1 u g1 en1 st1 r1 h1 => ⟨hs, tX_b en1 st1 h1 fun w M2 H2 S2 u2 g2 _ st2 r2 h2 => ⟨M2, S2, u, u2, r1.mono g2, r2, st2, h2⟩⟩
end
end Ev
end

section
set_option Elab.async false
set_option linter.all false
set_option autoImplicit false
set_option maxRecDepth 100000
set_option maxHeartbeats 4000000
/-! # The def that calls what it got, and names the error -/
namespace Ev
open PySem PySem.Spec PyProof.Rows L2 HotX L2H
/-- the statements of the def that names an error -/
def cHb (N : List Str) (bit : Str → Option Bool) (sc : Scope) : List Stmt → Option Sts
  | [] => some .nil
  | .Assign [.Name x _] (.List es _) _ :: r => if (locB sc x && decide (ixOf N x ≠ some 0)) = true then (ixOf N x).bind fun i => (bitsOf N bit sc es).bind fun bs => (cHb N bit sc r).map fun ys => .cons (.set i (.lst (conBs bs))) ys else none
  | .Assign [.Name x _] (.BinOp e .Add (.List es _) _) _ :: r => if (locB sc x && decide (ixOf N x ≠ some 0)) = true then (ixOf N x).bind fun i => (cH N 100 sc e).bind fun y => (bitsOf N bit sc es).bind fun bs => (cHb N bit sc r).map fun ys => .cons (.set i (.bin .Add y (.lst (conBs bs)))) ys else none
  | .Assign [.Name x _] e _ :: r => if (locB sc x && !isComp e && decide (ixOf N x ≠ some 0)) = true then (ixOf N x).bind fun i => (cH N 100 sc e).bind fun y => (cHb N bit sc r).map fun ys => .cons (.set i y) ys else none
  | .Return (some e) _ :: r => (cH N 100 sc e).bind fun y => (cHb N bit sc r).map fun ys => .cons (.ret y) ys
  | _ => none
section
variable {T : List (Addr × Str)} {cl : Nat → Option Addr} {E : XK} {c : Cn} {X : Cx} {N : List Str} {sc : Scope} {a0 : Addr} {bit : Str → Option Bool}
def tJs (a0 : Addr) (t : TS) : TS := fun D σ H => σ[0]? = some (some (.ref a0)) ∧ t D σ H
theorem conv_setJ {i : Nat} {y : Ev.X} {b : Sts} {D : Ends} {σ : L2.St} {H : Hp} (hi : i ≠ 0) (h : tJs a0 (tSs X.K T cl E c (.cons (.set i y) b)) D σ H) :
    tSeq (tAsg (tJ a0 (tX X.K T cl E c y)) (gName i)) (tJs a0 (tSs X.K T cl E c b)) D σ H := by
  obtain ⟨hs, ρ, M, S, en, st, h⟩ := h
  unfold evSs evS at h
  rw [bind_assoc] at h
  refine ⟨hs, tX_b en st h fun v M1 H1 S1 u g1 en1 st1 r1 h1 => ⟨?_, ?_⟩⟩
  · rw [List.getElem?_set_ne hi]
    exact hs
  · exact ⟨_, M1, S1, en1.set r1, st1, h1⟩
theorem cHb_ok (G : HotG a0 bit X N sc) (hf : ∀ x, X.fn x = true) : ∀ ss ir, cHb N bit sc ss = some ir → PSs X ss (tJs a0 (tSs X.K T cl E c ir)) := by
  have hN : X.N.Nodup := by rw [G.names]; exact G.nd
  have ix : ∀ {x : Str} {i : Nat}, ixOf N x = some i → X.N[i]? = some x := fun h => by rw [G.names]; exact ix_of h
  have loc : ∀ {x : Str}, locB sc x = true → L2.Loc X.env.scope x := fun h => by rw [G.scope]; exact loc_of h
  intro ss
  induction ss with
  | nil => intro ir h; unfold cHb at h; cases h; exact pss_imp ssx_nil fun D σ H q => q.2
  | cons s r ih =>
    intro ir h
    unfold cHb at h
    split at h
    · rename_i heq; cases heq
    · rename_i heq
      cases heq
      split at h
      · rename_i hc
        simp only [Bool.and_eq_true, decide_eq_true_eq] at hc
        obtain ⟨i, hi, h⟩ := bindO h
        obtain ⟨bs, hb, h⟩ := bindO h
        obtain ⟨ys, hr, rfl⟩ := map_some h
        exact pss_imp (pss_cons (ps_set hN (ix hi) (loc hc.1) (px_bits (T := T) (cl := cl) (E := E) (c := c) G hb) (swp_no rfl) (.inl (hf _))) (ih _ hr)) fun D σ H q => conv_setJ (fun z => hc.2 (by rw [← z]; exact hi)) q
      · cases h
    · rename_i heq
      cases heq
      split at h
      · rename_i hc
        simp only [Bool.and_eq_true, decide_eq_true_eq] at hc
        obtain ⟨i, hi, h⟩ := bindO h
        obtain ⟨y, hy, h⟩ := bindO h
        obtain ⟨bs, hb, h⟩ := bindO h
        obtain ⟨ys, hr, rfl⟩ := map_some h
        exact pss_imp (pss_cons (ps_set hN (ix hi) (loc hc.1) (px_more (T := T) (cl := cl) (E := E) (c := c) G hb (cH_ok G _ _ _ hy)) (swp_no rfl) (.inl (hf _))) (ih _ hr)) fun D σ H q => conv_setJ (fun z => hc.2 (by rw [← z]; exact hi)) q
      · cases h
    · rename_i heq
      cases heq
      split at h
      · rename_i hc
        simp only [Bool.and_eq_true, Bool.not_eq_true', decide_eq_true_eq] at hc
        obtain ⟨i, hi, h⟩ := bindO h
        obtain ⟨y, hy, h⟩ := bindO h
        obtain ⟨ys, hr, rfl⟩ := map_some h
        exact pss_imp (pss_cons (ps_set hN (ix hi) (loc hc.1.1) (pe_imp (cH_ok (T := T) (cl := cl) (E := E) (c := c) G _ _ _ hy) (t' := tJ a0 (tX X.K T cl E c y)) fun σ H Q q => q.2) (swp_no hc.1.2) (.inl (hf _))) (ih _ hr)) fun D σ H q => conv_setJ (fun z => hc.2 (by rw [← z]; exact hi)) q
      · cases h
    · rename_i heq
      cases heq
      obtain ⟨y, hy, h⟩ := bindO h
      obtain ⟨ys, hr, rfl⟩ := map_some h
      refine pss_imp (pss_cons (sx_ret (cH_ok (T := T) (cl := cl) (E := E) (c := c) G _ _ _ hy)) (ih _ hr)) fun D σ H q => ?_
      obtain ⟨hs, ρ, M, S, en, st, h⟩ := q
      unfold evSs at h
      refine ⟨ρ, M, S, en, st, ?_⟩
      unfold evS at h ⊢
      rw [bind_assoc] at h
      cases e : evX c y ρ S with
      | ok u S1 =>
        rw [e] at h
        have h : Out X.K T cl E M H (.ok (.rt u) S1) (relF X.K) (endF D) := h
        intro b M' H' g st' rel
        cases b with
        | inl σ' => exact rel.elim
        | inr v => exact h (.inr v) M' H' g st' rel
      | exc k S1 => rw [e] at h; exact h
      | bad => rw [e] at h; exact h
    · cases h
/-- isinstance of the error that is handled -/
theorem isE_any {a D : Addr} {oe : Obj} {d : Option Addr} (hp : (a, oe) ∈ X.pn) (C : ExcC X.K D) (hz : Zc (.ref D) d oe) (hdc : ∀ dd, d = some dd → (∃ od, X.s_0.heap.get? dd = some od) ∧ dd ∉ X.ex) (hf : ∃ vs, oe.data = .fields vs) {v : V} {cv : Value} (hcv : ∀ u, RelV v u → u = cv) {b : Bool} (e : PySem.W.kitOne X.K (.ref D) cv = some b) :
    CallR X (.builtin "isinstance") (fun xs H Q => xs = [.ref a, v] ∧ Q (.bl b) H) := by
  intro pins s σ H xs us Q I r ⟨ex, q⟩
  subst ex
  cases r with
  | cons rx rr =>
    cases rr with
    | cons rt rr =>
      cases rr
      cases rx
      have ec := hcv _ rt
      subst ec
      obtain ⟨hget, _⟩ := I.pin (a, oe) (List.mem_append_left _ hp)
      obtain ⟨vs, hv⟩ := hf
      obtain ⟨od', J⟩ : ∃ od', PySem.W.InstAt s.heap a oe D od' := by
        obtain ⟨oc, od, oda, osl⟩ := oe
        obtain ⟨h1, h2⟩ := hz
        dsimp only at h1 h2 hv
        subst h1 h2 hv
        cases od with
        | none => exact ⟨none, hget, rfl, rfl, trivial⟩
        | some dd =>
          obtain ⟨⟨ob, e1⟩, e2⟩ := hdc dd rfl
          obtain ⟨ob', e3⟩ := I.base.there dd ob e1 e2
          exact ⟨some ob', hget, rfl, rfl, e3⟩
      exact PySem.W.kia_one (PySem.W.kitx_exc (by obtain ⟨cd, e4, _⟩ := PySem.W.any_some C.hd; rw [e4]; rfl) C.hg C.hk C.hs C.ha C.hn C.ht C.hm) I.kIn J e (fun z => nomatch z) fun tk => ⟨.bl b, H, I.kept (t' := tk) fun _ _ z => z, rfl, q⟩
/-- a def called while p's exception is handled: its body walked with p in sight -/
theorem call_hotp {CX : CXT} {P : Program} {w : World} {K : W.Frag} {mg : Str → Option Value} {base : Heap} {k : Nat} {f : Addr} {name qual : Str} {params : Arguments} {body : List Stmt} {scope : Scope} {dV kV doc pm cdv ct oc : Value} {an od : Option Addr}
    {osl : Array (Option Value)} {N ps : List Str} (lk : K.lookup f = some ⟨oc, od, .func (W.fnOf name qual params body scope dV kV doc pm an cdv ct), osl⟩) (hcd : W.codeIn K cdv qual = true) (S : FnScope N ps scope)
    {A : Around} {outer : List Env} {s : Shared} {H : Hp} {args : Args} {us : List Value} {vs : List V} {Q : VK} {E : XK} {p : Addr × Obj} (hr : RoomH (k + 1) A) (hpin : PinOk outer H s p) (e0 : Env0 P w K mg base A outer s H)
    (hb : BindsTo s (W.fnOf name qual params body scope dV kV doc pm an cdv ct) args (ps.zip us)) (r : Vals vs us) (hl : vs.length = ps.length)
    (hbody : RoomH k (A.deeper (envOfC qual scope s.heap.objs.size f cdv)) → ∃ t, PSs (cxH CX P w K mg base N qual scope f cdv A outer s H E p) body t ∧ t { nx := fun _ H' => Q .non H', rt := Q } (L2.start N vs) H) :
    codeAny (model P w) A (.call (.ref f) args) (CR CX outer P w H s Q E) s := by
  have KX : K.In s.heap := e0.mod.kin.keeps fun b o e => (e0.bs b o e).1
  have hkind : ∀ y ∈ ps.zip us, scope.names.lookup y.1 = some .local ∨ (scope.names.lookup y.1 = some .cell ∧ ((cellsFrom (s.heap.objs.size + 1) scope.names []).lookup y.1).isSome = true) := fun ⟨n, v⟩ hy =>
    (S.par n (List.of_mem_zip hy).1).imp id fun q => ⟨q, W.cellsFrom_some _ _ _ (.inl q)⟩
  refine codeAny_call_function hr.depth (KX _ _ lk) rfl S.co S.gen rfl (W.codeRec_of KX hcd) (hb _ _ _ _ ?_)
  refine wpAny_newFunctionEnv_cells S.kind hkind fun env he s1 x => ?_
  subst he
  refine ⟨(e0.mod.nolimit.keeps fun b o e => (e0.bs b o e).1).keeps x.toInCall.keep, codeAny_func ?_⟩
  obtain ⟨t, ht, hq⟩ := hbody (hr.deeper _)
  refine wpAny_mono (ht.run [] s1 (L2.start N vs) H _ (inv_startH S hpin e0 hl r x) hq) (fun fl s' hs => ?_) fun e s' hs => hs
  cases fl with
  | ret u =>
    obtain ⟨v, σ', H', J, rv, q⟩ := hs
    exact ⟨v, H', J.os, J.bare, J.base, J.hok, rv, q⟩
  | next =>
    obtain ⟨σ', H', J, q⟩ := hs
    exact ⟨V.non, H', J.os, J.bare, J.base, J.hok, rfl, q⟩
  | brk =>
    obtain ⟨_, _, _, q⟩ := hs
    exact q.elim
  | cont =>
    obtain ⟨_, _, _, q⟩ := hs
    exact q.elim
/-- the def that names an error: what is asked of it -/
structure NmDef (T : List (Addr × Str)) (cl : Nat → Option Addr) (nm : Nat → Option Str) (P : Program) (w : World) (K : W.Frag) (mg : Str → Option Value) (base : Heap) (y : Str) (g : Addr) (pg : Arguments) (bg : List Stmt) (sg : Scope) (dV kV doc pm cdv ct oc : Value) (an od : Option Addr) (osl : Array (Option Value)) (Ng : List Str) (a : Str) : Prop where
  at_ : mg y = some (.ref g)
  kp : W.keepIn K (.ref g) = true
  lk : K.lookup g = some ⟨oc, od, .func (W.fnOf y y pg bg sg dV kV doc pm an cdv ct), osl⟩
  cd : W.codeIn K cdv y = true
  bnd : Binds K (W.fnOf y y pg bg sg dV kV doc pm an cdv ct) [a] []
  sc : FnScope Ng [a] sg
  isi : mg "isinstance" = none
  zip : mg "zip" = none
  exc : ∀ i C z, cl i = some C → nm i = some z → ExcC K C ∧ ∃ bit : Str → Option Bool, (∀ x b, bit x = some b → ∃ v cv, (mg x = some cv ∨ (mg x = none ∧ bootBuiltins x = some cv ∧ x ≠ "__name__")) ∧ RelV v cv ∧ (∀ u, RelV v u → u = cv) ∧ W.kitOne K (.ref C) cv = some b) ∧
    ∃ ir, cHb Ng bit sg bg = some ir ∧ ∀ (c : Cn) S, evSs c ir (List.replicate Ng.length none) S = .ok (.rt (.d (.str z))) S
/-- y(n), n the error -/
theorem px_nm {nm : Nat → Option Str} {Y : Cx} {a : Addr} {oe : Obj} {cls : Value} {d : Option Addr} {y n : Str} {i : Nat} {g : Addr} {pg : Arguments} {bg : List Stmt} {sg : Scope} {dV kV doc pm cdv ct oc : Value} {an od : Option Addr} {osl : Array (Option Value)} {Ng : List Str} {pa : Str} {p q pos : Pos}
    (D : NmDef T cl nm Y.prog Y.w Y.K Y.mg Y.base y g pg bg sg dV kV doc pm cdv ct oc an od osl Ng pa) (hp : (a, oe) ∈ Y.pn) (hh : Y.A.handled = some (.ref a)) (hz : L2N.Zn cls d oe) (hf : ∃ vs, oe.data = .fields vs) (hr : RoomH 1 Y.A)
    (hg : Gl Y y) (hdb : (y == ("__debug__" : Str)) = false) (hi : Y.N[i]? = some n) (hv : Vis Y.env.scope n) (ho : odd n = false) :
    PE Y (.Call (.Name y p) [.Name n q] [] pos) (fun σ H Q => ∃ M S C j z, Dic d H ∧ cls = .ref C ∧ cl j = some C ∧ nm j = some z ∧ StOk Y.K T M S H ∧ (i < σ.length → σ[i]? = some (some (.ref a))) ∧ ∀ M' H'', Gr M H M' H'' → StOk Y.K T M' S H'' → Q (.str z) H'') := by
  refine ⟨fun pins s σ H Q I ⟨M, S, C, j, z, e1, e2, e3, e4, st, e5, hq⟩ => ?_⟩
  subst e2
  have e5 := e5 (by rw [I.len]; exact (List.getElem?_eq_some_iff.mp hi).1)
  obtain ⟨vs, hd⟩ := hf
  have hot : Hot1 Y.A (a, oe) := ⟨hh, vs, hd, hz.2.2 vs hd⟩
  obtain ⟨hE, bit, hbit, hir⟩ := D.exc j C z e3 e4
  obtain ⟨ir, hc, hev⟩ := hir
  refine wpAny_Call_Name_kw (ld_glob I hg D.at_ ?_ hdb)
  have ha : PA Y [.Name n q] (tCons (tVar i) tNil) := pa_cons (pe_var hi hv (odd_of ho).1 (odd_of ho).2.1) pa_nil
  refine W.callWith_K (h₀ := Y.base) I.ok.mod.kin D.kp (thn (ha.run pos pins s σ H (fun us H1 => us = [.ref a] ∧ H1 = H) I ⟨_, e5, rfl, rfl⟩) fun us s1 ⟨ws, H1, I1, r, ew, eH⟩ => ⟨I1.kIn, ?_⟩) rfl rfl
  subst ew eH
  have P1 := I1.pin (a, oe) (List.mem_append_left _ hp)
  have hdic : ∀ dd, d = some dd → (∃ od, s1.heap.get? dd = some od) ∧ dd ∉ ([] : List Addr) := fun dd e => by
    obtain ⟨fs, e6⟩ := e1 dd e
    obtain ⟨o, e7⟩ := objOk_get (I1.hok dd _ e6)
    exact ⟨⟨o, e7⟩, fun z => by cases z⟩
  have hpin : PinOk Y.stack H1 s1 (a, oe) := ⟨P1.1, P1.2.1, fun hm => (List.mem_cons.mp (I1.stkSub a hm)).elim P1.2.2.1 P1.2.2.2.1, P1.2.2.2.2⟩
  have hb := D.bnd s1 us I1.kIn (by rw [List.append_nil, ← r.length]; rfl)
  rw [List.append_nil] at hb
  have rc : codeAny (model Y.prog Y.w) Y.A (.call (.ref g) ⟨us, []⟩) (CR C8.CX0 Y.stack Y.prog Y.w H1 s1 Q C8.E0) s1 := by
    refine call_hotp (k := 0) D.lk D.cd D.sc hr hpin I1.env0 hb r rfl fun hr' => ?_
    have G : HotG a bit (cxH C8.CX0 Y.prog Y.w Y.K Y.mg Y.base Ng y sg g cdv Y.A Y.stack s1 H1 C8.E0 (a, oe)) Ng sg :=
      ⟨⟨(a, oe), hot, List.mem_cons_self⟩, rfl, D.sc.nd, rfl, by have := hr'.un; show (Y.A.deeper _).units + 65 < cLine; omega, D.isi, D.zip, fun x b hx => by
        obtain ⟨v, cv, h1, h2, h3, h4⟩ := hbit x b hx
        refine ⟨v, fun p hgx hox => ?_, isE_any (X := cxH C8.CX0 Y.prog Y.w Y.K Y.mg Y.base Ng y sg g cdv Y.A Y.stack s1 H1 C8.E0 (a, oe)) List.mem_cons_self hE hz.zc hdic ⟨vs, hd⟩ h3 h4⟩
        rcases h1 with h1 | ⟨h1, h5, h6⟩
        · exact pe_glob (gl_of rfl hgx) h1 h2 (odd_of hox).1
        · exact pe_bltn (gl_of rfl hgx) h1 h5 h2 h6 (odd_of hox).1⟩
    have hlen : 1 ≤ Ng.length := by
      have := congrArg List.length D.sc.pre
      rw [List.length_take] at this
      have e : ([pa] : List Str).length = 1 := rfl
      rw [e] at this
      omega
    refine ⟨_, cHb_ok (T := T) (cl := cl) (E := C8.E0) (c := ⟨fun _ _ _ => .bad, none, fun _ => none⟩) G (fun _ => rfl) _ _ hc, rfl, List.replicate Ng.length none, M, S, ⟨?_, fun i u h => ?_⟩, st, ?_⟩
    · unfold L2.start
      simp
      omega
    · rw [List.getElem?_replicate] at h
      split at h <;> cases h
    · rw [hev]
      intro x M' H' gr st' rel
      cases x with
      | inl σ' => exact rel.elim
      | inr v =>
        cases (show Rp Y.K M' H' v (.str z) from rel)
        exact hq M' H' gr st'
  refine wpAny_call (codeAny_mono rc fun r s' hq => ?_)
  cases r with
  | error e => exact (show False from hq).elim
  | ok fl =>
    cases fl with
    | ret u => exact I1.after hq
    | next => exact False.elim hq
    | brk => exact False.elim hq
    | cont => exact False.elim hq
/-- try: a() / except w as n: return y(n) / return '' -/
theorem err_gives {nm : Nat → Option Str} {x y a n we : Str} {q : Str} {sx : Scope} {gx WE : Addr} {cdx : Value} {Nx : List Str} {jc : Nat} {p1 p2 p3 p4 p5 p6 p7 p8 p9 p10 p11 p12 : Pos}
    {g : Addr} {pg : Arguments} {bg : List Stmt} {sg : Scope} {dV kV doc pm cdv ct oc : Value} {an od : Option Addr} {osl : Array (Option Value)} {Ng : List Str} {pa : Str}
    (D : NmDef T cl nm X.prog X.w X.K X.mg X.base y g pg bg sg dV kV doc pm cdv ct oc an od osl Ng pa) (hr : Room 2 X.A) (hNx : Nx.Nodup) (h0 : ∀ f : Addr, (L2.start Nx [V.ref f])[0]? = some (some (V.ref f))) (hl : 1 < Nx.length) (h1 : Nx[1]? = some n) (hn : sx.names.lookup n = some .local)
    (hwe : sx.names.lookup we = some .globalImplicit) (hmw : X.mg we = some (.ref WE)) (hdw : (we == ("__debug__" : Str)) = false) (hy : sx.names.lookup y = some .globalImplicit) (hdy : (y == ("__debug__" : Str)) = false) (hon : odd n = false)
    (hex : ∀ i C, cl i = some C → W.exmOne X.K (.ref C) (.ref WE) = some true) :
    GivesN X Nx x sx gx cdx [.Try [.Expr (.Call (.Name a p1) [] [] p2) p3] [.ExceptHandler (some (.Name we p4)) (some n) [.Return (some (.Call (.Name y p5) [.Name n p6] [] p7)) p8] p9] [] [] p10, .Return (some (.Constant (.str ⟨#[]⟩) jc p11)) p12] a q (TTerr X.K T cl nm) := by
  intro f c' s H Q tl act hc h
  have ht := L2N.ps_try_as (X := (gotN X Nx x sx gx cdx s H).nox) (x := we) (n := n) (c := .ref WE) (i := 1) (np := p4) (pos := p10) (pos' := p9) (body := [.Expr (.Call (.Name a p1) [] [] p2) p3]) (b₀ := .Return (some (.Call (.Name y p5) [.Name n p6] [] p7)) p8) (suite := [])
      (tb := fun W D σ H => ∃ Ech : XK, (∀ cls d σ' H', Ech cls d H' → W cls d σ' H') ∧ σ[0]? = some (some (.ref f)) ∧ H c' = some (LamX.CodeO c' q) ∧ tl Ech H fun _ H1 => D.nx σ H1)
      (ts := fun a cls d D σ H => ∃ M S C j z, Dic d H ∧ cls = .ref C ∧ cl j = some C ∧ nm j = some z ∧ StOk X.K T M S H ∧ (1 < σ.length → σ[1]? = some (some (.ref a))) ∧ ∀ M' H'', Gr M H M' H'' → StOk X.K T M' S H'' → D.rt (.str z) H'')
      (Wout := fun _ _ _ _ => False) rfl rfl hNx h1 hn ⟨hwe, hdw, .inl hmw⟩ takesN0 (fun W pn xe tk _ => ?_) (fun b oe cls d pn hz hf => ?_)
  · refine ⟨_, pss_cons ht (pss_one (ps_ret pe_str)), ?_⟩
    refine ⟨fun cls d H' => ∃ M S C i z, Dic d H' ∧ StOk X.K T M S H' ∧ cls = .ref C ∧ cl i = some C ∧ nm i = some z ∧ ∀ M' H'', Gr M H' M' H'' → StOk X.K T M' S H'' → Q (.str z) H'', fun cls d σ' H' ⟨M, S, C, i, z, e1, st, e2, e3, e4, k⟩ => ?_, h0 f, hc, h⟩
    subst e2
    exact ⟨true, hex i C e3, fun _ b hb => ⟨M, S, C, i, z, e1, rfl, e3, e4, st, fun hlt => by rw [List.getElem?_set_self (by simpa using hlt)], k⟩, fun z => by cases z⟩
  · refine ⟨fun pins s' σ H' D I ⟨Ech, hW, g1, g2, g3⟩ => ?_⟩
    exact (pss_one (ps_expr (act W pn xe Ech p1 p2 tk hW))).run pins s' σ H' D I ⟨g1, g2, g3⟩
  · have hr1 : RoomH 1 ((gotN X Nx x sx gx cdx s H).nox.suite b ((b, oe) :: pn)).A := ⟨(hr.deeper (envOfC x sx s.heap.objs.size gx cdx)).dp, (hr.deeper (envOfC x sx s.heap.objs.size gx cdx)).un⟩
    exact pss_one (ps_ret (px_nm (Y := (gotN X Nx x sx gx cdx s H).nox.suite b ((b, oe) :: pn)) (nm := nm) D List.mem_cons_self rfl hz hf hr1 hy hdy h1 (.inl hn) hon))
end
end Ev
end

section
set_option Elab.async false
set_option linter.all false
set_option autoImplicit false
set_option maxRecDepth 100000
set_option maxHeartbeats 4000000
/-! # From what the program's top has laid -/
namespace Ev
open PySem PySem.Spec PyProof.Rows L2
def cfgOf (rows : List Row) (clsN : List Str) (tm : List (Str × Str)) (conI : List (Str × Int)) : Cfg :=
  { fnIx := ixOf (rows.map (·.nm)), clIx := fun x => if (tm.lookup x).isSome = true then none else ixOf clsN x, clTx := fun x => if (tm.lookup x).isSome = true then ixOf clsN x else none, con := fun x => (conI.lookup x).map .int, errs := fun x => decide (x = "_law_error"), bx := [], lam := false, keep := false, np := fun i => (rows[i]?).map (·.ps.length) }
/-- what a program is, for the little language: its defs; the classes that are raised, with their words; whole-number constants; all own classes that are asked of; the def that calls what it gets, the def that names the error -/
structure Pg where
  rows : List Row
  clsN : List Str
  nmL : List Str
  conI : List (Str × Int)
  own : List Str
  eSt : Stmt
  nSt : Stmt
  Ne : List Str
  Nn : List Str
  /-- classes with a maker of their own, what it keeps; the text's file -/
  tm : List (Str × Str)
  file : Str
def Pg.g (p : Pg) : Cfg := cfgOf p.rows p.clsN p.tm p.conI
def Pg.tf (p : Pg) : List He.Defn := (p.rows.filter (·.lam)).map fun r => (r.nm, none)
def Pg.fa (p : Pg) : List He.Fa :=
  p.rows.map (fun r => .glo r.nm) ++ ([.glo "_law_error", .glo "_law_names", .glo "WalkError", .free "ValueError", .free "super"] ++ (p.clsN.map .glo ++ ((p.clsN.filter fun x => !(p.tm.lookup x).isSome).map .exc ++ (p.clsN.map (fun x => .exm x "WalkError" true) ++ (p.own.map .glo ++ (bltNames.map .free ++ p.conI.map fun q => .int q.1 q.2))))))
def defD (x : Str) (st : Stmt) : He.DefD := ⟨(x, none), x, x, defArgs st, defBody st, defScope st, [], []⟩
def Pg.fn (p : Pg) : List He.DefD := p.rows.map (fun r => defD r.nm r.st) ++ [defD "_law_error" p.eSt, defD "_law_names" p.nSt]
/-- what isinstance asks of a class -/
def excCB (K : W.Frag) (D : Addr) : Bool :=
  decide (W.findIn K (.ref D) "__getattribute__" = some (some (.builtin "BaseException.__getattribute__"))) && decide (W.findIn K (.ref D) "__getattr__" = some none) && decide (W.subIn K (.ref D) (.type "BaseException") = some true) && W.hasDictIn K D &&
  decide (W.findIn K (.ref D) "__class__" = some (some (.builtin "object.__class__"))) && decide (W.specialIn K (.builtin "object.__class__") "__get__" = some (some (.builtin "getset_descriptor.__get__"))) && decide (W.takesIn K (.builtin "object.__class__") = some true) && decide (W.mroIn K D (.type "object") = some true)
theorem excCB_ok {K : W.Frag} {D : Addr} (h : excCB K D = true) : ExcC K D := by
  unfold excCB at h
  simp only [Bool.and_eq_true, decide_eq_true_eq] at h
  obtain ⟨⟨⟨⟨⟨⟨⟨h1, h2⟩, h3⟩, h4⟩, h5⟩, h6⟩, h7⟩, h8⟩ := h
  exact ⟨h1, h2, h3, h4, h5, h6, h7, h8⟩
def Pg.ex (p : Pg) (K : W.Frag) : Bool :=
  (p.clsN.all fun c => excCB K (He.ga K c) && (p.own.all fun x => decide (W.kitOne K (.ref (He.ga K c)) (.ref (He.ga K x)) = some (decide (x = c)))) && decide (W.kitOne K (.ref (He.ga K c)) (.type "ValueError") = some true)) &&
  decide ((p.tf.map fun q => (He.cT K q).2).Nodup) && (p.tm.all fun q => tmB p.file K (He.ga K q.1) (He.ma K (He.ga K q.1) "__init__") q.2)
/-- which classes an error of the class c is of -/
def Pg.bit (p : Pg) (c x : Str) : Option Bool := if x ∈ p.own then some (decide (x = c)) else if x = "ValueError" then some true else none
def Pg.nm (p : Pg) (i : Nat) : Option Str := p.nmL[i]?
def Pg.T (p : Pg) (K : W.Frag) : List (Addr × Str) := p.tf.map fun q => ((He.cT K q).2, q.1 ++ ".<locals>." ++ "<lambda>")
def Pg.cl (p : Pg) (K : W.Frag) (i : Nat) : Option Addr := (p.clsN[i]?).map (He.ga K)
/-- how one argument binds -/
def Bnd1 (x : Str) (st : Stmt) (ps : List Str) : Prop := ∀ (kV doc pm : Value) (an : Option Addr) (cdv ct : Value) (us : List Value), us.length = ps.length → bindArgs (W.fnOf x x (defArgs st) (defBody st) (defScope st) .none kV doc pm an cdv ct) ⟨us, []⟩ = pure (ps.zip us)
/-- what is to be checked of the text -/
structure PgOk (p : Pg) (fns : List Fn) : Prop where
  ir : ∀ (i : Nat) r, p.rows[i]? = some r → ∃ fn, fns[i]? = some fn ∧ r.ir p.g = some fn
  sc : ∀ r, r ∈ p.rows → FnScope r.N r.ps (defScope r.st)
  bnd : ∀ r, r ∈ p.rows → r.Bnd
  nd : (p.rows.map (·.nm)).Nodup
  nmL : p.nmL.length = p.clsN.length
  scE : ∃ a, FnScope p.Ne [a] (defScope p.eSt) ∧ p.Ne[0]? = some a ∧ Vis (defScope p.eSt) a ∧ odd a = false ∧ Bnd1 "_law_error" p.eSt [a] ∧ ∃ n j p1 p2 p3 p4 p5 p6 p7 p8 p9 p10 p11 p12, 1 < p.Ne.length ∧ p.Ne[1]? = some n ∧ odd n = false ∧ (defScope p.eSt).names.lookup n = some .local ∧
    (defScope p.eSt).names.lookup ("WalkError" : Str) = some .globalImplicit ∧ (defScope p.eSt).names.lookup ("_law_names" : Str) = some .globalImplicit ∧
    defBody p.eSt = [.Try [.Expr (.Call (.Name a p1) [] [] p2) p3] [.ExceptHandler (some (.Name "WalkError" p4)) (some n) [.Return (some (.Call (.Name "_law_names" p5) [.Name n p6] [] p7)) p8] p9] [] [] p10, .Return (some (.Constant (.str ⟨#[]⟩) j p11)) p12]
  scN : ∃ a, FnScope p.Nn [a] (defScope p.nSt) ∧ Bnd1 "_law_names" p.nSt [a]
  nm : ∀ (i : Nat) c z, p.clsN[i]? = some c → p.nmL[i]? = some z → ∃ ir, cHb p.Nn (p.bit c) (defScope p.nSt) (defBody p.nSt) = some ir ∧ ∀ (g : Cn) S, evSs g ir (List.replicate p.Nn.length none) S = .ok (.rt (.d (.str z))) S
theorem fun_at {K : W.Frag} {x qual : Str} {params : Arguments} {body : List Stmt} {scope : Scope} {f : Addr} {fd : FuncData} (F : FunD K x qual params body scope [] [] f fd) :
    ∃ (oc : Value) (od : Option Addr) (dV kV doc pm : Value) (an : Option Addr) (cdv ct : Value) (osl : Array (Option Value)), fd = W.fnOf x qual params body scope dV kV doc pm an cdv ct ∧ K.lookup f = some ⟨oc, od, .func fd, osl⟩ ∧ W.codeIn K cdv qual = true := by
  obtain ⟨oc, od, dV, kV, doc, pm, an, cdv, ct, osl, h1, h2, h3, _, _⟩ := F.ex
  exact ⟨oc, od, dV, kV, doc, pm, an, cdv, ct, osl, h1, h2, h3⟩
theorem map_nd {α β : Type} {f : α → β} {l : List α} {a b : α} (nd : (l.map f).Nodup) (ha : a ∈ l) (hb : b ∈ l) (e : f a = f b) : a = b := by
  induction l with
  | nil => cases ha
  | cons x r ih =>
    rw [List.map_cons, List.nodup_cons] at nd
    rcases List.mem_cons.mp ha with ha | ha
    · rcases List.mem_cons.mp hb with hb | hb
      · rw [ha, hb]
      · exact absurd (List.mem_map.mpr ⟨b, hb, by rw [← e, ha]⟩) nd.1
    · rcases List.mem_cons.mp hb with hb | hb
      · exact absurd (List.mem_map.mpr ⟨a, ha, by rw [e, hb]⟩) nd.1
      · exact ih nd.2 ha hb
section
variable {p : Pg} {fns : List Fn} {P : Program} {w : World} {K : W.Frag} {mg : Str → Option Value} {base h : Heap}
theorem lay_of (O : PgOk p fns) (hP : p.tm ≠ [] → ((P.main.file : Str) == p.file) = true ∧ (P.main.scope.names.lookup ("super" : Str)).isSome = false) (c : He.SaysX p.fa p.fn [] p.tf p.ex w h K) (KX : K.In base) (G : base.Ns mainGlobals mg) (TB : ∀ q, q ∈ p.tf.map (He.cT K) → LamX.TabB base mg q.1 q.2) :
    Lay p.g p.rows ⟨fns, p.nm⟩ (p.T K) (p.cl K) P w K mg base := by
  have D : He.SaysD p.fa p.fn K := c.t.d
  have glo : ∀ {x : Str}, He.Fa.glo x ∈ p.fa → mg x = some (.ref (He.ga K x)) := fun {x} hx => He.glo_ok KX G (D.facts hx)
  have fre : ∀ {x : Str}, He.Fa.free x ∈ p.fa → mg x = none := fun {x} hx => He.free_ok KX G (D.facts hx)
  have gRow : ∀ r, r ∈ p.rows → mg r.nm = some (.ref (He.ga K r.nm)) := fun r hr => glo (by unfold Pg.fa; exact List.mem_append_left _ (List.mem_map.mpr ⟨r, hr, rfl⟩))
  have gCls : ∀ x, x ∈ p.clsN → mg x = some (.ref (He.ga K x)) := fun x hx => glo (by unfold Pg.fa; simp [hx])
  have gOwn : ∀ x, x ∈ p.own → mg x = some (.ref (He.ga K x)) := fun x hx => glo (by unfold Pg.fa; simp [hx])
  have gE : mg "_law_error" = some (.ref (He.ga K "_law_error")) := glo (by unfold Pg.fa; simp)
  have gN : mg "_law_names" = some (.ref (He.ga K "_law_names")) := glo (by unfold Pg.fa; simp)
  have gW : mg "WalkError" = some (.ref (He.ga K "WalkError")) := glo (by unfold Pg.fa; simp)
  have gV : mg "ValueError" = none := fre (by unfold Pg.fa; simp)
  have gS : mg "super" = none := fre (by unfold Pg.fa; simp)
  have gB : ∀ x, x ∈ bltNames → mg x = none := fun x hx => fre (by unfold Pg.fa; simp only [List.mem_append, List.mem_map]; exact .inr (.inr (.inr (.inr (.inr (.inr (.inl ⟨x, hx, rfl⟩)))))))
  have ex := c.more
  unfold Pg.ex at ex
  rw [Bool.and_eq_true, Bool.and_eq_true, List.all_eq_true, decide_eq_true_eq, List.all_eq_true] at ex
  obtain ⟨⟨exC, exT⟩, exM⟩ := ex
  have fE := D.defs (d := defD "_law_error" p.eSt) (by unfold Pg.fn; simp)
  have fN := D.defs (d := defD "_law_names" p.nSt) (by unfold Pg.fn; simp)
  have fRow : ∀ r, r ∈ p.rows → ∃ fd, FunD K r.nm r.nm (defArgs r.st) (defBody r.st) (defScope r.st) [] [] (He.ga K r.nm) fd := fun r hr => D.defs (d := defD r.nm r.st) (by unfold Pg.fn; exact List.mem_append_left _ (List.mem_map.mpr ⟨r, hr, rfl⟩))
  refine ⟨O.ir, O.sc, O.bnd, fun r hr => ?_, fun r hr hl f fd hf F => ?_, fun x i hi => ?_, fun i => rfl, fun x i hi => ?_, fun x i hi => ?_, fun i z hz => ?_, fun x hx => ?_, gB, fun x q hq => ?_⟩
  · obtain ⟨fd, F⟩ := fRow r hr
    exact ⟨_, fd, gRow r hr, F⟩
  · rw [gRow r hr] at hf
    cases hf
    obtain ⟨oc, od, dV, kV, doc, pm, an, cdv, ct, osl, e1, e2, e3⟩ := fun_at F
    obtain ⟨cA, ec⟩ := He.codeIn_ref e3
    have hq : (r.nm, none) ∈ p.tf := by unfold Pg.tf; exact List.mem_map.mpr ⟨r, List.mem_filter.mpr ⟨hr, hl⟩, rfl⟩
    have ecode : fd.code = .ref cA := by rw [e1, ← ec]
    have e4 : He.codeOf K (r.nm, none) = cA := He.codeOf_eq (by show K.lookup (He.ga K r.nm) = _; exact e2) ecode
    refine ⟨cA, (He.cT K (r.nm, none)).2, ecode, ?_, List.mem_map.mpr ⟨_, hq, rfl⟩, fun t ht et => ?_⟩
    · have := TB _ (List.mem_map.mpr ⟨_, hq, rfl⟩)
      rw [show (He.cT K (r.nm, none)).1 = cA from e4] at this
      exact this
    · obtain ⟨q, hq2, rfl⟩ := List.mem_map.mp ht
      rw [map_nd exT hq2 hq et]
  · have hx := ix_of hi
    rw [List.getElem?_map] at hx
    obtain ⟨r, e1, e2⟩ := map_some hx
    exact ⟨r, e1, e2⟩
  · have hi : (if (p.tm.lookup x).isSome = true then none else ixOf p.clsN x) = some i := hi
    split at hi
    · cases hi
    · rename_i ht
      have hx := ix_of hi
      have hm := List.mem_of_getElem? hx
      have ht : (p.tm.lookup x).isSome = false := by
        cases z : (p.tm.lookup x).isSome with
        | true => exact absurd z ht
        | false => rfl
      obtain ⟨e1, e2, e3, e4⟩ := He.exc_ok (D.facts (f := .exc x) (by
        unfold Pg.fa
        refine List.mem_append_right _ (List.mem_append_right _ (List.mem_append_right _ (List.mem_append_left _ (List.mem_map.mpr ⟨x, List.mem_filter.mpr ⟨hm, by rw [ht]; rfl⟩, rfl⟩))))))
      exact ⟨He.ga K x, by unfold Pg.cl; rw [hx]; rfl, gCls x hm, e2, e1, e3, e4⟩
  · have hi : (if (p.tm.lookup x).isSome = true then ixOf p.clsN x else none) = some i := hi
    split at hi
    · rename_i ht
      have hx := ix_of hi
      have hm := List.mem_of_getElem? hx
      obtain ⟨f, hf⟩ := Option.isSome_iff_exists.mp ht
      have hq := PySem.mem_of_lookup hf
      obtain ⟨p1, p2⟩ := hP (fun z => by rw [z] at hq; cases hq)
      have := exM _ hq
      obtain ⟨e1, e2, e3⟩ := tmB_ok this p1 p2 gS
      exact ⟨He.ga K x, f, _, by unfold Pg.cl; rw [hx]; rfl, gCls x hm, e1, e2, e3⟩
    · cases hi
  · have hz : p.nmL[i]? = some z := hz
    have hi : i < p.clsN.length := by rw [← O.nmL]; exact (List.getElem?_eq_some_iff.mp hz).1
    exact ⟨He.ga K p.clsN[i], by unfold Pg.cl; rw [List.getElem?_eq_getElem hi]; rfl⟩
  · -- the def that calls what it got
    have hx : decide (x = "_law_error") = true := hx
    have hx := of_decide_eq_true hx
    subst hx
    obtain ⟨fe, FE⟩ := fE
    obtain ⟨fn, FN⟩ := fN
    have FE : FunD K "_law_error" "_law_error" (defArgs p.eSt) (defBody p.eSt) (defScope p.eSt) [] [] (He.ga K "_law_error") fe := FE
    have FN : FunD K "_law_names" "_law_names" (defArgs p.nSt) (defBody p.nSt) (defScope p.nSt) [] [] (He.ga K "_law_names") fn := FN
    obtain ⟨a, s1, s2, s3, s4, s5, n, j, p1, p2, p3, p4, p5, p6, p7, p8, p9, p10, p11, p12, t1, t2, t3, t4, t5, t6, t7⟩ := O.scE
    obtain ⟨an', n1, n2⟩ := O.scN
    obtain ⟨oc, od, dV, kV, doc, pm, an, cdv, ct, osl, e1, e2, e3⟩ := fun_at FE
    obtain ⟨oc', od', dV', kV', doc', pm', anN, cdv', ct', osl', e1', e2', e3'⟩ := fun_at FN
    have bE := FE.bindsN (ps := [a]) s5
    have bN := FN.bindsN (ps := [an']) n2
    subst e1 e1'
    refine ⟨_, _, _, _, dV, kV, doc, pm, cdv, ct, oc, an, od, osl, p.Ne, a, gE, FE.kp, e2, e3, bE, s1, s2, s3, s4, fun X hP hw hK hm hb hr q => ?_⟩
    subst hP hw hK hm hb
    have ND : NmDef (p.T X.K) (p.cl X.K) p.nm X.prog X.w X.K X.mg X.base "_law_names" (He.ga X.K "_law_names") (defArgs p.nSt) (defBody p.nSt) (defScope p.nSt) dV' kV' doc' pm' cdv' ct' oc' anN od' osl' p.Nn an' :=
      ⟨gN, FN.kp, e2', e3', bN, n1, gB _ (by simp), gB _ (by simp), fun i C z hC hz => by
        unfold Pg.cl at hC
        obtain ⟨k, hk, rfl⟩ := map_some hC
        have q := exC k (List.mem_of_getElem? hk)
        simp only [Bool.and_eq_true, List.all_eq_true, decide_eq_true_eq] at q
        obtain ⟨⟨q1, q2⟩, q3⟩ := q
        refine ⟨excCB_ok q1, p.bit k, fun x b hb => ?_, O.nm i k z hk hz⟩
        unfold Pg.bit at hb
        split at hb
        · rename_i ho
          cases hb
          exact ⟨.ref (He.ga X.K x), .ref (He.ga X.K x), .inl (gOwn x ho), rfl, fun u hu => by cases hu; rfl, q2 x ho⟩
        · split at hb
          · rename_i ho
            subst ho
            cases hb
            exact ⟨.ty "ValueError", .type "ValueError", .inr ⟨gV, by decide +kernel, by decide +kernel⟩, rfl, fun u hu => by cases hu; rfl, q3⟩
          · cases hb⟩
    rw [t7]
    refine err_gives ND hr s1.nd (fun f => rfl) t1 t2 t4 t5 gW (by decide +kernel) t6 (by decide +kernel) t3 fun i C hC => ?_
    unfold Pg.cl at hC
    obtain ⟨k, hk, rfl⟩ := map_some hC
    have hm := List.mem_of_getElem? hk
    exact He.exm_ok (D.facts (f := .exm k "WalkError" true) (by unfold Pg.fa; simp [hm]))
  · have hq : (p.conI.lookup x).map PyData.int = some q := hq
    obtain ⟨i, e1, rfl⟩ := map_some hq
    have hm : (x, i) ∈ p.conI := PySem.mem_of_lookup e1
    obtain ⟨t, e2⟩ := He.int_ok KX G (D.facts (f := .int x i) (by unfold Pg.fa; simp only [List.mem_append, List.mem_map]; exact .inr (.inr (.inr (.inr (.inr (.inr (.inr ⟨(x, i), hm, rfl⟩))))))))
    exact ⟨_, .int i, e2, ⟨t, rfl⟩, fun _ _ => .int i⟩
end
end Ev
end

section
set_option Elab.async false
set_option linter.all false
set_option autoImplicit false
set_option maxRecDepth 100000
set_option maxHeartbeats 4000000
/-! # The law's end -/
namespace Ev
open PySem PySem.Spec PyProof.Rows L2
section
variable {p : Pg} {fns : List Fn} {l : PySem.W.OpenLaw} {w : World} {K : W.Frag} {mg : Str → Option Value} {h : Heap}
theorem rp_scr {K : W.Frag} {H : Hp} {a : Addr} {ns : List Int} (hS : SqL K H a (ns.map V.int)) : RU K ⟨[], []⟩ H (.ref a) (.scr ns) :=
  ⟨a, rfl, hS.imp (fun z => ⟨fun q => (by rcases q with q | q <;> cases q), z⟩) id⟩
theorem st_empty {K : W.Frag} {T : List (Addr × Str)} {H : Hp} (t : LamX.Tabs T H) : StOk K T ⟨[], []⟩ [] H where
  len := rfl
  nd := List.nodup_nil
  box := fun i a b e1 e2 => by simp at e2
  xt := fun a ha => by cases ha
  tab := t
/-- the law's def, of a script at hand -/
theorem lawAt_of (O : PgOk p fns) (hP : p.tm ≠ [] → ((l.prog.main.file : Str) == p.file) = true ∧ (l.prog.main.scope.names.lookup ("super" : Str)).isSome = false) (c : He.SaysX p.fa p.fn [] p.tf p.ex w h K) (KX : K.In h) {fa : Addr} {iL n : Nat} {r : Row} {x : Str} (hr : p.rows[iL]? = some r) (hn : r.nm = "law") (hx : r.ps = [x]) (hmg : mg "law" = some (.ref fa)) (G : h.Ns mainGlobals mg)
    (plain : ∀ ns : List Int, ns.length ≤ 63 → (∀ z, z ∈ ns → Builtin.Int.intBits z ≤ 1048576) → ∃ S, callN ⟨fns, p.nm⟩ n iL [.scr ns] [] = .ok (.d (.bool true)) S) :
    LamX.LawAtS l w K (L2N.CX l.prog w) (n + 2) 63 x mg fa h := by
  have hm := List.mem_of_getElem? hr
  have D : He.SaysD p.fa p.fn K := c.t.d
  obtain ⟨fd, F⟩ := D.defs (d := defD r.nm r.st) (by unfold Pg.fn; exact List.mem_append_left _ (List.mem_map.mpr ⟨r, hm, rfl⟩))
  have F : FunD K r.nm r.nm (defArgs r.st) (defBody r.st) (defScope r.st) [] [] (He.ga K r.nm) fd := F
  have e1 : mg r.nm = some (.ref (He.ga K r.nm)) := He.glo_ok KX G (D.facts (by unfold Pg.fa; exact List.mem_append_left _ (List.mem_map.mpr ⟨r, hm, rfl⟩)))
  have e2 : fa = He.ga K r.nm := by
    rw [hn] at e1
    rw [hmg] at e1
    cases e1
    rw [hn]
  subst e2
  have bnd := O.bnd r hm
  refine ⟨fd, p.tf.map (He.cT K), spC K (p.T K) (p.cl K) (callN ⟨fns, p.nm⟩ n) iL r.ps.length, fun q hq => ?_, fun q hq => ?_, fun q hq => ?_, fun s u => ?_, fun H a ns hl hb hT hS => ?_, fun base KB GB TB => ?_⟩
  · obtain ⟨d, hd, rfl⟩ := List.mem_map.mp hq
    exact c.empty d hd
  · obtain ⟨d, hd, rfl⟩ := List.mem_map.mp hq
    exact c.out d hd
  · obtain ⟨d, hd, rfl⟩ := List.mem_map.mp hq
    exact W.codeHd_of_K KX (c.hd d hd)
  · have := FunD.bindsA (ps := r.ps) F bnd s [u] (by rw [hx]; rfl)
    rw [hx] at this
    exact this
  · obtain ⟨S, hp⟩ := plain ns hl hb
    have tab : LamX.Tabs (p.T K) H := fun t ht => by
      obtain ⟨d, hd, rfl⟩ := List.mem_map.mp ht
      exact LamX.TabS.nil (hT _ (List.mem_map.mpr ⟨d, hd, rfl⟩))
    refine ⟨⟨[], []⟩, [], [.scr ns], .cons (rp_scr hS) .nil, st_empty tab, by rw [hx]; rfl, ?_⟩
    rw [hp]
    intro v M' H' _ _ rv
    cases (show Rp K M' H' v (.bool true) from rv)
    rfl
  · have L := lay_of (P := l.prog) (w := w) O hP c KB GB TB
    rw [← hx]
    exact law_ok L hr e1 F
theorem cx_none {P : Program} {w : World} {H : Hp} {s : Shared} {e : Value} {s' : Shared} (h : L2N.CX P w [] H s (fun _ _ _ => False) e s') : False := by
  obtain ⟨_, _, _, _, _, _, _, _, _, _, _, _, z⟩ := h
  exact z
end
end Ev
end

section
set_option Elab.async false
set_option linter.all false
set_option autoImplicit false
set_option maxRecDepth 100000
set_option maxHeartbeats 4000000
/-! # The little language by itself: what its pieces come to -/
namespace Ev
open PySem
section
variable {α β : Type} {a : α} {S : Store} {f : α → Store → Ev.R β} {c : Nat}
@[simp] theorem b_ok : (R.ok a S).bind f = f a S := rfl
@[simp] theorem b_exc : (R.exc c S : R α).bind f = .exc c S := rfl
@[simp] theorem b_bad : (R.bad : R α).bind f = .bad := rfl
@[simp] theorem of_some : R.of S (some a) = .ok a S := rfl
@[simp] theorem of_none : R.of S (none : Option α) = .bad := rfl
@[simp] theorem d_d {p : PyData} : deref S (.d p) = some p := rfl
theorem d_lst {i : Nat} {xs : List PyData} (h : S[i]? = some (.lst xs)) : deref S (.ref i) = some (.list xs) := by
  show (match S[i]? with | some (.lst xs) => some (PyData.list xs) | some (.dct kvs) => some (PyData.dict kvs) | _ => none) = _
  rw [h]
@[simp] theorem fin_d {p : PyData} {n : Nat} : Ev.finish false n (.ok (.rt (.d p)) S) = .ok (.d p) (S.take n) := rfl
@[simp] theorem fin_k {u : PyData} {n : Nat} : Ev.finish true n (.ok (.rt (.d u)) S) = .ok (.d u) S := rfl
@[simp] theorem fin_kr {i n : Nat} : Ev.finish true n (.ok (.rt (.ref i)) S) = .ok (.ref i) S := rfl
@[simp] theorem fin_nx {ρ : Rho} {b : Bool} {n : Nat} : Ev.finish b n (.ok (.nx ρ) S) = .ok (.d .none) (S.take n) := by cases b <;> rfl
@[simp] theorem fin_exc {b : Bool} {n : Nat} : Ev.finish b n (.exc c S) = .exc c (S.take n) := by cases b <;> rfl
theorem fin_r {i n : Nat} {xs : List PyData} (h : S[i]? = some (.lst xs)) (hn : ¬ i < n) : Ev.finish false n (.ok (.rt (.ref i)) S) = .ok (.d (.list xs)) (S.take n) := by
  unfold Ev.finish
  simp only [Bool.false_eq_true, if_false]
  rw [if_neg hn, d_lst h]
end
/-! ### operators -/
def divOk (j : Int) : Bool := decide (0 < j) && decide (j.natAbs.log2 < 9000)
theorem divOk_of {j : Int} (h : 0 < j) (h2 : j.natAbs.log2 < 9000) : divOk j = true := by unfold divOk; simp [h, h2]
theorem divOk_small {j : Int} (h : 0 < j) (h2 : j < 100000000000) : divOk j = true := by
  refine divOk_of h ?_
  have h3 : j.natAbs < 2 ^ 37 := by omega
  by_cases z : j.natAbs = 0
  · rw [z]; decide
  · have := (Nat.log2_lt z).mpr h3
    omega
@[simp] theorem add_ii (i j : Int) : binD .Add (.int i) (.int j) = some (.int (i + j)) := rfl
@[simp] theorem sub_ii (i j : Int) : binD .Sub (.int i) (.int j) = some (.int (i - j)) := rfl
theorem mul_ii {i j : Int} (h : mulOk i j = true) : binD .Mult (.int i) (.int j) = some (.int (i * j)) := if_pos h
theorem div_ii {i j : Int} (h : divOk j = true) : binD .FloorDiv (.int i) (.int j) = some (.int (i / j)) := by
  unfold divOk at h
  rw [Bool.and_eq_true, decide_eq_true_eq, decide_eq_true_eq] at h
  exact if_pos h
theorem mod_ii {i j : Int} (h : 0 < j) : binD .Mod (.int i) (.int j) = some (.int (i % j)) := if_pos h
theorem add_ss {a b : Str} (h : a.length + b.length ≤ line) : binD .Add (.str a) (.str b) = some (.str (a ++ b)) := if_pos h
theorem add_ll {a b : List PyData} (h : a.length + b.length ≤ line) : binD .Add (.list a) (.list b) = some (.list (a ++ b)) := if_pos h
theorem add_tt {a b : List PyData} (h : a.length + b.length ≤ line) : binD .Add (.tuple a) (.tuple b) = some (.tuple (a ++ b)) := if_pos h
theorem smallI_of {i : Int} (h1 : -100000000000 < i) (h2 : i < 100000000000) : smallI i = true := by
  unfold smallI
  simp only [Bool.and_eq_true, decide_eq_true_eq]
  omega
theorem mul_small {i j : Int} (h : smallI i = true ∨ smallI j = true) : mulOk i j = true := by
  unfold mulOk
  rcases h with h | h <;> simp [h]
/-! ### comparisons -/
@[simp] theorem gt_ii (i j : Int) : cmpD .Gt (.int i) (.int j) = some (decide (j < i)) := rfl
@[simp] theorem lt_ii (i j : Int) : cmpD .Lt (.int i) (.int j) = some (decide (i < j)) := rfl
@[simp] theorem le_ii (i j : Int) : cmpD .LtE (.int i) (.int j) = some (decide (i ≤ j)) := rfl
@[simp] theorem ge_ii (i j : Int) : cmpD .GtE (.int i) (.int j) = some (decide (j ≤ i)) := rfl
theorem eq_ii (i j : Int) : eqD (.int i) (.int j) = some (decide (i = j)) := by
  unfold eqD
  rw [if_pos (show (SeqAt.shaped (.int i) && SeqAt.shaped (.int j)) = true from rfl)]
  congr 1
@[simp] theorem eqc_ii (i j : Int) : cmpD .Eq (.int i) (.int j) = some (decide (i = j)) := eq_ii i j
@[simp] theorem ne_ii (i j : Int) : cmpD .NotEq (.int i) (.int j) = some (!decide (i = j)) := by
  show (eqD (.int i) (.int j)).map (!·) = _
  rw [eq_ii]
  rfl
/-! ### places -/
theorem at_nat {α : Type} {xs : List α} {i : Int} {x : α} (h0 : 0 ≤ i) (h : xs[i.toNat]? = some x) : L2.atI xs i = some x := by
  have hl := (List.getElem?_eq_some_iff.mp h).1
  unfold L2.atI L2.ixN
  rw [if_pos h0, if_pos (by omega)]
  exact h
@[simp] theorem idx_l0 (x : PyData) (r : List PyData) : idxD (.list (x :: r)) (.int 0) = some x := by
  exact at_nat (by decide) rfl
@[simp] theorem idx_l1 (x y : PyData) (r : List PyData) : idxD (.list (x :: y :: r)) (.int 1) = some y := by
  exact at_nat (by decide) rfl
@[simp] theorem idx_t0 (x : PyData) (r : List PyData) : idxD (.tuple (x :: r)) (.int 0) = some x := by
  exact at_nat (by decide) rfl
@[simp] theorem idx_t1 (x y : PyData) (r : List PyData) : idxD (.tuple (x :: y :: r)) (.int 1) = some y := by
  exact at_nat (by decide) rfl
@[simp] theorem tru_b (b : Bool) : truD (.bool b) = some b := rfl
@[simp] theorem tru_n : truD .none = some false := rfl
/-! ### loops -/
/-- a loop by what holds ahead of each turn -/
theorem loop_inv {t : Tg} {body : Rho → Store → Ev.R F} (I : Nat → Rho → Store → Prop) : ∀ (us : List U) (k : Nat) (ρ : Rho) (S : Store), I k ρ S →
    (∀ i u ρ S, us[i]? = some u → I (k + i) ρ S → ∃ ρ1 ρ2 S2, bindT t u ρ = some ρ1 ∧ body ρ1 S = .ok (.nx ρ2) S2 ∧ I (k + i + 1) ρ2 S2) → ∃ ρ' S', loopL t body us ρ S = .ok (.nx ρ') S' ∧ I (k + us.length) ρ' S'
  | [], k, ρ, S, h, _ => ⟨ρ, S, rfl, h⟩
  | u :: us, k, ρ, S, h, st => by
    obtain ⟨ρ1, ρ2, S2, h1, h2, h3⟩ := st 0 u ρ S rfl h
    obtain ⟨ρ', S', h4, h5⟩ := loop_inv I us (k + 1) ρ2 S2 h3 fun i v ρ S hv hI => by
      have e : k + 1 + i = k + (i + 1) := by omega
      rw [e] at hI ⊢
      exact st (i + 1) v ρ S (by simpa using hv) hI
    refine ⟨ρ', S', ?_, by rw [List.length_cons]; have e : k + (us.length + 1) = k + 1 + us.length := by omega
                           rw [e]; exact h5⟩
    unfold loopL
    rw [h1]
    show ((body ρ1 S).bind fun f S1 => match f with
      | .nx ρ2 => loopL t body us ρ2 S1
      | .rt v => .ok (.rt v) S1) = _
    rw [h2]
    exact h4
/-- a comprehension by what holds ahead of each turn: how many items, what has been made -/
theorem comp_inv {t : Tg} {c : Rho → Store → Ev.R Bool} {e : Rho → Store → Ev.R PyData} {ρ : Rho} (J : Nat → List PyData → Store → Prop) : ∀ (us : List U) (k : Nat) (zs : List PyData) (S : Store), J k zs S →
    (∀ i u ys S, us[i]? = some u → J (k + i) ys S → ∃ ρ1, bindT t u ρ = some ρ1 ∧ ∃ b S1, c ρ1 S = .ok b S1 ∧ ((b = true ∧ ∃ y S2, e ρ1 S1 = .ok y S2 ∧ J (k + i + 1) (ys ++ [y]) S2) ∨ (b = false ∧ J (k + i + 1) ys S1))) →
    ∃ ys S', compL t c e ρ us S = .ok ys S' ∧ J (k + us.length) (zs ++ ys) S'
  | [], k, zs, S, h, _ => ⟨[], S, rfl, by simpa using h⟩
  | u :: us, k, zs, S, h, st => by
    obtain ⟨ρ1, h1, b, S1, h2, h3⟩ := st 0 u zs S rfl h
    have rest : ∀ zs S, J (k + 1) zs S → ∃ ys S', compL t c e ρ us S = .ok ys S' ∧ J (k + (u :: us).length) (zs ++ ys) S' := fun zs S hJ => by
      obtain ⟨ys, S', h4, h5⟩ := comp_inv J us (k + 1) zs S hJ fun i v ys S hv hI => by
        have e : k + 1 + i = k + (i + 1) := by omega
        rw [e] at hI ⊢
        exact st (i + 1) v ys S (by simpa using hv) hI
      have e : k + (us.length + 1) = k + 1 + us.length := by omega
      exact ⟨ys, S', h4, by rw [List.length_cons, e]; exact h5⟩
    unfold compL
    rw [h1]
    dsimp only
    rw [h2, b_ok]
    rcases h3 with ⟨hb, y, S2, h4, h5⟩ | ⟨hb, h5⟩
    · obtain ⟨ys, S', h6, h7⟩ := rest _ _ h5
      refine ⟨y :: ys, S', ?_, by simpa using h7⟩
      rw [if_pos hb, h4, b_ok, h6]
      rfl
    · obtain ⟨ys, S', h6, h7⟩ := rest _ _ h5
      refine ⟨ys, S', ?_, h7⟩
      rw [if_neg (by rw [hb]; decide), h6]
@[simp] theorem ne_ok {α : Type} {a : α} {S : Store} : noexc (R.ok a S) = .ok a S := rfl
theorem rng_1 {j : Int} (h0 : 0 ≤ j) (h : j < 1000000) : rngD [.int j] = some (rngItems 0 j.toNat) := by
  have : smallR j = true := by
    unfold smallR
    simp only [Bool.and_eq_true, decide_eq_true_eq]
    omega
  exact if_pos this
theorem rng_len (lo : Int) (n : Nat) : (rngItems lo n).length = n := by unfold rngItems; simp
theorem rng_at {lo : Int} {n i : Nat} {u : U} (h : (rngItems lo n)[i]? = some u) : i < n ∧ u = .d (.int (lo + (i : Nat))) := by
  unfold rngItems at h
  rw [List.getElem?_map] at h
  cases e : (List.range n)[i]? with
  | none => rw [e] at h; cases h
  | some k =>
    rw [e] at h
    obtain ⟨h1, h2⟩ := List.getElem?_eq_some_iff.mp e
    rw [List.getElem_range] at h2
    subst h2
    rw [List.length_range] at h1
    exact ⟨h1, (Option.some.inj h).symm⟩
theorem ev_lc {g : Cn} {own : List Nat} {t : Tg} {it : It} {c : Xs} {e : X} {ρ : Rho} {S S1 S2 : Store} {us : List U} {ys : List PyData} (h1 : evIt g it ρ S = .ok (.fix us) S1) (hl : us.length ≤ line)
    (h2 : compL t (fun ρ S => evC g c ρ S) (fun ρ S => dataR (evX g e ρ S)) (wipe ρ own) us S1 = .ok ys S2) : evX g (.lc own t it c e) ρ S = .ok (.d (.list ys)) S2 := by
  unfold evX
  rw [h1]
  simp only [ne_ok, b_ok]
  rw [if_pos hl, h2]
  rfl
theorem ev_for {g : Cn} {t : Tg} {it : It} {b : Sts} {ρ : Rho} {S S1 : Store} {us : List U} {r : R F} (h1 : evIt g it ρ S = .ok (.fix us) S1) (h2 : loopL t (fun ρ S => evSs g b ρ S) us ρ S1 = r) : evS g (.forr t it b) ρ S = r := by
  unfold evS
  rw [h1]
  exact h2
theorem it_rng1 {g : Cn} {a : X} {ρ : Rho} {S S1 : Store} {j : Int} (h : evX g a ρ S = .ok (.d (.int j)) S1) (h0 : 0 ≤ j) (h1 : j < 1000000) : evIt g (.rng (.cons a .nil)) ρ S = .ok (.fix (rngItems 0 j.toNat)) S1 := by
  unfold evIt evXs evXs
  rw [h]
  simp [datas, rng_1 h0 h1]
theorem it_list {g : Cn} {a : X} {ρ : Rho} {S S1 : Store} {xs : List PyData} (h : evX g a ρ S = .ok (.d (.list xs)) S1) : evIt g (.val a) ρ S = .ok (.fix (xs.map .d)) S1 := by
  unfold evIt
  rw [h]
  rfl
theorem it_tup {g : Cn} {a : X} {ρ : Rho} {S S1 : Store} {xs : List PyData} (h : evX g a ρ S = .ok (.d (.tuple xs)) S1) : evIt g (.val a) ρ S = .ok (.fix (xs.map .d)) S1 := by
  unfold evIt
  rw [h]
  rfl
theorem it_str {g : Cn} {a : X} {ρ : Rho} {S S1 : Store} {z : Str} (h : evX g a ρ S = .ok (.d (.str z)) S1) : evIt g (.val a) ρ S = .ok (.fix (strItems z)) S1 := by
  unfold evIt
  rw [h]
  rfl
theorem ss_cons {g : Cn} {a : St} {r : Sts} {ρ ρ1 : Rho} {S S1 : Store} (h : evS g a ρ S = .ok (.nx ρ1) S1) : evSs g (.cons a r) ρ S = evSs g r ρ1 S1 := by
  conv => lhs; unfold evSs
  rw [h]
  rfl
theorem ss_ret {g : Cn} {a : St} {r : Sts} {ρ : Rho} {S S1 : Store} {u : U} (h : evS g a ρ S = .ok (.rt u) S1) : evSs g (.cons a r) ρ S = .ok (.rt u) S1 := by
  conv => lhs; unfold evSs
  rw [h]
  rfl
theorem s_set {g : Cn} {i : Nat} {e : X} {ρ : Rho} {S S1 : Store} {u : U} (h : evX g e ρ S = .ok u S1) : evS g (.set i e) ρ S = .ok (.nx (ρ.set i (some u))) S1 := by
  unfold evS
  rw [h]
  rfl
theorem s_ret {g : Cn} {e : X} {ρ : Rho} {S S1 : Store} {u : U} (h : evX g e ρ S = .ok u S1) : evS g (.ret e) ρ S = .ok (.rt u) S1 := by
  unfold evS
  rw [h]
  rfl
/-! ### data that may be compared -/
theorem lay_all {xs : List PyData} {d : Nat} (h : ∀ x, x ∈ xs → x.canLay0 = true ∧ x.depth ≤ d) : PyData.canLayAll0 xs = true ∧ PyData.depthAll xs ≤ d := by
  induction xs with
  | nil => exact ⟨rfl, Nat.zero_le _⟩
  | cons x r ih =>
    obtain ⟨h1, h2⟩ := h x List.mem_cons_self
    obtain ⟨h3, h4⟩ := ih fun y hy => h y (List.mem_cons_of_mem _ hy)
    refine ⟨?_, ?_⟩
    · show (x.canLay0 && PyData.canLayAll0 r) = true
      rw [h1, h3]
      rfl
    · show max x.depth (PyData.depthAll r) ≤ d
      omega
theorem lay_seq {xs : List PyData} {d : Nat} (h : ∀ x, x ∈ xs → x.canLay0 = true ∧ x.depth ≤ d) : ((PyData.list xs).canLay0 = true ∧ (PyData.list xs).depth ≤ d + 1) ∧ ((PyData.tuple xs).canLay0 = true ∧ (PyData.tuple xs).depth ≤ d + 1) := by
  obtain ⟨h1, h2⟩ := lay_all h
  exact ⟨⟨h1, Nat.succ_le_succ h2⟩, h1, Nat.succ_le_succ h2⟩
theorem shaped_of {x : PyData} {d : Nat} (h : x.canLay0 = true ∧ x.depth ≤ d) (hd : d ≤ 64) : SeqAt.shaped x = true := by
  unfold SeqAt.shaped
  rw [h.1, Bool.true_and, decide_eq_true_eq]
  omega
theorem in_list {x : PyData} {ys : List PyData} (h1 : SeqAt.shaped x = true) (h2 : SeqAt.shaped (.list ys) = true) : inD x (.list ys) = some (ys.any fun z => PyData.eqv z x) := by
  show (if (SeqAt.shaped x && SeqAt.shaped (.list ys)) = true then _ else none) = _
  rw [h1, h2]
  rfl
theorem in_tup {x : PyData} {ys : List PyData} (h1 : SeqAt.shaped x = true) (h2 : SeqAt.shaped (.tuple ys) = true) : inD x (.tuple ys) = some (ys.any fun z => PyData.eqv z x) := by
  show (if (SeqAt.shaped x && SeqAt.shaped (.tuple ys)) = true then _ else none) = _
  rw [h1, h2]
  rfl
theorem eq_d {x y : PyData} (h1 : SeqAt.shaped x = true) (h2 : SeqAt.shaped y = true) : eqD x y = some (PyData.eqv x y) := by
  unfold eqD
  rw [h1, h2]
  rfl
theorem eqv_nil (ys : List PyData) : PyData.eqv (.list ys) (.list []) = ys.isEmpty := by
  show PyData.eqvAll ys [] = _
  cases ys <;> rfl
theorem shaped_nil : SeqAt.shaped (.list []) = true := by decide
/-- l != [] -/
theorem ne_nil {ys : List PyData} (h : SeqAt.shaped (.list ys) = true) : cmpD .NotEq (.list ys) (.list []) = some (!ys.isEmpty) := by
  show (eqD (.list ys) (.list [])).map (!·) = _
  rw [eq_d h shaped_nil, eqv_nil]
  rfl
end Ev
end

section
set_option Elab.async false
set_option linter.all false
set_option autoImplicit false
set_option maxRecDepth 100000
set_option maxHeartbeats 4000000
/-! # Texts by their signs -/
namespace Ev
open PySem PySem.Builtin PySem.Builtin.Str
def mkS (l : List Nat) : Str := ⟨l.toArray⟩
abbrev sg (z : Str) : List Nat := z.cps.toList
theorem mk_sg (z : Str) : mkS (sg z) = z := rfl
theorem sg_mk (l : List Nat) : sg (mkS l) = l := rfl
theorem len_sg (z : Str) : z.length = (sg z).length := by simp [Str.length]
theorem len_mk (l : List Nat) : (mkS l).length = l.length := by simp [Str.length, mkS]
theorem mk_inj {a b : List Nat} (h : mkS a = mkS b) : a = b := by rw [← sg_mk a, ← sg_mk b, h]
theorem mk_app (a b : List Nat) : mkS a ++ mkS b = mkS (a ++ b) := Str.ext' (by show a.toArray ++ b.toArray = (a ++ b).toArray; simp)
/-- a text split at one sign -/
def spl (c : Nat) : List Nat → List (List Nat)
  | [] => [[]]
  | a :: r => if a = c then [] :: spl c r else match spl c r with
    | p :: q => (a :: p) :: q
    | [] => [[a]]
theorem spl_ne (c : Nat) (l : List Nat) : ∃ p q, spl c l = p :: q := by
  cases l with
  | nil => exact ⟨_, _, rfl⟩
  | cons a r =>
    unfold spl
    split
    · exact ⟨_, _, rfl⟩
    · cases spl c r with
      | nil => exact ⟨_, _, rfl⟩
      | cons p q => exact ⟨_, _, rfl⟩
theorem spl_eq (c : Nat) (r : List Nat) : spl c (c :: r) = [] :: spl c r := if_pos rfl
theorem spl_other {c a : Nat} (h : a ≠ c) {r p : List Nat} {q : List (List Nat)} (e : spl c r = p :: q) : spl c (a :: r) = (a :: p) :: q := by
  conv => lhs; unfold spl
  rw [if_neg h, e]
def joi (c : Nat) : List (List Nat) → List Nat
  | [] => []
  | [x] => x
  | x :: y :: r => x ++ c :: joi c (y :: r)
theorem occ_one_go (x : Str) (c lim : Nat) : ∀ (k a : Nat) (st : Array Nat) (f : Nat), f ≤ a → st.size ≤ a → a + k ≤ lim →
    (forIn (m := Id) (List.range' a k) (st, f) (StrLaws.occBody x ⟨#[c]⟩ x.length lim)).run.fst.toList = st.toList ++ (List.range' a k).filter (fun i => x.cps.toList[i]? == some c)
  | 0, a, st, f, _, _, _ => by simp
  | k + 1, a, st, f, hf, hs, hl => by
    rw [List.range'_succ, List.forIn_cons]
    unfold StrLaws.occBody
    by_cases h : x.cps.toList[a]? = some c
    · have h2 := (StrLaws.subAt_one x c a).mpr h
      rw [if_pos ⟨⟨⟨show st.size < lim by omega, hf⟩, h2.1⟩, h2.2⟩]
      have ih := occ_one_go x c lim k (a + 1) (st.push a) (a + 1) (Nat.le_refl _) (by rw [Array.size_push]; omega) (by omega)
      refine Eq.trans ih ?_
      rw [List.filter_cons_of_pos (by rw [h]; exact beq_self_eq_true _)]
      simp
    · rw [if_neg (fun hc => h ((StrLaws.subAt_one x c a).mp ⟨hc.1.2, hc.2⟩))]
      refine Eq.trans (occ_one_go x c lim k (a + 1) st f (by omega) (by omega) (by omega)) ?_
      rw [List.filter_cons_of_neg (by rw [beq_iff_eq]; exact h)]
theorem occ_one (x : Str) (c : Nat) : occurrences x ⟨#[c]⟩ 0 x.length (x.length + 1) = (List.range' 0 (x.length + 1)).filter (fun i => x.cps.toList[i]? == some c) := by
  rw [StrLaws.occ_eq]
  refine Eq.trans (occ_one_go x c (x.length + 1) (x.length + 1 - 0) 0 #[] 0 (Nat.le_refl _) (Nat.le_refl _) (by omega)) ?_
  rfl
theorem sub_sg (x : Str) (a b : Nat) : strSub x a b = mkS (((sg x).drop a).take (b - a)) := by
  apply Str.ext'
  apply Array.toList_inj.mp
  exact StrLaws.strSub_toList x a b
theorem parts_one (x : Str) (c : Nat) : ∀ (k a j : Nat), a ≤ j → j + k = x.length + 1 →
    ∃ p q, spl c ((sg x).drop j) = p :: q ∧ StrLaws.partsFrom x 1 a ((List.range' j k).filter (fun i => x.cps.toList[i]? == some c)) = mkS (((sg x).drop a).take (j - a) ++ p) :: q.map mkS
  | 0, a, j, ha, hj => by
    have hn := len_sg x
    have e : (sg x).drop j = [] := List.drop_eq_nil_of_le (by omega)
    refine ⟨[], [], by rw [e]; rfl, ?_⟩
    show [strSub x a x.length] = _
    rw [sub_sg, List.append_nil]
    have e1 : ((sg x).drop a).take (x.length - a) = (sg x).drop a := List.take_of_length_le (by rw [List.length_drop]; omega)
    have e2 : ((sg x).drop a).take (j - a) = (sg x).drop a := List.take_of_length_le (by rw [List.length_drop]; omega)
    rw [e1, e2]
    rfl
  | k + 1, a, j, ha, hj => by
    have hn := len_sg x
    rw [List.range'_succ]
    by_cases h : (sg x)[j]? = some c
    · obtain ⟨hlt, hv⟩ := List.getElem?_eq_some_iff.mp h
      obtain ⟨p, q, e1, e2⟩ := parts_one x c k (j + 1) (j + 1) (Nat.le_refl _) (by omega)
      refine ⟨[], p :: q, ?_, ?_⟩
      · rw [List.drop_eq_getElem_cons hlt, hv, spl_eq, e1]
      · rw [List.filter_cons_of_pos (by rw [h]; exact beq_self_eq_true _)]
        show strSub x a j :: StrLaws.partsFrom x 1 (j + 1) _ = _
        rw [e2, sub_sg, Nat.sub_self, List.take_zero, List.nil_append, List.append_nil]
        rfl
    · obtain ⟨p, q, e1, e2⟩ := parts_one x c k a (j + 1) (by omega) (by omega)
      rw [List.filter_cons_of_neg (by rw [beq_iff_eq]; exact h)]
      by_cases hlt : j < (sg x).length
      · have hv : (sg x)[j] ≠ c := fun hv => h (by rw [List.getElem?_eq_getElem hlt, hv])
        refine ⟨(sg x)[j] :: p, q, ?_, ?_⟩
        · rw [List.drop_eq_getElem_cons hlt]
          exact spl_other hv e1
        · rw [e2]
          have e3 : ((sg x).drop a).take (j + 1 - a) = ((sg x).drop a).take (j - a) ++ [(sg x)[j]] := by
            rw [show j + 1 - a = (j - a) + 1 by omega, List.take_add_one, List.getElem?_drop, show a + (j - a) = j by omega, List.getElem?_eq_getElem hlt]
            rfl
          rw [e3, List.append_assoc]
          rfl
      · have e3 : (sg x).drop j = [] := List.drop_eq_nil_of_le (by omega)
        have e4 : (sg x).drop (j + 1) = [] := List.drop_eq_nil_of_le (by omega)
        rw [e4] at e1
        refine ⟨p, q, by rw [e3]; exact e1, ?_⟩
        rw [e2]
        have e5 : ((sg x).drop a).take (j + 1 - a) = (sg x).drop a := List.take_of_length_le (by rw [List.length_drop]; omega)
        have e6 : ((sg x).drop a).take (j - a) = (sg x).drop a := List.take_of_length_le (by rw [List.length_drop]; omega)
        rw [e5, e6]
theorem split_spl (x : Str) {c : Nat} (hc : c < 256) : Txt.split x ⟨#[c]⟩ = (spl c (sg x)).map mkS := by
  unfold Txt.split
  split
  · rename_i h
    rcases Bool.or_eq_true_iff.mp h with h | h
    · have h := of_decide_eq_true h
      have h0 : sg x = [] := by
        have := len_sg x
        have h1 : (⟨#[c]⟩ : Str).length = 1 := rfl
        exact List.eq_nil_of_length_eq_zero (by omega)
      rw [h0]
      show [x] = [mkS []]
      rw [← h0, mk_sg]
    · have h := of_decide_eq_true h
      have h1 : Builtin.Str.strKind ⟨#[c]⟩ = 1 := by
        unfold Builtin.Str.strKind
        rw [if_pos (by simp [hc])]
      have h2 : 1 ≤ Builtin.Str.strKind x := by unfold Builtin.Str.strKind; split <;> (try split) <;> decide
      omega
  · obtain ⟨p, q, e1, e2⟩ := parts_one x c (x.length + 1) 0 0 (Nat.le_refl _) (by omega)
    have e3 : StrLaws.partsFrom x 1 0 (occurrences x ⟨#[c]⟩ 0 x.length (x.length + 1)) = (spl c (sg x)).map mkS := by
      rw [occ_one, e2]
      rw [List.drop_zero] at e1
      rw [e1]
      rfl
    split
    · rename_i h
      rw [List.isEmpty_iff.mp h] at e3
      rw [← e3]
      show [x] = [strSub x 0 x.length]
      rw [StrLaws.sub_whole]
    · rw [StrLaws.partsBetween_eq]
      exact e3
theorem join_joi (c : Nat) : ∀ ls : List (List Nat), Str.join ⟨#[c]⟩ (ls.map mkS) = mkS (joi c ls)
  | [] => rfl
  | [x] => rfl
  | x :: y :: r => by
    have ih := join_joi c (y :: r)
    show mkS x ++ ⟨#[c]⟩ ++ Str.join ⟨#[c]⟩ ((y :: r).map mkS) = _
    rw [ih, show (⟨#[c]⟩ : Str) = mkS [c] from rfl, mk_app, mk_app]
    congr 1
    simp [joi]
theorem txt_join (c : Nat) (ls : List (List Nat)) : Txt.join ⟨#[c]⟩ (ls.map mkS) = mkS (joi c ls) := by
  show glued _ _ = _
  rw [StrLaws.glued_eq_join, join_joi]
theorem spl_app {c : Nat} {x : List Nat} (h : c ∉ x) (r : List Nat) : spl c (x ++ c :: r) = x :: spl c r := by
  induction x with
  | nil => exact spl_eq c r
  | cons a x ih =>
    have h1 : a ≠ c := fun e => h (by rw [e]; exact List.mem_cons_self)
    exact spl_other h1 (ih fun hm => h (List.mem_cons_of_mem _ hm))
theorem spl_free {c : Nat} {x : List Nat} (h : c ∉ x) : spl c x = [x] := by
  induction x with
  | nil => rfl
  | cons a x ih =>
    have h1 : a ≠ c := fun e => h (by rw [e]; exact List.mem_cons_self)
    exact spl_other h1 (ih fun hm => h (List.mem_cons_of_mem _ hm))
theorem spl_joi {c : Nat} : ∀ {ls : List (List Nat)}, ls ≠ [] → (∀ l, l ∈ ls → c ∉ l) → spl c (joi c ls) = ls
  | [], h, _ => absurd rfl h
  | [x], _, h => spl_free (h x List.mem_cons_self)
  | x :: y :: r, _, h => by
    show spl c (x ++ c :: joi c (y :: r)) = _
    rw [spl_app (h x List.mem_cons_self), spl_joi (by simp) fun l hl => h l (List.mem_cons_of_mem _ hl)]
theorem joi_spl (c : Nat) (l : List Nat) : joi c (spl c l) = l := by
  induction l with
  | nil => rfl
  | cons a r ih =>
    obtain ⟨p, q, e⟩ := spl_ne c r
    rw [e] at ih
    by_cases h : a = c
    · rw [h, spl_eq, e]
      show [] ++ c :: joi c (p :: q) = _
      rw [ih]
      rfl
    · rw [spl_other h e]
      cases q with
      | nil => show a :: p = a :: r; rw [show p = r from ih]
      | cons y q =>
        show a :: p ++ c :: joi c (y :: q) = a :: r
        rw [← ih]
        rfl
theorem spl_none {c : Nat} {l : List Nat} : ∀ {w : List Nat}, w ∈ spl c l → c ∉ w := by
  induction l with
  | nil => intro w h; rw [List.mem_singleton.mp h]; simp
  | cons a r ih =>
    intro w h
    obtain ⟨p, q, e⟩ := spl_ne c r
    by_cases ha : a = c
    · rw [ha, spl_eq] at h
      rcases List.mem_cons.mp h with h | h
      · rw [h]; simp
      · exact ih h
    · rw [spl_other ha e] at h
      rcases List.mem_cons.mp h with h | h
      · rw [h]
        intro hm
        rcases List.mem_cons.mp hm with hm | hm
        · exact ha hm.symm
        · exact ih (by rw [e]; exact List.mem_cons_self) hm
      · exact ih (by rw [e]; exact List.mem_cons_of_mem _ h)
theorem spl_sum (c : Nat) (l : List Nat) : ((spl c l).map fun w => w.length + 1).sum = l.length + 1 := by
  induction l with
  | nil => rfl
  | cons a r ih =>
    obtain ⟨p, q, e⟩ := spl_ne c r
    rw [e] at ih
    by_cases h : a = c
    · rw [h, spl_eq, e]
      simp only [List.map_cons, List.sum_cons, List.length_nil, List.length_cons] at ih ⊢
      omega
    · rw [spl_other h e]
      simp only [List.map_cons, List.sum_cons, List.length_cons] at ih ⊢
      omega
theorem le_sum {n : Nat} : ∀ {l : List Nat}, n ∈ l → n ≤ l.sum
  | [], h => by cases h
  | a :: r, h => by
    rw [List.sum_cons]
    rcases List.mem_cons.mp h with h | h
    · omega
    · have := le_sum h; omega
theorem joi_len (c : Nat) : ∀ ls : List (List Nat), (joi c ls).length ≤ (ls.map fun w => w.length + 1).sum
  | [] => Nat.le_refl _
  | [x] => by simp [joi]
  | x :: y :: r => by
    have ih := joi_len c (y :: r)
    show (x ++ c :: joi c (y :: r)).length ≤ _
    simp only [List.length_append, List.length_cons, List.map_cons, List.sum_cons] at ih ⊢
    omega
theorem mem_joi {c a : Nat} : ∀ {ls : List (List Nat)}, a ∈ joi c ls → a = c ∨ ∃ l, l ∈ ls ∧ a ∈ l
  | [], h => by cases h
  | [x], h => .inr ⟨x, List.mem_cons_self, h⟩
  | x :: y :: r, h => by
    have h : a ∈ x ++ c :: joi c (y :: r) := h
    rcases List.mem_append.mp h with h | h
    · exact .inr ⟨x, List.mem_cons_self, h⟩
    · rcases List.mem_cons.mp h with h | h
      · exact .inl h
      · rcases mem_joi h with h | ⟨l, h1, h2⟩
        · exact .inl h
        · exact .inr ⟨l, List.mem_cons_of_mem _ h1, h2⟩
theorem joi_mem {c a : Nat} : ∀ {ls : List (List Nat)} {l : List Nat}, l ∈ ls → a ∈ l → a ∈ joi c ls
  | [], _, h, _ => by cases h
  | [x], l, h, ha => by rw [List.mem_singleton.mp h] at ha; exact ha
  | x :: y :: r, l, h, ha => by
    show a ∈ x ++ c :: joi c (y :: r)
    rcases List.mem_cons.mp h with h | h
    · exact List.mem_append_left _ (by rw [← h]; exact ha)
    · exact List.mem_append_right _ (List.mem_cons_of_mem _ (joi_mem h ha))
/-! ### what the operations say of texts by their signs -/
def sD (l : List Nat) : PyData := .str (mkS l)
theorem str_lit {z : Str} {l : List Nat} (h : z.cps = l.toArray) : PyData.str z = sD l := congrArg PyData.str (Str.ext' h)
theorem strs_sD : ∀ ls : List (List Nat), strsD (ls.map sD) = some (ls.map mkS)
  | [] => rfl
  | x :: r => by
    show (strsD (r.map sD)).map (mkS x :: ·) = _
    rw [strs_sD r]
    rfl
theorem split_ok {x : List Nat} {c : Nat} (hc : c < 256) (hl : x.length + 2 ≤ line) : splitD (sD x) (.str ⟨#[c]⟩) = some (.list ((spl c x).map sD)) := by
  show (if (((⟨#[c]⟩ : Str).length == 0) = false ∧ (mkS x).length + 2 ≤ line) then some (PyData.list ((Txt.split (mkS x) ⟨#[c]⟩).map .str)) else none) = _
  rw [if_pos ⟨rfl, by rw [len_mk]; exact hl⟩, split_spl _ hc, sg_mk, List.map_map]
  rfl
theorem join_fit {c : Nat} {ls : List (List Nat)} (h : (ls.map fun w => w.length + 1).sum ≤ line) : joinFit ⟨#[c]⟩ (ls.map mkS) = true := by
  unfold joinFit
  rw [decide_eq_true_eq]
  have e : ∀ ls : List (List Nat), ((ls.map mkS).map (·.length)).sum + (ls.map mkS).length * (⟨#[c]⟩ : Str).length = (ls.map fun w => w.length + 1).sum := by
    intro ls
    induction ls with
    | nil => rfl
    | cons x r ih =>
      have e1 : (⟨#[c]⟩ : Str).length = 1 := rfl
      rw [e1] at ih ⊢
      simp only [List.map_cons, List.sum_cons, List.length_cons, len_mk] at ih ⊢
      omega
  rw [e]
  exact h
theorem join_okL {c : Nat} {ls : List (List Nat)} (h : (ls.map fun w => w.length + 1).sum ≤ line) : joinD (.str ⟨#[c]⟩) (.list (ls.map sD)) = some (sD (joi c ls)) := by
  show ((strsD (ls.map sD)).bind fun ss => if joinFit ⟨#[c]⟩ ss = true then some (PyData.str (Txt.join ⟨#[c]⟩ ss)) else none) = _
  rw [strs_sD, Option.bind_some, if_pos (join_fit h), txt_join]
  rfl
theorem join_okT {c : Nat} {ls : List (List Nat)} (h : (ls.map fun w => w.length + 1).sum ≤ line) : joinD (.str ⟨#[c]⟩) (.tuple (ls.map sD)) = some (sD (joi c ls)) := join_okL (c := c) h
theorem has_one (c : Nat) (z : Str) : hasSub ⟨#[c]⟩ z = decide (c ∈ sg z) := StrLaws.found_one z c
theorem takeW_all {p : Nat → Bool} {l : List Nat} (h : ∀ a, a ∈ l → p a = true) : l.takeWhile p = l := by
  induction l with
  | nil => rfl
  | cons a r ih => rw [List.takeWhile_cons_of_pos (h a List.mem_cons_self), ih fun b hb => h b (List.mem_cons_of_mem _ hb)]
/-- a text that is stripped of all its signs -/
theorem strip_all {x : List Nat} {y : Str} (h : ∀ a, a ∈ x → y.cps.contains a = true) : Txt.stripChars (mkS x) y = mkS [] := by
  have h0 : stripLo y.cps.contains true (mkS x) = x.length := by
    show ((sg (mkS x)).takeWhile _).length = _
    rw [sg_mk, takeW_all h]
  unfold Txt.stripChars Txt.stripBy
  have h1 : stripHi y.cps.contains true (mkS x) x.length = x.length := by
    show (mkS x).length - (((sg (mkS x)).drop x.length).reverse.takeWhile _).length = _
    rw [sg_mk, len_mk, List.drop_length]
    rfl
  split
  · rename_i h2
    unfold stripSame at h2
    rw [h0, Bool.and_eq_true, beq_iff_eq] at h2
    rw [List.eq_nil_of_length_eq_zero h2.1]
  · unfold stripped
    rw [h0, h1, sub_sg, Nat.sub_self, List.take_zero]
theorem strip_vs0 {x : List Nat} {y : Str} {P : Nat → Prop} (h : ∀ c, c ∈ x → P c) : ∀ c, c ∈ sg (Txt.stripChars (mkS x) y) → P c := by
  unfold Txt.stripChars Txt.stripBy
  split
  · exact h
  · unfold stripped
    rw [sub_sg, sg_mk, sg_mk]
    exact fun c hc => h c (List.mem_of_mem_drop (List.mem_of_mem_take hc))
theorem ix_lo {n : Nat} {k : Int} (h : 0 ≤ k) (d : Nat) : HT.sIx n d (some k) = min k.toNat n := by
  show (if k < 0 then (k + (n : Int)).toNat else min k.toNat n) = _
  rw [if_neg (by omega)]
theorem cutS_to {x : List Nat} {k : Int} (h : 0 ≤ k) : L2.cutS (mkS x) none (some k) = mkS (x.take k.toNat) := by
  show mkS (((sg (mkS x)).drop 0).take (HT.sIx (mkS x).length (mkS x).length (some k) - 0)) = _
  rw [sg_mk, List.drop_zero, ix_lo h, len_mk, Nat.sub_zero]
  congr 1
  by_cases hk : k.toNat ≤ x.length
  · rw [Nat.min_eq_left hk]
  · rw [Nat.min_eq_right (by omega), List.take_of_length_le (Nat.le_refl _), List.take_of_length_le (by omega)]
theorem cutS_from {x : List Nat} {k : Int} (h : 0 ≤ k) : L2.cutS (mkS x) (some k) none = mkS (x.drop k.toNat) := by
  show mkS (((sg (mkS x)).drop (HT.sIx (mkS x).length 0 (some k))).take ((mkS x).length - HT.sIx (mkS x).length 0 (some k))) = _
  rw [sg_mk, ix_lo h, len_mk]
  congr 1
  by_cases hk : k.toNat ≤ x.length
  · rw [Nat.min_eq_left hk]
    exact List.take_of_length_le (by rw [List.length_drop]; exact Nat.le_refl _)
  · rw [Nat.min_eq_right (by omega), List.drop_length, List.drop_eq_nil_of_le (by omega), List.take_nil]
theorem cutD_to {α : Type} {x : List α} {k : Int} (h : 0 ≤ k) : cutD x none (some k) = x.take k.toNat := by
  show ((x.drop 0).take (HT.sIx x.length x.length (some k) - 0)) = _
  rw [List.drop_zero, ix_lo h, Nat.sub_zero]
  by_cases hk : k.toNat ≤ x.length
  · rw [Nat.min_eq_left hk]
  · rw [Nat.min_eq_right (by omega), List.take_of_length_le (Nat.le_refl _), List.take_of_length_le (by omega)]
theorem cutD_from {α : Type} {x : List α} {k : Int} (h : 0 ≤ k) : cutD x (some k) none = x.drop k.toNat := by
  show ((x.drop (HT.sIx x.length 0 (some k))).take (x.length - HT.sIx x.length 0 (some k))) = _
  rw [ix_lo h]
  by_cases hk : k.toNat ≤ x.length
  · rw [Nat.min_eq_left hk]
    exact List.take_of_length_le (by rw [List.length_drop]; exact Nat.le_refl _)
  · rw [Nat.min_eq_right (by omega), List.drop_length, List.drop_eq_nil_of_le (by omega), List.take_nil]
theorem items_sD (x : List Nat) : strItems (mkS x) = x.map fun c => .d (sD [c]) := rfl
theorem add_sD {a b : List Nat} (h : a.length + b.length ≤ line) : binD .Add (sD a) (sD b) = some (sD (a ++ b)) := by
  unfold sD
  rw [add_ss (by rw [len_mk, len_mk]; exact h), mk_app]
theorem len_sD {a : List Nat} (h : a.length ≤ line) : bltD .len (sD a) = some (.int a.length) := by
  show (if (mkS a).length ≤ line then some (PyData.int (mkS a).length) else none) = _
  rw [len_mk, if_pos h]
theorem slc_to {a : List Nat} {k : Int} (h : a.length ≤ line) (hk : 0 ≤ k) : slcD (sD a) none (some k) = some (sD (a.take k.toNat)) := by
  show (if (mkS a).length ≤ line then some (PyData.str (L2.cutS (mkS a) none (some k))) else none) = _
  rw [len_mk, if_pos h, cutS_to hk]
  rfl
theorem slc_from {a : List Nat} {k : Int} (h : a.length ≤ line) (hk : 0 ≤ k) : slcD (sD a) (some k) none = some (sD (a.drop k.toNat)) := by
  show (if (mkS a).length ≤ line then some (PyData.str (L2.cutS (mkS a) (some k) none)) else none) = _
  rw [len_mk, if_pos h, cutS_from hk]
  rfl
theorem eqv_sD (a b : List Nat) : PyData.eqv (sD a) (sD b) = decide (a = b) := by
  unfold sD
  rw [PyData.eqv, Bool.eq_iff_iff, beq_iff_eq, decide_eq_true_eq]
  exact ⟨mk_inj, fun h => by rw [h]⟩
/-- signs that there are -/
def Vs (a : List Nat) : Prop := ∀ c, c ∈ a → c < 1114112
theorem lay_sD {a : List Nat} (h : Vs a) : (sD a).canLay0 = true ∧ (sD a).depth ≤ 1 := by
  refine ⟨?_, Nat.zero_le _⟩
  show (mkS a).cps.all (fun c => decide (c < 1114112)) = true
  rw [Array.all_eq_true_iff_forall_mem]
  intro c hc
  have hc : c ∈ a := by simpa [mkS] using hc
  exact decide_eq_true (h c hc)
theorem shaped_sD {a : List Nat} (h : Vs a) : SeqAt.shaped (sD a) = true := shaped_of (lay_sD h) (by decide)
theorem lay_sDs {ls : List (List Nat)} (h : ∀ x, x ∈ ls → Vs x) : ∀ p, p ∈ ls.map sD → p.canLay0 = true ∧ p.depth ≤ 1 := fun p hp => by
  obtain ⟨a, ha, rfl⟩ := List.mem_map.mp hp
  exact lay_sD (h a ha)
theorem shaped_sDs {ls : List (List Nat)} (h : ∀ x, x ∈ ls → Vs x) : SeqAt.shaped (.list (ls.map sD)) = true ∧ SeqAt.shaped (.tuple (ls.map sD)) = true := by
  have h := lay_seq (lay_sDs h)
  exact ⟨shaped_of h.1 (by decide), shaped_of h.2 (by decide)⟩
theorem Vs.app {a b : List Nat} (h : Vs a) (k : Vs b) : Vs (a ++ b) := fun c hc => by
  rcases List.mem_append.mp hc with hc | hc
  · exact h c hc
  · exact k c hc
theorem Vs.take {a : List Nat} (h : Vs a) (n : Nat) : Vs (a.take n) := fun c hc => h c (List.mem_of_mem_take hc)
theorem Vs.drop {a : List Nat} (h : Vs a) (n : Nat) : Vs (a.drop n) := fun c hc => h c (List.mem_of_mem_drop hc)
theorem Vs.spl {a : List Nat} {c : Nat} (h : Vs a) : ∀ x, x ∈ spl c a → Vs x := fun x hx d hd => h d (by
  have := joi_mem (c := c) hx hd
  rw [joi_spl] at this
  exact this)
theorem Vs.joi {ls : List (List Nat)} {c : Nat} (hc : c < 1114112) (h : ∀ x, x ∈ ls → Vs x) : Vs (joi c ls) := fun d hd => by
  rcases mem_joi hd with rfl | ⟨l, h1, h2⟩
  · exact hc
  · exact h l h1 d h2
def lastL (ls : List (List Nat)) : List Nat := ls.getLastD []
def headL (ls : List (List Nat)) : List Nat := ls.headD []
theorem last_el {α : Type} {ls : List α} {z : α} (h : ls ≠ []) : ls[ls.length - 1]'(by have := List.length_pos_iff.mpr h; omega) = ls.getLastD z := by
  rw [List.getLastD_eq_getLast?, List.getLast?_eq_getElem?, List.getElem?_eq_getElem (by have := List.length_pos_iff.mpr h; omega)]
  rfl
theorem last_sD {ls : List (List Nat)} (h : ls ≠ []) : L2.atI (ls.map sD) (-1) = some (sD (lastL ls)) := by
  have hl := List.length_pos_iff.mpr h
  have e : L2.ixN (ls.map sD).length (-1) = some (ls.length - 1) := by
    unfold L2.ixN
    rw [if_neg (by decide), List.length_map, if_pos (by omega)]
    congr 1
    omega
  unfold L2.atI
  rw [e, Option.bind_some, List.getElem?_map, List.getElem?_eq_getElem (by omega), Option.map_some, last_el (z := []) h]
  rfl
theorem last_mem {α : Type} {ls : List α} {z : α} (h : ls ≠ []) : ls.getLastD z ∈ ls := by
  have hl := List.length_pos_iff.mpr h
  rw [← last_el h]
  exact List.getElem_mem _
/-! ### comprehensions without side effects -/
theorem comp_map {α : Type} {t : Tg} {c : Rho → Store → Ev.R Bool} {e : Rho → Store → Ev.R PyData} {ρ : Rho} {S : Store} (enc : α → U) (p : α → Bool) (f : α → PyData) : ∀ (xs : List α),
    (∀ x, x ∈ xs → ∃ ρ1, bindT t (enc x) ρ = some ρ1 ∧ c ρ1 S = .ok (p x) S ∧ (p x = true → e ρ1 S = .ok (f x) S)) → compL t c e ρ (xs.map enc) S = .ok ((xs.filter p).map f) S
  | [], _ => rfl
  | x :: xs, h => by
    obtain ⟨ρ1, h1, h2, h3⟩ := h x List.mem_cons_self
    have ih := comp_map enc p f xs fun y hy => h y (List.mem_cons_of_mem _ hy)
    rw [List.map_cons]
    unfold compL
    rw [h1]
    dsimp only
    rw [h2, b_ok]
    cases hp : p x with
    | true => rw [if_pos rfl, h3 hp, b_ok, ih, List.filter_cons_of_pos hp]; rfl
    | false => rw [if_neg (by decide), ih, List.filter_cons_of_neg (by rw [hp]; decide)]
theorem filt_all {α : Type} (xs : List α) : xs.filter (fun _ => true) = xs := by
  induction xs with
  | nil => rfl
  | cons x r ih => rw [List.filter_cons_of_pos rfl, ih]
theorem all_bools (bs : List Bool) : bltD .all (.list (bs.map .bool)) = some (.bool (bs.all id)) := by
  show (boolsD (bs.map .bool)).map (fun bs => PyData.bool (bs.all id)) = _
  have : boolsD (bs.map .bool) = some bs := by
    induction bs with
    | nil => rfl
    | cons b r ih =>
      show (boolsD (r.map .bool)).map (b :: ·) = _
      rw [ih]
      rfl
  rw [this]
  rfl
/-- a comprehension over a list of the store that stays as it is -/
theorem compB_map {t : Tg} {c : Rho → Store → Ev.R Bool} {e : Rho → Store → Ev.R PyData} {ρ : Rho} {S : Store} {b : Nat} (p : PyData → Bool) (f : PyData → PyData) {xs : List PyData} (hb : S[b]? = some (.lst xs))
    (h : ∀ x, x ∈ xs → ∃ ρ1, bindT t (.d x) ρ = some ρ1 ∧ c ρ1 S = .ok (p x) S ∧ (p x = true → e ρ1 S = .ok (f x) S)) : ∀ (n j : Nat), j ≤ xs.length → xs.length < j + n → compB t c e ρ b n j S = .ok (((xs.drop j).filter p).map f) S
  | 0, j, h1, h2 => by omega
  | n + 1, j, h1, h2 => by
    unfold compB
    rw [hb]
    dsimp only
    by_cases hj : j < xs.length
    · obtain ⟨ρ1, g1, g2, g3⟩ := h xs[j] (List.getElem_mem hj)
      have ih := compB_map p f hb h n (j + 1) (by omega) (by omega)
      rw [List.getElem?_eq_getElem hj, List.drop_eq_getElem_cons hj]
      dsimp only
      rw [g1]
      dsimp only
      rw [g2, b_ok]
      cases hp : p xs[j] with
      | true => rw [if_pos rfl, g3 hp, b_ok, ih, List.filter_cons_of_pos hp]; rfl
      | false => rw [if_neg (by decide), ih, List.filter_cons_of_neg (by rw [hp]; decide)]
    · rw [List.getElem?_eq_none (by omega), List.drop_eq_nil_of_le (by omega)]
      rfl
theorem ev_lcB {g : Cn} {own : List Nat} {t : Tg} {it : It} {c : Xs} {e : X} {ρ : Rho} {S S1 S2 : Store} {b : Nat} {ys : List PyData} (h1 : evIt g it ρ S = .ok (.live b) S1)
    (h2 : compB t (fun ρ S => evC g c ρ S) (fun ρ S => dataR (evX g e ρ S)) (wipe ρ own) b 100000 0 S1 = .ok ys S2) : evX g (.lc own t it c e) ρ S = .ok (.d (.list ys)) S2 := by
  unfold evX
  rw [h1]
  simp only [ne_ok, b_ok]
  rw [h2]
  rfl
end Ev
end

section
set_option Elab.async false
set_option linter.all false
set_option autoImplicit false
set_option maxRecDepth 100000
set_option maxHeartbeats 4000000
/-! # While loops by a plain run; loops over a list of the store -/
namespace Ev
open PySem
theorem ss_set {g : Cn} {i : Nat} {e : Ev.X} {r : Sts} {ρ ρ1 : Rho} {S S1 : Store} {u : U} (h : evX g e ρ S = .ok u S1) (hρ : ρ.set i (some u) = ρ1) : evSs g (.cons (.set i e) r) ρ S = evSs g r ρ1 S1 := by
  rw [ss_cons (s_set h), hρ]
theorem s_ifT {g : Cn} {c : Ev.X} {a b : Sts} {ρ ρ1 : Rho} {S S1 S2 : Store} (h : truR (evX g c ρ S) = .ok true S1) (h2 : evSs g a ρ S1 = .ok (.nx ρ1) S2) : evS g (.iff c a b) ρ S = .ok (.nx ρ1) S2 := by
  unfold evS
  rw [h, b_ok, if_pos rfl]
  exact h2
theorem s_ifF {g : Cn} {c : Ev.X} {a : Sts} {ρ : Rho} {S S1 : Store} (h : truR (evX g c ρ S) = .ok false S1) : evS g (.iff c a .nil) ρ S = .ok (.nx ρ) S1 := by
  unfold evS
  rw [h, b_ok, if_neg (by decide)]
  unfold evSs
  rfl
theorem s_ifR {g : Cn} {c : Ev.X} {a b : Sts} {ρ : Rho} {S S1 S2 : Store} {u : U} (h : truR (evX g c ρ S) = .ok true S1) (h2 : evSs g a ρ S1 = .ok (.rt u) S2) : evS g (.iff c a b) ρ S = .ok (.rt u) S2 := by
  unfold evS
  rw [h, b_ok, if_pos rfl]
  exact h2
theorem s_ifX {g : Cn} {c : Ev.X} {a b : Sts} {ρ : Rho} {S S1 S2 : Store} {k : Nat} (h : truR (evX g c ρ S) = .ok true S1) (h2 : evSs g a ρ S1 = .exc k S2) : evS g (.iff c a b) ρ S = .exc k S2 := by
  unfold evS
  rw [h, b_ok, if_pos rfl]
  exact h2
theorem ss_exc {g : Cn} {a : St} {r : Sts} {ρ : Rho} {S S1 : Store} {k : Nat} (h : evS g a ρ S = .exc k S1) : evSs g (.cons a r) ρ S = .exc k S1 := by
  conv => lhs; unfold evSs
  rw [h]
  rfl
theorem ev_call1 {g : Cn} {f : Nat} {a : Ev.X} {ρ : Rho} {S S1 : Store} {u : U} (h : evX g a ρ S = .ok u S1) : evX g (.call f (.cons a .nil)) ρ S = g.call f [u] S1 := by
  simp only [evX, evXs, h, b_ok]
theorem ev_call2 {g : Cn} {f : Nat} {a b : Ev.X} {ρ : Rho} {S S1 S2 : Store} {u v : U} (h : evX g a ρ S = .ok u S1) (h2 : evX g b ρ S1 = .ok v S2) : evX g (.call f (.cons a (.cons b .nil))) ρ S = g.call f [u, v] S2 := by
  simp only [evX, evXs, h, h2, b_ok]
theorem ev_call3 {g : Cn} {f : Nat} {a b c : Ev.X} {ρ : Rho} {S S1 S2 S3 : Store} {u v w : U} (h : evX g a ρ S = .ok u S1) (h2 : evX g b ρ S1 = .ok v S2) (h3 : evX g c ρ S2 = .ok w S3) : evX g (.call f (.cons a (.cons b (.cons c .nil)))) ρ S = g.call f [u, v, w] S3 := by
  simp only [evX, evXs, h, h2, h3, b_ok]
theorem ne_same {p : PyData} (h : SeqAt.shaped p = true) : cmpD .NotEq p p = some false := by
  show (eqD p p).map (!·) = _
  have h0 : p.canLay0 = true := by
    unfold SeqAt.shaped at h
    exact (Bool.and_eq_true_iff.mp h).1
  rw [eq_d h h, SeqAt.eqv_refl _ h0]
  rfl
theorem eq_same {p : PyData} (h : SeqAt.shaped p = true) : cmpD .Eq p p = some true := by
  show eqD p p = _
  have h0 : p.canLay0 = true := by
    unfold SeqAt.shaped at h
    exact (Bool.and_eq_true_iff.mp h).1
  rw [eq_d h h, SeqAt.eqv_refl _ h0]
/-- a run: guarded, to a number of turns -/
def runW {σ : Type} (g t : σ → Bool) (f : σ → σ) : Nat → σ → Option σ
  | 0, _ => none
  | n + 1, s => if g s = true then (if t s = true then runW g t f n (f s) else some s) else none
theorem loopW_run {σ : Type} {c : Rho → Store → Ev.R Bool} {body : Rho → Store → Ev.R F} (g t : σ → Bool) (f : σ → σ) (Rl : σ → Rho → Store → Prop) (hc : ∀ s ρ S, Rl s ρ S → g s = true → c ρ S = .ok (t s) S)
    (hb : ∀ s ρ S, Rl s ρ S → g s = true → t s = true → ∃ ρ' S', body ρ S = .ok (.nx ρ') S' ∧ Rl (f s) ρ' S') :
    ∀ (n m : Nat) (s s' : σ) (ρ : Rho) (S : Store), runW g t f n s = some s' → n ≤ m → Rl s ρ S → ∃ ρ' S', loopW c body m ρ S = .ok (.nx ρ') S' ∧ Rl s' ρ' S'
  | 0, _, _, _, _, _, h, _, _ => by cases h
  | n + 1, m, s, s', ρ, S, h, hm, hR => by
    obtain ⟨m, rfl⟩ : ∃ k, m = k + 1 := ⟨m - 1, by omega⟩
    unfold runW at h
    split at h
    · rename_i hg
      unfold loopW
      rw [hc s ρ S hR hg, b_ok]
      split at h
      · rename_i ht
        obtain ⟨ρ1, S1, h1, h2⟩ := hb s ρ S hR hg ht
        rw [if_pos ht, h1, b_ok]
        exact loopW_run g t f Rl hc hb n m (f s) s' ρ1 S1 h (by omega) h2
      · rename_i ht
        cases h
        rw [if_neg ht]
        exact ⟨ρ, S, rfl, hR⟩
    · cases h
theorem ev_whil {g : Cn} {c : Ev.X} {b : Sts} {ρ : Rho} {S : Store} {r : R F} (h : loopW (fun ρ S => truR (evX g c ρ S)) (fun ρ S => evSs g b ρ S) 1000000 ρ S = r) : evS g (.whil c b) ρ S = r := by
  unfold evS
  exact h
theorem loopB_inv {t : Tg} {body : Rho → Store → Ev.R F} {b : Nat} {xs : List PyData} (I : Nat → Rho → Store → Prop) (hI : ∀ i ρ S, I i ρ S → S[b]? = some (.lst xs))
    (st : ∀ i x ρ S, xs[i]? = some x → I i ρ S → ∃ ρ1 ρ2 S2, bindT t (.d x) ρ = some ρ1 ∧ body ρ1 S = .ok (.nx ρ2) S2 ∧ I (i + 1) ρ2 S2) :
    ∀ (n j : Nat) (ρ : Rho) (S : Store), I j ρ S → j ≤ xs.length → xs.length < j + n → ∃ ρ' S', loopB t body b n j ρ S = .ok (.nx ρ') S' ∧ I xs.length ρ' S'
  | 0, j, ρ, S, _, h1, h2 => by omega
  | n + 1, j, ρ, S, h, h1, h2 => by
    unfold loopB
    rw [hI j ρ S h]
    dsimp only
    by_cases hj : j < xs.length
    · obtain ⟨ρ1, ρ2, S2, g1, g2, g3⟩ := st j xs[j] ρ S (List.getElem?_eq_getElem hj) h
      rw [List.getElem?_eq_getElem hj]
      dsimp only
      rw [g1]
      dsimp only
      rw [g2, b_ok]
      exact loopB_inv I hI st n (j + 1) ρ2 S2 g3 (by omega) (by omega)
    · have e : j = xs.length := by omega
      rw [List.getElem?_eq_none (by omega)]
      exact ⟨ρ, S, rfl, by rw [← e]; exact h⟩
/-- a list at hand: frozen, or a box that stands -/
def LstAt (S : Store) (u : U) (xs : List PyData) : Prop := u = .d (.list xs) ∨ ∃ b, u = .ref b ∧ S[b]? = some (.lst xs)
theorem LstAt.deref {S : Store} {u : U} {xs : List PyData} (h : LstAt S u xs) : Ev.deref S u = some (.list xs) := by
  rcases h with rfl | ⟨b, rfl, h⟩
  · rfl
  · exact d_lst h
/-- a loop over such a list, the box as it stands -/
theorem for_lst {g : Cn} {t : Tg} {a : Ev.X} {b : Sts} {ρ : Rho} {S : Store} {u : U} {xs : List PyData} (hu : LstAt S u xs) (he : evX g a ρ S = .ok u S) (hl : xs.length < 1000000) (I : Nat → Rho → Store → Prop) (h0 : I 0 ρ S)
    (hI : ∀ i ρ' S', I i ρ' S' → LstAt S' u xs)
    (st : ∀ i x ρ' S', xs[i]? = some x → I i ρ' S' → ∃ ρ1 ρ2 S2, bindT t (.d x) ρ' = some ρ1 ∧ evSs g b ρ1 S' = .ok (.nx ρ2) S2 ∧ I (i + 1) ρ2 S2) :
    ∃ ρ' S', evS g (.forr t (.val a) b) ρ S = .ok (.nx ρ') S' ∧ I xs.length ρ' S' := by
  rcases hu with rfl | ⟨k, rfl, hk⟩
  · obtain ⟨ρ', S', h1, h2⟩ := loop_inv (t := t) (body := fun ρ S => evSs g b ρ S) (fun i ρ S => I i ρ S) (xs.map U.d) 0 ρ S h0 (fun i u ρ S' hu hi => by
      rw [List.getElem?_map] at hu
      cases hx : xs[i]? with
      | none => rw [hx] at hu; cases hu
      | some x =>
        rw [hx] at hu
        cases hu
        rw [Nat.zero_add] at hi ⊢
        exact st i x ρ S' hx hi)
    rw [Nat.zero_add, List.length_map] at h2
    exact ⟨ρ', S', ev_for (it_list he) h1, h2⟩
  · obtain ⟨ρ', S', h1, h2⟩ := loopB_inv (t := t) (body := fun ρ S => evSs g b ρ S) (b := k) (xs := xs) I (fun i ρ S hi => by
      rcases hI i ρ S hi with z | ⟨k', z, hk'⟩
      · cases z
      · cases z
        exact hk') st 1000000 0 ρ S h0 (Nat.zero_le _) (by omega)
    refine ⟨ρ', S', ?_, h2⟩
    unfold evS
    have e : evIt g (.val a) ρ S = .ok (.live k) S := by
      unfold evIt
      rw [he]
      simp [srcU, hk]
    rw [e]
    exact h1
theorem last_map {α : Type} (f : α → PyData) (z : α) {ls : List α} (h : ls ≠ []) : L2.atI (ls.map f) (-1) = some (f (ls.getLastD z)) := by
  have hl := List.length_pos_iff.mpr h
  have e : L2.ixN (ls.map f).length (-1) = some (ls.length - 1) := by
    unfold L2.ixN
    rw [if_neg (by decide), List.length_map, if_pos (by omega)]
    congr 1
    omega
  unfold L2.atI
  rw [e, Option.bind_some, List.getElem?_map, List.getElem?_eq_getElem (by omega), Option.map_some, last_el (z := z) h]
/-! ### fractions -/
theorem mod_lt {a b : Nat} (hb : 0 < b) (h : a % b ≠ 0) : 2 * (b % (a % b)) < b := by
  have h1 : b % (a % b) < a % b := Nat.mod_lt _ (by omega)
  have h2 : a % b < b := Nat.mod_lt _ hb
  have h3 := Nat.div_add_mod b (a % b)
  have h4 : 1 ≤ b / (a % b) := (Nat.le_div_iff_mul_le (by omega)).mpr (by omega)
  have h5 : (a % b) * 1 ≤ (a % b) * (b / (a % b)) := Nat.mul_le_mul_left _ h4
  omega
/-- Euclid's loop, k bits -/
theorem gcd_loop {c : Rho → Store → Ev.R Bool} {body : Rho → Store → Ev.R F} {S : Store} (en : Nat → Nat → Rho) (hc : ∀ a b, c (en a b) S = .ok (!decide (b = 0)) S) (hb : ∀ a b, 0 < b → body (en a b) S = .ok (.nx (en b (a % b))) S) :
    ∀ (k m a b : Nat), b < 2 ^ k → 2 * k + 2 ≤ m → loopW c body m (en a b) S = .ok (.nx (en (Nat.gcd a b) 0)) S
  | 0, m, a, b, h, hm => by
    obtain ⟨m, rfl⟩ : ∃ j, m = j + 1 := ⟨m - 1, by omega⟩
    have hb0 : b = 0 := by simpa using h
    subst hb0
    unfold loopW
    rw [hc, b_ok, if_neg (by simp), Nat.gcd_zero_right]
  | k + 1, m, a, b, h, hm => by
    obtain ⟨m, rfl⟩ : ∃ j, m = j + 2 := ⟨m - 2, by omega⟩
    by_cases hb0 : b = 0
    · subst hb0
      unfold loopW
      rw [hc, b_ok, if_neg (by simp), Nat.gcd_zero_right]
    · unfold loopW
      rw [hc, b_ok, if_pos (by simp [hb0]), hb a b (by omega), b_ok]
      dsimp only
      by_cases hm0 : a % b = 0
      · unfold loopW
        rw [hc, hm0, b_ok, if_neg (by simp), Nat.gcd_comm, Nat.gcd_rec, hm0, Nat.gcd_zero_left]
      · unfold loopW
        rw [hc, b_ok, if_pos (by simp [hm0]), hb b (a % b) (by omega), b_ok]
        dsimp only
        rw [gcd_loop en hc hb k m (a % b) (b % (a % b)) (by have := mod_lt (a := a) (by omega) hm0; rw [Nat.pow_succ] at h; omega) (by omega)]
        congr 3
        rw [Nat.gcd_comm (a % b), ← Nat.gcd_rec, Nat.gcd_comm (a % b) b, Nat.gcd_comm b (a % b), ← Nat.gcd_rec, Nat.gcd_comm]
end Ev
end

section
set_option Elab.async false
set_option linter.all false
set_option autoImplicit false
set_option maxRecDepth 100000
set_option maxHeartbeats 1000000
/-! # More of the plain kit: loops that return at the first bad item -/
namespace Ev
open PySem
theorem loop_all {α : Type} {t : Tg} {body : Rho → Store → Ev.R F} {S : Store} (good : α → Bool) (enc : α → U) (v : U) (I : Rho → Prop) : ∀ (xs : List α) (ρ : Rho), I ρ →
    (∀ x, x ∈ xs → ∀ ρ, I ρ → ∃ ρ1, bindT t (enc x) ρ = some ρ1 ∧ ((good x = true ∧ ∃ ρ2, body ρ1 S = .ok (.nx ρ2) S ∧ I ρ2) ∨ (good x = false ∧ body ρ1 S = .ok (.rt v) S))) →
    (xs.all good = true ∧ ∃ ρ', loopL t body (xs.map enc) ρ S = .ok (.nx ρ') S ∧ I ρ') ∨ (xs.all good = false ∧ loopL t body (xs.map enc) ρ S = .ok (.rt v) S)
  | [], ρ, hI, _ => .inl ⟨rfl, ρ, rfl, hI⟩
  | x :: xs, ρ, hI, h => by
    obtain ⟨ρ1, e1, e2⟩ := h x List.mem_cons_self ρ hI
    rw [List.map_cons]
    unfold loopL
    rw [e1]
    dsimp only
    rcases e2 with ⟨g, ρ2, e3, I2⟩ | ⟨g, e3⟩
    · rw [e3, b_ok]
      dsimp only
      rw [List.all_cons, g, Bool.true_and]
      exact loop_all good enc v I xs ρ2 I2 fun y hy => h y (List.mem_cons_of_mem _ hy)
    · rw [e3, b_ok, List.all_cons, g, Bool.false_and]
      exact .inr ⟨rfl, rfl⟩
theorem ev_forR {g : Cn} {t : Tg} {it : It} {b : Sts} {r : Sts} {ρ : Rho} {S S1 S2 : Store} {us : List U} {v : U} (h1 : evIt g it ρ S = .ok (.fix us) S1) (h2 : loopL t (fun ρ S => evSs g b ρ S) us ρ S1 = .ok (.rt v) S2) : evSs g (.cons (.forr t it b) r) ρ S = .ok (.rt v) S2 := by
  rw [ss_ret (ev_for h1 h2)]
/-- a comprehension of tests, asked of all -/
theorem all_map {α : Type} (f : α → Bool) (xs : List α) : bltD .all (.list (xs.map fun x => .bool (f x))) = some (.bool (xs.all f)) := by
  have := all_bools (xs.map f)
  rw [List.map_map, List.all_map] at this
  exact this
theorem s_ifN {g : Cn} {c : Ev.X} {a b : Sts} {ρ ρ1 : Rho} {S S1 S2 : Store} (h : truR (evX g c ρ S) = .ok false S1) (h2 : evSs g b ρ S1 = .ok (.nx ρ1) S2) : evS g (.iff c a b) ρ S = .ok (.nx ρ1) S2 := by
  unfold evS
  rw [h]
  exact h2
theorem s_exp {g : Cn} {e : Ev.X} {ρ : Rho} {S S1 : Store} {u : U} (h : evX g e ρ S = .ok u S1) : evS g (.exp e) ρ S = .ok (.nx ρ) S1 := by
  unfold evS
  rw [h]
  rfl
theorem s_expX {g : Cn} {e : Ev.X} {ρ : Rho} {S S1 : Store} {k : Nat} (h : evX g e ρ S = .exc k S1) : evS g (.exp e) ρ S = .exc k S1 := by
  unfold evS
  rw [h]
  rfl
theorem fin_x {b : Bool} {n : Nat} {k : Nat} {S : Store} : Ev.finish b n (.exc k S) = .exc k (S.take n) := rfl
theorem ev_call1X {g : Cn} {f : Nat} {a : Ev.X} {ρ : Rho} {S S1 : Store} {k : Nat} (h : evX g a ρ S = .exc k S1) : evX g (.call f (.cons a .nil)) ρ S = .exc k S1 := by
  unfold evX evXs
  rw [h]
  rfl
/-- what an error's test tells -/
theorem ev_errO {g : Cn} {e : Ev.X} {ρ : Rho} {S S1 : Store} {lf : CF} {u : U} (hl : g.low = some lf) (h : evX ⟨lf, none, g.nm⟩ e ρ S = .ok u S1) : evX g (.err e) ρ S = .ok (.d (.str ⟨#[]⟩)) S1 := by
  unfold evX
  rw [hl]
  dsimp only
  rw [h]
theorem ev_errX {g : Cn} {e : Ev.X} {ρ : Rho} {S S1 : Store} {lf : CF} {k : Nat} {z : Str} (hl : g.low = some lf) (h : evX ⟨lf, none, g.nm⟩ e ρ S = .exc k S1) (hz : g.nm k = some z) : evX g (.err e) ρ S = .ok (.d (.str z)) S1 := by
  unfold evX
  rw [hl]
  dsimp only
  rw [h]
  dsimp only
  rw [hz]
  rfl
end Ev
namespace Ev
open PySem
theorem takeW_len {p : Nat → Bool} : ∀ {l : List Nat} {a : Nat}, a ∈ l → p a = false → (l.takeWhile p).length < l.length
  | b :: l, a, h, ha => by
    by_cases hb : p b = true
    · rw [List.takeWhile_cons_of_pos hb]
      rcases List.mem_cons.mp h with e | h
      · rw [e, hb] at ha; cases ha
      · exact Nat.succ_lt_succ (takeW_len h ha)
    · rw [List.takeWhile_cons_of_neg hb]
      exact Nat.succ_pos _
theorem takeW_drop {p : Nat → Bool} : ∀ {l : List Nat} {a : Nat}, a ∈ l → p a = false → a ∈ l.drop (l.takeWhile p).length
  | b :: l, a, h, ha => by
    by_cases hb : p b = true
    · rw [List.takeWhile_cons_of_pos hb]
      rcases List.mem_cons.mp h with e | h
      · rw [e, hb] at ha; cases ha
      · exact takeW_drop h ha
    · rw [List.takeWhile_cons_of_neg hb]
      exact h
/-- a text that keeps a sign -/
theorem strip_some {x : List Nat} {y : Str} {a : Nat} (h : a ∈ x) (ha : y.cps.contains a = false) : Txt.stripChars (mkS x) y ≠ mkS [] := by
  have h0 : stripLo y.cps.contains true (mkS x) = (x.takeWhile fun c => y.cps.contains c).length := rfl
  have hd := takeW_drop (p := fun c => y.cps.contains c) h ha
  have h1 : ∀ lo, stripHi y.cps.contains true (mkS x) lo = x.length - ((x.drop lo).reverse.takeWhile fun c => y.cps.contains c).length := fun lo => by
    show (mkS x).length - (((sg (mkS x)).drop lo).reverse.takeWhile _).length = _
    rw [sg_mk, len_mk]
  unfold Txt.stripChars Txt.stripBy
  split
  · intro e
    have := mk_inj e
    rw [this] at h
    cases h
  · unfold stripped
    rw [h0, h1, sub_sg, sg_mk]
    generalize hl : (x.takeWhile fun c => y.cps.contains c).length = lo at *
    intro e
    have e := mk_inj e
    have k := takeW_len (p := fun c => y.cps.contains c) (List.mem_reverse.mpr hd) ha
    rw [List.length_reverse, List.length_drop] at k
    have hz := congrArg List.length e
    rw [List.length_take, List.length_drop] at hz
    have : lo < x.length := by
      rcases Nat.lt_or_ge lo x.length with z | z
      · exact z
      · rw [List.drop_eq_nil_of_le z] at hd; cases hd
    simp only [List.length_nil] at hz
    omega
end Ev
end

section
set_option Elab.async false
set_option linter.all false
set_option autoImplicit false
set_option maxRecDepth 100000
set_option maxHeartbeats 1000000
/-! # The plain kit: loops that carry a state; places, ties, drawings -/
namespace Ev
open PySem
theorem loop_pre {α : Type} {t : Tg} {body : Rho → Store → Ev.R F} (enc : α → U) (I : List α → Rho → Store → Prop) (xs : List α) {ρ : Rho} {S : Store} (h0 : I [] ρ S)
    (step : ∀ (pre : List α) (x : α) (post : List α), xs = pre ++ x :: post → ∀ ρ S, I pre ρ S → ∃ ρ1 ρ2 S2, bindT t (enc x) ρ = some ρ1 ∧ body ρ1 S = .ok (.nx ρ2) S2 ∧ I (pre ++ [x]) ρ2 S2) :
    ∃ ρ' S', loopL t body (xs.map enc) ρ S = .ok (.nx ρ') S' ∧ I xs ρ' S' := by
  obtain ⟨ρ', S', h1, h2⟩ := loop_inv (t := t) (body := body) (fun i ρ S => I (xs.take i) ρ S) (xs.map enc) 0 ρ S (by rw [List.take_zero]; exact h0) (fun i u ρ S hu hI => by
    rw [List.getElem?_map] at hu
    obtain ⟨x, hx, rfl⟩ := map_some hu
    rw [Nat.zero_add] at hI ⊢
    have hi := (List.getElem?_eq_some_iff.mp hx).1
    have e1 : xs = xs.take i ++ x :: xs.drop (i + 1) := by
      conv => lhs; rw [← List.take_append_drop i xs]
      rw [List.drop_eq_getElem_cons hi, (List.getElem?_eq_some_iff.mp hx).2]
    obtain ⟨ρ1, ρ2, S2, h1, h2, h3⟩ := step _ x _ e1 ρ S hI
    refine ⟨ρ1, ρ2, S2, h1, h2, ?_⟩
    rw [List.take_add_one, hx]
    exact h3)
  rw [List.length_map, Nat.zero_add, List.take_length] at h2
  exact ⟨ρ', S', h1, h2⟩
/-- a loop that carries a state -/
theorem loop_fold {α σ : Type} {t : Tg} {body : Rho → Store → Ev.R F} {S : Store} (enc : α → U) (en : σ → Rho) (f : σ → α → σ) : ∀ (xs : List α) (s : σ),
    (∀ pre x post, xs = pre ++ x :: post → ∃ ρ1, bindT t (enc x) (en (pre.foldl f s)) = some ρ1 ∧ body ρ1 S = .ok (.nx (en (f (pre.foldl f s) x))) S) →
    loopL t body (xs.map enc) (en s) S = .ok (.nx (en (xs.foldl f s))) S
  | [], s, _ => rfl
  | x :: xs, s, h => by
    obtain ⟨ρ1, h1, h2⟩ := h [] x xs rfl
    have h1 : bindT t (enc x) (en s) = some ρ1 := h1
    have h2 : body ρ1 S = .ok (.nx (en (f s x))) S := h2
    have ih := loop_fold enc en f xs (f s x) fun pre y post e => h (x :: pre) y post (by rw [e]; rfl)
    rw [List.map_cons]
    unfold loopL
    rw [h1]
    dsimp only
    rw [h2, b_ok]
    exact ih
/-- a comprehension that maps and sifts -/
theorem lc_map {α : Type} {g : Cn} {own : List Nat} {t : Tg} {it : It} {c : Xs} {e : Ev.X} {ρ : Rho} {S : Store} (enc : α → U) (p : α → Bool) (f : α → PyData) {xs : List α} (hit : evIt g it ρ S = .ok (.fix (xs.map enc)) S) (hl : xs.length ≤ line)
    (h : ∀ x, x ∈ xs → ∃ ρ1, bindT t (enc x) (wipe ρ own) = some ρ1 ∧ evC g c ρ1 S = .ok (p x) S ∧ (p x = true → evX g e ρ1 S = .ok (.d (f x)) S)) : evX g (.lc own t it c e) ρ S = .ok (.d (.list ((xs.filter p).map f))) S :=
  ev_lc hit (by rw [List.length_map]; exact hl) (comp_map (c := fun ρ S => evC g c ρ S) (e := fun ρ S => dataR (evX g e ρ S)) enc p f xs fun x hx => by
    obtain ⟨ρ1, h1, h2, h3⟩ := h x hx
    exact ⟨ρ1, h1, h2, fun z => by show dataR _ = _; rw [h3 z]; rfl⟩)
/-- .. that maps all -/
theorem lc_all {α : Type} {g : Cn} {own : List Nat} {t : Tg} {it : It} {e : Ev.X} {ρ : Rho} {S : Store} (enc : α → U) (f : α → PyData) {xs : List α} (hit : evIt g it ρ S = .ok (.fix (xs.map enc)) S) (hl : xs.length ≤ line)
    (h : ∀ x, x ∈ xs → ∃ ρ1, bindT t (enc x) (wipe ρ own) = some ρ1 ∧ evX g e ρ1 S = .ok (.d (f x)) S) : evX g (.lc own t it .nil e) ρ S = .ok (.d (.list (xs.map f))) S := by
  have := lc_map (g := g) (own := own) (t := t) (it := it) (c := .nil) (e := e) enc (fun _ => true) f hit hl fun x hx => by
    obtain ⟨ρ1, h1, h2⟩ := h x hx
    exact ⟨ρ1, h1, rfl, fun _ => h2⟩
  rw [filt_all] at this
  exact this
theorem flat_len {α β : Type} (f : α → List β) (m : Nat) : ∀ (xs : List α), (∀ x, x ∈ xs → (f x).length ≤ m) → (xs.flatMap f).length ≤ m * xs.length
  | [], _ => Nat.zero_le _
  | x :: xs, h => by
    rw [List.flatMap_cons, List.length_append, List.length_cons, Nat.mul_succ]
    have := flat_len f m xs fun y hy => h y (List.mem_cons_of_mem _ hy)
    have := h x List.mem_cons_self
    omega
theorem one_line : 1 ≤ line := by decide
theorem two_line : 2 ≤ line := by decide
theorem rng_nat (n : Nat) : rngItems 0 n = (List.range n).map fun i : Nat => U.d (.int ((i : Nat) : Int)) := by
  unfold rngItems
  refine List.map_congr_left fun i _ => ?_
  rw [Int.zero_add]
/-! ### places, ties -/
abbrev nI (n : Nat) : PyData := .int ((n : Nat) : Int)
abbrev Pl := Nat × Nat
abbrev Ti := Pl × Pl
abbrev plD (p : Pl) : PyData := .tuple [nI p.1, nI p.2]
abbrev tiD (t : Ti) : PyData := .tuple [plD t.1, plD t.2]
/-- the places, the ties of a strip -/
def pl (R C : Nat) : List Pl := (List.range C).flatMap fun k => (List.range R).map fun j => (k, j)
def tiP (R C : Nat) (p : Pl) : List Ti := (if p.2 + 1 < R then [(p, (p.1, p.2 + 1))] else []) ++ (if p.1 + 1 < C then [(p, (p.1 + 1, p.2))] else [])
def ti (R C : Nat) : List Ti := (pl R C).flatMap (tiP R C)
theorem pl_len (R C : Nat) : (pl R C).length = C * R := by
  unfold pl
  rw [List.length_flatMap]
  have : (List.range C).map (fun k => ((List.range R).map fun j => (k, j)).length) = List.replicate C R := by
    rw [List.eq_replicate_iff]
    exact ⟨by simp, fun b hb => by obtain ⟨a, _, rfl⟩ := List.mem_map.mp hb; simp⟩
  rw [this]
  induction C with
  | zero => simp
  | succ C ih => simp [List.replicate_succ, Nat.succ_mul, Nat.add_comm] at *
theorem mem_pl {R C : Nat} {p : Pl} : p ∈ pl R C ↔ p.1 < C ∧ p.2 < R := by
  unfold pl
  rw [List.mem_flatMap]
  constructor
  · rintro ⟨k, hk, h⟩
    obtain ⟨j, hj, rfl⟩ := List.mem_map.mp h
    exact ⟨List.mem_range.mp hk, List.mem_range.mp hj⟩
  · rintro ⟨h1, h2⟩
    exact ⟨p.1, List.mem_range.mpr h1, List.mem_map.mpr ⟨p.2, List.mem_range.mpr h2, rfl⟩⟩
def IsTi (R C : Nat) (t : Ti) : Prop := (t.1.1 < C ∧ t.1.2 < R) ∧ ((t.2 = (t.1.1, t.1.2 + 1) ∧ t.1.2 + 1 < R) ∨ (t.2 = (t.1.1 + 1, t.1.2) ∧ t.1.1 + 1 < C))
theorem mem_tiP {R C : Nat} {p : Pl} {t : Ti} : t ∈ tiP R C p ↔ t.1 = p ∧ ((t.2 = (t.1.1, t.1.2 + 1) ∧ t.1.2 + 1 < R) ∨ (t.2 = (t.1.1 + 1, t.1.2) ∧ t.1.1 + 1 < C)) := by
  obtain ⟨p1, p2⟩ := t
  unfold tiP
  rw [List.mem_append]
  constructor
  · rintro (h | h)
    · split at h
      · have e := List.mem_singleton.mp h
        cases e
        exact ⟨rfl, .inl ⟨rfl, by assumption⟩⟩
      · cases h
    · split at h
      · have e := List.mem_singleton.mp h
        cases e
        exact ⟨rfl, .inr ⟨rfl, by assumption⟩⟩
      · cases h
  · rintro ⟨h, h1 | h1⟩
    · dsimp only at h h1
      obtain ⟨e, h2⟩ := h1
      subst h e
      exact .inl (by rw [if_pos h2]; exact List.mem_singleton.mpr rfl)
    · dsimp only at h h1
      obtain ⟨e, h2⟩ := h1
      subst h e
      exact .inr (by rw [if_pos h2]; exact List.mem_singleton.mpr rfl)
theorem mem_ti {R C : Nat} {t : Ti} : t ∈ ti R C ↔ IsTi R C t := by
  unfold ti IsTi
  rw [List.mem_flatMap]
  constructor
  · rintro ⟨p, hp, h⟩
    obtain ⟨e, h'⟩ := mem_tiP.mp h
    rw [← e] at hp
    exact ⟨mem_pl.mp hp, h'⟩
  · rintro ⟨h1, h2⟩
    exact ⟨t.1, mem_pl.mpr h1, mem_tiP.mpr ⟨rfl, h2⟩⟩
theorem tiP_len (R C : Nat) (p : Pl) : (tiP R C p).length ≤ 2 := by
  unfold tiP
  split <;> split <;> simp
theorem ti_len (R C : Nat) : (ti R C).length ≤ 2 * (C * R) := by
  have := flat_len (tiP R C) 2 (pl R C) fun x _ => tiP_len R C x
  rw [pl_len] at this
  exact this
/-! ### their order -/
def kP (p : Pl) : Nat := p.1 * 1000 + p.2
def kT (t : Ti) : Nat := kP t.1 * 1000000 + kP t.2
theorem kP_inj {p q : Pl} (h1 : p.2 < 1000) (h2 : q.2 < 1000) (h : kP p = kP q) : p = q := by
  unfold kP at h
  exact Prod.ext (by omega) (by omega)
theorem kT_inj {a b : Ti} (h1 : a.1.2 < 1000) (h2 : b.1.2 < 1000) (h3 : a.2.1 < 1000 ∧ a.2.2 < 1000) (h4 : b.2.1 < 1000 ∧ b.2.2 < 1000) (h : kT a = kT b) : a = b := by
  have e1 : kP a.2 < 1000000 := by unfold kP; omega
  have e2 : kP b.2 < 1000000 := by unfold kP; omega
  unfold kT at h
  exact Prod.ext (kP_inj h1 h2 (by omega)) (kP_inj h3.2 h4.2 (by omega))
theorem pl_sorted {R C : Nat} (hR : R ≤ 1000) : (pl R C).Pairwise fun a b => kP a < kP b := by
  unfold pl
  rw [List.pairwise_flatMap]
  refine ⟨fun k _ => ?_, List.pairwise_lt_range.imp fun {a b} h x hx y hy => ?_⟩
  · rw [List.pairwise_map]
    exact List.pairwise_lt_range.imp fun {a b} h => by unfold kP; dsimp only; omega
  · obtain ⟨i, hi, rfl⟩ := List.mem_map.mp hx
    obtain ⟨j, hj, rfl⟩ := List.mem_map.mp hy
    have := List.mem_range.mp hi
    unfold kP
    dsimp only
    omega
theorem ti_sorted {R C : Nat} (hR : R ≤ 900) (hC : C ≤ 900) : (ti R C).Pairwise fun a b => kT a < kT b := by
  unfold ti
  rw [List.pairwise_flatMap]
  refine ⟨fun p hp => ?_, (List.Pairwise.imp_of_mem ?_ (pl_sorted (R := R) (C := C) (by omega)))⟩
  · have hp := mem_pl.mp hp
    unfold tiP
    rw [List.pairwise_append]
    refine ⟨by split <;> simp, by split <;> simp, fun a ha b hb => ?_⟩
    split at ha
    · split at hb
      · rw [List.mem_singleton.mp ha, List.mem_singleton.mp hb]
        unfold kT kP
        dsimp only
        omega
      · cases hb
    · cases ha
  · intro a b ha hb h x hx y hy
    have ha := mem_pl.mp ha
    have hb := mem_pl.mp hb
    obtain ⟨e1, h1⟩ := mem_tiP.mp hx
    obtain ⟨e2, h2⟩ := mem_tiP.mp hy
    have z : ∀ t : Ti, t.1.1 < C → t.1.2 < R → ((t.2 = (t.1.1, t.1.2 + 1) ∧ t.1.2 + 1 < R) ∨ (t.2 = (t.1.1 + 1, t.1.2) ∧ t.1.1 + 1 < C)) → kP t.2 < 1000000 := by
      intro t u v q
      rcases q with ⟨e, q⟩ | ⟨e, q⟩ <;> rw [e] <;> unfold kP <;> dsimp only <;> omega
    have z1 := z x (by rw [e1]; exact ha.1) (by rw [e1]; exact ha.2) h1
    unfold kT
    rw [e1, e2]
    omega
theorem IsTi.lt {R C : Nat} {t : Ti} (h : IsTi R C t) : (t.1.1 < C ∧ t.1.2 < R) ∧ t.2.1 < C ∧ t.2.2 < R := by
  obtain ⟨h1, h2 | h2⟩ := h
  · refine ⟨h1, ?_⟩
    rw [h2.1]
    exact ⟨h1.1, h2.2⟩
  · refine ⟨h1, ?_⟩
    rw [h2.1]
    exact ⟨h2.2, h1.2⟩
theorem nodup_of_lt {α : Type} {l : List α} {k : α → Nat} (h : l.Pairwise fun a b => k a < k b) : l.Nodup := h.imp fun {a b} z e => by rw [e] at z; exact Nat.lt_irrefl _ z
/-! ### sorted by the program -/
open PyProof.Rows in
theorem lex_int (x y : Int) (l m : List (Int ⊕ List Nat)) : PyProof.Rows.lexLt itemOrd (.inl x :: l) (.inl y :: m) = (decide (x < y) || (decide (x = y) && PyProof.Rows.lexLt itemOrd l m)) := by
  rw [lex_cons]
  show (decide (x < y) || (!decide (y < x) && _)) = _
  by_cases h1 : x < y
  · rw [decide_eq_true h1, Bool.true_or, Bool.true_or]
  · by_cases h2 : x = y
    · subst h2
      simp
    · rw [decide_eq_false h1, decide_eq_false h2, decide_eq_true (show y < x by omega)]
      rfl
/-- one token alike, another -/
theorem lex_one {l m : List (Int ⊕ List Nat)} (x : Int) : PyProof.Rows.lexLt PyProof.Rows.itemOrd (.inl x :: l) (.inl x :: m) = PyProof.Rows.lexLt PyProof.Rows.itemOrd l m := PyProof.Rows.lex_self (O := PyProof.Rows.itemOrd) _ _ _
theorem lex_two {l m l' m' : List (Int ⊕ List Nat)} (x y : Int) (h : l = .inl 1 :: l') (h' : m = .inl 1 :: m') : PyProof.Rows.lexLt PyProof.Rows.itemOrd (.inl x :: l) (.inl y :: m) = (decide (x < y) || (decide (x = y) && PyProof.Rows.lexLt PyProof.Rows.itemOrd l' m')) := by
  subst h h'
  exact (lex_int x y _ _).trans (by rw [lex_one])
theorem lex_end {l : List (Int ⊕ List Nat)} (x y : Int) : PyProof.Rows.lexLt PyProof.Rows.itemOrd (.inl x :: l) (.inl y :: l) = decide (x < y) :=
  (lex_int x y _ _).trans (by rw [show PyProof.Rows.lexLt PyProof.Rows.itemOrd l l = false from PyProof.Rows.lex_irrefl (O := PyProof.Rows.itemOrd) l]; simp)
theorem toks_plD (a : Pl) : W.keyToks (plD a) = [.inl 1, .inl (a.1 : Int), .inl 1, .inl (a.2 : Int), .inl 0] := rfl
theorem toks_tiD (a : Ti) : W.keyToks (tiD a) = [.inl 1, .inl 1, .inl (a.1.1 : Int), .inl 1, .inl (a.1.2 : Int), .inl 0, .inl 1, .inl 1, .inl (a.2.1 : Int), .inl 1, .inl (a.2.2 : Int), .inl 0, .inl 0] := rfl
theorem lt_plD (a b : Pl) (h1 : a.2 < 1000) (h2 : b.2 < 1000) : W.dataLt (plD a) (plD b) = decide (kP a < kP b) := by
  have e : W.dataLt (plD a) (plD b) = (decide ((a.1 : Int) < b.1) || (decide ((a.1 : Int) = b.1) && decide ((a.2 : Int) < b.2))) := by
    unfold W.dataLt
    rw [toks_plD, toks_plD]
    refine (lex_one 1).trans ?_
    refine (lex_two _ _ rfl rfl).trans ?_
    rw [lex_end]
  rw [e, Bool.eq_iff_iff]
  simp only [Bool.or_eq_true, Bool.and_eq_true, decide_eq_true_eq]
  unfold kP
  omega
theorem lt_tiD (a b : Ti) (h1 : a.1.2 < 1000) (h2 : b.1.2 < 1000) (h3 : a.2.1 < 1000 ∧ a.2.2 < 1000) (h4 : b.2.1 < 1000 ∧ b.2.2 < 1000) : W.dataLt (tiD a) (tiD b) = decide (kT a < kT b) := by
  have e : W.dataLt (tiD a) (tiD b) = (decide ((a.1.1 : Int) < b.1.1) || (decide ((a.1.1 : Int) = b.1.1) && (decide ((a.1.2 : Int) < b.1.2) || (decide ((a.1.2 : Int) = b.1.2) && (decide ((a.2.1 : Int) < b.2.1) || (decide ((a.2.1 : Int) = b.2.1) && decide ((a.2.2 : Int) < b.2.2))))))) := by
    unfold W.dataLt
    rw [toks_tiD, toks_tiD]
    refine (lex_one 1).trans ((lex_one 1).trans ?_)
    refine (lex_two _ _ rfl rfl).trans ?_
    refine congrArg _ (congrArg _ ?_)
    refine (lex_int _ _ _ _).trans ?_
    refine congrArg _ (congrArg _ ?_)
    refine (lex_one 0).trans ((lex_one 1).trans ((lex_one 1).trans ?_))
    refine (lex_two _ _ rfl rfl).trans ?_
    rw [lex_end]
  rw [e, Bool.eq_iff_iff]
  simp only [Bool.or_eq_true, Bool.and_eq_true, decide_eq_true_eq]
  unfold kT kP
  omega
theorem le_tiD (a b : Ti) (h1 : a.1.2 < 1000) (h2 : b.1.2 < 1000) (h3 : a.2.1 < 1000 ∧ a.2.2 < 1000) (h4 : b.2.1 < 1000 ∧ b.2.2 < 1000) : W.dataLe false id (tiD a) (tiD b) = decide (kT a ≤ kT b) := by
  show (!W.dataLt (tiD b) (tiD a)) = _
  rw [lt_tiD b a h2 h1 h4 h3, Bool.eq_iff_iff]
  simp only [Bool.not_eq_true', decide_eq_false_iff_not, decide_eq_true_eq]
  omega
/-- ties in any order are sorted to those that ascend -/
theorem sort_tis {xs ys : List Ti} (hp : xs.Perm ys) (hs : ys.Pairwise fun a b => kT a < kT b) (hb : ∀ x, x ∈ xs → x.1.2 < 1000 ∧ x.2.1 < 1000 ∧ x.2.2 < 1000) : sortD (xs.map tiD) = ys.map tiD := by
  have e : (xs.mergeSort (fun a b => decide (kT a ≤ kT b))).map tiD = (xs.map tiD).mergeSort (W.dataLe false id) := List.map_mergeSort fun a ha b hb' => (le_tiD a b (hb a ha).1 (hb b hb').1 (hb a ha).2 (hb b hb').2).symm
  unfold sortD
  rw [← e]
  congr 1
  refine List.Perm.eq_of_pairwise (le := fun a b => kT a ≤ kT b) (fun a b ha hb' h1 h2 => ?_) ?_ (hs.imp fun h => Nat.le_of_lt h) ((List.mergeSort_perm _ _).trans hp)
  · have ha := hb a (List.mem_mergeSort.mp ha)
    have hb' := hb b (hp.mem_iff.mpr hb')
    exact kT_inj ha.1 hb'.1 ha.2 hb'.2 (Nat.le_antisymm h1 h2)
  · have := List.pairwise_mergeSort (le := fun a b => decide (kT a ≤ kT b)) (fun a b c h1 h2 => by simp only [decide_eq_true_eq] at h1 h2 ⊢; omega) (fun a b => by simp only [Bool.or_eq_true, decide_eq_true_eq]; omega) xs
    exact this.imp fun h => by simpa using h
theorem lay_plD (p : Pl) : (plD p).canLay0 = true ∧ (plD p).depth ≤ 1 := ⟨rfl, Nat.le_refl 1⟩
theorem lay_tiD (t : Ti) : (tiD t).canLay0 = true ∧ (tiD t).depth ≤ 2 := ⟨rfl, Nat.le_refl 2⟩
theorem shaped_pls (ps : List Pl) : SeqAt.shaped (.list (ps.map plD)) = true ∧ SeqAt.shaped (.tuple (ps.map plD)) = true := by
  have := lay_seq (xs := ps.map plD) (d := 1) fun x hx => by obtain ⟨p, _, rfl⟩ := List.mem_map.mp hx; exact lay_plD p
  exact ⟨shaped_of this.1 (by decide), shaped_of this.2 (by decide)⟩
theorem shaped_tis (ts : List Ti) : SeqAt.shaped (.list (ts.map tiD)) = true ∧ SeqAt.shaped (.tuple (ts.map tiD)) = true := by
  have := lay_seq (xs := ts.map tiD) (d := 2) fun x hx => by obtain ⟨p, _, rfl⟩ := List.mem_map.mp hx; exact lay_tiD p
  exact ⟨shaped_of this.1 (by decide), shaped_of this.2 (by decide)⟩
theorem sort_okT {ts : List Ti} (hl : ts.length ≤ 100000) : sortOk (ts.map tiD) = true := by
  unfold sortOk
  simp only [Bool.and_eq_true, Bool.or_eq_true, decide_eq_true_eq, List.all_eq_true]
  refine ⟨⟨⟨by rw [List.length_map]; show _ ≤ 16777216; omega, fun x hx y hy => ?_⟩, fun x hx => ?_⟩, .inl fun x hx => ?_⟩
  · obtain ⟨p, _, rfl⟩ := List.mem_map.mp hx
    obtain ⟨q, _, rfl⟩ := List.mem_map.mp hy
    rfl
  · obtain ⟨p, _, rfl⟩ := List.mem_map.mp hx
    exact shaped_of (lay_tiD p) (by decide)
  · obtain ⟨p, _, rfl⟩ := List.mem_map.mp hx
    rfl
/-- sorted(ties) -/
theorem sorted_tis {xs ys : List Ti} (hl : xs.length ≤ 100000) (hp : xs.Perm ys) (hs : ys.Pairwise fun a b => kT a < kT b) (hb : ∀ x, x ∈ xs → x.1.2 < 1000 ∧ x.2.1 < 1000 ∧ x.2.2 < 1000) : bltD .sorted (.list (xs.map tiD)) = some (.list (ys.map tiD)) := by
  show (if sortOk (xs.map tiD) = true then some (PyData.list (sortD (xs.map tiD))) else none) = _
  rw [if_pos (sort_okT hl), sort_tis hp hs hb]
/-! ### equality -/
theorem eqv_nI (a b : Nat) : PyData.eqv (nI a) (nI b) = decide (a = b) := by
  have : PyData.eqv (.int (a : Int)) (.int (b : Int)) = ((a : Int) == (b : Int)) := rfl
  rw [this, Bool.eq_iff_iff]
  simp only [beq_iff_eq, decide_eq_true_eq]
  omega
theorem eqv_plD (a b : Pl) : PyData.eqv (plD a) (plD b) = decide (a = b) := by
  have : PyData.eqv (plD a) (plD b) = (PyData.eqv (nI a.1) (nI b.1) && (PyData.eqv (nI a.2) (nI b.2) && true)) := rfl
  rw [this, eqv_nI, eqv_nI, Bool.eq_iff_iff]
  simp [Prod.ext_iff]
theorem eqv_tiD (a b : Ti) : PyData.eqv (tiD a) (tiD b) = decide (a = b) := by
  have : PyData.eqv (tiD a) (tiD b) = (PyData.eqv (plD a.1) (plD b.1) && (PyData.eqv (plD a.2) (plD b.2) && true)) := rfl
  rw [this, eqv_plD, eqv_plD, Bool.eq_iff_iff]
  simp [Prod.ext_iff]
theorem any_map {α : Type} (enc : α → PyData) (p : PyData → Bool) (q : α → Bool) (h : ∀ a, p (enc a) = q a) (xs : List α) : (xs.map enc).any p = xs.any q := by
  rw [List.any_map]
  congr 1
  funext a
  exact h a
theorem any_mem {α : Type} [DecidableEq α] (x : α) (xs : List α) : (xs.any fun y => decide (y = x)) = decide (x ∈ xs) := by
  rw [Bool.eq_iff_iff]
  simp
theorem in_plD (p : Pl) (ps : List Pl) : inD (plD p) (.list (ps.map plD)) = some (decide (p ∈ ps)) := by
  rw [in_list (shaped_of (lay_plD p) (by decide)) (shaped_pls ps).1, any_map plD _ _ (fun a => eqv_plD a p), any_mem]
  exact congrArg some (decide_eq_decide.mpr Iff.rfl)
theorem in_plT (p : Pl) (ps : List Pl) : inD (plD p) (.tuple (ps.map plD)) = some (decide (p ∈ ps)) := by
  rw [in_tup (shaped_of (lay_plD p) (by decide)) (shaped_pls ps).2, any_map plD _ _ (fun a => eqv_plD a p), any_mem]
  exact congrArg some (decide_eq_decide.mpr Iff.rfl)
theorem in_tiD (t : Ti) (ts : List Ti) : inD (tiD t) (.list (ts.map tiD)) = some (decide (t ∈ ts)) := by
  rw [in_list (shaped_of (lay_tiD t) (by decide)) (shaped_tis ts).1, any_map tiD _ _ (fun a => eqv_tiD a t), any_mem]
  exact congrArg some (decide_eq_decide.mpr Iff.rfl)
/-! ### drawings -/
def bitC (b : Bool) : Nat := if b = true then 49 else 48
def tieAt (R k n : Nat) : Ti := if n < R - 1 then ((k, n), (k, n + 1)) else ((k, n - (R - 1)), (k + 1, n - (R - 1)))
def colT (R k : Nat) (m : Ti → Bool) : List Nat := (List.range (2 * R - 1)).map fun n => bitC (m (tieAt R k n))
def drw (R C : Nat) (m : Ti → Bool) : List (List Nat) := (List.range C).map fun k => colT R k m
def sgnAt (R : Nat) (t : Ti) : Nat × Nat := (t.1.1, if t.2.1 = t.1.1 then t.1.2 else R - 1 + t.1.2)
def hasB (D : List (List Nat)) (s : Nat × Nat) : Bool := decide ((D[s.1]?.bind fun x => x[s.2]?) = some 49)
def hasT (R : Nat) (D : List (List Nat)) (t : Ti) : Bool := hasB D (sgnAt R t)
structure IsD (R C : Nat) (D : List (List Nat)) : Prop where
  len : D.length = C
  wid : ∀ x, x ∈ D → x.length = 2 * R - 1
  sg : ∀ x, x ∈ D → ∀ a, a ∈ x → a = 48 ∨ a = 49
  last : ∀ j, R - 1 ≤ j → hasB D (C - 1, j) = false
def tis (R C : Nat) (D : List (List Nat)) : List Ti := (ti R C).filter (hasT R D)
theorem sgn_tieAt {R k n : Nat} : sgnAt R (tieAt R k n) = (k, n) := by
  unfold sgnAt tieAt
  split
  · simp
  · rw [if_neg (by dsimp only; omega)]
    dsimp only
    congr 1
    omega
theorem tieAt_sgn {R C : Nat} {t : Ti} (h : IsTi R C t) : tieAt R (sgnAt R t).1 (sgnAt R t).2 = t := by
  obtain ⟨⟨a, b⟩, q⟩ := t
  obtain ⟨h1, h2 | h2⟩ := h
  · obtain ⟨e, h3⟩ := h2
    dsimp only at e h3
    subst e
    unfold sgnAt tieAt
    dsimp only
    rw [if_pos rfl, if_pos (by omega)]
  · obtain ⟨e, h3⟩ := h2
    dsimp only at e h3
    subst e
    unfold sgnAt tieAt
    dsimp only
    rw [if_neg (show ¬ a + 1 = a by omega), if_neg (by omega), Nat.add_sub_cancel_left]
theorem isTi_tieAt {R C k n : Nat} (hR : 1 ≤ R) (hk : k < C) (hn : n < 2 * R - 1) (hl : R - 1 ≤ n → k + 1 < C) : IsTi R C (tieAt R k n) := by
  unfold tieAt
  split
  · exact ⟨⟨hk, by dsimp only; omega⟩, .inl ⟨rfl, by dsimp only; omega⟩⟩
  · exact ⟨⟨hk, by dsimp only; omega⟩, .inr ⟨rfl, hl (by omega)⟩⟩
theorem sgn_lt {R C : Nat} {t : Ti} (h : IsTi R C t) : (sgnAt R t).1 < C ∧ (sgnAt R t).2 < 2 * R - 1 := by
  unfold sgnAt
  obtain ⟨h1, h2 | h2⟩ := h
  · rw [if_pos (by rw [h2.1])]
    exact ⟨h1.1, by dsimp only; omega⟩
  · rw [if_neg (by rw [h2.1]; dsimp only; omega)]
    exact ⟨h1.1, by dsimp only; omega⟩
theorem mem_tis {R C : Nat} {D : List (List Nat)} {t : Ti} : t ∈ tis R C D ↔ IsTi R C t ∧ hasT R D t = true := by
  unfold tis
  rw [List.mem_filter, mem_ti]
theorem hasB_lt {R C : Nat} {D : List (List Nat)} (h : IsD R C D) {k n : Nat} (hb : hasB D (k, n) = true) : k < C ∧ n < 2 * R - 1 := by
  have hb := of_decide_eq_true hb
  dsimp only at hb
  cases e : D[k]? with
  | none => rw [e] at hb; cases hb
  | some x =>
    rw [e] at hb
    have hb : x[n]? = some 49 := hb
    have h1 := (List.getElem?_eq_some_iff.mp e).1
    have h2 := (List.getElem?_eq_some_iff.mp hb).1
    rw [h.wid x (List.mem_of_getElem? e)] at h2
    rw [h.len] at h1
    exact ⟨h1, h2⟩
theorem hasB_isTi {R C : Nat} {D : List (List Nat)} (hR : 1 ≤ R) (h : IsD R C D) {k n : Nat} (hb : hasB D (k, n) = true) : tieAt R k n ∈ tis R C D := by
  have hl := hasB_lt h hb
  refine mem_tis.mpr ⟨isTi_tieAt hR hl.1 hl.2 fun hn => ?_, by unfold hasT; rw [sgn_tieAt]; exact hb⟩
  by_cases hk : k + 1 < C
  · exact hk
  · have e : k = C - 1 := by omega
    rw [e, h.last n hn] at hb
    cases hb
/-- a drawing, told by its ties -/
theorem drw_tis {R C : Nat} {D : List (List Nat)} (hR : 1 ≤ R) (h : IsD R C D) : drw R C (fun t => decide (t ∈ tis R C D)) = D := by
  unfold drw
  refine List.ext_getElem? fun k => ?_
  rw [List.getElem?_map]
  by_cases hk : k < C
  · rw [List.getElem?_range hk, Option.map_some]
    have hkD : k < D.length := by rw [h.len]; exact hk
    rw [List.getElem?_eq_getElem hkD]
    congr 1
    have hw := h.wid _ (List.getElem_mem hkD)
    refine List.ext_getElem? fun n => ?_
    unfold colT
    rw [List.getElem?_map]
    by_cases hn : n < 2 * R - 1
    · rw [List.getElem?_range hn, Option.map_some]
      have hnx : n < D[k].length := by rw [hw]; exact hn
      rw [List.getElem?_eq_getElem hnx]
      congr 1
      have hs := h.sg _ (List.getElem_mem hkD) _ (List.getElem_mem hnx)
      have hb : hasB D (k, n) = decide (D[k][n] = 49) := by
        unfold hasB
        dsimp only
        rw [List.getElem?_eq_getElem hkD, Option.bind_some, List.getElem?_eq_getElem hnx]
        simp
      dsimp only
      by_cases h49 : D[k][n] = 49
      · rw [decide_eq_true (hasB_isTi hR h (by rw [hb, h49]; rfl)), h49]
        rfl
      · rw [decide_eq_false, hs.resolve_right h49]
        · rfl
        · intro z
          have := (mem_tis.mp z).2
          unfold hasT at this
          rw [sgn_tieAt, hb, decide_eq_true_eq] at this
          exact h49 this
    · rw [List.getElem?_eq_none (by rw [List.length_range]; omega), List.getElem?_eq_none (by rw [hw]; omega)]
      rfl
  · rw [List.getElem?_eq_none (by rw [List.length_range]; omega), List.getElem?_eq_none (by rw [h.len]; omega)]
    rfl
theorem drw_at {R C k n : Nat} {m : Ti → Bool} (hk : k < C) (hn : n < 2 * R - 1) : hasB (drw R C m) (k, n) = m (tieAt R k n) := by
  unfold hasB drw colT
  dsimp only
  rw [List.getElem?_map, List.getElem?_range hk, Option.map_some, Option.bind_some, List.getElem?_map, List.getElem?_range hn, Option.map_some]
  unfold bitC
  cases m (tieAt R k n) <;> rfl
theorem drw_isD {R C : Nat} {m : Ti → Bool} (hC : 1 ≤ C) (hm : ∀ t, m t = true → IsTi R C t) : IsD R C (drw R C m) where
  len := by unfold drw; simp
  wid := fun x hx => by
    unfold drw at hx
    obtain ⟨k, _, rfl⟩ := List.mem_map.mp hx
    unfold colT
    simp
  sg := fun x hx a ha => by
    unfold drw at hx
    obtain ⟨k, _, rfl⟩ := List.mem_map.mp hx
    unfold colT at ha
    obtain ⟨n, _, rfl⟩ := List.mem_map.mp ha
    unfold bitC
    split
    · exact .inr rfl
    · exact .inl rfl
  last := fun j hj => by
    by_cases hn : j < 2 * R - 1
    · rw [drw_at (by omega) hn]
      cases hb : m (tieAt R (C - 1) j) with
      | false => rfl
      | true =>
        have := hm _ hb
        unfold tieAt at this
        rw [if_neg (by omega)] at this
        obtain ⟨_, h2 | h2⟩ := this
        · have := congrArg Prod.fst h2.1
          dsimp only at this
          omega
        · have := h2.2
          dsimp only at this
          omega
    · unfold hasB drw
      dsimp only
      rw [List.getElem?_map, List.getElem?_range (by omega), Option.map_some, Option.bind_some, List.getElem?_eq_none (by unfold colT; simp; omega)]
      rfl
/-- the ties, column by column -/
def found (R C : Nat) (D : List (List Nat)) : List Ti := (List.range C).flatMap fun k => ((List.range (2 * R - 1)).filter fun n => hasB D (k, n)).map (tieAt R k)
theorem found_nodup (R C : Nat) (D : List (List Nat)) : (found R C D).Nodup := by
  unfold found
  refine List.pairwise_flatMap.mpr ⟨fun k _ => ?_, List.pairwise_lt_range.imp fun {a b} h x hx y hy => ?_⟩
  · rw [List.pairwise_map]
    refine (List.Pairwise.filter _ (List.pairwise_lt_range (n := 2 * R - 1))).imp fun {a b} h e => ?_
    have := congrArg (sgnAt R) e
    rw [sgn_tieAt, sgn_tieAt] at this
    have := congrArg Prod.snd this
    dsimp only at this
    omega
  · obtain ⟨i, _, rfl⟩ := List.mem_map.mp hx
    obtain ⟨j, _, rfl⟩ := List.mem_map.mp hy
    intro e
    have := congrArg (sgnAt R) e
    rw [sgn_tieAt, sgn_tieAt] at this
    have := congrArg Prod.fst this
    dsimp only at this
    omega
theorem found_perm {R C : Nat} {D : List (List Nat)} (hR : 1 ≤ R) (hR2 : R ≤ 900) (hC : C ≤ 900) (h : IsD R C D) : (found R C D).Perm (tis R C D) := by
  refine (List.perm_ext_iff_of_nodup (found_nodup R C D) ((nodup_of_lt (ti_sorted hR2 hC)).sublist List.filter_sublist)).mpr fun t => ?_
  unfold found
  rw [List.mem_flatMap]
  constructor
  · rintro ⟨k, _, ht⟩
    obtain ⟨n, hn, rfl⟩ := List.mem_map.mp ht
    exact hasB_isTi hR h (List.mem_filter.mp hn).2
  · intro ht
    obtain ⟨h1, h2⟩ := mem_tis.mp ht
    have hl := sgn_lt h1
    exact ⟨(sgnAt R t).1, List.mem_range.mpr hl.1, List.mem_map.mpr ⟨(sgnAt R t).2, List.mem_filter.mpr ⟨List.mem_range.mpr hl.2, h2⟩, tieAt_sgn h1⟩⟩
theorem tis_sorted {R C : Nat} {D : List (List Nat)} (hR : R ≤ 900) (hC : C ≤ 900) : (tis R C D).Pairwise fun a b => kT a < kT b := (ti_sorted hR hC).filter _
end Ev
end

section
set_option Elab.async false
set_option linter.all false
set_option autoImplicit false
set_option maxRecDepth 100000
set_option maxHeartbeats 1000000
/-! # The plain kit: statement by statement, what follows last -/
namespace Ev
open PySem
section
variable {g : Cn} {ρ ρ1 : Rho} {S S1 S2 : Store} {Z : Ev.R F} {r : Sts}
theorem k_set {i : Nat} {e : Ev.X} {u : U} (h : evX g e ρ S = .ok u S1) (k : evSs g r (ρ.set i (some u)) S1 = Z) : evSs g (.cons (.set i e) r) ρ S = Z := by
  rw [ss_cons (s_set h)]
  exact k
theorem k_exp {e : Ev.X} {u : U} (h : evX g e ρ S = .ok u S1) (k : evSs g r ρ S1 = Z) : evSs g (.cons (.exp e) r) ρ S = Z := by
  rw [ss_cons (s_exp h)]
  exact k
theorem k_expX {e : Ev.X} {i : Nat} (h : evX g e ρ S = .exc i S1) : evSs g (.cons (.exp e) r) ρ S = .exc i S1 := ss_exc (s_expX h)
theorem k_sett {t : Tg} {e : Ev.X} {u : U} (h : evX g e ρ S = .ok u S1) (hb : bindT t u ρ = some ρ1) (k : evSs g r ρ1 S1 = Z) : evSs g (.cons (.sett t e) r) ρ S = Z := by
  rw [ss_cons (ρ1 := ρ1) (S1 := S1)]
  · exact k
  · unfold evS
    rw [h, b_ok, hb]
    rfl
theorem k_ret {e : Ev.X} {u : U} (h : evX g e ρ S = .ok u S1) : evSs g (.cons (.ret e) r) ρ S = .ok (.rt u) S1 := ss_ret (s_ret h)
theorem k_retX {e : Ev.X} {i : Nat} (h : evX g e ρ S = .exc i S1) : evSs g (.cons (.ret e) r) ρ S = .exc i S1 := by
  refine ss_exc ?_
  unfold evS
  rw [h]
  rfl
/-- a test whose answer is known -/
theorem k_ifT {c : Ev.X} {a b : Sts} (h : truR (evX g c ρ S) = .ok true S1) (ha : evSs g a ρ S1 = .ok (.nx ρ1) S2) (k : evSs g r ρ1 S2 = Z) : evSs g (.cons (.iff c a b) r) ρ S = Z := by
  rw [ss_cons (s_ifT h ha)]
  exact k
theorem k_ifN {c : Ev.X} {a b : Sts} (h : truR (evX g c ρ S) = .ok false S1) (ha : evSs g b ρ S1 = .ok (.nx ρ1) S2) (k : evSs g r ρ1 S2 = Z) : evSs g (.cons (.iff c a b) r) ρ S = Z := by
  rw [ss_cons (s_ifN h ha)]
  exact k
theorem k_ifF {c : Ev.X} {a : Sts} (h : truR (evX g c ρ S) = .ok false S1) (k : evSs g r ρ S1 = Z) : evSs g (.cons (.iff c a .nil) r) ρ S = Z := by
  rw [ss_cons (s_ifF h)]
  exact k
theorem k_ifR {c : Ev.X} {a b : Sts} {u : U} (h : truR (evX g c ρ S) = .ok true S1) (ha : evSs g a ρ S1 = .ok (.rt u) S2) : evSs g (.cons (.iff c a b) r) ρ S = .ok (.rt u) S2 := ss_ret (s_ifR h ha)
theorem k_ifX {c : Ev.X} {a b : Sts} {i : Nat} (h : truR (evX g c ρ S) = .ok true S1) (ha : evSs g a ρ S1 = .exc i S2) : evSs g (.cons (.iff c a b) r) ρ S = .exc i S2 := ss_exc (s_ifX h ha)
/-- a loop that carries a state -/
theorem k_for {α σ : Type} {t : Tg} {it : It} {b : Sts} (enc : α → U) (en : σ → Rho) (f : σ → α → σ) (xs : List α) (s0 : σ) (hρ : ρ = en s0) (hit : evIt g it ρ S = .ok (.fix (xs.map enc)) S)
    (h : ∀ pre x post, xs = pre ++ x :: post → ∃ ρ1, bindT t (enc x) (en (pre.foldl f s0)) = some ρ1 ∧ evSs g b ρ1 S = .ok (.nx (en (f (pre.foldl f s0) x))) S)
    (k : evSs g r (en (xs.foldl f s0)) S = Z) : evSs g (.cons (.forr t it b) r) ρ S = Z := by
  subst hρ
  rw [ss_cons (ev_for hit (loop_fold (body := fun ρ S => evSs g b ρ S) enc en f xs s0 h))]
  exact k
/-- a loop by what holds -/
theorem k_forI {α : Type} {t : Tg} {it : It} {b : Sts} (enc : α → U) (I : List α → Rho → Store → Prop) (xs : List α) (hit : evIt g it ρ S = .ok (.fix (xs.map enc)) S1) (h0 : I [] ρ S1)
    (h : ∀ pre x post, xs = pre ++ x :: post → ∀ ρ S, I pre ρ S → ∃ ρ1 ρ2 S2, bindT t (enc x) ρ = some ρ1 ∧ evSs g b ρ1 S = .ok (.nx ρ2) S2 ∧ I (pre ++ [x]) ρ2 S2)
    (k : ∀ ρ' S', I xs ρ' S' → evSs g r ρ' S' = Z) : evSs g (.cons (.forr t it b) r) ρ S = Z := by
  obtain ⟨ρ', S', h1, h2⟩ := loop_pre (t := t) (body := fun ρ S => evSs g b ρ S) enc I xs h0 h
  rw [ss_cons (ev_for hit h1)]
  exact k ρ' S' h2
end
section
variable {T : Tab} {n i : Nat} {us : List U} {S S1 S2 : Store} {fn : Fn}
theorem callT (h : T.fns[i]? = some fn) (hl : us.length = fn.np) : callN T (n + 1) i us S = finish fn.keep S.length (evSs (cnN T n) fn.body (start fn.nn us) S) := by
  rw [callN_succ]
  unfold runF
  rw [h]
  exact if_pos hl
/-- a call that returns data -/
theorem call_v {v : PyData} (h : T.fns[i]? = some fn) (hl : us.length = fn.np) (hk : fn.keep = false) (hb : evSs (cnN T n) fn.body (start fn.nn us) S = .ok (.rt (.d v)) S1) (ht : S1.take S.length = S2) : callN T (n + 1) i us S = .ok (.d v) S2 := by
  rw [callT h hl, hb, hk, fin_d, ht]
theorem call_v0 {v : PyData} (h : T.fns[i]? = some fn) (hl : us.length = fn.np) (hk : fn.keep = false) (hb : evSs (cnN T n) fn.body (start fn.nn us) S = .ok (.rt (.d v)) S) : callN T (n + 1) i us S = .ok (.d v) S := call_v h hl hk hb List.take_length
/-- a call that returns a list made here -/
theorem call_r {j : Nat} {xs : List PyData} (h : T.fns[i]? = some fn) (hl : us.length = fn.np) (hk : fn.keep = false) (hb : evSs (cnN T n) fn.body (start fn.nn us) S = .ok (.rt (.ref j)) S1) (hj : S1[j]? = some (.lst xs)) (hn : ¬ j < S.length) (ht : S1.take S.length = S2) : callN T (n + 1) i us S = .ok (.d (.list xs)) S2 := by
  rw [callT h hl, hb, hk, fin_r hj hn, ht]
/-- a call that returns nothing -/
theorem call_n {ρ1 : Rho} (h : T.fns[i]? = some fn) (hl : us.length = fn.np) (hb : evSs (cnN T n) fn.body (start fn.nn us) S = .ok (.nx ρ1) S1) (ht : S1.take S.length = S2) : callN T (n + 1) i us S = .ok (.d .none) S2 := by
  rw [callT h hl, hb, fin_nx, ht]
/-- a call that raises -/
theorem call_x {c : Nat} (h : T.fns[i]? = some fn) (hl : us.length = fn.np) (hb : evSs (cnN T n) fn.body (start fn.nn us) S = .exc c S1) (ht : S1.take S.length = S2) : callN T (n + 1) i us S = .exc c S2 := by
  rw [callT h hl, hb, fin_exc, ht]
end
theorem binU_d (o : Operator) (p q : PyData) (S : Store) : binU o (.d p) (.d q) S = R.of S ((binD o p q).map U.d) := by cases o <;> rfl
theorem ev_bin {g : Cn} {o : Operator} {a b : Ev.X} {ρ : Rho} {S S1 S2 : Store} {p q r : PyData} (h : evX g a ρ S = .ok (.d p) S1) (h2 : evX g b ρ S1 = .ok (.d q) S2) (h3 : binD o p q = some r) : evX g (.bin o a b) ρ S = .ok (.d r) S2 := by
  unfold evX
  rw [h, b_ok, h2, b_ok, binU_d, h3]
  rfl
theorem ev_blt {g : Cn} {b : Blt} {a : Ev.X} {ρ : Rho} {S S1 : Store} {p r : PyData} (h : evX g a ρ S = .ok (.d p) S1) (h2 : bltD b p = some r) : evX g (.blt b a) ρ S = .ok (.d r) S1 := by
  unfold evX
  rw [h, b_ok, d_d, Option.bind_some, h2]
  rfl
theorem ev_cmp {g : Cn} {o : CmpOp} {a b : Ev.X} {ρ : Rho} {S S1 S2 : Store} {p q : PyData} {k : Bool} (h : evX g a ρ S = .ok (.d p) S1) (h2 : evX g b ρ S1 = .ok (.d q) S2) (h3 : cmpD o p q = some k) : evX g (.cmp o a b) ρ S = .ok (.d (.bool k)) S2 := by
  unfold evX
  rw [h, b_ok, h2, b_ok]
  unfold cmpU
  rw [d_d, d_d, Option.bind_some, Option.bind_some, h3]
  rfl
theorem tru_bool {r : Ev.R U} {S : Store} {k : Bool} (h : r = .ok (.d (.bool k)) S) : truR r = .ok k S := by
  rw [h]
  rfl
theorem ev_not {g : Cn} {a : Ev.X} {ρ : Rho} {S S1 : Store} {k : Bool} (h : truR (evX g a ρ S) = .ok k S1) : evX g (.not a) ρ S = .ok (.d (.bool (!k))) S1 := by
  unfold evX
  rw [h]
  rfl
theorem ev_idx {g : Cn} {a i : Ev.X} {ρ : Rho} {S S1 S2 : Store} {p q r : PyData} (h : evX g a ρ S = .ok (.d p) S1) (h2 : evX g i ρ S1 = .ok (.d q) S2) (h3 : idxD p q = some r) : evX g (.idx a i) ρ S = .ok (.d r) S2 := by
  unfold evX
  rw [h, b_ok, h2, b_ok, d_d, d_d, Option.bind_some, Option.bind_some, h3]
  rfl
theorem ev_andT {g : Cn} {a b : Ev.X} {ρ : Rho} {S S1 : Store} {r : Ev.R U} (h : evX g a ρ S = .ok (.d (.bool true)) S1) (h2 : evX g b ρ S1 = r) : evX g (.and a b) ρ S = r := by
  unfold evX boolR
  rw [h]
  exact h2
theorem ev_andF {g : Cn} {a b : Ev.X} {ρ : Rho} {S S1 : Store} (h : evX g a ρ S = .ok (.d (.bool false)) S1) : evX g (.and a b) ρ S = .ok (.d (.bool false)) S1 := by
  unfold evX boolR
  rw [h]
  rfl
theorem ev_orT {g : Cn} {a b : Ev.X} {ρ : Rho} {S S1 : Store} (h : evX g a ρ S = .ok (.d (.bool true)) S1) : evX g (.or a b) ρ S = .ok (.d (.bool true)) S1 := by
  unfold evX boolR
  rw [h]
  rfl
theorem ev_orF {g : Cn} {a b : Ev.X} {ρ : Rho} {S S1 : Store} {r : Ev.R U} (h : evX g a ρ S = .ok (.d (.bool false)) S1) (h2 : evX g b ρ S1 = r) : evX g (.or a b) ρ S = r := by
  unfold evX boolR
  rw [h]
  exact h2
theorem ev_or {g : Cn} {a b : Ev.X} {ρ : Rho} {S S1 S2 : Store} {j k : Bool} (h : evX g a ρ S = .ok (.d (.bool j)) S1) (h2 : j = false → evX g b ρ S1 = .ok (.d (.bool k)) S1) : evX g (.or a b) ρ S = .ok (.d (.bool (j || k))) S1 := by
  cases j with
  | true => exact ev_orT h
  | false => exact ev_orF h (h2 rfl)
theorem ev_and {g : Cn} {a b : Ev.X} {ρ : Rho} {S S1 S2 : Store} {j k : Bool} (h : evX g a ρ S = .ok (.d (.bool j)) S1) (h2 : j = true → evX g b ρ S1 = .ok (.d (.bool k)) S1) : evX g (.and a b) ρ S = .ok (.d (.bool (j && k))) S1 := by
  cases j with
  | true => exact ev_andT h (h2 rfl)
  | false => exact ev_andF h
theorem ev_ifT {g : Cn} {c a b : Ev.X} {ρ : Rho} {S S1 : Store} {r : Ev.R U} (h : truR (evX g c ρ S) = .ok true S1) (h2 : evX g a ρ S1 = r) : evX g (.ife c a b) ρ S = r := by
  unfold evX
  rw [h]
  exact h2
theorem ev_ifF {g : Cn} {c a b : Ev.X} {ρ : Rho} {S S1 : Store} {r : Ev.R U} (h : truR (evX g c ρ S) = .ok false S1) (h2 : evX g b ρ S1 = r) : evX g (.ife c a b) ρ S = r := by
  unfold evX
  rw [h]
  exact h2
theorem it_enmL {g : Cn} {a : Ev.X} {ρ : Rho} {S S1 : Store} {xs : List PyData} (h : evX g a ρ S = .ok (.d (.list xs)) S1) : evIt g (.enm a) ρ S = .ok (.fix (enmItems 0 xs)) S1 := by
  unfold evIt
  rw [h]
  rfl
theorem it_enmT {g : Cn} {a : Ev.X} {ρ : Rho} {S S1 : Store} {xs : List PyData} (h : evX g a ρ S = .ok (.d (.tuple xs)) S1) : evIt g (.enm a) ρ S = .ok (.fix (enmItems 0 xs)) S1 := by
  unfold evIt
  rw [h]
  rfl
theorem it_enmS {g : Cn} {a : Ev.X} {ρ : Rho} {S S1 : Store} {z : Str} (h : evX g a ρ S = .ok (.d (.str z)) S1) : evIt g (.enm a) ρ S = .ok (.fix (enmItems 0 (strP z))) S1 := by
  unfold evIt
  rw [h]
  rfl
theorem enm_eq {α : Type} (f : α → PyData) : ∀ (xs : List α) (k : Nat), enmItems k (xs.map f) = (xs.zipIdx k).map fun q => U.it [.int (q.2 : Nat), f q.1]
  | [], _ => rfl
  | x :: xs, k => by
    rw [List.map_cons, List.zipIdx_cons, List.map_cons]
    show U.it [.int k, f x] :: enmItems (k + 1) (xs.map f) = _
    rw [enm_eq f xs (k + 1)]
/-- a state whose first part is a list that grows -/
theorem fold_fst {α β τ : Type} (f : List β × τ → α → List β × τ) (g : α → List β) (h : ∀ s x, (f s x).1 = s.1 ++ g x) : ∀ (xs : List α) (s : List β × τ), (xs.foldl f s).1 = s.1 ++ xs.flatMap g
  | [], s => by simp
  | x :: xs, s => by
    rw [List.foldl_cons, fold_fst f g h xs, h, List.flatMap_cons, List.append_assoc]
theorem pre_range {m k : Nat} {pre post : List Nat} (h : List.range m = pre ++ k :: post) : pre = List.range k ∧ k < m := by
  have hk : (List.range m)[pre.length]? = some k := by rw [h, List.getElem?_append_right (Nat.le_refl _), Nat.sub_self]; rfl
  obtain ⟨h1, h2⟩ := List.getElem?_eq_some_iff.mp hk
  rw [List.getElem_range] at h2
  rw [List.length_range] at h1
  subst h2
  refine ⟨?_, h1⟩
  have := congrArg (List.take pre.length) h
  rw [List.take_left, List.take_range, Nat.min_eq_left (Nat.le_of_lt h1)] at this
  exact this.symm
theorem pre_len {α : Type} {xs pre post : List α} {x : α} (h : xs = pre ++ x :: post) : pre.length < xs.length := by
  rw [h, List.length_append, List.length_cons]
  omega
theorem it_rngN {g : Cn} {a : Ev.X} {ρ : Rho} {S S1 : Store} {m : Nat} (h : evX g a ρ S = .ok (.d (.int ((m : Nat) : Int))) S1) (h1 : m < 1000000) : evIt g (.rng (.cons a .nil)) ρ S = .ok (.fix ((List.range m).map fun i : Nat => U.d (nI i))) S1 := by
  rw [it_rng1 h (by omega) (by omega), Int.toNat_natCast, rng_nat]
theorem zipIdx_range {α : Type} (x : List α) (d : α) : x.zipIdx = (List.range x.length).map fun n => (x.getD n d, n) := by
  refine List.ext_getElem? fun n => ?_
  rw [List.getElem?_zipIdx, List.getElem?_map]
  by_cases h : n < x.length
  · rw [List.getElem?_range h, List.getElem?_eq_getElem h]
    simp [List.getD_eq_getElem?_getD, h]
  · rw [List.getElem?_eq_none (by omega), List.getElem?_eq_none (by rw [List.length_range]; omega)]
    rfl
theorem strP_mk (x : List Nat) : strP (mkS x) = x.map fun c => sD [c] := rfl
theorem str_join0 : ∀ ls : List (List Nat), Str.join ⟨#[]⟩ (ls.map mkS) = mkS ls.flatten
  | [] => rfl
  | [x] => by simp [Str.join]
  | x :: y :: r => by
    have ih := str_join0 (y :: r)
    show mkS x ++ ⟨#[]⟩ ++ Str.join ⟨#[]⟩ ((y :: r).map mkS) = _
    rw [ih, show (⟨#[]⟩ : Str) = mkS [] from rfl, mk_app, mk_app]
    congr 1
    simp
theorem txt_join0 (ls : List (List Nat)) : Txt.join ⟨#[]⟩ (ls.map mkS) = mkS ls.flatten := by
  show PySem.Txt.join _ _ = _
  unfold PySem.Txt.join
  rw [StrLaws.glued_eq_join, str_join0]
theorem join_okL0 {ls : List (List Nat)} (h : ls.flatten.length ≤ line) : mthD .join (sD []) [.list (ls.map sD)] = some (sD ls.flatten) := by
  show joinD (.str ⟨#[]⟩) (.list (ls.map sD)) = _
  show ((strsD (ls.map sD)).bind fun ss => if joinFit ⟨#[]⟩ ss = true then some (PyData.str (Txt.join ⟨#[]⟩ ss)) else none) = _
  rw [strs_sD, Option.bind_some, if_pos, txt_join0]
  · rfl
  · unfold joinFit
    rw [decide_eq_true_eq, List.map_map]
    have e : (ls.map ((fun x : Str => x.length) ∘ mkS)) = ls.map List.length := List.map_congr_left fun x _ => len_mk x
    rw [e, ← List.length_flatten]
    show _ + _ * 0 ≤ line
    omega
theorem k_app {g : Cn} {ρ : Rho} {S S1 : Store} {Z : Ev.R F} {r : Sts} {i b : Nat} {e : Ev.X} {p : PyData} {xs : List PyData} (hρ : ρ[i]? = some (some (.ref b))) (h : evX g e ρ S = .ok (.d p) S1) (hS : S1[b]? = some (.lst xs)) (hl : xs.length < line)
    (k : evSs g r ρ (S1.set b (.lst (xs ++ [p]))) = Z) : evSs g (.cons (.app i e) r) ρ S = Z := by
  rw [ss_cons (ρ1 := ρ) (S1 := S1.set b (.lst (xs ++ [p])))]
  · exact k
  · unfold evS
    rw [hρ]
    dsimp only
    rw [h, b_ok]
    unfold appL
    dsimp only
    rw [hS]
    exact if_pos hl
theorem set_last (S : Store) (a b : Box) : (S ++ [a]).set S.length b = S ++ [b] := by
  rw [List.set_append_right _ _ (Nat.le_refl _), Nat.sub_self]
  rfl
theorem get_last (S : Store) (a : Box) : (S ++ [a])[S.length]? = some a := by
  rw [List.getElem?_append_right (Nat.le_refl _), Nat.sub_self]
  rfl
theorem take_last (S : Store) (a : Box) : (S ++ [a]).take S.length = S := by
  rw [List.take_append_of_le_length (Nat.le_refl _), List.take_length]
theorem sD_at {D : List (List Nat)} {k : Nat} {x : List Nat} (h : D[k]? = some x) : idxD (.tuple (D.map sD)) (nI k) = some (sD x) :=
  at_nat (xs := D.map sD) (by omega) (by rw [Int.toNat_natCast, List.getElem?_map, h]; rfl)
theorem ch_at {x : List Nat} {n c : Nat} (hl : x.length ≤ line) (h : x[n]? = some c) : idxD (sD x) (nI n) = some (sD [c]) := by
  show (if (mkS x).length ≤ line then (L2.atI x (n : Int)).map fun c => PyData.str ⟨#[c]⟩ else none) = _
  rw [len_mk, if_pos hl, at_nat (x := c) (by omega) (by rw [Int.toNat_natCast]; exact h)]
  rfl
theorem one_sD : (PyData.str "1") = sD [49] := str_lit (by decide)
theorem zero_sD : (PyData.str "0") = sD [48] := str_lit (by decide)
theorem nil_sD : (PyData.str "") = sD [] := str_lit (by decide)
theorem vs_one {c : Nat} (h : c < 1114112) : Vs [c] := fun a ha => by rw [List.mem_singleton.mp ha]; exact h
theorem eq_sg {c : Nat} (hc : c < 1114112) : cmpD .Eq (sD [c]) (.str "1") = some (decide (c = 49)) := by
  rw [one_sD]
  show eqD _ _ = _
  rw [eq_d (shaped_sD (vs_one hc)) (shaped_sD (vs_one (by decide))), eqv_sD]
  simp
theorem bit_lt (b : Bool) : bitC b < 1114112 := by cases b <;> decide
theorem bit_sD (b : Bool) : sD [bitC b] = if b = true then .str "1" else .str "0" := by
  cases b
  · rw [zero_sD]; rfl
  · rw [one_sD]; rfl
theorem colT_split {R k : Nat} {m : Ti → Bool} (hR : 1 ≤ R) : colT R k m = ((List.range (R - 1)).map fun j => bitC (m ((k, j), (k, j + 1)))) ++ (List.range R).map fun j => bitC (m ((k, j), (k + 1, j))) := by
  unfold colT
  rw [show 2 * R - 1 = (R - 1) + R by omega, List.range_add, List.map_append, List.map_map]
  congr 1
  · refine List.map_congr_left fun j hj => ?_
    unfold tieAt
    rw [if_pos (List.mem_range.mp hj)]
  · refine List.map_congr_left fun j hj => ?_
    dsimp only [Function.comp]
    unfold tieAt
    rw [if_neg (by omega), Nat.add_sub_cancel_left]
theorem colT_len (R k : Nat) (m : Ti → Bool) : (colT R k m).length = 2 * R - 1 := by unfold colT; simp
/-- a state whose list gets one item a turn -/
theorem fold_one {α β τ : Type} (f : List β × τ → α → List β × τ) (g : α → β) (h : ∀ s x, (f s x).1 = s.1 ++ [g x]) (xs : List α) (s : List β × τ) : (xs.foldl f s).1 = s.1 ++ xs.map g := by
  rw [fold_fst f (fun x => [g x]) h]
  congr 1
  induction xs with
  | nil => rfl
  | cons x xs ih => rw [List.flatMap_cons, ih]; rfl
/-- a drawing's sign for a tie -/
theorem sign_facts {R C : Nat} {D : List (List Nat)} (hR : R ≤ 100) (hD : IsD R C D) {t : Ti} (ht : IsTi R C t) : ∃ x ch, idxD (.tuple (D.map sD)) (nI t.1.1) = some (sD x) ∧ idxD (sD x) (nI (sgnAt R t).2) = some (sD [ch]) ∧ cmpD .Eq (sD [ch]) (.str "1") = some (hasT R D t) := by
  have hl := sgn_lt ht
  have hk : (sgnAt R t).1 < D.length := by rw [hD.len]; exact hl.1
  have hx := List.getElem?_eq_getElem hk
  have hw := hD.wid _ (List.getElem_mem hk)
  have hn : (sgnAt R t).2 < D[(sgnAt R t).1].length := by rw [hw]; exact hl.2
  have hc := List.getElem?_eq_getElem hn
  have hc4 : D[(sgnAt R t).1][(sgnAt R t).2] < 1114112 := by rcases hD.sg _ (List.getElem_mem hk) _ (List.getElem_mem hn) with h | h <;> rw [h] <;> decide
  refine ⟨_, _, sD_at hx, ch_at (by rw [hw]; show _ ≤ 16777216; omega) hc, ?_⟩
  rw [eq_sg hc4]
  unfold hasT hasB
  rw [hx, Option.bind_some, hc]
  simp
theorem filter_snoc {α : Type} (p : α → Bool) (xs : List α) (x : α) : (xs ++ [x]).filter p = xs.filter p ++ (if p x = true then [x] else []) := by
  rw [List.filter_append]
  congr 1
  cases h : p x <;> simp [h]
end Ev
end

section
set_option Elab.async false
set_option linter.all false
set_option autoImplicit false
set_option maxRecDepth 100000
set_option maxHeartbeats 2000000
/-! # What is computed does not depend on what else the store holds -/
namespace Ev
open PySem
section
variable (S0 : Store)
def sh : U → U
  | .ref i => .ref (S0.length + i)
  | .d p => .d p
  | .scr ns => .scr ns
  | .obj a => .obj a
  | .it ps => .it ps
def shB : Box → Box
  | .lst xs => .lst xs
  | .dct kvs => .dct kvs
  | .ins c fs => .ins c (fs.map fun f => (f.1, sh S0 f.2))
def shS (S : Store) : Store := S0 ++ S.map (shB S0)
def shO : Option U → Option U
  | none => none
  | some u => some (sh S0 u)
def shE (ρ : Rho) : Rho := ρ.map (shO S0)
def shF : F → F
  | .nx ρ => .nx (shE S0 ρ)
  | .rt u => .rt (sh S0 u)
def shC : Src → Src
  | .fix us => .fix (us.map (sh S0))
  | .live i => .live (S0.length + i)
def shR {α : Type} (f : α → α) : Ev.R α → Ev.R α
  | .ok a S => .ok (f a) (shS S0 S)
  | .exc c S => .exc c (shS S0 S)
  | .bad => .bad
end
section
variable {S0 S : Store}
theorem shS_get (i : Nat) : (shS S0 S)[S0.length + i]? = (S[i]?).map (shB S0) := by
  unfold shS
  rw [List.getElem?_append_right (by omega), Nat.add_sub_cancel_left, List.getElem?_map]
theorem shS_len : (shS S0 S).length = S0.length + S.length := by unfold shS; simp
theorem shS_take (n : Nat) : (shS S0 S).take (S0.length + n) = shS S0 (S.take n) := by
  unfold shS
  rw [List.take_append, List.take_of_length_le (by omega), Nat.add_sub_cancel_left, List.map_take]
theorem shS_set (i : Nat) (b : Box) : (shS S0 S).set (S0.length + i) (shB S0 b) = shS S0 (S.set i b) := by
  unfold shS
  rw [List.set_append_right _ _ (by omega), Nat.add_sub_cancel_left, List.map_set]
theorem shS_app (b : Box) : shS S0 S ++ [shB S0 b] = shS S0 (S ++ [b]) := by
  unfold shS
  rw [List.map_append, List.append_assoc]
  rfl
theorem shE_get (ρ : Rho) (i : Nat) : (shE S0 ρ)[i]? = (ρ[i]?).map (shO S0) := by unfold shE; rw [List.getElem?_map]
theorem shE_set (ρ : Rho) (i : Nat) (o : Option U) : (shE S0 ρ).set i (shO S0 o) = shE S0 (ρ.set i o) := by unfold shE; rw [List.map_set]
theorem shE_some (ρ : Rho) (i : Nat) (u : U) : (shE S0 ρ).set i (some (sh S0 u)) = shE S0 (ρ.set i (some u)) := shE_set ρ i (some u)
theorem shE_none (ρ : Rho) (i : Nat) : (shE S0 ρ).set i none = shE S0 (ρ.set i none) := shE_set ρ i none
theorem sh_deref (u : U) : deref (shS S0 S) (sh S0 u) = deref S u := by
  cases u with
  | ref i =>
    show (match (shS S0 S)[S0.length + i]? with
      | some (.lst xs) => some (PyData.list xs)
      | some (.dct kvs) => some (PyData.dict kvs)
      | _ => none) = match S[i]? with
      | some (.lst xs) => some (PyData.list xs)
      | some (.dct kvs) => some (PyData.dict kvs)
      | _ => none
    rw [shS_get]
    cases S[i]? with
    | none => rfl
    | some b => cases b <;> rfl
  | _ => rfl
theorem shR_bind {α β : Type} {f : α → α} {g : β → β} {r r' : Ev.R α} {k k' : α → Store → Ev.R β} (h : r' = shR S0 f r) (hk : ∀ a S, k' (f a) (shS S0 S) = shR S0 g (k a S)) : r'.bind k' = shR S0 g (r.bind k) := by
  subst h
  cases r with
  | ok a S => exact hk a S
  | exc c S => rfl
  | bad => rfl
theorem shR_of {α : Type} {f : α → α} {o : Option α} : Ev.R.of (shS S0 S) (o.map f) = shR S0 f (Ev.R.of S o) := by cases o <;> rfl
theorem shR_d {o : Option PyData} : Ev.R.of (shS S0 S) (o.map U.d) = shR S0 (sh S0) (Ev.R.of S (o.map U.d)) := by cases o <;> rfl
theorem shR_b {o : Option Bool} : Ev.R.of (shS S0 S) (o.map fun b => U.d (.bool b)) = shR S0 (sh S0) (Ev.R.of S (o.map fun b => U.d (.bool b))) := by cases o <;> rfl
theorem shR_id {α : Type} {o : Option α} : Ev.R.of (shS S0 S) o = shR S0 id (Ev.R.of S o) := by cases o <;> rfl
theorem sh_binU (o : Operator) (x y : U) : binU o (sh S0 x) (sh S0 y) (shS S0 S) = shR S0 (sh S0) (binU o x y S) := by
  unfold binU
  cases o <;> cases y <;> first
    | (rw [sh_deref, sh_deref]; exact shR_d)
    | (rw [sh_deref]; exact shR_d)
    | exact shR_d
    | (simp only [sh, sh_deref]; exact shR_d)
    | (show Ev.R.of _ (((deref _ (sh S0 x)).bind fun p => (deref _ (sh S0 _)).bind fun q => _).map _) = _
       rw [sh_deref, sh_deref]; exact shR_d)
theorem sh_cmpU (o : CmpOp) (x y : U) : cmpU o (sh S0 x) (sh S0 y) (shS S0 S) = cmpU o x y S := by
  unfold cmpU
  rw [sh_deref, sh_deref]
theorem sh_datas : ∀ us : List U, datas (shS S0 S) (us.map (sh S0)) = datas S us
  | [] => rfl
  | .d p :: r => by
    show (datas (shS S0 S) (r.map (sh S0))).map _ = (datas S r).map _
    rw [sh_datas r]
  | .ref _ :: _ => rfl
  | .scr _ :: _ => rfl
  | .obj _ :: _ => rfl
  | .it _ :: _ => rfl
theorem sh_derefs : ∀ us : List U, derefs (shS S0 S) (us.map (sh S0)) = derefs S us
  | [] => rfl
  | u :: r => by
    show (deref (shS S0 S) (sh S0 u)).bind _ = (deref S u).bind _
    rw [sh_deref, sh_derefs r]
theorem sh_asB (u : U) : asB (sh S0 u) = asB u := by cases u <;> rfl
theorem sh_optI (us : List U) : optI (us.map (sh S0)) = optI us := by
  unfold optI
  match us with
  | [] => rfl
  | [u] => cases u <;> rfl
  | u :: v :: r => cases u with
    | d p => cases p <;> rfl
    | _ => rfl
theorem sh_bindT : ∀ (t : Tg) (u : U) (ρ : Rho), bindT t (sh S0 u) (shE S0 ρ) = (bindT t u ρ).map (shE S0)
  | .nm i, u, ρ => congrArg some (shE_some ρ i u)
  | .nil, u, ρ => by
    cases u with
    | d p => cases p with
      | tuple xs => cases xs <;> rfl
      | _ => rfl
    | it xs => cases xs <;> rfl
    | _ => rfl
  | .cons a r, u, ρ => by
    cases u with
    | d p => cases p with
      | tuple xs => cases xs with
        | nil => rfl
        | cons x xs =>
          show (bindT a (sh S0 (.d x)) (shE S0 ρ)).bind (fun ρ' => bindT r (.d (.tuple xs)) ρ') = ((bindT a (.d x) ρ).bind fun ρ' => bindT r (.d (.tuple xs)) ρ').map _
          rw [sh_bindT a (.d x) ρ]
          cases bindT a (.d x) ρ with
          | none => rfl
          | some ρ1 => exact sh_bindT r (.d (.tuple xs)) ρ1
      | _ => rfl
    | it xs => cases xs with
      | nil => rfl
      | cons x xs =>
        show (bindT a (sh S0 (.d x)) (shE S0 ρ)).bind (fun ρ' => bindT r (.it xs) ρ') = ((bindT a (.d x) ρ).bind fun ρ' => bindT r (.it xs) ρ').map _
        rw [sh_bindT a (.d x) ρ]
        cases bindT a (.d x) ρ with
        | none => rfl
        | some ρ1 => exact sh_bindT r (.it xs) ρ1
    | _ => rfl
theorem sh_wipe (ρ : Rho) : ∀ vs : List Nat, wipe (shE S0 ρ) vs = shE S0 (wipe ρ vs)
  | [] => rfl
  | v :: vs => by
    unfold wipe
    rw [sh_wipe ρ vs, shE_none]
theorem sh_srcU (u : U) : srcU (shS S0 S) (sh S0 u) = (srcU S u).map (shC S0) := by
  cases u with
  | d p => cases p with
    | list xs => show some (Src.fix (xs.map U.d)) = some (Src.fix ((xs.map U.d).map (sh S0))); rw [List.map_map]; rfl
    | tuple xs => show some (Src.fix (xs.map U.d)) = some (Src.fix ((xs.map U.d).map (sh S0))); rw [List.map_map]; rfl
    | str z => show some (Src.fix (strItems z)) = some (Src.fix ((strItems z).map (sh S0))); unfold strItems; rw [List.map_map]; rfl
    | _ => rfl
  | ref i =>
    unfold srcU sh
    dsimp only
    rw [shS_get]
    cases S[i]? with
    | none => rfl
    | some b => cases b <;> rfl
  | _ => rfl
theorem sh_rng (ps : List PyData) : (rngD ps).map Src.fix = ((rngD ps).map Src.fix).map (shC S0) := by
  have h : ∀ us : List U, (∀ u, u ∈ us → sh S0 u = u) → Src.fix us = shC S0 (.fix us) := fun us hu => by
    show _ = Src.fix (us.map (sh S0))
    rw [List.map_congr_left hu, List.map_id']
  cases e : rngD ps with
  | none => rfl
  | some us =>
    refine congrArg some (h us fun u hu => ?_)
    unfold rngD at e
    split at e
    · split at e
      · cases e; obtain ⟨i, _, rfl⟩ := List.mem_map.mp hu; rfl
      · cases e
    · split at e
      · cases e; obtain ⟨i, _, rfl⟩ := List.mem_map.mp hu; rfl
      · cases e
    · split at e
      · cases e; obtain ⟨i, _, rfl⟩ := List.mem_map.mp hu; rfl
      · cases e
    · cases e
theorem sh_enm : ∀ (xs : List PyData) (k : Nat), (enmItems k xs).map (sh S0) = enmItems k xs
  | [], _ => rfl
  | x :: xs, k => congrArg (U.it [.int k, x] :: ·) (sh_enm xs (k + 1))
theorem sh_zip : ∀ (xs ys : List PyData), (zipItems xs ys).map (sh S0) = zipItems xs ys
  | [], _ => rfl
  | _ :: _, [] => rfl
  | x :: xs, y :: ys => congrArg (U.it [x, y] :: ·) (sh_zip xs ys)
/-! ### loops -/
theorem sh_loopL {t : Tg} {b b' : Rho → Store → Ev.R F} (hb : ∀ ρ S, b' (shE S0 ρ) (shS S0 S) = shR S0 (shF S0) (b ρ S)) : ∀ (us : List U) (ρ : Rho) (S : Store), loopL t b' (us.map (sh S0)) (shE S0 ρ) (shS S0 S) = shR S0 (shF S0) (loopL t b us ρ S)
  | [], ρ, S => rfl
  | u :: us, ρ, S => by
    rw [List.map_cons]
    unfold loopL
    rw [sh_bindT]
    cases bindT t u ρ with
    | none => rfl
    | some ρ1 =>
      refine shR_bind (hb ρ1 S) fun f S1 => ?_
      cases f with
      | nx ρ2 => exact sh_loopL hb us ρ2 S1
      | rt v => rfl
theorem sh_loopB {t : Tg} {b b' : Rho → Store → Ev.R F} (hb : ∀ ρ S, b' (shE S0 ρ) (shS S0 S) = shR S0 (shF S0) (b ρ S)) (k : Nat) : ∀ (n j : Nat) (ρ : Rho) (S : Store), loopB t b' (S0.length + k) n j (shE S0 ρ) (shS S0 S) = shR S0 (shF S0) (loopB t b k n j ρ S)
  | 0, _, _, _ => rfl
  | n + 1, j, ρ, S => by
    unfold loopB
    rw [shS_get]
    cases S[k]? with
    | none => rfl
    | some bx =>
      cases bx with
      | lst xs =>
        dsimp only [Option.map, shB]
        cases xs[j]? with
        | none => rfl
        | some x =>
          dsimp only
          have e := sh_bindT (S0 := S0) t (.d x) ρ
          rw [show sh S0 (.d x) = U.d x from rfl] at e
          rw [e]
          cases bindT t (.d x) ρ with
          | none => rfl
          | some ρ1 =>
            refine shR_bind (hb ρ1 S) fun f S1 => ?_
            cases f with
            | nx ρ2 => exact sh_loopB hb k n (j + 1) ρ2 S1
            | rt v => rfl
      | _ => rfl
theorem sh_loopW {c c' : Rho → Store → Ev.R Bool} {b b' : Rho → Store → Ev.R F} (hc : ∀ ρ S, c' (shE S0 ρ) (shS S0 S) = shR S0 id (c ρ S)) (hb : ∀ ρ S, b' (shE S0 ρ) (shS S0 S) = shR S0 (shF S0) (b ρ S)) : ∀ (n : Nat) (ρ : Rho) (S : Store), loopW c' b' n (shE S0 ρ) (shS S0 S) = shR S0 (shF S0) (loopW c b n ρ S)
  | 0, _, _ => rfl
  | n + 1, ρ, S => by
    unfold loopW
    refine shR_bind (hc ρ S) fun k S1 => ?_
    dsimp only [id]
    split
    · refine shR_bind (hb ρ S1) fun f S2 => ?_
      cases f with
      | nx ρ2 => exact sh_loopW hc hb n ρ2 S2
      | rt v => rfl
    · rfl
theorem sh_compL {t : Tg} {c c' : Rho → Store → Ev.R Bool} {e e' : Rho → Store → Ev.R PyData} (hc : ∀ ρ S, c' (shE S0 ρ) (shS S0 S) = shR S0 id (c ρ S)) (he : ∀ ρ S, e' (shE S0 ρ) (shS S0 S) = shR S0 id (e ρ S)) (ρ : Rho) : ∀ (us : List U) (S : Store), compL t c' e' (shE S0 ρ) (us.map (sh S0)) (shS S0 S) = shR S0 id (compL t c e ρ us S)
  | [], S => rfl
  | u :: us, S => by
    rw [List.map_cons]
    unfold compL
    rw [sh_bindT]
    cases bindT t u ρ with
    | none => rfl
    | some ρ1 =>
      refine shR_bind (hc ρ1 S) fun k S1 => ?_
      dsimp only [id]
      split
      · exact shR_bind (he ρ1 S1) fun y S2 => shR_bind (sh_compL hc he ρ us S2) fun ys S3 => rfl
      · exact sh_compL hc he ρ us S1
theorem sh_compB {t : Tg} {c c' : Rho → Store → Ev.R Bool} {e e' : Rho → Store → Ev.R PyData} (hc : ∀ ρ S, c' (shE S0 ρ) (shS S0 S) = shR S0 id (c ρ S)) (he : ∀ ρ S, e' (shE S0 ρ) (shS S0 S) = shR S0 id (e ρ S)) (ρ : Rho) (b : Nat) : ∀ (n j : Nat) (S : Store), compB t c' e' (shE S0 ρ) (S0.length + b) n j (shS S0 S) = shR S0 id (compB t c e ρ b n j S)
  | 0, _, _ => rfl
  | n + 1, j, S => by
    unfold compB
    rw [shS_get]
    cases S[b]? with
    | none => rfl
    | some bx =>
      cases bx with
      | lst xs =>
        dsimp only [Option.map, shB]
        cases xs[j]? with
        | none => rfl
        | some x =>
          dsimp only
          have e1 := sh_bindT (S0 := S0) t (.d x) ρ
          rw [show sh S0 (.d x) = U.d x from rfl] at e1
          rw [e1]
          cases bindT t (.d x) ρ with
          | none => rfl
          | some ρ1 =>
            refine shR_bind (hc ρ1 S) fun k S1 => ?_
            dsimp only [id]
            split
            · exact shR_bind (he ρ1 S1) fun y S2 => shR_bind (sh_compB hc he ρ b n (j + 1) S2) fun ys S3 => rfl
            · exact sh_compB hc he ρ b n (j + 1) S1
      | _ => rfl
theorem sh_noexc {α : Type} {f : α → α} {r r' : Ev.R α} (h : r' = shR S0 f r) : noexc r' = shR S0 f (noexc r) := by
  subst h
  cases r <;> rfl
theorem sh_dataR {r r' : Ev.R U} (h : r' = shR S0 (sh S0) r) : dataR r' = shR S0 id (dataR r) := shR_bind h fun u S => by cases u <;> rfl
theorem sh_boolR {r r' : Ev.R U} (h : r' = shR S0 (sh S0) r) : boolR r' = shR S0 id (boolR r) := shR_bind h fun u S => by rw [sh_asB]; exact shR_id
theorem sh_truR {r r' : Ev.R U} (h : r' = shR S0 (sh S0) r) : truR r' = shR S0 id (truR r) := shR_bind h fun u S => by rw [sh_deref]; exact shR_id
theorem sh_putL (b : Nat) (u q : U) (ρ : Rho) (S : Store) : putL (S0.length + b) (sh S0 u) (sh S0 q) (shE S0 ρ) (shS S0 S) = shR S0 (shF S0) (putL b u q ρ S) := by
  unfold putL
  cases u with
  | d p => cases q with
    | d k => cases k with
      | int j =>
        dsimp only [sh]
        rw [shS_get]
        cases S[b]? with
        | none => rfl
        | some bx => cases bx with
          | lst xs =>
            dsimp only [Option.map, shB]
            cases L2.ixN xs.length j with
            | none => rfl
            | some m =>
              dsimp only
              have := shS_set (S0 := S0) (S := S) b (.lst (xs.set m p))
              rw [show shB S0 (.lst (xs.set m p)) = Box.lst (xs.set m p) from rfl] at this
              rw [this]
              rfl
          | _ => rfl
      | _ => rfl
    | _ => rfl
  | _ => rfl
theorem sh_appL (b : Nat) (u : U) (ρ : Rho) (S : Store) : appL (S0.length + b) (sh S0 u) (shE S0 ρ) (shS S0 S) = shR S0 (shF S0) (appL b u ρ S) := by
  unfold appL
  cases u with
  | d p =>
    dsimp only [sh]
    rw [shS_get]
    cases S[b]? with
    | none => rfl
    | some bx => cases bx with
      | lst xs =>
        dsimp only [Option.map, shB]
        split
        · have := shS_set (S0 := S0) (S := S) b (.lst (xs ++ [p]))
          rw [show shB S0 (.lst (xs ++ [p])) = Box.lst (xs ++ [p]) from rfl] at this
          rw [this]
          rfl
        · rfl
      | _ => rfl
  | _ => rfl
theorem sh_setSlots : ∀ (is : List Nat) (us : List U) (ρ : Rho), setSlots is (us.map (sh S0)) (shE S0 ρ) = (setSlots is us ρ).map (shE S0)
  | [], [], ρ => rfl
  | [], _ :: _, ρ => rfl
  | _ :: _, [], ρ => rfl
  | i :: is, u :: us, ρ => by
    rw [List.map_cons]
    unfold setSlots
    rw [shE_some]
    exact sh_setSlots is us _
end
/-- calls that do not look at what else the store holds -/
def FrC (S0 : Store) (f f' : CF) : Prop := ∀ i us S, f' i (us.map (sh S0)) (shS S0 S) = shR S0 (sh S0) (f i us S)
structure FrN (S0 : Store) (g g' : Cn) : Prop where
  call : FrC S0 g.call g'.call
  low : g.low = none ∧ g'.low = none ∨ ∃ f f', g.low = some f ∧ g'.low = some f' ∧ FrC S0 f f'
  nm : g'.nm = g.nm
mutual
theorem fr_X {S0 : Store} {g g' : Cn} (h : FrN S0 g g') : ∀ (e : Ev.X) (ρ : Rho) (S : Store), evX g' e (shE S0 ρ) (shS S0 S) = shR S0 (sh S0) (evX g e ρ S)
  | .loc i, ρ, S => by
    unfold evX
    rw [shE_get]
    cases ρ[i]? with
    | none => rfl
    | some o => cases o <;> rfl
  | .con p, ρ, S => rfl
  | .bin o a b, ρ, S => by
    unfold evX
    exact shR_bind (fr_X h a ρ S) fun x S1 => shR_bind (fr_X h b ρ S1) fun y S2 => sh_binU o x y
  | .neg a, ρ, S => by
    unfold evX
    refine shR_bind (fr_X h a ρ S) fun x S1 => ?_
    cases x with
    | d p => cases p <;> rfl
    | _ => rfl
  | .not a, ρ, S => by
    unfold evX
    exact shR_bind (sh_truR (fr_X h a ρ S)) fun b S1 => rfl
  | .cmp o a b, ρ, S => by
    unfold evX
    exact shR_bind (fr_X h a ρ S) fun x S1 => shR_bind (fr_X h b ρ S1) fun y S2 => by rw [sh_cmpU]; exact shR_b
  | .chn o p a b c, ρ, S => by
    unfold evX
    refine shR_bind (fr_X h a ρ S) fun x S1 => shR_bind (fr_X h b ρ S1) fun y S2 => shR_bind (f := id) (by rw [sh_cmpU]; exact shR_id) fun k S3 => ?_
    dsimp only [id]
    split
    · exact shR_bind (fr_X h c ρ S3) fun z S4 => by rw [sh_cmpU]; exact shR_b
    · rfl
  | .and a b, ρ, S => by
    unfold evX
    refine shR_bind (sh_boolR (fr_X h a ρ S)) fun k S1 => ?_
    dsimp only [id]
    split
    · exact fr_X h b ρ S1
    · rfl
  | .or a b, ρ, S => by
    unfold evX
    refine shR_bind (sh_boolR (fr_X h a ρ S)) fun k S1 => ?_
    dsimp only [id]
    split
    · rfl
    · exact fr_X h b ρ S1
  | .ife c a b, ρ, S => by
    unfold evX
    refine shR_bind (sh_truR (fr_X h c ρ S)) fun k S1 => ?_
    dsimp only [id]
    split
    · exact fr_X h a ρ S1
    · exact fr_X h b ρ S1
  | .call f as, ρ, S => by
    unfold evX
    exact shR_bind (fr_Xs h as ρ S) fun us S1 => h.call f us S1
  | .blt b a, ρ, S => by
    unfold evX
    exact shR_bind (fr_X h a ρ S) fun x S1 => by rw [sh_deref]; exact shR_d
  | .mth m a as, ρ, S => by
    unfold evX
    refine shR_bind (fr_X h a ρ S) fun x S1 => ?_
    have gen : ∀ y : U, (if ((deref (shS S0 S1) (sh S0 y)).map (seqM m)) = some true then (evXs g' as (shE S0 ρ) (shS S0 S1)).bind fun us S2 => Ev.R.of S2 (((deref S2 (sh S0 y)).bind fun p => (derefs S2 us).bind fun ps => mthD m p ps).map .d) else .bad) =
        shR S0 (sh S0) (if ((deref S1 y).map (seqM m)) = some true then (evXs g as ρ S1).bind fun us S2 => Ev.R.of S2 (((deref S2 y).bind fun p => (derefs S2 us).bind fun ps => mthD m p ps).map .d) else .bad) := fun y => by
      rw [sh_deref]
      split
      · exact shR_bind (fr_Xs h as ρ S1) fun us S2 => by rw [sh_deref, sh_derefs]; exact shR_d
      · rfl
    cases x with
    | d p => cases p with
      | str z => exact shR_bind (fr_Xs h as ρ S1) fun us S2 => by rw [sh_derefs]; exact shR_d
      | _ => exact gen (.d _)
    | _ => exact gen _
  | .idx a i, ρ, S => by
    unfold evX
    exact shR_bind (fr_X h a ρ S) fun x S1 => shR_bind (fr_X h i ρ S1) fun y S2 => by rw [sh_deref, sh_deref]; exact shR_d
  | .slc a lo hi, ρ, S => by
    unfold evX
    refine shR_bind (fr_X h a ρ S) fun x S1 => shR_bind (f := id) (shR_bind (fr_Xs h lo ρ S1) fun us S2 => by rw [sh_optI]; exact shR_id) fun l S3 => shR_bind (f := id) (shR_bind (fr_Xs h hi ρ S3) fun us S4 => by rw [sh_optI]; exact shR_id) fun k S5 => ?_
    rw [sh_deref]
    exact shR_d
  | .rev a, ρ, S => by
    unfold evX
    exact shR_bind (fr_X h a ρ S) fun x S1 => by rw [sh_deref]; exact shR_d
  | .lst as, ρ, S => by
    unfold evX
    refine shR_bind (fr_Xs h as ρ S) fun us S1 => ?_
    rw [sh_datas]
    cases datas S1 us with
    | none => rfl
    | some ps => dsimp only [Option.bind]; split <;> rfl
  | .box as, ρ, S => by
    unfold evX
    refine shR_bind (fr_Xs h as ρ S) fun us S1 => ?_
    rw [sh_datas]
    cases datas S1 us with
    | none => rfl
    | some ps =>
      dsimp only
      split
      · show Ev.R.ok (U.ref (shS S0 S1).length) (shS S0 S1 ++ [Box.lst ps]) = .ok (.ref (S0.length + S1.length)) (shS S0 (S1 ++ [.lst ps]))
        rw [shS_len, ← shS_app]
        rfl
      · rfl
  | .tup as, ρ, S => by
    unfold evX
    refine shR_bind (fr_Xs h as ρ S) fun us S1 => ?_
    rw [sh_datas]
    cases datas S1 us with
    | none => rfl
    | some ps => dsimp only [Option.bind]; split <;> rfl
  | .lc own t it c e, ρ, S => by
    unfold evX
    refine shR_bind (sh_noexc (fr_It h it ρ S)) fun s S1 => ?_
    have hc : ∀ ρ S, evC g' c (shE S0 ρ) (shS S0 S) = shR S0 id (evC g c ρ S) := fun ρ S => fr_C h c ρ S
    have he : ∀ ρ S, dataR (evX g' e (shE S0 ρ) (shS S0 S)) = shR S0 id (dataR (evX g e ρ S)) := fun ρ S => sh_dataR (fr_X h e ρ S)
    cases s with
    | fix us =>
      show (if (us.map (sh S0)).length ≤ line then _ else _) = _
      rw [List.length_map, sh_wipe]
      dsimp only
      split
      · exact shR_bind (sh_noexc (sh_compL hc he (wipe ρ own) us S1)) fun ys S2 => rfl
      · rfl
    | live b =>
      dsimp only [shC]
      rw [sh_wipe]
      exact shR_bind (sh_noexc (sh_compB hc he (wipe ρ own) b 100000 0 S1)) fun ys S2 => rfl
  | .err e, ρ, S => by
    unfold evX
    rcases h.low with ⟨h1, h2⟩ | ⟨f, f', h1, h2, h3⟩
    · rw [h1, h2]
      rfl
    · rw [h1, h2, h.nm]
      dsimp only
      have q := fr_X (g := ⟨f, none, g.nm⟩) (g' := ⟨f', none, g.nm⟩) ⟨h3, .inl ⟨rfl, rfl⟩, rfl⟩ e ρ S
      rw [q]
      cases evX ⟨f, none, g.nm⟩ e ρ S with
      | ok u S1 => rfl
      | exc c S1 =>
        show Ev.R.of (shS S0 S1) ((g.nm c).map fun z => U.d (.str z)) = shR S0 (sh S0) (Ev.R.of S1 ((g.nm c).map fun z => U.d (.str z)))
        cases g.nm c <;> rfl
      | bad => rfl
  | .isE i a b, ρ, S => by
    unfold evX
    rw [shE_get]
    cases ρ[i]? with
    | none => rfl
    | some o => cases o with
      | none => rfl
      | some u => cases u with
        | obj a' => dsimp only [Option.map, shO, sh]; split <;> rfl
        | _ => rfl
theorem fr_Xs {S0 : Store} {g g' : Cn} (h : FrN S0 g g') : ∀ (es : Xs) (ρ : Rho) (S : Store), evXs g' es (shE S0 ρ) (shS S0 S) = shR S0 (List.map (sh S0)) (evXs g es ρ S)
  | .nil, ρ, S => rfl
  | .cons a r, ρ, S => by
    unfold evXs
    exact shR_bind (fr_X h a ρ S) fun x S1 => shR_bind (fr_Xs h r ρ S1) fun xs S2 => rfl
theorem fr_C {S0 : Store} {g g' : Cn} (h : FrN S0 g g') : ∀ (es : Xs) (ρ : Rho) (S : Store), evC g' es (shE S0 ρ) (shS S0 S) = shR S0 id (evC g es ρ S)
  | .nil, ρ, S => rfl
  | .cons a r, ρ, S => by
    unfold evC
    exact sh_truR (fr_X h a ρ S)
theorem fr_It {S0 : Store} {g g' : Cn} (h : FrN S0 g g') : ∀ (i : It) (ρ : Rho) (S : Store), evIt g' i (shE S0 ρ) (shS S0 S) = shR S0 (shC S0) (evIt g i ρ S)
  | .val a, ρ, S => by
    unfold evIt
    refine shR_bind (fr_X h a ρ S) fun x S1 => ?_
    rw [sh_srcU]
    exact shR_of
  | .rng as, ρ, S => by
    unfold evIt
    refine shR_bind (fr_Xs h as ρ S) fun us S1 => ?_
    rw [sh_datas]
    cases datas S1 us with
    | none => rfl
    | some ps =>
      dsimp only [Option.bind]
      exact (congrArg (Ev.R.of (shS S0 S1)) (sh_rng (S0 := S0) ps)).trans shR_of
  | .enm a, ρ, S => by
    unfold evIt
    refine shR_bind (fr_X h a ρ S) fun x S1 => ?_
    cases x with
    | d p => cases p with
      | list xs => show Ev.R.ok (Src.fix (enmItems 0 xs)) _ = .ok (.fix ((enmItems 0 xs).map (sh S0))) _; rw [sh_enm]
      | tuple xs => show Ev.R.ok (Src.fix (enmItems 0 xs)) _ = .ok (.fix ((enmItems 0 xs).map (sh S0))) _; rw [sh_enm]
      | str z => show Ev.R.ok (Src.fix (enmItems 0 (strP z))) _ = .ok (.fix ((enmItems 0 (strP z)).map (sh S0))) _; rw [sh_enm]
      | _ => rfl
    | _ => rfl
  | .zip a b, ρ, S => by
    unfold evIt
    refine shR_bind (fr_X h a ρ S) fun x S1 => shR_bind (fr_X h b ρ S1) fun y S2 => ?_
    cases x with
    | d p => cases p with
      | list xs => cases y with
        | d q => cases q with
          | list ys => show Ev.R.ok (Src.fix (zipItems xs ys)) _ = .ok (.fix ((zipItems xs ys).map (sh S0))) _; rw [sh_zip]
          | _ => rfl
        | _ => rfl
      | tuple xs => cases y with
        | d q => cases q with
          | tuple ys => show Ev.R.ok (Src.fix (zipItems xs ys)) _ = .ok (.fix ((zipItems xs ys).map (sh S0))) _; rw [sh_zip]
          | _ => rfl
        | _ => rfl
      | _ => rfl
    | _ => rfl
  | .zipL a b, ρ, S => by
    unfold evIt
    refine shR_bind (fr_X h a ρ S) fun x S1 => shR_bind (fr_X h b ρ S1) fun y S2 => ?_
    cases x with
    | d p => cases p with
      | list xs => cases y with
        | d q => cases q with
          | list ys => show Ev.R.ok (Src.fix (zipItems xs ys)) _ = .ok (.fix ((zipItems xs ys).map (sh S0))) _; rw [sh_zip]
          | _ => rfl
        | _ => rfl
      | _ => rfl
    | _ => rfl
end
mutual
theorem fr_S {S0 : Store} {g g' : Cn} (h : FrN S0 g g') : ∀ (s : Ev.St) (ρ : Rho) (S : Store), evS g' s (shE S0 ρ) (shS S0 S) = shR S0 (shF S0) (evS g s ρ S)
  | .set i e, ρ, S => by
    unfold evS
    refine shR_bind (fr_X h e ρ S) fun u S1 => ?_
    rw [shE_some]
    rfl
  | .sett t e, ρ, S => by
    unfold evS
    refine shR_bind (fr_X h e ρ S) fun u S1 => ?_
    rw [sh_bindT]
    cases bindT t u ρ <;> rfl
  | .par is es, ρ, S => by
    unfold evS
    refine shR_bind (fr_Xs h es ρ S) fun us S1 => ?_
    rw [sh_setSlots]
    cases setSlots is us ρ <;> rfl
  | .seti i k e, ρ, S => by
    unfold evS
    rw [shE_get]
    cases ρ[i]? with
    | none => rfl
    | some o => cases o with
      | none => rfl
      | some u => cases u with
        | ref b => exact shR_bind (fr_X h e ρ S) fun u S1 => shR_bind (fr_X h k ρ S1) fun q S2 => sh_putL b u q ρ S2
        | _ => rfl
  | .app i e, ρ, S => by
    unfold evS
    rw [shE_get]
    cases ρ[i]? with
    | none => rfl
    | some o => cases o with
      | none => rfl
      | some u => cases u with
        | ref b => exact shR_bind (fr_X h e ρ S) fun u S1 => sh_appL b u ρ S1
        | _ => rfl
  | .exp e, ρ, S => by
    unfold evS
    exact shR_bind (fr_X h e ρ S) fun u S1 => rfl
  | .ret e, ρ, S => by
    unfold evS
    exact shR_bind (fr_X h e ρ S) fun u S1 => rfl
  | .retN, ρ, S => rfl
  | .iff c a b, ρ, S => by
    unfold evS
    refine shR_bind (sh_truR (fr_X h c ρ S)) fun k S1 => ?_
    dsimp only [id]
    split
    · exact fr_Ss h a ρ S1
    · exact fr_Ss h b ρ S1
  | .forr t it b, ρ, S => by
    unfold evS
    refine shR_bind (fr_It h it ρ S) fun s S1 => ?_
    cases s with
    | fix us => exact sh_loopL (fun ρ S => fr_Ss h b ρ S) us ρ S1
    | live i => exact sh_loopB (fun ρ S => fr_Ss h b ρ S) i 1000000 0 ρ S1
  | .whil c b, ρ, S => by
    unfold evS
    exact sh_loopW (fun ρ S => sh_truR (fr_X h c ρ S)) (fun ρ S => fr_Ss h b ρ S) 1000000 ρ S
  | .rais c as, ρ, S => by
    unfold evS
    exact shR_bind (fr_Xs h as ρ S) fun us S1 => rfl
  | .pass, ρ, S => rfl
theorem fr_Ss {S0 : Store} {g g' : Cn} (h : FrN S0 g g') : ∀ (s : Sts) (ρ : Rho) (S : Store), evSs g' s (shE S0 ρ) (shS S0 S) = shR S0 (shF S0) (evSs g s ρ S)
  | .nil, ρ, S => rfl
  | .cons a r, ρ, S => by
    unfold evSs
    refine shR_bind (fr_S h a ρ S) fun f S1 => ?_
    cases f with
    | nx ρ1 => exact fr_Ss h r ρ1 S1
    | rt u => rfl
end
theorem sh_finish (S0 : Store) (mk : Bool) (n0 : Nat) (r : Ev.R F) : Ev.finish mk (S0.length + n0) (shR S0 (shF S0) r) = shR S0 (sh S0) (Ev.finish mk n0 r) := by
  cases r with
  | bad => rfl
  | exc c S => show Ev.R.exc c _ = .exc c _; rw [shS_take]
  | ok f S => cases f with
    | nx ρ => show Ev.R.ok _ _ = .ok _ _; rw [shS_take]; rfl
    | rt u => cases u with
      | d p =>
        cases mk
        · show Ev.R.ok _ _ = .ok _ _; simp only [Bool.false_eq_true, if_false]; rw [shS_take]; rfl
        · rfl
      | ref i =>
        cases mk
        · show (if false = true then Ev.R.ok (U.ref (S0.length + i)) (shS S0 S) else if S0.length + i < S0.length + n0 then Ev.R.ok (U.ref (S0.length + i)) ((shS S0 S).take (S0.length + n0)) else match deref (shS S0 S) (sh S0 (.ref i)) with
            | some p => Ev.R.ok (U.d p) ((shS S0 S).take (S0.length + n0))
            | none => .bad) = shR S0 (sh S0) (if false = true then Ev.R.ok (U.ref i) S else if i < n0 then Ev.R.ok (U.ref i) (S.take n0) else match deref S (.ref i) with
            | some p => Ev.R.ok (U.d p) (S.take n0)
            | none => .bad)
          simp only [Bool.false_eq_true, if_false]
          rw [sh_deref, shS_take]
          by_cases hi : i < n0
          · rw [if_pos hi, if_pos (by omega)]
            rfl
          · rw [if_neg hi, if_neg (by omega)]
            cases deref S (.ref i) <;> rfl
        · rfl
      | _ => rfl
theorem sh_start (S0 : Store) (nn : Nat) (us : List U) : Ev.start nn (us.map (sh S0)) = shE S0 (Ev.start nn us) := by
  unfold Ev.start shE
  rw [List.length_map, List.map_append, List.map_map, List.map_map, List.map_replicate]
  rfl
theorem fr_runF {S0 : Store} (T : Tab) {g g' : Cn} (h : FrN S0 g g') : FrC S0 (runF T g) (runF T g') := fun f us S => by
  unfold runF
  cases T.fns[f]? with
  | none => rfl
  | some fn =>
    dsimp only
    rw [List.length_map]
    split
    · rw [sh_start, shS_len, fr_Ss h, sh_finish]
    · rfl
theorem fr_call (S0 : Store) (T : Tab) : ∀ n, FrC S0 (callP T n).a (callP T n).a ∧ FrC S0 (callP T n).b (callP T n).b ∧ FrC S0 (callP T n).c (callP T n).c
  | 0 => ⟨fun _ _ _ => rfl, fun _ _ _ => rfl, fun _ _ _ => rfl⟩
  | n + 1 => by
    obtain ⟨h1, h2, h3⟩ := fr_call S0 T n
    exact ⟨fr_runF T ⟨h1, .inr ⟨_, _, rfl, rfl, h3⟩, rfl⟩, h1, h2⟩
/-- a call upon data, wherever it stands -/
theorem call_any {T : Tab} {n i : Nat} {ps : List PyData} {p : PyData} (h : callN T n i (ps.map .d) [] = .ok (.d p) []) (S : Store) : callN T n i (ps.map .d) S = .ok (.d p) S := by
  have q := (fr_call S T n).1 i (ps.map .d) []
  rw [List.map_map] at q
  have e1 : shS S [] = S := by unfold shS; simp
  have e2 : ps.map (sh S ∘ U.d) = ps.map U.d := rfl
  rw [e1, e2, show (callP T n).a = callN T n from rfl, h] at q
  rw [q]
  show Ev.R.ok (U.d p) (shS S []) = _
  rw [e1]
theorem call_anyX {T : Tab} {n i : Nat} {ps : List PyData} {c : Nat} (h : callN T n i (ps.map .d) [] = .exc c []) (S : Store) : callN T n i (ps.map .d) S = .exc c S := by
  have q := (fr_call S T n).1 i (ps.map .d) []
  rw [List.map_map] at q
  have e1 : shS S [] = S := by unfold shS; simp
  have e2 : ps.map (sh S ∘ U.d) = ps.map U.d := rfl
  rw [e1, e2, show (callP T n).a = callN T n from rfl, h] at q
  rw [q]
  show Ev.R.exc c (shS S []) = _
  rw [e1]
theorem ev_cmpR {g : Cn} {o : CmpOp} {a b : Ev.X} {ρ : Rho} {S S1 S2 : Store} {x y : U} {p q : PyData} {k : Bool} (h : evX g a ρ S = .ok x S1) (h2 : evX g b ρ S1 = .ok y S2) (hx : deref S2 x = some p) (hy : deref S2 y = some q) (h3 : cmpD o p q = some k) : evX g (.cmp o a b) ρ S = .ok (.d (.bool k)) S2 := by
  unfold evX
  rw [h, b_ok, h2, b_ok]
  unfold cmpU
  rw [hx, hy, Option.bind_some, Option.bind_some, h3]
  rfl
end Ev
end

section
set_option Elab.async false
set_option linter.all false
set_option maxRecDepth 100000
set_option maxHeartbeats 0
namespace K01
open PySem PySem.Spec PyProof.Rows L2 Ev
def top (i : Nat) : Stmt := PySem.Challenge.pw_stripwalks_k01_strips_known.main.body.getD i (.Pass ⟨0, 0, 0, 0⟩)
def row0 : Ev.Row := ⟨"is_whole", top 20, ["value", "low", "high"], ["value", "low", "high"], [], false, false⟩
def row1 : Ev.Row := ⟨"fits_strip", top 21, ["value"], ["value"], [], false, false⟩
def row2 : Ev.Row := ⟨"fits_string", top 22, ["rows", "value", "sign"], ["rows", "value"], [], false, false⟩
def row3 : Ev.Row := ⟨"fits_drawing", top 23, ["strip", "value", "string"], ["strip", "value"], [], false, false⟩
def row4 : Ev.Row := ⟨"fits_place", top 24, ["strip", "value"], ["strip", "value"], [], false, false⟩
def row5 : Ev.Row := ⟨"fits_tie", top 25, ["strip", "value", "column", "row", "later", "higher", "place"], ["strip", "value"], [], false, false⟩
def row6 : Ev.Row := ⟨"sign_of", top 26, ["strip", "tie", "column", "row", "later", "higher"], ["strip", "tie"], [], false, false⟩
def row7 : Ev.Row := ⟨"tie_at", top 27, ["strip", "column", "number", "row"], ["strip", "column", "number"], [], false, false⟩
def row8 : Ev.Row := ⟨"all_ties", top 28, ["strip", "drawing", "found", "column", "string", "number", "sign"], ["strip", "drawing"], [], false, false⟩
def row9 : Ev.Row := ⟨"drawn", top 29, ["strip", "ties", "signs", "found", "column", "string", "tie", "number"], ["strip", "ties"], [], false, false⟩
def row10 : Ev.Row := ⟨"need_strip", top 30, ["value"], ["value"], [], false, false⟩
def row11 : Ev.Row := ⟨"need_drawing", top 31, ["strip", "value"], ["strip", "value"], [], false, false⟩
def row12 : Ev.Row := ⟨"is_strip", top 32, ["value"], ["value"], [], false, false⟩
def row13 : Ev.Row := ⟨"is_drawing", top 33, ["strip", "value"], ["strip", "value"], [], false, false⟩
def row14 : Ev.Row := ⟨"ties_of", top 34, ["strip", "drawing"], ["strip", "drawing"], [], false, false⟩
def row15 : Ev.Row := ⟨"drawing_of", top 35, ["strip", "ties", "tie"], ["strip", "ties"], [], false, false⟩
def row16 : Ev.Row := ⟨"_law_drum", top 37, ["_law_cell", "_law_turn", "_law_great"], ["_law_cell", "_law_turn"], [], false, true⟩
def row17 : Ev.Row := ⟨"_law_roll", top 38, ["_law_drum_here", "_law_many", "_law_deep", "_law_found"], ["_law_drum_here", "_law_many"], ["_law_drum_here"], false, false⟩
def row18 : Ev.Row := ⟨"_law_some", top 39, ["_law_drum_here", "_law_things"], ["_law_drum_here", "_law_things"], [], false, false⟩
def row19 : Ev.Row := ⟨"_law_places", top 40, ["_law_strip_here", "_law_found", "_law_column", "_law_row"], ["_law_strip_here"], [], false, false⟩
def row20 : Ev.Row := ⟨"_law_ties", top 41, ["_law_strip_here", "_law_found", "_law_column", "_law_row"], ["_law_strip_here"], [], false, false⟩
def row21 : Ev.Row := ⟨"_law_drawn", top 42, ["_law_strip_here", "_law_ties_here", "_law_found", "_law_column", "_law_string", "_law_row"], ["_law_strip_here", "_law_ties_here"], ["_law_found"], false, false⟩
def row22 : Ev.Row := ⟨"_law_ties_of", top 43, ["_law_strip_here", "_law_drawing", "_law_found", "_law_tie", "_law_at", "_law_column", "_law_row", "_law_later", "_law_higher"], ["_law_strip_here", "_law_drawing"], ["_law_found"], false, false⟩
def row23 : Ev.Row := ⟨"_law_near", top 44, ["_law_strip_here", "_law_place", "_law_some_here", "_law_column", "_law_row", "_law_other"], ["_law_strip_here", "_law_place"], [], false, false⟩
def row24 : Ev.Row := ⟨"_law_strip", top 45, ["_law_drum_here", "_law_most", "_law_rows"], ["_law_drum_here", "_law_most"], [], false, false⟩
def row25 : Ev.Row := ⟨"_law_walk", top 46, ["_law_drum_here", "_law_strip_here", "_law_places_here", "_law_found", "_law_turn", "_law_some_here", "_law_other"], ["_law_drum_here", "_law_strip_here"], [], false, false⟩
def row26 : Ev.Row := ⟨"_law_walk_ties", top 47, ["_law_walk_here", "_law_pairs", "_law_at", "_law_one", "_law_other"], ["_law_walk_here"], [], false, false⟩
def row27 : Ev.Row := ⟨"_law_any", top 48, ["_law_drum_here", "_law_strip_here", "_law_ties_here", "_law_every", "_law_way", "_law_tie", "_law_one"], ["_law_drum_here", "_law_strip_here"], [], false, false⟩
def row28 : Ev.Row := ⟨"_law_odd", top 49, ["_law_drum_here", "_law_depth", "_law_some_here", "_law_row", "_law_part"], ["_law_drum_here", "_law_depth"], [], false, false⟩
def row29 : Ev.Row := ⟨"_law_bent", top 50, ["_law_drum_here", "_law_value", "_law_near_here", "_law_at", "_law_way"], ["_law_drum_here", "_law_value"], [], false, false⟩
def row30 : Ev.Row := ⟨"_law_whole", top 53, ["_law_value", "_law_low", "_law_high"], ["_law_value", "_law_low", "_law_high"], [], false, false⟩
def row31 : Ev.Row := ⟨"_law_is_strip", top 54, ["_law_value"], ["_law_value"], [], false, false⟩
def row32 : Ev.Row := ⟨"_law_is_drawing", top 55, ["_law_strip_here", "_law_value", "_law_string"], ["_law_strip_here", "_law_value"], [], false, false⟩
def row33 : Ev.Row := ⟨"_law_are_ties", top 56, ["_law_strip_here", "_law_value", "_law_tie", "_law_place"], ["_law_strip_here", "_law_value"], [], false, false⟩
def row34 : Ev.Row := ⟨"_law_judged", top 57, ["_law_value", "_law_good", "_law_found"], ["_law_value"], ["_law_found"], true, false⟩
def row35 : Ev.Row := ⟨"law", top 58, ["_law_script", "_law_cell", "_law_told", "_law_drum_here", "_law_turn", "_law_some_here", "_law_line", "_law_strip_here", "_law_drawing", "_law_ties_here", "_law_value", "_law_step", "_law_bent_here", "_law_good"], ["_law_script"], [], true, false⟩
def rows : List Ev.Row := [row0, row1, row2, row3, row4, row5, row6, row7, row8, row9, row10, row11, row12, row13, row14, row15, row16, row17, row18, row19, row20, row21, row22, row23, row24, row25, row26, row27, row28, row29, row30, row31, row32, row33, row34, row35]
def clsN : List Str := ["InvalidStrip", "InvalidDrawing", "InvalidTies"]
def conI : List (Str × Int) := [("LONG", 60)]
def top_law_names : Stmt := top 51
def N_law_names : List Str := ["_law_e", "_law_some_here", "_law_labels", "_law_label", "_law_good"]
def top_law_error : Stmt := top 52
def N_law_error : List Str := ["_law_call", "_law_e"]
-- classes: WalkError:1 InvalidStrip:2 InvalidKind:3 InvalidDrawing:4 InvalidPlace:5 InvalidWalk:6 InvalidTie:7 InvalidTies:8 InvalidIndex:9 InvalidNumber:10 InvalidColumn:11 InvalidWay:12 InvalidText:13 Blocked:14 Unlike:15 NothingToUndo:16 TooMany:17

def nmL : List Str := ["strip value", "drawing value", "ties value"]
def own : List Str := ["InvalidStrip", "InvalidKind", "InvalidDrawing", "InvalidPlace", "InvalidWalk", "InvalidTie", "InvalidTies", "InvalidIndex", "InvalidNumber", "InvalidColumn", "InvalidWay", "InvalidText", "Blocked", "Unlike", "NothingToUndo", "TooMany"]
def pg : Pg := ⟨rows, clsN, nmL, conI, own, top_law_error, top_law_names, N_law_error, N_law_names, [], "/claim/cut.py"⟩
theorem bnd0 : row0.Bnd := fun _ _ _ _ _ _ us hl => match us, hl with | [_, _, _], _ => rfl
theorem bnd1 : row1.Bnd := fun _ _ _ _ _ _ us hl => match us, hl with | [_], _ => rfl
theorem bnd2 : row2.Bnd := fun _ _ _ _ _ _ us hl => match us, hl with | [_, _], _ => rfl
theorem bnd3 : row3.Bnd := fun _ _ _ _ _ _ us hl => match us, hl with | [_, _], _ => rfl
theorem bnd4 : row4.Bnd := fun _ _ _ _ _ _ us hl => match us, hl with | [_, _], _ => rfl
theorem bnd5 : row5.Bnd := fun _ _ _ _ _ _ us hl => match us, hl with | [_, _], _ => rfl
theorem bnd6 : row6.Bnd := fun _ _ _ _ _ _ us hl => match us, hl with | [_, _], _ => rfl
theorem bnd7 : row7.Bnd := fun _ _ _ _ _ _ us hl => match us, hl with | [_, _, _], _ => rfl
theorem bnd8 : row8.Bnd := fun _ _ _ _ _ _ us hl => match us, hl with | [_, _], _ => rfl
theorem bnd9 : row9.Bnd := fun _ _ _ _ _ _ us hl => match us, hl with | [_, _], _ => rfl
theorem bnd10 : row10.Bnd := fun _ _ _ _ _ _ us hl => match us, hl with | [_], _ => rfl
theorem bnd11 : row11.Bnd := fun _ _ _ _ _ _ us hl => match us, hl with | [_, _], _ => rfl
theorem bnd12 : row12.Bnd := fun _ _ _ _ _ _ us hl => match us, hl with | [_], _ => rfl
theorem bnd13 : row13.Bnd := fun _ _ _ _ _ _ us hl => match us, hl with | [_, _], _ => rfl
theorem bnd14 : row14.Bnd := fun _ _ _ _ _ _ us hl => match us, hl with | [_, _], _ => rfl
theorem bnd15 : row15.Bnd := fun _ _ _ _ _ _ us hl => match us, hl with | [_, _], _ => rfl
theorem bnd16 : row16.Bnd := fun _ _ _ _ _ _ us hl => match us, hl with | [_, _], _ => rfl
theorem bnd17 : row17.Bnd := fun _ _ _ _ _ _ us hl => match us, hl with | [_, _], _ => rfl
theorem bnd18 : row18.Bnd := fun _ _ _ _ _ _ us hl => match us, hl with | [_, _], _ => rfl
theorem bnd19 : row19.Bnd := fun _ _ _ _ _ _ us hl => match us, hl with | [_], _ => rfl
theorem bnd20 : row20.Bnd := fun _ _ _ _ _ _ us hl => match us, hl with | [_], _ => rfl
theorem bnd21 : row21.Bnd := fun _ _ _ _ _ _ us hl => match us, hl with | [_, _], _ => rfl
theorem bnd22 : row22.Bnd := fun _ _ _ _ _ _ us hl => match us, hl with | [_, _], _ => rfl
theorem bnd23 : row23.Bnd := fun _ _ _ _ _ _ us hl => match us, hl with | [_, _], _ => rfl
theorem bnd24 : row24.Bnd := fun _ _ _ _ _ _ us hl => match us, hl with | [_, _], _ => rfl
theorem bnd25 : row25.Bnd := fun _ _ _ _ _ _ us hl => match us, hl with | [_, _], _ => rfl
theorem bnd26 : row26.Bnd := fun _ _ _ _ _ _ us hl => match us, hl with | [_], _ => rfl
theorem bnd27 : row27.Bnd := fun _ _ _ _ _ _ us hl => match us, hl with | [_, _], _ => rfl
theorem bnd28 : row28.Bnd := fun _ _ _ _ _ _ us hl => match us, hl with | [_, _], _ => rfl
theorem bnd29 : row29.Bnd := fun _ _ _ _ _ _ us hl => match us, hl with | [_, _], _ => rfl
theorem bnd30 : row30.Bnd := fun _ _ _ _ _ _ us hl => match us, hl with | [_, _, _], _ => rfl
theorem bnd31 : row31.Bnd := fun _ _ _ _ _ _ us hl => match us, hl with | [_], _ => rfl
theorem bnd32 : row32.Bnd := fun _ _ _ _ _ _ us hl => match us, hl with | [_, _], _ => rfl
theorem bnd33 : row33.Bnd := fun _ _ _ _ _ _ us hl => match us, hl with | [_, _], _ => rfl
theorem bnd34 : row34.Bnd := fun _ _ _ _ _ _ us hl => match us, hl with | [_], _ => rfl
theorem bnd35 : row35.Bnd := fun _ _ _ _ _ _ us hl => match us, hl with | [_], _ => rfl

def fns : List Fn := rows.map fun r => (r.ir pg.g).getD ⟨0, 0, false, .nil⟩
theorem irAll : (rows.all fun r => (r.ir pg.g).isSome) = true := by decide +kernel
theorem scAll : (rows.all fun r => C8.scC r.N r.ps (L2.defScope r.st)) = true := by decide +kernel
theorem bndAll : ∀ r, r ∈ rows → r.Bnd := by
  intro r hr
  simp only [rows, List.mem_cons, List.not_mem_nil, or_false] at hr
  rcases hr with rfl | rfl | rfl | rfl | rfl | rfl | rfl | rfl | rfl | rfl | rfl | rfl | rfl | rfl | rfl | rfl | rfl | rfl | rfl | rfl | rfl | rfl | rfl | rfl | rfl | rfl | rfl | rfl | rfl | rfl | rfl | rfl | rfl | rfl | rfl | rfl
  · exact bnd0
  · exact bnd1
  · exact bnd2
  · exact bnd3
  · exact bnd4
  · exact bnd5
  · exact bnd6
  · exact bnd7
  · exact bnd8
  · exact bnd9
  · exact bnd10
  · exact bnd11
  · exact bnd12
  · exact bnd13
  · exact bnd14
  · exact bnd15
  · exact bnd16
  · exact bnd17
  · exact bnd18
  · exact bnd19
  · exact bnd20
  · exact bnd21
  · exact bnd22
  · exact bnd23
  · exact bnd24
  · exact bnd25
  · exact bnd26
  · exact bnd27
  · exact bnd28
  · exact bnd29
  · exact bnd30
  · exact bnd31
  · exact bnd32
  · exact bnd33
  · exact bnd34
  · exact bnd35
theorem ndAll : (rows.map (·.nm)).Nodup := by decide +kernel
def irN (c : Str) : Sts := (cHb N_law_names (pg.bit c) (L2.defScope top_law_names) (L2.defBody top_law_names)).getD .nil
theorem irN_ok : (clsN.all fun c => (cHb N_law_names (pg.bit c) (L2.defScope top_law_names) (L2.defBody top_law_names)).isSome) = true := by decide +kernel
theorem evN0 (g : Cn) (S : Store) : evSs g (irN "InvalidStrip") (List.replicate N_law_names.length none) S = .ok (.rt (.d (.str "strip value"))) S := by kernel_rfl
theorem evN1 (g : Cn) (S : Store) : evSs g (irN "InvalidDrawing") (List.replicate N_law_names.length none) S = .ok (.rt (.d (.str "drawing value"))) S := by kernel_rfl
theorem evN2 (g : Cn) (S : Store) : evSs g (irN "InvalidTies") (List.replicate N_law_names.length none) S = .ok (.rt (.d (.str "ties value"))) S := by kernel_rfl
theorem isSome_getD {α : Type} {o : Option α} {d : α} (h : o.isSome = true) : o = some (o.getD d) := by
  cases o with
  | none => cases h
  | some a => rfl
theorem irN_at {c : Str} (hc : c ∈ clsN) : cHb N_law_names (pg.bit c) (L2.defScope top_law_names) (L2.defBody top_law_names) = some (irN c) := isSome_getD (List.all_eq_true.mp irN_ok c hc)
theorem pgOk : PgOk pg fns where
  ir := fun i r hr => by
    have hr : rows[i]? = some r := hr
    refine ⟨(r.ir pg.g).getD ⟨0, 0, false, .nil⟩, ?_, isSome_getD (List.all_eq_true.mp irAll r (List.mem_of_getElem? hr))⟩
    unfold fns
    rw [List.getElem?_map, hr]
    rfl
  sc := fun r hr => C8.fnScope_by (List.all_eq_true.mp scAll r hr)
  bnd := bndAll
  nd := ndAll
  nmL := rfl
  scE := ⟨"_law_call", C8.fnScope_by (by decide +kernel), rfl, .inl (by decide +kernel), by decide +kernel, fun _ _ _ _ _ _ us hl => match us, hl with | [_], _ => rfl, "_law_e", _, _, _, _, _, _, _, _, _, _, _, _, _, by decide +kernel, rfl, by decide +kernel, by decide +kernel, by decide +kernel, by decide +kernel, rfl⟩
  scN := ⟨"_law_e", C8.fnScope_by (by decide +kernel), fun _ _ _ _ _ _ us hl => match us, hl with | [_], _ => rfl⟩
  nm := fun i c z h1 h2 => by
    have h1 : clsN[i]? = some c := h1
    have h2 : nmL[i]? = some z := h2
    have hc := irN_at (List.mem_of_getElem? h1)
    match i, h1, h2 with
    | 0, h1, h2 => cases h1; cases h2; exact ⟨_, hc, evN0⟩
    | 1, h1, h2 => cases h1; cases h2; exact ⟨_, hc, evN1⟩
    | 2, h1, h2 => cases h1; cases h2; exact ⟨_, hc, evN2⟩
/-! ### the head -/
abbrev theRow : PySem.W.OpenRow := PySem.W.OpenLaw.row PySem.Challenge.rw_stripwalks_k01_strips_known
abbrev hk : PySem.W.Hook := hookY 4 pg.fa pg.fn pg.tf pg.ex
def ob (s : PySem.W.SharedT) : He.AlX := obsY 4 pg.fa pg.fn pg.tf pg.ex (HandSHeadRun.getT s)
theorem ob_eq (s : PySem.W.SharedT) : ob s = hk.obs s.abs := obsY_eq (HandSHeadRun.getT_eq s)
def loose : List Str := ([("WalkError" : Str), ("InvalidStrip" : Str), ("InvalidKind" : Str), ("InvalidDrawing" : Str), ("InvalidPlace" : Str), ("InvalidWalk" : Str), ("InvalidTie" : Str), ("InvalidTies" : Str), ("InvalidIndex" : Str), ("InvalidNumber" : Str), ("InvalidColumn" : Str), ("InvalidWay" : Str), ("InvalidText" : Str), ("Blocked" : Str), ("Unlike" : Str), ("NothingToUndo" : Str), ("TooMany" : Str), ("LONG" : Str), ("is_whole" : Str), ("fits_strip" : Str), ("fits_string" : Str), ("fits_drawing" : Str), ("fits_place" : Str), ("fits_tie" : Str), ("sign_of" : Str), ("tie_at" : Str), ("all_ties" : Str), ("drawn" : Str), ("need_strip" : Str), ("need_drawing" : Str), ("is_strip" : Str), ("is_drawing" : Str), ("ties_of" : Str), ("drawing_of" : Str), ("_law_drum" : Str)] : List Str) ++ ([("_law_roll" : Str), ("_law_some" : Str), ("_law_places" : Str), ("_law_ties" : Str), ("_law_drawn" : Str), ("_law_ties_of" : Str), ("_law_near" : Str), ("_law_strip" : Str), ("_law_walk" : Str), ("_law_walk_ties" : Str), ("_law_any" : Str), ("_law_odd" : Str), ("_law_bent" : Str), ("_law_names" : Str), ("_law_error" : Str), ("_law_whole" : Str), ("_law_is_strip" : Str), ("_law_is_drawing" : Str), ("_law_are_ties" : Str), ("_law_judged" : Str)] : List Str)
theorem run (w : World) : HandSHeadRun.RunEq theRow (PySem.W.view theRow.prog [58]) hk ob 20000 loose w := by
  intro os
  kernel_rfl
/-- the plain law -/
def Plain : Prop := ∀ ns : List Int, ns.length ≤ 63 → (∀ z, z ∈ ns → Builtin.Int.intBits z ≤ 1048576) → ∃ S, callN ⟨fns, pg.nm⟩ 40 35 [.scr ns] [] = .ok (.d (.bool true)) S
end K01
open PySem PySem.W PySem.Calls PyProof.Rows in
theorem K01.holds_of (plain : K01.Plain) : PySem.Challenge.rw_stripwalks_k01_strips_known.Holds := by
  w_on; o_law
  refine HandSHeadRun.head_any (r := OpenLaw.row PySem.Challenge.rw_stripwalks_k01_strips_known) (q := view (OpenLaw.row PySem.Challenge.rw_stripwalks_k01_strips_known).prog [58]) (H := K01.hk) (ob := K01.ob) (M := 20000) (loose := K01.loose) (d := HandSHeadRun.topDef (OpenLaw.row PySem.Challenge.rw_stripwalks_k01_strips_known).prog 58) (kwd := []) K01.ob_eq
    (by kernel_rfl) (fun s => by kernel_rfl) K01.run (by kernel_rfl) (by kernel_rfl) (by kernel_rfl) (by rfl) (by first | assumption | decide +kernel) (by decide +kernel) ⟨rfl, rfl, rfl, rfl, rfl, by decide +kernel⟩ ?hw ?hc
  case hw => w_witness2
  case hc =>
    refine LamX.walk_ofTsE (l := PySem.Challenge.rw_stripwalks_k01_strips_known) (n := 63) (k := 42) (x := "_law_script") (CX := fun w => L2N.CX (PySem.Challenge.rw_stripwalks_k01_strips_known).prog w) rfl (by decide) (by kernel_rfl) ⟨rfl, by decide, by decide⟩ ?F (fun _ _ _ _ _ z => Ev.cx_none z)
    intro w mg fa h Y G hmg0
    obtain ⟨K, KX, c⟩ := Y
    have hmg : mg ("law" : PySem.Str) = some (.ref fa) := by
      have e : (HandSHeadRun.topDef (OpenLaw.row PySem.Challenge.rw_stripwalks_k01_strips_known).prog 58).name = ("law" : PySem.Str) := by kernel_rfl
      rw [← e]
      exact hmg0
    exact ⟨K, KX, Ev.lawAt_of (iL := 35) (r := K01.row35) K01.pgOk (fun _ => ⟨by kernel_rfl, by kernel_rfl⟩) c KX rfl rfl rfl hmg G plain⟩
end

section
set_option Elab.async false
set_option linter.all false
set_option maxRecDepth 100000
set_option maxHeartbeats 0
namespace K01
open PySem PySem.Spec PyProof.Rows L2 Ev
abbrev x_InvalidStrip : Nat := 0
abbrev x_InvalidDrawing : Nat := 1
abbrev x_InvalidTies : Nat := 2
abbrev i_Pis_whole : Nat := 0
abbrev i_Pfits_strip : Nat := 1
abbrev i_Pfits_string : Nat := 2
abbrev i_Pfits_drawing : Nat := 3
abbrev i_Pfits_place : Nat := 4
abbrev i_Pfits_tie : Nat := 5
abbrev i_Psign_of : Nat := 6
abbrev i_Ptie_at : Nat := 7
abbrev i_Pall_ties : Nat := 8
abbrev i_Pdrawn : Nat := 9
abbrev i_Pneed_strip : Nat := 10
abbrev i_Pneed_drawing : Nat := 11
abbrev i_Pis_strip : Nat := 12
abbrev i_Pis_drawing : Nat := 13
abbrev i_Pties_of : Nat := 14
abbrev i_Pdrawing_of : Nat := 15
abbrev i_Ldrum : Nat := 16
abbrev i_Lroll : Nat := 17
abbrev i_Lsome : Nat := 18
abbrev i_Lplaces : Nat := 19
abbrev i_Lties : Nat := 20
abbrev i_Ldrawn : Nat := 21
abbrev i_Lties_of : Nat := 22
abbrev i_Lnear : Nat := 23
abbrev i_Lstrip : Nat := 24
abbrev i_Lwalk : Nat := 25
abbrev i_Lwalk_ties : Nat := 26
abbrev i_Lany : Nat := 27
abbrev i_Lodd : Nat := 28
abbrev i_Lbent : Nat := 29
abbrev i_Lwhole : Nat := 30
abbrev i_Lis_strip : Nat := 31
abbrev i_Lis_drawing : Nat := 32
abbrev i_Lare_ties : Nat := 33
abbrev i_Ljudged : Nat := 34
abbrev i_Llaw : Nat := 35
def ir_Pis_whole : Sts := (.cons (.ret (.and (.blt (.isi "int") (.loc 0)) (.and (.not (.blt (.isi "bool") (.loc 0))) (.chn .LtE .LtE (.loc 1) (.loc 0) (.loc 2))))) .nil)
theorem ir_Pis_whole_ok : row0.ir pg.g = some ⟨3, 3, false, ir_Pis_whole⟩ := by kernel_rfl
theorem at_Pis_whole : fns[i_Pis_whole]? = some ⟨3, 3, false, ir_Pis_whole⟩ := by
  show some ((row0.ir pg.g).getD ⟨0, 0, false, .nil⟩) = _
  rw [ir_Pis_whole_ok]
  rfl
def ir_Pfits_strip : Sts := (.cons (.iff (.or (.not (.blt (.isi "tuple") (.loc 0))) (.cmp .NotEq (.blt .len (.loc 0)) (.con (.int 2)))) (.cons (.ret (.con (.bool false))) .nil) .nil) (.cons (.ret (.and (.call i_Pis_whole (.cons (.idx (.loc 0) (.con (.int 0))) (.cons (.con (.int 1)) (.cons (.con (.int 3)) .nil)))) (.call i_Pis_whole (.cons (.idx (.loc 0) (.con (.int 1))) (.cons (.con (.int 1)) (.cons (.con (.int 60)) .nil)))))) .nil))
theorem ir_Pfits_strip_ok : row1.ir pg.g = some ⟨1, 1, false, ir_Pfits_strip⟩ := by kernel_rfl
theorem at_Pfits_strip : fns[i_Pfits_strip]? = some ⟨1, 1, false, ir_Pfits_strip⟩ := by
  show some ((row1.ir pg.g).getD ⟨0, 0, false, .nil⟩) = _
  rw [ir_Pfits_strip_ok]
  rfl
def ir_Pfits_string : Sts := (.cons (.iff (.or (.not (.blt (.isi "str") (.loc 1))) (.cmp .NotEq (.blt .len (.loc 1)) (.bin .Sub (.bin .Mult (.con (.int 2)) (.loc 0)) (.con (.int 1))))) (.cons (.ret (.con (.bool false))) .nil) .nil) (.cons (.ret (.blt .all (.lc [2] (.nm 2) (.val (.loc 1)) .nil (.cmp .In (.loc 2) (.tup (.cons (.con (.str "0")) (.cons (.con (.str "1")) .nil))))))) .nil))
theorem ir_Pfits_string_ok : row2.ir pg.g = some ⟨2, 3, false, ir_Pfits_string⟩ := by kernel_rfl
theorem at_Pfits_string : fns[i_Pfits_string]? = some ⟨2, 3, false, ir_Pfits_string⟩ := by
  show some ((row2.ir pg.g).getD ⟨0, 0, false, .nil⟩) = _
  rw [ir_Pfits_string_ok]
  rfl
def ir_Pfits_drawing : Sts := (.cons (.iff (.or (.not (.blt (.isi "tuple") (.loc 1))) (.cmp .NotEq (.blt .len (.loc 1)) (.idx (.loc 0) (.con (.int 1))))) (.cons (.ret (.con (.bool false))) .nil) .nil) (.cons (.ret (.and (.blt .all (.lc [2] (.nm 2) (.val (.loc 1)) .nil (.call i_Pfits_string (.cons (.idx (.loc 0) (.con (.int 0))) (.cons (.loc 2) .nil))))) (.cmp .NotIn (.con (.str "1")) (.slc (.idx (.loc 1) (.neg (.con (.int 1)))) (.cons (.bin .Sub (.idx (.loc 0) (.con (.int 0))) (.con (.int 1))) .nil) .nil)))) .nil))
theorem ir_Pfits_drawing_ok : row3.ir pg.g = some ⟨2, 3, false, ir_Pfits_drawing⟩ := by kernel_rfl
theorem at_Pfits_drawing : fns[i_Pfits_drawing]? = some ⟨2, 3, false, ir_Pfits_drawing⟩ := by
  show some ((row3.ir pg.g).getD ⟨0, 0, false, .nil⟩) = _
  rw [ir_Pfits_drawing_ok]
  rfl
def ir_Pfits_place : Sts := (.cons (.iff (.or (.not (.blt (.isi "tuple") (.loc 1))) (.cmp .NotEq (.blt .len (.loc 1)) (.con (.int 2)))) (.cons (.ret (.con (.bool false))) .nil) .nil) (.cons (.ret (.and (.call i_Pis_whole (.cons (.idx (.loc 1) (.con (.int 0))) (.cons (.con (.int 0)) (.cons (.bin .Sub (.idx (.loc 0) (.con (.int 1))) (.con (.int 1))) .nil)))) (.call i_Pis_whole (.cons (.idx (.loc 1) (.con (.int 1))) (.cons (.con (.int 0)) (.cons (.bin .Sub (.idx (.loc 0) (.con (.int 0))) (.con (.int 1))) .nil)))))) .nil))
theorem ir_Pfits_place_ok : row4.ir pg.g = some ⟨2, 2, false, ir_Pfits_place⟩ := by kernel_rfl
theorem at_Pfits_place : fns[i_Pfits_place]? = some ⟨2, 2, false, ir_Pfits_place⟩ := by
  show some ((row4.ir pg.g).getD ⟨0, 0, false, .nil⟩) = _
  rw [ir_Pfits_place_ok]
  rfl
abbrev e_Pfits_tie : X := (.call i_Pfits_place (.cons (.loc 0) (.cons (.loc 6) .nil)))
def ir_Pfits_tie : Sts := (.cons (.iff (.or (.not (.blt (.isi "tuple") (.loc 1))) (.or (.cmp .NotEq (.blt .len (.loc 1)) (.con (.int 2))) (.not (.blt .all (.lc [6] (.nm 6) (.val (.loc 1)) .nil e_Pfits_tie))))) (.cons (.ret (.con (.bool false))) .nil) .nil) (.cons (.sett (.cons (.cons (.nm 2) (.cons (.nm 3) .nil)) (.cons (.cons (.nm 4) (.cons (.nm 5) .nil)) .nil)) (.loc 1)) (.cons (.ret (.cmp .In (.tup (.cons (.bin .Sub (.loc 4) (.loc 2)) (.cons (.bin .Sub (.loc 5) (.loc 3)) .nil))) (.tup (.cons (.tup (.cons (.con (.int 1)) (.cons (.con (.int 0)) .nil))) (.cons (.tup (.cons (.con (.int 0)) (.cons (.con (.int 1)) .nil))) .nil))))) .nil)))
theorem ir_Pfits_tie_ok : row5.ir pg.g = some ⟨2, 7, false, ir_Pfits_tie⟩ := by kernel_rfl
theorem at_Pfits_tie : fns[i_Pfits_tie]? = some ⟨2, 7, false, ir_Pfits_tie⟩ := by
  show some ((row5.ir pg.g).getD ⟨0, 0, false, .nil⟩) = _
  rw [ir_Pfits_tie_ok]
  rfl
def ir_Psign_of : Sts := (.cons (.sett (.cons (.cons (.nm 2) (.cons (.nm 3) .nil)) (.cons (.cons (.nm 4) (.cons (.nm 5) .nil)) .nil)) (.loc 1)) (.cons (.ret (.tup (.cons (.loc 2) (.cons (.ife (.cmp .Eq (.loc 4) (.loc 2)) (.loc 3) (.bin .Add (.bin .Sub (.idx (.loc 0) (.con (.int 0))) (.con (.int 1))) (.loc 3))) .nil)))) .nil))
theorem ir_Psign_of_ok : row6.ir pg.g = some ⟨2, 6, false, ir_Psign_of⟩ := by kernel_rfl
theorem at_Psign_of : fns[i_Psign_of]? = some ⟨2, 6, false, ir_Psign_of⟩ := by
  show some ((row6.ir pg.g).getD ⟨0, 0, false, .nil⟩) = _
  rw [ir_Psign_of_ok]
  rfl
def ir_Ptie_at : Sts := (.cons (.iff (.cmp .Lt (.loc 2) (.bin .Sub (.idx (.loc 0) (.con (.int 0))) (.con (.int 1)))) (.cons (.ret (.tup (.cons (.tup (.cons (.loc 1) (.cons (.loc 2) .nil))) (.cons (.tup (.cons (.loc 1) (.cons (.bin .Add (.loc 2) (.con (.int 1))) .nil))) .nil)))) .nil) .nil) (.cons (.set 3 (.bin .Add (.bin .Sub (.loc 2) (.idx (.loc 0) (.con (.int 0)))) (.con (.int 1)))) (.cons (.ret (.tup (.cons (.tup (.cons (.loc 1) (.cons (.loc 3) .nil))) (.cons (.tup (.cons (.bin .Add (.loc 1) (.con (.int 1))) (.cons (.loc 3) .nil))) .nil)))) .nil)))
theorem ir_Ptie_at_ok : row7.ir pg.g = some ⟨3, 4, false, ir_Ptie_at⟩ := by kernel_rfl
theorem at_Ptie_at : fns[i_Ptie_at]? = some ⟨3, 4, false, ir_Ptie_at⟩ := by
  show some ((row7.ir pg.g).getD ⟨0, 0, false, .nil⟩) = _
  rw [ir_Ptie_at_ok]
  rfl
abbrev t_Pall_ties : Xs := (.cons (.cmp .Eq (.loc 6) (.con (.str "1"))) .nil)
abbrev e_Pall_ties : X := (.call i_Ptie_at (.cons (.loc 0) (.cons (.loc 3) (.cons (.loc 5) .nil))))
abbrev b_Pall_ties : Sts := (.cons (.set 2 (.bin .Add (.loc 2) (.lc [5, 6] (.cons (.nm 5) (.cons (.nm 6) .nil)) (.enm (.loc 4)) t_Pall_ties e_Pall_ties))) .nil)
def ir_Pall_ties : Sts := (.cons (.set 2 (.lst .nil)) (.cons (.forr (.cons (.nm 3) (.cons (.nm 4) .nil)) (.enm (.loc 1)) b_Pall_ties) (.cons (.ret (.blt .sorted (.loc 2))) .nil)))
theorem ir_Pall_ties_ok : row8.ir pg.g = some ⟨2, 7, false, ir_Pall_ties⟩ := by kernel_rfl
theorem at_Pall_ties : fns[i_Pall_ties]? = some ⟨2, 7, false, ir_Pall_ties⟩ := by
  show some ((row8.ir pg.g).getD ⟨0, 0, false, .nil⟩) = _
  rw [ir_Pall_ties_ok]
  rfl
abbrev e_Pdrawn : X := (.call i_Psign_of (.cons (.loc 0) (.cons (.loc 6) .nil)))
abbrev e1_Pdrawn : X := (.ife (.cmp .In (.tup (.cons (.loc 4) (.cons (.loc 7) .nil))) (.loc 2)) (.con (.str "1")) (.con (.str "0")))
abbrev b_Pdrawn : Sts := (.cons (.set 5 (.lc [7] (.nm 7) (.rng (.cons (.bin .Sub (.bin .Mult (.con (.int 2)) (.idx (.loc 0) (.con (.int 0)))) (.con (.int 1))) .nil)) .nil e1_Pdrawn)) (.cons (.set 3 (.bin .Add (.loc 3) (.tup (.cons (.mth .join (.con (.str "")) (.cons (.loc 5) .nil)) .nil)))) .nil))
def ir_Pdrawn : Sts := (.cons (.set 2 (.lc [6] (.nm 6) (.val (.loc 1)) .nil e_Pdrawn)) (.cons (.set 3 (.tup .nil)) (.cons (.forr (.nm 4) (.rng (.cons (.idx (.loc 0) (.con (.int 1))) .nil)) b_Pdrawn) (.cons (.ret (.loc 3)) .nil))))
theorem ir_Pdrawn_ok : row9.ir pg.g = some ⟨2, 8, false, ir_Pdrawn⟩ := by kernel_rfl
theorem at_Pdrawn : fns[i_Pdrawn]? = some ⟨2, 8, false, ir_Pdrawn⟩ := by
  show some ((row9.ir pg.g).getD ⟨0, 0, false, .nil⟩) = _
  rw [ir_Pdrawn_ok]
  rfl
def ir_Pneed_strip : Sts := (.cons (.iff (.not (.call i_Pfits_strip (.cons (.loc 0) .nil))) (.cons (.rais x_InvalidStrip .nil) .nil) .nil) .nil)
theorem ir_Pneed_strip_ok : row10.ir pg.g = some ⟨1, 1, false, ir_Pneed_strip⟩ := by kernel_rfl
theorem at_Pneed_strip : fns[i_Pneed_strip]? = some ⟨1, 1, false, ir_Pneed_strip⟩ := by
  show some ((row10.ir pg.g).getD ⟨0, 0, false, .nil⟩) = _
  rw [ir_Pneed_strip_ok]
  rfl
def ir_Pneed_drawing : Sts := (.cons (.iff (.not (.call i_Pfits_drawing (.cons (.loc 0) (.cons (.loc 1) .nil)))) (.cons (.rais x_InvalidDrawing .nil) .nil) .nil) .nil)
theorem ir_Pneed_drawing_ok : row11.ir pg.g = some ⟨2, 2, false, ir_Pneed_drawing⟩ := by kernel_rfl
theorem at_Pneed_drawing : fns[i_Pneed_drawing]? = some ⟨2, 2, false, ir_Pneed_drawing⟩ := by
  show some ((row11.ir pg.g).getD ⟨0, 0, false, .nil⟩) = _
  rw [ir_Pneed_drawing_ok]
  rfl
def ir_Pis_strip : Sts := (.cons (.ret (.call i_Pfits_strip (.cons (.loc 0) .nil))) .nil)
theorem ir_Pis_strip_ok : row12.ir pg.g = some ⟨1, 1, false, ir_Pis_strip⟩ := by kernel_rfl
theorem at_Pis_strip : fns[i_Pis_strip]? = some ⟨1, 1, false, ir_Pis_strip⟩ := by
  show some ((row12.ir pg.g).getD ⟨0, 0, false, .nil⟩) = _
  rw [ir_Pis_strip_ok]
  rfl
def ir_Pis_drawing : Sts := (.cons (.exp (.call i_Pneed_strip (.cons (.loc 0) .nil))) (.cons (.ret (.call i_Pfits_drawing (.cons (.loc 0) (.cons (.loc 1) .nil)))) .nil))
theorem ir_Pis_drawing_ok : row13.ir pg.g = some ⟨2, 2, false, ir_Pis_drawing⟩ := by kernel_rfl
theorem at_Pis_drawing : fns[i_Pis_drawing]? = some ⟨2, 2, false, ir_Pis_drawing⟩ := by
  show some ((row13.ir pg.g).getD ⟨0, 0, false, .nil⟩) = _
  rw [ir_Pis_drawing_ok]
  rfl
def ir_Pties_of : Sts := (.cons (.exp (.call i_Pneed_strip (.cons (.loc 0) .nil))) (.cons (.exp (.call i_Pneed_drawing (.cons (.loc 0) (.cons (.loc 1) .nil)))) (.cons (.ret (.call i_Pall_ties (.cons (.loc 0) (.cons (.loc 1) .nil)))) .nil)))
theorem ir_Pties_of_ok : row14.ir pg.g = some ⟨2, 2, false, ir_Pties_of⟩ := by kernel_rfl
theorem at_Pties_of : fns[i_Pties_of]? = some ⟨2, 2, false, ir_Pties_of⟩ := by
  show some ((row14.ir pg.g).getD ⟨0, 0, false, .nil⟩) = _
  rw [ir_Pties_of_ok]
  rfl
abbrev e_Pdrawing_of : X := (.call i_Pfits_tie (.cons (.loc 0) (.cons (.loc 2) .nil)))
def ir_Pdrawing_of : Sts := (.cons (.exp (.call i_Pneed_strip (.cons (.loc 0) .nil))) (.cons (.iff (.or (.not (.blt (.isi "tuple") (.loc 1))) (.or (.not (.blt .all (.lc [2] (.nm 2) (.val (.loc 1)) .nil e_Pdrawing_of))) (.cmp .NotEq (.blt .lenset (.loc 1)) (.blt .len (.loc 1))))) (.cons (.rais x_InvalidTies .nil) .nil) .nil) (.cons (.ret (.call i_Pdrawn (.cons (.loc 0) (.cons (.loc 1) .nil)))) .nil)))
theorem ir_Pdrawing_of_ok : row15.ir pg.g = some ⟨2, 3, false, ir_Pdrawing_of⟩ := by kernel_rfl
theorem at_Pdrawing_of : fns[i_Pdrawing_of]? = some ⟨2, 3, false, ir_Pdrawing_of⟩ := by
  show some ((row15.ir pg.g).getD ⟨0, 0, false, .nil⟩) = _
  rw [ir_Pdrawing_of_ok]
  rfl
def ir_Ldrum : Sts := (.cons (.set 2 (.ife (.cmp .GtE (.loc 0) (.bin .Pow (.con (.int 10)) (.con (.int 18)))) (.bin .Add (.bin .FloorDiv (.loc 0) (.con (.int 7))) (.bin .Mult (.con (.int 61)) (.loc 1))) (.con (.int 0)))) (.cons (.ret (.box (.cons (.loc 2) (.cons (.bin .Add (.bin .Mod (.blt .int (.bin .Add (.bin .Mult (.loc 0) (.con (.int 97))) (.bin .Mult (.con (.int 1087)) (.loc 1)))) (.con (.int 2077504273))) (.con (.int 71))) .nil)))) .nil))
theorem ir_Ldrum_ok : row16.ir pg.g = some ⟨2, 3, true, ir_Ldrum⟩ := by kernel_rfl
theorem at_Ldrum : fns[i_Ldrum]? = some ⟨2, 3, true, ir_Ldrum⟩ := by
  show some ((row16.ir pg.g).getD ⟨0, 0, false, .nil⟩) = _
  rw [ir_Ldrum_ok]
  rfl
def ir_Lroll : Sts := (.cons (.iff (.cmp .Gt (.idx (.loc 0) (.con (.int 0))) (.con (.int 0))) (.cons (.set 3 (.bin .Mod (.blt .int (.idx (.loc 0) (.con (.int 0)))) (.loc 1))) (.cons (.seti 0 (.con (.int 0)) (.bin .FloorDiv (.idx (.loc 0) (.con (.int 0))) (.loc 1))) (.cons (.ret (.loc 3)) .nil))) .nil) (.cons (.seti 0 (.con (.int 1)) (.bin .Mod (.blt .int (.bin .Add (.bin .Mult (.idx (.loc 0) (.con (.int 1))) (.con (.int 30671))) (.con (.int 8807)))) (.con (.int 2147483549)))) (.cons (.set 2 (.bin .Mod (.blt .int (.bin .Mult (.idx (.loc 0) (.con (.int 1))) (.bin .Add (.idx (.loc 0) (.con (.int 1))) (.con (.int 101))))) (.con (.int 2147483587)))) (.cons (.ret (.bin .Mod (.blt .int (.bin .FloorDiv (.loc 2) (.con (.int 613)))) (.loc 1))) .nil))))
theorem ir_Lroll_ok : row17.ir pg.g = some ⟨2, 4, false, ir_Lroll⟩ := by kernel_rfl
theorem at_Lroll : fns[i_Lroll]? = some ⟨2, 4, false, ir_Lroll⟩ := by
  show some ((row17.ir pg.g).getD ⟨0, 0, false, .nil⟩) = _
  rw [ir_Lroll_ok]
  rfl
def ir_Lsome : Sts := (.cons (.ret (.idx (.loc 1) (.call i_Lroll (.cons (.loc 0) (.cons (.blt .len (.loc 1)) .nil))))) .nil)
theorem ir_Lsome_ok : row18.ir pg.g = some ⟨2, 2, false, ir_Lsome⟩ := by kernel_rfl
theorem at_Lsome : fns[i_Lsome]? = some ⟨2, 2, false, ir_Lsome⟩ := by
  show some ((row18.ir pg.g).getD ⟨0, 0, false, .nil⟩) = _
  rw [ir_Lsome_ok]
  rfl
def ir_Lplaces : Sts := (.cons (.set 1 (.lst .nil)) (.cons (.forr (.nm 2) (.rng (.cons (.idx (.loc 0) (.con (.int 1))) .nil)) (.cons (.set 1 (.bin .Add (.loc 1) (.lc [3] (.nm 3) (.rng (.cons (.idx (.loc 0) (.con (.int 0))) .nil)) .nil (.tup (.cons (.loc 2) (.cons (.loc 3) .nil)))))) .nil)) (.cons (.ret (.loc 1)) .nil)))
theorem ir_Lplaces_ok : row19.ir pg.g = some ⟨1, 4, false, ir_Lplaces⟩ := by kernel_rfl
theorem at_Lplaces : fns[i_Lplaces]? = some ⟨1, 4, false, ir_Lplaces⟩ := by
  show some ((row19.ir pg.g).getD ⟨0, 0, false, .nil⟩) = _
  rw [ir_Lplaces_ok]
  rfl
def ir_Lties : Sts := (.cons (.set 1 (.lst .nil)) (.cons (.forr (.cons (.nm 2) (.cons (.nm 3) .nil)) (.val (.call i_Lplaces (.cons (.loc 0) .nil))) (.cons (.set 1 (.bin .Add (.loc 1) (.ife (.cmp .Lt (.bin .Add (.loc 3) (.con (.int 1))) (.idx (.loc 0) (.con (.int 0)))) (.lst (.cons (.tup (.cons (.tup (.cons (.loc 2) (.cons (.loc 3) .nil))) (.cons (.tup (.cons (.loc 2) (.cons (.bin .Add (.loc 3) (.con (.int 1))) .nil))) .nil))) .nil)) (.lst .nil)))) (.cons (.set 1 (.bin .Add (.loc 1) (.ife (.cmp .Lt (.bin .Add (.loc 2) (.con (.int 1))) (.idx (.loc 0) (.con (.int 1)))) (.lst (.cons (.tup (.cons (.tup (.cons (.loc 2) (.cons (.loc 3) .nil))) (.cons (.tup (.cons (.bin .Add (.loc 2) (.con (.int 1))) (.cons (.loc 3) .nil))) .nil))) .nil)) (.lst .nil)))) .nil))) (.cons (.ret (.loc 1)) .nil)))
theorem ir_Lties_ok : row20.ir pg.g = some ⟨1, 4, false, ir_Lties⟩ := by kernel_rfl
theorem at_Lties : fns[i_Lties]? = some ⟨1, 4, false, ir_Lties⟩ := by
  show some ((row20.ir pg.g).getD ⟨0, 0, false, .nil⟩) = _
  rw [ir_Lties_ok]
  rfl
def ir_Ldrawn : Sts := (.cons (.set 2 (.box .nil)) (.cons (.forr (.nm 3) (.rng (.cons (.idx (.loc 0) (.con (.int 1))) .nil)) (.cons (.set 4 (.con (.str ""))) (.cons (.forr (.nm 5) (.rng (.cons (.bin .Sub (.idx (.loc 0) (.con (.int 0))) (.con (.int 1))) .nil)) (.cons (.set 4 (.bin .Add (.loc 4) (.ife (.cmp .In (.tup (.cons (.tup (.cons (.loc 3) (.cons (.loc 5) .nil))) (.cons (.tup (.cons (.loc 3) (.cons (.bin .Add (.loc 5) (.con (.int 1))) .nil))) .nil))) (.loc 1)) (.con (.str "1")) (.con (.str "0"))))) .nil)) (.cons (.forr (.nm 5) (.rng (.cons (.idx (.loc 0) (.con (.int 0))) .nil)) (.cons (.set 4 (.bin .Add (.loc 4) (.ife (.cmp .In (.tup (.cons (.tup (.cons (.loc 3) (.cons (.loc 5) .nil))) (.cons (.tup (.cons (.bin .Add (.loc 3) (.con (.int 1))) (.cons (.loc 5) .nil))) .nil))) (.loc 1)) (.con (.str "1")) (.con (.str "0"))))) .nil)) (.cons (.app 2 (.loc 4)) .nil))))) (.cons (.ret (.blt .tuple (.loc 2))) .nil)))
theorem ir_Ldrawn_ok : row21.ir pg.g = some ⟨2, 6, false, ir_Ldrawn⟩ := by kernel_rfl
theorem at_Ldrawn : fns[i_Ldrawn]? = some ⟨2, 6, false, ir_Ldrawn⟩ := by
  show some ((row21.ir pg.g).getD ⟨0, 0, false, .nil⟩) = _
  rw [ir_Ldrawn_ok]
  rfl
abbrev b_Lties_of : Sts := (.cons (.sett (.cons (.cons (.nm 5) (.cons (.nm 6) .nil)) (.cons (.cons (.nm 7) (.cons (.nm 8) .nil)) .nil)) (.loc 3)) (.cons (.set 4 (.ife (.cmp .Eq (.loc 7) (.loc 5)) (.loc 6) (.bin .Add (.bin .Sub (.idx (.loc 0) (.con (.int 0))) (.con (.int 1))) (.loc 6)))) (.cons (.iff (.cmp .Eq (.idx (.idx (.loc 1) (.loc 5)) (.loc 4)) (.con (.str "1"))) (.cons (.app 2 (.loc 3)) .nil) .nil) .nil)))
def ir_Lties_of : Sts := (.cons (.set 2 (.box .nil)) (.cons (.forr (.nm 3) (.val (.call i_Lties (.cons (.loc 0) .nil))) b_Lties_of) (.cons (.ret (.loc 2)) .nil)))
theorem ir_Lties_of_ok : row22.ir pg.g = some ⟨2, 9, false, ir_Lties_of⟩ := by kernel_rfl
theorem at_Lties_of : fns[i_Lties_of]? = some ⟨2, 9, false, ir_Lties_of⟩ := by
  show some ((row22.ir pg.g).getD ⟨0, 0, false, .nil⟩) = _
  rw [ir_Lties_of_ok]
  rfl
def ir_Lnear : Sts := (.cons (.sett (.cons (.nm 3) (.cons (.nm 4) .nil)) (.loc 1)) (.cons (.set 2 (.lst (.cons (.tup (.cons (.bin .Sub (.loc 3) (.con (.int 1))) (.cons (.loc 4) .nil))) (.cons (.tup (.cons (.loc 3) (.cons (.bin .Sub (.loc 4) (.con (.int 1))) .nil))) (.cons (.tup (.cons (.loc 3) (.cons (.bin .Add (.loc 4) (.con (.int 1))) .nil))) (.cons (.tup (.cons (.bin .Add (.loc 3) (.con (.int 1))) (.cons (.loc 4) .nil))) .nil)))))) (.cons (.ret (.lc [5] (.nm 5) (.val (.loc 2)) (.cons (.and (.chn .LtE .Lt (.con (.int 0)) (.idx (.loc 5) (.con (.int 0))) (.idx (.loc 0) (.con (.int 1)))) (.chn .LtE .Lt (.con (.int 0)) (.idx (.loc 5) (.con (.int 1))) (.idx (.loc 0) (.con (.int 0))))) .nil) (.loc 5))) .nil)))
theorem ir_Lnear_ok : row23.ir pg.g = some ⟨2, 6, false, ir_Lnear⟩ := by kernel_rfl
theorem at_Lnear : fns[i_Lnear]? = some ⟨2, 6, false, ir_Lnear⟩ := by
  show some ((row23.ir pg.g).getD ⟨0, 0, false, .nil⟩) = _
  rw [ir_Lnear_ok]
  rfl
def ir_Lstrip : Sts := (.cons (.set 2 (.bin .Add (.con (.int 1)) (.call i_Lroll (.cons (.loc 0) (.cons (.con (.int 3)) .nil))))) (.cons (.ret (.tup (.cons (.loc 2) (.cons (.bin .Add (.con (.int 1)) (.call i_Lroll (.cons (.loc 0) (.cons (.bin .FloorDiv (.loc 1) (.loc 2)) .nil)))) .nil)))) .nil))
theorem ir_Lstrip_ok : row24.ir pg.g = some ⟨2, 3, false, ir_Lstrip⟩ := by kernel_rfl
theorem at_Lstrip : fns[i_Lstrip]? = some ⟨2, 3, false, ir_Lstrip⟩ := by
  show some ((row24.ir pg.g).getD ⟨0, 0, false, .nil⟩) = _
  rw [ir_Lstrip_ok]
  rfl
def ir_Lwalk : Sts := (.cons (.set 2 (.call i_Lplaces (.cons (.loc 1) .nil))) (.cons (.set 3 (.tup (.cons (.call i_Lsome (.cons (.loc 0) (.cons (.loc 2) .nil))) .nil))) (.cons (.forr (.nm 4) (.rng (.cons (.bin .Add (.call i_Lroll (.cons (.loc 0) (.cons (.blt .len (.loc 2)) .nil))) (.con (.int 1))) .nil)) (.cons (.set 5 (.lc [6] (.nm 6) (.val (.call i_Lnear (.cons (.loc 1) (.cons (.idx (.loc 3) (.neg (.con (.int 1)))) .nil)))) (.cons (.cmp .NotIn (.loc 6) (.loc 3)) .nil) (.loc 6))) (.cons (.set 3 (.bin .Add (.loc 3) (.ife (.cmp .NotEq (.loc 5) (.lst .nil)) (.tup (.cons (.call i_Lsome (.cons (.loc 0) (.cons (.loc 5) .nil))) .nil)) (.tup .nil)))) .nil))) (.cons (.ret (.loc 3)) .nil))))
theorem ir_Lwalk_ok : row25.ir pg.g = some ⟨2, 7, false, ir_Lwalk⟩ := by kernel_rfl
theorem at_Lwalk : fns[i_Lwalk]? = some ⟨2, 7, false, ir_Lwalk⟩ := by
  show some ((row25.ir pg.g).getD ⟨0, 0, false, .nil⟩) = _
  rw [ir_Lwalk_ok]
  rfl
def ir_Lwalk_ties : Sts := (.cons (.set 1 (.lc [2] (.nm 2) (.rng (.cons (.bin .Sub (.blt .len (.loc 0)) (.con (.int 1))) .nil)) .nil (.tup (.cons (.idx (.loc 0) (.loc 2)) (.cons (.idx (.loc 0) (.bin .Add (.loc 2) (.con (.int 1)))) .nil))))) (.cons (.ret (.blt .sorted (.lc [3, 4] (.cons (.nm 3) (.cons (.nm 4) .nil)) (.val (.loc 1)) .nil (.ife (.cmp .Lt (.loc 3) (.loc 4)) (.tup (.cons (.loc 3) (.cons (.loc 4) .nil))) (.tup (.cons (.loc 4) (.cons (.loc 3) .nil))))))) .nil))
theorem ir_Lwalk_ties_ok : row26.ir pg.g = some ⟨1, 5, false, ir_Lwalk_ties⟩ := by kernel_rfl
theorem at_Lwalk_ties : fns[i_Lwalk_ties]? = some ⟨1, 5, false, ir_Lwalk_ties⟩ := by
  show some ((row26.ir pg.g).getD ⟨0, 0, false, .nil⟩) = _
  rw [ir_Lwalk_ties_ok]
  rfl
def ir_Lany : Sts := (.cons (.set 2 (.call i_Lwalk_ties (.cons (.call i_Lwalk (.cons (.loc 0) (.cons (.loc 1) .nil))) .nil))) (.cons (.set 3 (.call i_Lties (.cons (.loc 1) .nil))) (.cons (.set 4 (.call i_Lroll (.cons (.loc 0) (.cons (.con (.int 4)) .nil)))) (.cons (.iff (.cmp .Eq (.loc 4) (.con (.int 0))) (.cons (.set 2 (.lc [5] (.nm 5) (.val (.loc 3)) (.cons (.cmp .Eq (.call i_Lroll (.cons (.loc 0) (.cons (.con (.int 2)) .nil))) (.con (.int 0))) .nil) (.loc 5))) .nil) .nil) (.cons (.iff (.and (.cmp .Eq (.loc 4) (.con (.int 1))) (.cmp .NotEq (.loc 3) (.lst .nil))) (.cons (.set 5 (.call i_Lsome (.cons (.loc 0) (.cons (.loc 3) .nil)))) (.cons (.set 2 (.bin .Add (.lc [6] (.nm 6) (.val (.loc 2)) (.cons (.cmp .NotEq (.loc 6) (.loc 5)) .nil) (.loc 6)) (.ife (.cmp .In (.loc 5) (.loc 2)) (.lst .nil) (.lst (.cons (.loc 5) .nil))))) .nil)) .nil) (.cons (.ret (.call i_Ldrawn (.cons (.loc 1) (.cons (.loc 2) .nil)))) .nil))))))
theorem ir_Lany_ok : row27.ir pg.g = some ⟨2, 7, false, ir_Lany⟩ := by kernel_rfl
theorem at_Lany : fns[i_Lany]? = some ⟨2, 7, false, ir_Lany⟩ := by
  show some ((row27.ir pg.g).getD ⟨0, 0, false, .nil⟩) = _
  rw [ir_Lany_ok]
  rfl
abbrev e_Lodd : X := (.call i_Lodd (.cons (.loc 0) (.cons (.bin .Sub (.loc 1) (.con (.int 1))) .nil)))
def ir_Lodd : Sts := (.cons (.set 2 (.lst (.cons (.con .none) (.cons (.con (.bool true)) (.cons (.con (.bool false)) (.cons (.con (.int 0)) (.cons (.con (.int 1)) (.cons (.con (.int 3)) (.cons (.con (.int 60)) (.cons (.con (.int 61)) (.cons (.neg (.con (.int 1))) (.cons (.bin .Pow (.con (.int 10)) (.con (.int 30))) (.cons (.con (.str "")) (.cons (.con (.str "0")) (.cons (.con (.str "000")) (.cons (.con (.str "101")) (.cons (.con (.str "line")) (.cons (.tup .nil) (.cons (.lst .nil) (.cons (.tup (.cons (.con (.int 0)) (.cons (.con (.int 0)) .nil))) (.cons (.tup (.cons (.con (.int 1)) (.cons (.con (.int 0)) .nil))) .nil))))))))))))))))))))) (.cons (.set 2 (.bin .Add (.loc 2) (.lst (.cons (.tup (.cons (.con (.int 2)) (.cons (.con (.int 3)) .nil))) (.cons (.tup (.cons (.tup (.cons (.con (.int 0)) (.cons (.con (.int 0)) .nil))) (.cons (.tup (.cons (.con (.int 1)) (.cons (.con (.int 0)) .nil))) .nil))) (.cons (.tup (.cons (.con (.str "000")) (.cons (.con (.str "000")) .nil))) (.cons (.tup (.cons (.tup (.cons (.con (.int 0)) (.cons (.con (.int 0)) .nil))) .nil)) (.cons (.tup (.cons (.tup (.cons (.tup (.cons (.con (.int 0)) (.cons (.con (.int 0)) .nil))) (.cons (.tup (.cons (.con (.int 0)) (.cons (.con (.int 1)) .nil))) .nil))) .nil)) .nil)))))))) (.cons (.iff (.or (.cmp .Eq (.loc 1) (.con (.int 0))) (.cmp .Lt (.call i_Lroll (.cons (.loc 0) (.cons (.con (.int 8)) .nil))) (.con (.int 5)))) (.cons (.ret (.call i_Lsome (.cons (.loc 0) (.cons (.loc 2) .nil)))) .nil) .nil) (.cons (.set 3 (.lc [4] (.nm 4) (.rng (.cons (.call i_Lroll (.cons (.loc 0) (.cons (.con (.int 5)) .nil))) .nil)) .nil e_Lodd)) (.cons (.ret (.ife (.cmp .Eq (.call i_Lroll (.cons (.loc 0) (.cons (.con (.int 3)) .nil))) (.con (.int 0))) (.loc 3) (.blt .tuple (.loc 3)))) .nil)))))
theorem ir_Lodd_ok : row28.ir pg.g = some ⟨2, 5, false, ir_Lodd⟩ := by kernel_rfl
theorem at_Lodd : fns[i_Lodd]? = some ⟨2, 5, false, ir_Lodd⟩ := by
  show some ((row28.ir pg.g).getD ⟨0, 0, false, .nil⟩) = _
  rw [ir_Lodd_ok]
  rfl
def ir_Lbent : Sts := (.cons (.iff (.or (.not (.blt (.isi "tuple") (.loc 1))) (.or (.cmp .Eq (.loc 1) (.tup .nil)) (.cmp .Eq (.call i_Lroll (.cons (.loc 0) (.cons (.con (.int 7)) .nil))) (.con (.int 0))))) (.cons (.set 2 (.lst (.cons (.call i_Lodd (.cons (.loc 0) (.cons (.con (.int 1)) .nil))) (.cons (.call i_Lodd (.cons (.loc 0) (.cons (.con (.int 1)) .nil))) .nil)))) (.cons (.iff (.blt (.isi "str") (.loc 1)) (.cons (.set 2 (.bin .Add (.loc 2) (.lst (.cons (.slc (.loc 1) .nil (.cons (.neg (.con (.int 1))) .nil)) (.cons (.bin .Add (.loc 1) (.con (.str "0"))) (.cons (.rev (.loc 1)) (.cons (.bin .Add (.loc 1) (.con (.str "2"))) (.cons (.bin .Add (.con (.str "1")) (.slc (.loc 1) (.cons (.con (.int 1)) .nil) .nil)) .nil)))))))) .nil) (.cons (.iff (.blt (.isi "int") (.loc 1)) (.cons (.set 2 (.bin .Add (.loc 2) (.lst (.cons (.bin .Add (.loc 1) (.con (.int 1))) (.cons (.bin .Sub (.loc 1) (.con (.int 1))) (.cons (.bin .Add (.loc 1) (.con (.int 1))) (.cons (.bin .Sub (.loc 1) (.con (.int 1))) (.cons (.not (.loc 1)) (.cons (.blt .str (.loc 1)) .nil))))))))) .nil) .nil) .nil)) (.cons (.ret (.call i_Lsome (.cons (.loc 0) (.cons (.loc 2) .nil)))) .nil))) .nil) (.cons (.par [3, 4] (.cons (.call i_Lroll (.cons (.loc 0) (.cons (.blt .len (.loc 1)) .nil))) (.cons (.call i_Lroll (.cons (.loc 0) (.cons (.con (.int 9)) .nil))) .nil))) (.cons (.iff (.cmp .Eq (.loc 4) (.con (.int 0))) (.cons (.ret (.bin .Add (.slc (.loc 1) .nil (.cons (.loc 3) .nil)) (.slc (.loc 1) (.cons (.bin .Add (.loc 3) (.con (.int 1))) .nil) .nil))) .nil) .nil) (.cons (.iff (.cmp .Eq (.loc 4) (.con (.int 1))) (.cons (.ret (.bin .Add (.slc (.loc 1) .nil (.cons (.bin .Add (.loc 3) (.con (.int 1))) .nil)) (.slc (.loc 1) (.cons (.loc 3) .nil) .nil))) .nil) .nil) (.cons (.iff (.cmp .Eq (.loc 4) (.con (.int 2))) (.cons (.ret (.rev (.loc 1))) .nil) .nil) (.cons (.iff (.cmp .Eq (.loc 4) (.con (.int 3))) (.cons (.ret (.blt .list (.loc 1))) .nil) .nil) (.cons (.ret (.bin .Add (.bin .Add (.slc (.loc 1) .nil (.cons (.loc 3) .nil)) (.tup (.cons (.call i_Lbent (.cons (.loc 0) (.cons (.idx (.loc 1) (.loc 3)) .nil))) .nil))) (.slc (.loc 1) (.cons (.bin .Add (.loc 3) (.con (.int 1))) .nil) .nil))) .nil)))))))
theorem ir_Lbent_ok : row29.ir pg.g = some ⟨2, 5, false, ir_Lbent⟩ := by kernel_rfl
theorem at_Lbent : fns[i_Lbent]? = some ⟨2, 5, false, ir_Lbent⟩ := by
  show some ((row29.ir pg.g).getD ⟨0, 0, false, .nil⟩) = _
  rw [ir_Lbent_ok]
  rfl
def ir_Lwhole : Sts := (.cons (.ret (.and (.blt (.isi "int") (.loc 0)) (.and (.not (.blt (.isi "bool") (.loc 0))) (.chn .LtE .LtE (.loc 1) (.loc 0) (.loc 2))))) .nil)
theorem ir_Lwhole_ok : row30.ir pg.g = some ⟨3, 3, false, ir_Lwhole⟩ := by kernel_rfl
theorem at_Lwhole : fns[i_Lwhole]? = some ⟨3, 3, false, ir_Lwhole⟩ := by
  show some ((row30.ir pg.g).getD ⟨0, 0, false, .nil⟩) = _
  rw [ir_Lwhole_ok]
  rfl
def ir_Lis_strip : Sts := (.cons (.iff (.or (.not (.blt (.isi "tuple") (.loc 0))) (.cmp .NotEq (.blt .len (.loc 0)) (.con (.int 2)))) (.cons (.ret (.con (.bool false))) .nil) .nil) (.cons (.ret (.and (.call i_Lwhole (.cons (.idx (.loc 0) (.con (.int 0))) (.cons (.con (.int 1)) (.cons (.con (.int 3)) .nil)))) (.call i_Lwhole (.cons (.idx (.loc 0) (.con (.int 1))) (.cons (.con (.int 1)) (.cons (.con (.int 60)) .nil)))))) .nil))
theorem ir_Lis_strip_ok : row31.ir pg.g = some ⟨1, 1, false, ir_Lis_strip⟩ := by kernel_rfl
theorem at_Lis_strip : fns[i_Lis_strip]? = some ⟨1, 1, false, ir_Lis_strip⟩ := by
  show some ((row31.ir pg.g).getD ⟨0, 0, false, .nil⟩) = _
  rw [ir_Lis_strip_ok]
  rfl
abbrev b_Lis_drawing : Sts := (.cons (.iff (.or (.not (.blt (.isi "str") (.loc 2))) (.or (.cmp .NotEq (.blt .len (.loc 2)) (.bin .Sub (.bin .Mult (.con (.int 2)) (.idx (.loc 0) (.con (.int 0)))) (.con (.int 1)))) (.cmp .NotEq (.mth .strip (.loc 2) (.cons (.con (.str "01")) .nil)) (.con (.str ""))))) (.cons (.ret (.con (.bool false))) .nil) .nil) .nil)
def ir_Lis_drawing : Sts := (.cons (.iff (.or (.not (.blt (.isi "tuple") (.loc 1))) (.cmp .NotEq (.blt .len (.loc 1)) (.idx (.loc 0) (.con (.int 1))))) (.cons (.ret (.con (.bool false))) .nil) .nil) (.cons (.forr (.nm 2) (.val (.loc 1)) b_Lis_drawing) (.cons (.ret (.cmp .Eq (.slc (.idx (.loc 1) (.neg (.con (.int 1)))) (.cons (.bin .Sub (.idx (.loc 0) (.con (.int 0))) (.con (.int 1))) .nil) .nil) (.bin .Mult (.con (.str "0")) (.idx (.loc 0) (.con (.int 0)))))) .nil)))
theorem ir_Lis_drawing_ok : row32.ir pg.g = some ⟨2, 3, false, ir_Lis_drawing⟩ := by kernel_rfl
theorem at_Lis_drawing : fns[i_Lis_drawing]? = some ⟨2, 3, false, ir_Lis_drawing⟩ := by
  show some ((row32.ir pg.g).getD ⟨0, 0, false, .nil⟩) = _
  rw [ir_Lis_drawing_ok]
  rfl
abbrev t_Lare_ties : Xs := (.cons (.or (.blt (.isi "bool") (.idx (.loc 3) (.con (.int 0)))) (.blt (.isi "bool") (.idx (.loc 3) (.con (.int 1))))) .nil)
abbrev e_Lare_ties : X := (.con (.int 1))
abbrev b_Lare_ties : Sts := (.cons (.iff (.or (.not (.blt (.isi "tuple") (.loc 2))) (.or (.cmp .NotEq (.blt .len (.loc 2)) (.con (.int 2))) (.or (.cmp .NotIn (.loc 2) (.call i_Lties (.cons (.loc 0) .nil))) (.cmp .NotEq (.mth .count (.loc 1) (.cons (.loc 2) .nil)) (.con (.int 1)))))) (.cons (.ret (.con (.bool false))) .nil) .nil) (.cons (.iff (.cmp .NotEq (.lc [3] (.nm 3) (.val (.loc 2)) t_Lare_ties e_Lare_ties) (.lst .nil)) (.cons (.ret (.con (.bool false))) .nil) .nil) .nil))
def ir_Lare_ties : Sts := (.cons (.iff (.not (.blt (.isi "tuple") (.loc 1))) (.cons (.ret (.con (.bool false))) .nil) .nil) (.cons (.forr (.nm 2) (.val (.loc 1)) b_Lare_ties) (.cons (.ret (.con (.bool true))) .nil)))
theorem ir_Lare_ties_ok : row33.ir pg.g = some ⟨2, 4, false, ir_Lare_ties⟩ := by kernel_rfl
theorem at_Lare_ties : fns[i_Lare_ties]? = some ⟨2, 4, false, ir_Lare_ties⟩ := by
  show some ((row33.ir pg.g).getD ⟨0, 0, false, .nil⟩) = _
  rw [ir_Lare_ties_ok]
  rfl
def ir_Ljudged : Sts := (.cons (.set 1 (.call i_Lis_strip (.cons (.loc 0) .nil))) (.cons (.iff (.or (.cmp .NotEq (.call i_Pis_strip (.cons (.loc 0) .nil)) (.loc 1)) (.not (.blt (.isi "bool") (.call i_Pis_strip (.cons (.loc 0) .nil))))) (.cons (.ret (.con (.bool false))) .nil) .nil) (.cons (.set 2 (.box (.cons (.err (.call i_Pis_drawing (.cons (.loc 0) (.cons (.con .none) .nil)))) .nil))) (.cons (.app 2 (.err (.call i_Pdrawing_of (.cons (.loc 0) (.cons (.tup .nil) .nil))))) (.cons (.ret (.cmp .Eq (.loc 2) (.bin .Mult (.lst (.cons (.ife (.loc 1) (.con (.str "")) (.con (.str "strip value"))) .nil)) (.con (.int 2))))) .nil)))))
theorem ir_Ljudged_ok : row34.ir pg.g = some ⟨1, 3, false, ir_Ljudged⟩ := by kernel_rfl
theorem at_Ljudged : fns[i_Ljudged]? = some ⟨1, 3, false, ir_Ljudged⟩ := by
  show some ((row34.ir pg.g).getD ⟨0, 0, false, .nil⟩) = _
  rw [ir_Ljudged_ok]
  rfl
abbrev b_Llaw : Sts := (.cons (.set 13 (.call i_Lis_drawing (.cons (.loc 7) (.cons (.loc 10) .nil)))) (.cons (.iff (.or (.cmp .NotEq (.call i_Pis_drawing (.cons (.loc 7) (.cons (.loc 10) .nil))) (.loc 13)) (.not (.blt (.isi "bool") (.call i_Pis_drawing (.cons (.loc 7) (.cons (.loc 10) .nil)))))) (.cons (.ret (.con (.bool false))) .nil) .nil) (.cons (.iff (.and (.not (.loc 13)) (.cmp .NotEq (.err (.call i_Pties_of (.cons (.loc 7) (.cons (.loc 10) .nil)))) (.con (.str "drawing value")))) (.cons (.ret (.con (.bool false))) .nil) .nil) (.cons (.set 10 (.call i_Lbent (.cons (.loc 3) (.cons (.ife (.cmp .Eq (.bin .Mod (.blt .int (.loc 11)) (.con (.int 2))) (.con (.int 0))) (.loc 8) (.loc 10)) .nil)))) .nil))))
abbrev b1_Llaw : Sts := (.cons (.set 13 (.call i_Lare_ties (.cons (.loc 7) (.cons (.loc 10) .nil)))) (.cons (.iff (.cmp .NotEq (.err (.call i_Pdrawing_of (.cons (.loc 7) (.cons (.loc 10) .nil)))) (.ife (.loc 13) (.con (.str "")) (.con (.str "ties value")))) (.cons (.ret (.con (.bool false))) .nil) .nil) (.cons (.set 10 (.call i_Lbent (.cons (.loc 3) (.cons (.ife (.cmp .Eq (.bin .Mod (.blt .int (.loc 11)) (.con (.int 2))) (.con (.int 0))) (.blt .tuple (.loc 9)) (.loc 10)) .nil)))) .nil)))
abbrev b2_Llaw : Sts := (.cons (.set 12 (.call i_Lbent (.cons (.loc 3) (.cons (.ife (.cmp .Eq (.bin .Mod (.blt .int (.loc 11)) (.con (.int 2))) (.con (.int 0))) (.loc 7) (.loc 12)) .nil)))) (.cons (.iff (.not (.call i_Ljudged (.cons (.loc 12) .nil))) (.cons (.ret (.con (.bool false))) .nil) .nil) .nil))
abbrev b3_Llaw : Sts := (.cons (.set 7 (.call i_Lstrip (.cons (.loc 3) (.cons (.con (.int 24)) .nil)))) (.cons (.set 8 (.call i_Lany (.cons (.loc 3) (.cons (.loc 7) .nil)))) (.cons (.set 9 (.call i_Lties_of (.cons (.loc 7) (.cons (.loc 8) .nil)))) (.cons (.iff (.or (.cmp .NotEq (.call i_Pties_of (.cons (.loc 7) (.cons (.loc 8) .nil))) (.loc 9)) (.cmp .NotEq (.call i_Pdrawing_of (.cons (.loc 7) (.cons (.blt .tuple (.rev (.loc 9))) .nil))) (.loc 8))) (.cons (.ret (.con (.bool false))) .nil) .nil) (.cons (.set 10 (.loc 8)) (.cons (.forr (.nm 11) (.rng (.cons (.con (.int 8)) .nil)) b_Llaw) (.cons (.set 10 (.blt .tuple (.loc 9))) (.cons (.forr (.nm 11) (.rng (.cons (.con (.int 8)) .nil)) b1_Llaw) (.cons (.set 12 (.loc 7)) (.cons (.forr (.nm 11) (.rng (.cons (.con (.int 6)) .nil)) b2_Llaw) .nil))))))))))
abbrev b4_Llaw : Sts := (.cons (.set 3 (.call i_Ldrum (.cons (.loc 1) (.cons (.con (.int 3)) .nil)))) (.cons (.forr (.nm 4) (.rng (.cons (.con (.int 2)) .nil)) b3_Llaw) .nil))
abbrev e_Llaw : X := (.call i_Pis_strip (.cons (.loc 10) .nil))
def ir_Llaw : Sts := (.cons (.forr (.nm 1) (.val (.slc (.bin .Add (.lst (.cons (.con (.int 0)) .nil)) (.loc 0)) .nil (.cons (.con (.int 8)) .nil))) b4_Llaw) (.cons (.sett (.cons (.nm 5) (.cons (.nm 6) .nil)) (.tup (.cons (.tup (.cons (.con (.int 2)) (.cons (.con (.int 3)) .nil))) (.cons (.tup (.cons (.con (.str "110")) (.cons (.con (.str "101")) (.cons (.con (.str "000")) .nil)))) .nil)))) (.cons (.set 2 (.lc [10] (.nm 10) (.val (.tup (.cons (.loc 5) (.cons (.tup (.cons (.con (.int 4)) (.cons (.con (.int 1)) .nil))) (.cons (.tup (.cons (.con (.int 1)) (.cons (.con (.int 61)) .nil))) (.cons (.tup (.cons (.con (.int 0)) (.cons (.con (.int 1)) .nil))) (.cons (.tup (.cons (.con (.int 3)) (.cons (.con (.int 60)) .nil))) (.cons (.tup (.cons (.con (.int 1)) (.cons (.con (.int 0)) .nil))) .nil)))))))) .nil e_Llaw)) (.cons (.iff (.cmp .NotEq (.loc 2) (.lst (.cons (.con (.bool true)) (.cons (.con (.bool false)) (.cons (.con (.bool false)) (.cons (.con (.bool false)) (.cons (.con (.bool true)) (.cons (.con (.bool false)) .nil)))))))) (.cons (.ret (.con (.bool false))) .nil) .nil) (.cons (.iff (.or (.cmp .IsNot (.call i_Pis_drawing (.cons (.loc 5) (.cons (.loc 6) .nil))) (.con (.bool true))) (.call i_Pis_drawing (.cons (.loc 5) (.cons (.tup (.cons (.con (.str "110")) (.cons (.con (.str "101")) (.cons (.con (.str "001")) .nil)))) .nil)))) (.cons (.ret (.con (.bool false))) .nil) .nil) (.cons (.iff (.cmp .IsNot (.call i_Pis_drawing (.cons (.tup (.cons (.con (.int 1)) (.cons (.con (.int 2)) .nil))) (.cons (.tup (.cons (.con (.str "1")) (.cons (.con (.str "0")) .nil))) .nil))) (.con (.bool true))) (.cons (.ret (.con (.bool false))) .nil) .nil) (.cons (.iff (.cmp .NotEq (.call i_Pties_of (.cons (.loc 5) (.cons (.loc 6) .nil))) (.lst (.cons (.tup (.cons (.tup (.cons (.con (.int 0)) (.cons (.con (.int 0)) .nil))) (.cons (.tup (.cons (.con (.int 0)) (.cons (.con (.int 1)) .nil))) .nil))) (.cons (.tup (.cons (.tup (.cons (.con (.int 0)) (.cons (.con (.int 0)) .nil))) (.cons (.tup (.cons (.con (.int 1)) (.cons (.con (.int 0)) .nil))) .nil))) (.cons (.tup (.cons (.tup (.cons (.con (.int 1)) (.cons (.con (.int 0)) .nil))) (.cons (.tup (.cons (.con (.int 1)) (.cons (.con (.int 1)) .nil))) .nil))) (.cons (.tup (.cons (.tup (.cons (.con (.int 1)) (.cons (.con (.int 1)) .nil))) (.cons (.tup (.cons (.con (.int 2)) (.cons (.con (.int 1)) .nil))) .nil))) .nil)))))) (.cons (.ret (.con (.bool false))) .nil) .nil) (.cons (.iff (.or (.cmp .NotEq (.call i_Pdrawing_of (.cons (.tup (.cons (.con (.int 2)) (.cons (.con (.int 2)) .nil))) (.cons (.tup (.cons (.tup (.cons (.tup (.cons (.con (.int 0)) (.cons (.con (.int 0)) .nil))) (.cons (.tup (.cons (.con (.int 1)) (.cons (.con (.int 0)) .nil))) .nil))) (.cons (.tup (.cons (.tup (.cons (.con (.int 0)) (.cons (.con (.int 0)) .nil))) (.cons (.tup (.cons (.con (.int 0)) (.cons (.con (.int 1)) .nil))) .nil))) .nil))) .nil))) (.tup (.cons (.con (.str "110")) (.cons (.con (.str "000")) .nil)))) (.cmp .NotEq (.call i_Pdrawing_of (.cons (.tup (.cons (.con (.int 1)) (.cons (.con (.int 1)) .nil))) (.cons (.tup .nil) .nil))) (.tup (.cons (.con (.str "0")) .nil)))) (.cons (.ret (.con (.bool false))) .nil) .nil) (.cons (.ret (.and (.cmp .Eq (.err (.call i_Pdrawing_of (.cons (.loc 5) (.cons (.tup (.cons (.tup (.cons (.tup (.cons (.con (.int 1)) (.cons (.con (.int 0)) .nil))) (.cons (.tup (.cons (.con (.int 0)) (.cons (.con (.int 0)) .nil))) .nil))) .nil)) .nil)))) (.con (.str "ties value"))) (.call i_Pis_drawing (.cons (.tup (.cons (.con (.int 1)) (.cons (.con (.int 1)) .nil))) (.cons (.tup (.cons (.con (.str "0")) .nil)) .nil))))) .nil)))))))))
theorem ir_Llaw_ok : row35.ir pg.g = some ⟨1, 14, false, ir_Llaw⟩ := by kernel_rfl
theorem at_Llaw : fns[i_Llaw]? = some ⟨1, 14, false, ir_Llaw⟩ := by
  show some ((row35.ir pg.g).getD ⟨0, 0, false, .nil⟩) = _
  rw [ir_Llaw_ok]
  rfl
end K01
end

section
set_option Elab.async false
set_option linter.all false
set_option maxRecDepth 100000
set_option maxHeartbeats 1000000
namespace K01
open PySem Ev
abbrev tb : Tab := ⟨fns, pg.nm⟩
theorem call_at {n i : Nat} {us : List U} {S : Store} {fn : Fn} (h : fns[i]? = some fn) (hl : us.length = fn.np) : callN tb (n + 1) i us S = finish fn.keep S.length (evSs (cnN tb n) fn.body (start fn.nn us) S) := by
  rw [callN_succ]
  unfold runF
  rw [show tb.fns[i]? = some fn from h]
  exact if_pos hl
theorem call_cn (n : Nat) : (cnN tb n).call = callN tb n := rfl
/-- a drum -/
def Drum (S : Store) (b : Nat) : Prop := ∃ a c : Int, S[b]? = some (.lst [.int a, .int c])
theorem Drum.lt {S : Store} {b : Nat} (h : Drum S b) : b < S.length := by
  obtain ⟨a, c, h⟩ := h
  exact (List.getElem?_eq_some_iff.mp h).1
theorem roll_ok (n : Nat) {S : Store} {b : Nat} {m : Int} (hS : Drum S b) (hm : 0 < m) (hm2 : m.natAbs.log2 < 9000) :
    ∃ r S', 0 ≤ r ∧ r < m ∧ callN tb (n + 1) i_Lroll [.ref b, .d (.int m)] S = .ok (.d (.int r)) S' ∧ Drum S' b ∧ S'.length = S.length ∧ ∀ j, j ≠ b → S'[j]? = S[j]? := by
  have hb := hS.lt
  obtain ⟨a, c, hS⟩ := hS
  rw [call_at at_Lroll rfl]
  by_cases ha : 0 < a
  · refine ⟨a % m, S.set b (.lst [.int (a / m), .int c]), Int.emod_nonneg _ (by omega), Int.emod_lt_of_pos _ hm, ?_, ⟨a / m, c, by rw [List.getElem?_set_self hb]⟩, by simp, fun j hj => List.getElem?_set_ne (Ne.symm hj)⟩
    simp [ir_Lroll, evSs, evS, evX, evXs, Ev.start, d_lst hS, truR, cmpU, ha, binU, bltD, mod_ii hm, div_ii (divOk_of hm hm2), putL, hS, L2.ixN]
    exact List.take_of_length_le (by simp)
  · obtain ⟨x, hx⟩ : ∃ x, x = (c * 30671 + 8807) % 2147483549 := ⟨_, rfl⟩
    have x0 : 0 ≤ x := by rw [hx]; exact Int.emod_nonneg _ (by omega)
    have x1 : x < 2147483549 := by rw [hx]; exact Int.emod_lt_of_pos _ (by omega)
    have m1 : mulOk c 30671 = true := mul_small (.inr (by decide))
    have m2 : mulOk x (x + 101) = true := mul_small (.inl (smallI_of (by omega) (by omega)))
    have hS' : (S.set b (.lst [.int a, .int x]))[b]? = some (.lst [.int a, .int x]) := by rw [List.getElem?_set_self hb]
    have l1 : (Int.natAbs 613).log2 < 9000 := by decide
    refine ⟨x * (x + 101) % 2147483587 / 613 % m, S.set b (.lst [.int a, .int x]), Int.emod_nonneg _ (by omega), Int.emod_lt_of_pos _ hm, ?_, ⟨a, x, hS'⟩, by simp, fun j hj => List.getElem?_set_ne (Ne.symm hj)⟩
    simp [ir_Lroll, evSs, evS, evX, evXs, Ev.start, d_lst hS, d_lst hS', truR, cmpU, ha, binU, bltD, mod_ii hm, mod_ii (show (0 : Int) < 2147483549 by decide), mod_ii (show (0 : Int) < 2147483587 by decide), div_ii (show divOk 613 = true by decide), putL, hS, mul_ii m1, mul_ii m2, ← hx, L2.ixN]
    exact List.take_of_length_le (by rw [List.length_set]; exact Nat.le_refl _)
theorem two_line : 2 ≤ line := by decide
theorem pow_18 : binD .Pow (.int 10) (.int 18) = some (.int 1000000000000000000) := by kernel_rfl
theorem drum_ok (n : Nat) (S : Store) (cell : Int) : ∃ S', callN tb (n + 1) i_Ldrum [.d (.int cell), .d (.int 3)] S = .ok (.ref S.length) S' ∧ Drum S' S.length ∧ S'.length = S.length + 1 ∧ ∀ j, j < S.length → S'[j]? = S[j]? := by
  have m1 : mulOk cell 97 = true := mul_small (.inr (by decide))
  have m2 : mulOk 1087 3 = true := by decide
  have m3 : mulOk 61 3 = true := by decide
  rw [call_at at_Ldrum rfl]
  refine ⟨S ++ [.lst [.int (if (1000000000000000000 : Int) ≤ cell then cell / 7 + 61 * 3 else 0), .int ((cell * 97 + 1087 * 3) % 2077504273 + 71)]], ?_, ⟨_, _, by rw [List.getElem?_append_right (Nat.le_refl _), Nat.sub_self]; rfl⟩, by simp, fun j hj => List.getElem?_append_left hj⟩
  by_cases h : (1000000000000000000 : Int) ≤ cell
  · simp [ir_Ldrum, evSs, evS, evX, evXs, Ev.start, truR, cmpU, binU, bltD, pow_18, h, mul_ii m1, mul_ii m2, mul_ii m3, mod_ii (show (0 : Int) < 2077504273 by decide), div_ii (show divOk 7 = true by decide), datas, two_line]
  · simp [ir_Ldrum, evSs, evS, evX, evXs, Ev.start, truR, cmpU, binU, bltD, pow_18, h, mul_ii m1, mul_ii m2, mul_ii m3, mod_ii (show (0 : Int) < 2077504273 by decide), div_ii (show divOk 7 = true by decide), datas, two_line]
/-- one of several things -/
theorem some_ok (n : Nat) {S : Store} {b : Nat} {xs : List PyData} {p : PyData} (hS : Drum S b) (hp : p = .list xs ∨ p = .tuple xs) (h0 : xs ≠ []) (hl : xs.length < 1000000) :
    ∃ x S', x ∈ xs ∧ callN tb (n + 2) i_Lsome [.ref b, .d p] S = .ok (.d x) S' ∧ Drum S' b ∧ S'.length = S.length ∧ ∀ j, j ≠ b → S'[j]? = S[j]? := by
  have hpos : (0 : Int) < (xs.length : Nat) := by have := List.length_pos_iff.mpr h0; omega
  obtain ⟨r, S', r0, r1, hc, hD, hlen, hk⟩ := roll_ok n (m := (xs.length : Nat)) hS hpos (by have := divOk_small hpos (by omega); unfold divOk at this; simpa using (Bool.and_eq_true_iff.mp this).2)
  obtain ⟨x, hx⟩ : ∃ x, xs[r.toNat]? = some x := ⟨xs[r.toNat]'(by omega), by simp⟩
  refine ⟨x, S', List.mem_of_getElem? hx, ?_, hD, hlen, hk⟩
  rw [call_at at_Lsome rfl]
  have hat := at_nat r0 hx
  have ht : S'.take S.length = S' := List.take_of_length_le (by omega)
  rcases hp with rfl | rfl
  · simp [ir_Lsome, evSs, evS, evX, evXs, Ev.start, bltD, call_cn, hc, idxD, hat, ht]
  · simp [ir_Lsome, evSs, evS, evX, evXs, Ev.start, bltD, call_cn, hc, idxD, hat, ht]
/-- a strip -/
theorem strip_ok (n : Nat) {S : Store} {b : Nat} (hS : Drum S b) {m : Int} (hm1 : 3 ≤ m) (hm2 : m ≤ 1000) :
    ∃ (r c : Int) (S' : Store), 1 ≤ r ∧ r ≤ 3 ∧ 1 ≤ c ∧ r * c ≤ m ∧ callN tb (n + 2) i_Lstrip [.ref b, .d (.int m)] S = .ok (.d (.tuple [.int r, .int c])) S' ∧ Drum S' b ∧ S'.length = S.length ∧ ∀ j, j ≠ b → S'[j]? = S[j]? := by
  obtain ⟨r, S1, r0, r1, h1, D1, l1, k1⟩ := roll_ok n (m := 3) hS (by decide) (by decide)
  have hq : m / (1 + r) * (1 + r) ≤ m := Int.ediv_mul_le _ (by omega)
  have hd : (0 : Int) < m / (1 + r) := by
    have : r = 0 ∨ r = 1 ∨ r = 2 := by omega
    rcases this with rfl | rfl | rfl <;> omega
  have hs : (m / (1 + r)).natAbs.log2 < 9000 := by
    have h2 : m / (1 + r) ≤ 1000 := by
      have : m / (1 + r) ≤ m := Int.ediv_le_self _ (by omega)
      omega
    have := divOk_small hd (by omega)
    unfold divOk at this
    simpa using (Bool.and_eq_true_iff.mp this).2
  obtain ⟨c, S2, c0, c1, h2, D2, l2, k2⟩ := roll_ok n (m := m / (1 + r)) D1 hd hs
  refine ⟨1 + r, 1 + c, S2, by omega, by omega, by omega, ?_, ?_, D2, by omega, fun j hj => by rw [k2 j hj, k1 j hj]⟩
  · have h3 : (1 + c) * (1 + r) ≤ m / (1 + r) * (1 + r) := Int.mul_le_mul_of_nonneg_right (by omega) (by omega)
    rw [Int.mul_comm (1 + r)]
    omega
  · rw [call_at at_Lstrip rfl]
    have ht : S2.take S.length = S2 := List.take_of_length_le (by omega)
    simp [ir_Lstrip, evSs, evS, evX, evXs, Ev.start, call_cn, h1, h2, binU, div_ii (divOk_small (show (0 : Int) < 1 + r by omega) (by omega)), datas, two_line, ht]
/-- a place of a strip -/
def InS (r c : Int) (x : PyData) : Prop := ∃ a b : Int, x = .tuple [.int a, .int b] ∧ 0 ≤ a ∧ a < c ∧ 0 ≤ b ∧ b < r
abbrev strip (r c : Int) : PyData := .tuple [.int r, .int c]
theorem places_ok (n : Nat) (S : Store) {r c : Int} (hr : 1 ≤ r) (hc : 1 ≤ c) (hm : r * c ≤ 200) (hr2 : r ≤ 200) (hc2 : c ≤ 200) :
    ∃ xs : List PyData, callN tb (n + 1) i_Lplaces [.d (strip r c)] S = .ok (.d (.list xs)) S ∧ (∀ x, x ∈ xs → InS r c x) ∧ (xs.length : Int) = r * c := by
  rw [call_at at_Lplaces rfl]
  have hR := rng_1 (j := r) (by omega) (by omega)
  have hC := rng_1 (j := c) (by omega) (by omega)
  -- one column
  have inner : ∀ (a : Int) (ρ : Rho) (u1 : Option U) (z : Option U) (w : Option U), 0 ≤ a → a < c → ρ = [some (.d (strip r c)), u1, some (.d (.int a)), w] →
      ∃ ys, evX (cnN tb n) (.lc [3] (.nm 3) (.rng (.cons (.idx (.loc 0) (.con (.int 0))) .nil)) .nil (.tup (.cons (.loc 2) (.cons (.loc 3) .nil)))) ρ S = .ok (.d (.list ys)) S ∧ (∀ x, x ∈ ys → InS r c x) ∧ ys.length = r.toNat := by
    intro a ρ u1 z w a0 a1 hρ
    subst hρ
    obtain ⟨ys, S', h1, h2, h3, h4⟩ := comp_inv (t := .nm 3) (c := fun ρ S => evC (cnN tb n) .nil ρ S) (e := fun ρ S => dataR (evX (cnN tb n) (.tup (.cons (.loc 2) (.cons (.loc 3) .nil))) ρ S)) (ρ := [some (.d (strip r c)), u1, some (.d (.int a)), none])
      (fun k ys S' => S' = S ∧ ys.length = k ∧ ∀ x, x ∈ ys → InS r c x) (rngItems 0 r.toNat) 0 [] S ⟨rfl, rfl, fun x hx => by cases hx⟩ (fun i u ys S' hu ⟨e1, e2, e3⟩ => by
        obtain ⟨hi, rfl⟩ := rng_at hu
        subst e1
        refine ⟨_, rfl, true, S', rfl, .inl ⟨rfl, .tuple [.int a, .int (i : Nat)], S', ?_, rfl, by simp; omega, fun x hx => ?_⟩⟩
        · simp [dataR, evX, evXs, datas, two_line]
        · rcases List.mem_append.mp hx with hx | hx
          · exact e3 x hx
          · have : x = .tuple [.int a, .int (i : Nat)] := by simpa using hx
            subst this
            exact ⟨a, i, rfl, a0, a1, by omega, by omega⟩)
    subst h2
    refine ⟨ys, ?_, fun x hx => h4 x (by simpa using hx), by rw [rng_len] at h3; simpa using h3⟩
    have hl : (rngItems 0 r.toNat).length ≤ line := by rw [rng_len]; show _ ≤ 16777216; omega
    exact ev_lc (it_rng1 (j := r) (by simp [evX, binU]) (by omega) (by omega)) hl h1
  -- the columns
  obtain ⟨ρ', S', h1, e1, xs, z, w, e2, e3, e4⟩ := loop_inv (t := .nm 2) (body := fun ρ S => evSs (cnN tb n) (.cons (.set 1 (.bin .Add (.loc 1) (.lc [3] (.nm 3) (.rng (.cons (.idx (.loc 0) (.con (.int 0))) .nil)) .nil (.tup (.cons (.loc 2) (.cons (.loc 3) .nil)))))) .nil) ρ S)
    (fun i ρ S' => S' = S ∧ ∃ (xs : List PyData) (z w : Option U), ρ = [some (.d (strip r c)), some (.d (.list xs)), z, w] ∧ (xs.length : Int) = r * i ∧ ∀ x, x ∈ xs → InS r c x) (rngItems 0 c.toNat) 0 [some (.d (strip r c)), some (.d (.list [])), none, none] S
    ⟨rfl, [], none, none, rfl, by simp, fun x hx => by cases hx⟩ (fun i u ρ S' hu ⟨e1, xs, z, w, e2, e3, e4⟩ => by
      obtain ⟨hi, rfl⟩ := rng_at hu
      subst e1 e2
      obtain ⟨ys, h2, h3, h4⟩ := inner (0 + (i : Nat)) [some (.d (strip r c)), some (.d (.list xs)), some (.d (.int (0 + (i : Nat)))), w] (some (.d (.list xs))) none w (by omega) (by omega) rfl
      have hfit : xs.length + ys.length ≤ line := by
        have : r * ((0 + i : Nat) : Int) ≤ r * c := Int.mul_le_mul_of_nonneg_left (by omega) (by omega)
        show _ ≤ 16777216
        omega
      refine ⟨_, _, S', rfl, ?_, rfl, xs ++ ys, some (.d (.int (0 + (i : Nat)))), w, rfl, ?_, fun x hx => ?_⟩
      · rw [ss_cons (s_set (u := .d (.list (xs ++ ys))) (S1 := S') ?_)]
        · rfl
        · unfold evX
          rw [show ([some (.d (strip r c)), some (.d (.list xs)), z, w] : Rho).set 2 (some (.d (.int (0 + (i : Nat))))) = [some (.d (strip r c)), some (.d (.list xs)), some (.d (.int (0 + (i : Nat)))), w] from rfl]
          rw [show evX (cnN tb n) (.loc 1) [some (.d (strip r c)), some (.d (.list xs)), some (.d (.int (0 + (i : Nat)))), w] S' = .ok (.d (.list xs)) S' from rfl, b_ok]
          rw [h2, b_ok]
          simp [binU, add_ll hfit]
      · rw [List.length_append, h4]
        push_cast
        rw [e3]
        have : ((r.toNat : Nat) : Int) = r := by omega
        rw [this]
        rw [Int.mul_add]
        simp
      · rcases List.mem_append.mp hx with hx | hx
        · exact e4 x hx
        · exact h3 x hx)
  subst e1 e2
  rw [Nat.zero_add, rng_len] at e3
  refine ⟨xs, ?_, e4, by rw [e3]; congr 1; omega⟩
  show Ev.finish false S'.length (evSs (cnN tb n) ir_Lplaces [some (.d (strip r c)), none, none, none] S') = _
  unfold ir_Lplaces
  rw [ss_cons (s_set (u := .d (.list [])) (S1 := S') (by simp [evX, evXs, datas]))]
  rw [show ([some (.d (strip r c)), none, none, none] : Rho).set 1 (some (.d (.list []))) = [some (.d (strip r c)), some (.d (.list [])), none, none] from rfl]
  rw [ss_cons (ev_for (it_rng1 (j := c) (by simp [evX, binU]) (by omega) (by omega)) h1)]
  rw [ss_ret (s_ret (u := .d (.list xs)) rfl)]
  simp
/-- a test that two numbers lie in the strip -/
theorem inTest (g : Cn) (S : Store) {r c : Int} (x y : Int) (ρ : Rho) (h0 : ρ[0]? = some (some (.d (strip r c)))) (h5 : ρ[5]? = some (some (.d (.tuple [.int x, .int y])))) :
    truR (evX g (.and (.chn .LtE .Lt (.con (.int 0)) (.idx (.loc 5) (.con (.int 0))) (.idx (.loc 0) (.con (.int 1)))) (.chn .LtE .Lt (.con (.int 0)) (.idx (.loc 5) (.con (.int 1))) (.idx (.loc 0) (.con (.int 0))))) ρ S) =
      .ok (decide (0 ≤ x ∧ x < c ∧ 0 ≤ y ∧ y < r)) S := by
  by_cases h1 : 0 ≤ x
  · by_cases h2 : x < c
    · by_cases h3 : 0 ≤ y
      · by_cases h4 : y < r
        · simp [evX, truR, boolR, asB, h0, h5, cmpU, h1, h2, h3, h4]
        · simp [evX, truR, boolR, asB, h0, h5, cmpU, h1, h2, h3, h4]
      · simp [evX, truR, boolR, asB, h0, h5, cmpU, h1, h2, h3]
    · simp [evX, truR, boolR, asB, h0, h5, cmpU, h1, h2]
  · simp [evX, truR, boolR, asB, h0, h5, cmpU, h1]
theorem four_line : 4 ≤ line := by decide
theorem near_ok (n : Nat) (S : Store) {r c : Int} {p : PyData} (hp : InS r c p) : ∃ xs : List PyData, callN tb (n + 1) i_Lnear [.d (strip r c), .d p] S = .ok (.d (.list xs)) S ∧ (∀ x, x ∈ xs → InS r c x) ∧ xs.length ≤ 4 := by
  obtain ⟨a, b, rfl, a0, a1, b0, b1⟩ := hp
  rw [call_at at_Lnear rfl]
  let us : List PyData := [.tuple [.int (a - 1), .int b], .tuple [.int a, .int (b - 1)], .tuple [.int a, .int (b + 1)], .tuple [.int (a + 1), .int b]]
  have hus : ∀ (i : Nat) (u : U), (us.map U.d)[i]? = some u → ∃ x y : Int, u = U.d (.tuple [.int x, .int y]) := fun i u h => by
    match i with
    | 0 => cases h; exact ⟨_, _, rfl⟩
    | 1 => cases h; exact ⟨_, _, rfl⟩
    | 2 => cases h; exact ⟨_, _, rfl⟩
    | 3 => cases h; exact ⟨_, _, rfl⟩
    | i + 4 => cases h
  obtain ⟨ys, S', h1, h2, h3, h4⟩ := comp_inv (t := .nm 5) (c := fun ρ S => evC (cnN tb n) (.cons (.and (.chn .LtE .Lt (.con (.int 0)) (.idx (.loc 5) (.con (.int 0))) (.idx (.loc 0) (.con (.int 1)))) (.chn .LtE .Lt (.con (.int 0)) (.idx (.loc 5) (.con (.int 1))) (.idx (.loc 0) (.con (.int 0))))) .nil) ρ S)
    (e := fun ρ S => dataR (evX (cnN tb n) (.loc 5) ρ S)) (ρ := [some (.d (strip r c)), some (.d (.tuple [.int a, .int b])), some (.d (.list us)), some (.d (.int a)), some (.d (.int b)), none])
    (fun k ys S' => S' = S ∧ ys.length ≤ k ∧ ∀ x, x ∈ ys → InS r c x) (us.map U.d) 0 [] S ⟨rfl, Nat.le_refl _, fun x hx => by cases hx⟩ (fun i u ys S' hu ⟨e1, e2, e3⟩ => by
      obtain ⟨x, y, rfl⟩ := hus i u hu
      subst e1
      refine ⟨_, rfl, decide (0 ≤ x ∧ x < c ∧ 0 ≤ y ∧ y < r), S', ?_, ?_⟩
      · unfold evC
        exact inTest _ _ x y _ rfl rfl
      · by_cases h : 0 ≤ x ∧ x < c ∧ 0 ≤ y ∧ y < r
        · refine .inl ⟨by simp [h], _, S', rfl, rfl, by simp; omega, fun z hz => ?_⟩
          rcases List.mem_append.mp hz with hz | hz
          · exact e3 z hz
          · have : z = .tuple [.int x, .int y] := by simpa using hz
            exact ⟨x, y, this, h⟩
        · exact .inr ⟨by simp [h], rfl, by omega, e3⟩)
  subst h2
  refine ⟨ys, ?_, fun x hx => h4 x (by simpa using hx), by simpa [us] using h3⟩
  show Ev.finish false S'.length (evSs (cnN tb n) ir_Lnear [some (.d (strip r c)), some (.d (.tuple [.int a, .int b])), none, none, none, none] S') = _
  unfold ir_Lnear
  rw [ss_cons (ρ1 := [some (.d (strip r c)), some (.d (.tuple [.int a, .int b])), none, some (.d (.int a)), some (.d (.int b)), none]) (S1 := S') (by simp [evS, evX, bindT])]
  rw [ss_cons (s_set (u := .d (.list us)) (S1 := S') (by simp [evX, evXs, binU, datas, two_line, four_line, us]))]
  rw [ss_ret (s_ret (u := .d (.list ys)) (ev_lc (it_list rfl) (by show 4 ≤ line; exact four_line) h1))]
  simp
/-- a tie of a strip -/
def TieS (r c : Int) (x : PyData) : Prop := ∃ p q : PyData, x = .tuple [p, q] ∧ InS r c p ∧ InS r c q
theorem ties_ok (n : Nat) (S : Store) {r c : Int} (hr : 1 ≤ r) (hc : 1 ≤ c) (hm : r * c ≤ 200) (hr2 : r ≤ 200) (hc2 : c ≤ 200) :
    ∃ xs : List PyData, callN tb (n + 2) i_Lties [.d (strip r c)] S = .ok (.d (.list xs)) S ∧ (∀ x, x ∈ xs → TieS r c x) ∧ xs.length ≤ 400 := by
  obtain ⟨ps, p1, p2, p3⟩ := places_ok n S hr hc hm hr2 hc2
  rw [call_at at_Lties rfl]
  have hlen : ps.length ≤ 200 := by omega
  obtain ⟨ρ', S', h1, e1, xs, z, w, e2, e3, e4⟩ := loop_inv (t := .cons (.nm 2) (.cons (.nm 3) .nil))
    (body := fun ρ S => evSs (cnN tb (n + 1)) (.cons (.set 1 (.bin .Add (.loc 1) (.ife (.cmp .Lt (.bin .Add (.loc 3) (.con (.int 1))) (.idx (.loc 0) (.con (.int 0)))) (.lst (.cons (.tup (.cons (.tup (.cons (.loc 2) (.cons (.loc 3) .nil))) (.cons (.tup (.cons (.loc 2) (.cons (.bin .Add (.loc 3) (.con (.int 1))) .nil))) .nil))) .nil)) (.lst .nil)))) (.cons (.set 1 (.bin .Add (.loc 1) (.ife (.cmp .Lt (.bin .Add (.loc 2) (.con (.int 1))) (.idx (.loc 0) (.con (.int 1)))) (.lst (.cons (.tup (.cons (.tup (.cons (.loc 2) (.cons (.loc 3) .nil))) (.cons (.tup (.cons (.bin .Add (.loc 2) (.con (.int 1))) (.cons (.loc 3) .nil))) .nil))) .nil)) (.lst .nil)))) .nil)) ρ S)
    (fun i ρ S' => S' = S ∧ ∃ (xs : List PyData) (z w : Option U), ρ = [some (.d (strip r c)), some (.d (.list xs)), z, w] ∧ xs.length ≤ 2 * i ∧ ∀ x, x ∈ xs → TieS r c x) (ps.map U.d) 0 [some (.d (strip r c)), some (.d (.list [])), none, none] S
    ⟨rfl, [], none, none, rfl, Nat.le_refl _, fun x hx => by cases hx⟩ (fun i u ρ S' hu ⟨e1, xs, z, w, e2, e3, e4⟩ => by
      rw [List.getElem?_map] at hu
      obtain ⟨p, hp, rfl⟩ := map_some hu
      have hi : i < ps.length := (List.getElem?_eq_some_iff.mp hp).1
      obtain ⟨a, b, rfl, a0, a1, b0, b1⟩ := p2 p (List.mem_of_getElem? hp)
      subst e1 e2
      have f1 : xs.length + 1 ≤ line := by show _ ≤ 16777216; omega
      have f2 : xs.length + 1 + 1 ≤ line := by show _ ≤ 16777216; omega
      have f0 : xs.length ≤ line := by show _ ≤ 16777216; omega
      have one : 1 ≤ line := by decide
      have tA : b + 1 < r → TieS r c (.tuple [.tuple [.int a, .int b], .tuple [.int a, .int (b + 1)]]) := fun h => ⟨_, _, rfl, ⟨a, b, rfl, a0, a1, b0, b1⟩, ⟨a, b + 1, rfl, a0, a1, by omega, h⟩⟩
      have tB : a + 1 < c → TieS r c (.tuple [.tuple [.int a, .int b], .tuple [.int (a + 1), .int b]]) := fun h => ⟨_, _, rfl, ⟨a, b, rfl, a0, a1, b0, b1⟩, ⟨a + 1, b, rfl, by omega, h, b0, b1⟩⟩
      refine ⟨_, [some (.d (strip r c)), some (.d (.list (xs ++ (if b + 1 < r then [.tuple [.tuple [.int a, .int b], .tuple [.int a, .int (b + 1)]]] else []) ++ (if a + 1 < c then [.tuple [.tuple [.int a, .int b], .tuple [.int (a + 1), .int b]]] else [])))), some (.d (.int a)), some (.d (.int b))], S', rfl, ?_, rfl, _, _, _, rfl, ?_, fun x hx => ?_⟩
      · by_cases h1 : b + 1 < r <;> by_cases h2 : a + 1 < c <;> simp [evSs, evS, evX, evXs, binU, cmpU, truR, datas, two_line, h1, h2, add_ll, f0, f1, f2, one]
      · by_cases h1 : b + 1 < r <;> by_cases h2 : a + 1 < c <;> simp [h1, h2] <;> omega
      · rcases List.mem_append.mp hx with hx | hx
        · rcases List.mem_append.mp hx with hx | hx
          · exact e4 x hx
          · split at hx
            · rename_i h
              rw [List.mem_singleton.mp hx]
              exact tA h
            · cases hx
        · split at hx
          · rename_i h
            rw [List.mem_singleton.mp hx]
            exact tB h
          · cases hx)
  subst e1 e2
  refine ⟨xs, ?_, e4, by rw [List.length_map] at e3; omega⟩
  show Ev.finish false S'.length (evSs (cnN tb (n + 1)) ir_Lties [some (.d (strip r c)), none, none, none] S') = _
  unfold ir_Lties
  rw [ss_cons (s_set (u := .d (.list [])) (S1 := S') (by simp [evX, evXs, datas]))]
  rw [show ([some (.d (strip r c)), none, none, none] : Rho).set 1 (some (.d (.list []))) = [some (.d (strip r c)), some (.d (.list [])), none, none] from rfl]
  rw [ss_cons (ev_for (it_list (S1 := S') (by simp [evX, evXs, call_cn, p1])) h1)]
  rw [ss_ret (s_ret (u := .d (.list xs)) rfl)]
  simp
theorem InS.lay {r c : Int} {x : PyData} (h : InS r c x) : x.canLay0 = true ∧ x.depth ≤ 1 := by
  obtain ⟨a, b, rfl, _⟩ := h
  exact ⟨rfl, Nat.le_refl 1⟩
theorem lays {r c : Int} {xs : List PyData} (h : ∀ x, x ∈ xs → InS r c x) : SeqAt.shaped (.list xs) = true ∧ SeqAt.shaped (.tuple xs) = true := by
  have := lay_seq fun x hx => (h x hx).lay
  exact ⟨shaped_of this.1 (by decide), shaped_of this.2 (by decide)⟩
/-- what is handed on with the drum -/
def Same (b : Nat) (S S' : Store) : Prop := S'.length = S.length ∧ ∀ j, j ≠ b → S'[j]? = S[j]?
theorem Same.refl (b : Nat) (S : Store) : Same b S S := ⟨rfl, fun _ _ => rfl⟩
theorem Same.trans {b : Nat} {S S' S'' : Store} (h : Same b S S') (k : Same b S' S'') : Same b S S'' := ⟨k.1.trans h.1, fun j hj => (k.2 j hj).trans (h.2 j hj)⟩
theorem last_at {xs : List PyData} (h : xs ≠ []) : ∃ x, L2.atI xs (-1) = some x ∧ x ∈ xs := by
  have hl := List.length_pos_iff.mpr h
  have e : L2.ixN xs.length (-1) = some (xs.length - 1) := by
    unfold L2.ixN
    rw [if_neg (by decide), if_pos (by omega)]
    congr 1
    omega
  refine ⟨xs[xs.length - 1]'(by omega), ?_, List.getElem_mem _⟩
  unfold L2.atI
  rw [e]
  simp
theorem walk_ok (n : Nat) {S : Store} {b : Nat} (hS : Drum S b) {r c : Int} (hr : 1 ≤ r) (hc : 1 ≤ c) (hm : r * c ≤ 200) (hr2 : r ≤ 200) (hc2 : c ≤ 200) :
    ∃ (xs : List PyData) (S' : Store), callN tb (n + 3) i_Lwalk [.ref b, .d (strip r c)] S = .ok (.d (.tuple xs)) S' ∧ xs ≠ [] ∧ (∀ x, x ∈ xs → InS r c x) ∧ xs.length ≤ 202 ∧ Drum S' b ∧ Same b S S' := by
  obtain ⟨ps, p1, p2, p3⟩ := places_ok (n + 1) S hr hc hm hr2 hc2
  have hpn : ps ≠ [] := by
    rintro rfl
    have : 1 * 1 ≤ r * c := Int.mul_le_mul hr hc (by omega) (by omega)
    simp at p3
    omega
  have hpl : ps.length ≤ 200 := by omega
  obtain ⟨x0, S1, m1, h1, D1, l1, k1⟩ := some_ok n hS (.inl rfl) hpn (by omega)
  have hpos : (0 : Int) < (ps.length : Nat) := by have := List.length_pos_iff.mpr hpn; omega
  obtain ⟨t, S2, t0, t1, h2, D2, l2, k2⟩ := roll_ok (n + 1) (m := (ps.length : Nat)) D1 hpos (by have := divOk_small hpos (by omega); unfold divOk at this; simpa using (Bool.and_eq_true_iff.mp this).2)
  have g : (cnN tb (n + 2)).call = callN tb (n + 2) := rfl
  obtain ⟨ρ', S', h3, D3, s3, xs, z, w, e2, e3, e4, e5⟩ := loop_inv (t := .nm 4)
    (body := fun ρ S => evSs (cnN tb (n + 2)) (.cons (.set 5 (.lc [6] (.nm 6) (.val (.call i_Lnear (.cons (.loc 1) (.cons (.idx (.loc 3) (.neg (.con (.int 1)))) .nil)))) (.cons (.cmp .NotIn (.loc 6) (.loc 3)) .nil) (.loc 6))) (.cons (.set 3 (.bin .Add (.loc 3) (.ife (.cmp .NotEq (.loc 5) (.lst .nil)) (.tup (.cons (.call i_Lsome (.cons (.loc 0) (.cons (.loc 5) .nil))) .nil)) (.tup .nil)))) .nil)) ρ S)
    (fun i ρ S' => Drum S' b ∧ Same b S2 S' ∧ ∃ (xs : List PyData) (z w : Option U), ρ = [some (.ref b), some (.d (strip r c)), some (.d (.list ps)), some (.d (.tuple xs)), z, w, none] ∧ xs ≠ [] ∧ xs.length ≤ i + 1 ∧ ∀ x, x ∈ xs → InS r c x)
    (rngItems 0 (t + 1).toNat) 0 [some (.ref b), some (.d (strip r c)), some (.d (.list ps)), some (.d (.tuple [x0])), none, none, none] S2
    ⟨D2, Same.refl _ _, [x0], none, none, rfl, by simp, by simp, fun x hx => by rw [List.mem_singleton.mp hx]; exact p2 _ m1⟩ (fun i u ρ S' hu ⟨D, sm, xs, z, w, e2, e3, e4, e5⟩ => by
      obtain ⟨hi, rfl⟩ := rng_at hu
      subst e2
      obtain ⟨y, hy, hym⟩ := last_at e3
      obtain ⟨ns, q1, q2, q3⟩ := near_ok (n + 1) S' (e5 y hym)
      have sx := (lays e5).2
      -- the near places that are not gone yet
      obtain ⟨ys, S'', c1, c2, c3, c4⟩ := comp_inv (t := .nm 6) (c := fun ρ S => evC (cnN tb (n + 2)) (.cons (.cmp .NotIn (.loc 6) (.loc 3)) .nil) ρ S) (e := fun ρ S => dataR (evX (cnN tb (n + 2)) (.loc 6) ρ S))
        (ρ := [some (.ref b), some (.d (strip r c)), some (.d (.list ps)), some (.d (.tuple xs)), some (.d (.int (0 + (i : Nat)))), w, none])
        (fun k ys T => T = S' ∧ ys.length ≤ k ∧ ∀ x, x ∈ ys → InS r c x) (ns.map U.d) 0 [] S' ⟨rfl, Nat.le_refl _, fun x hx => by cases hx⟩ (fun j u ys T hu ⟨f1, f2, f3⟩ => by
          rw [List.getElem?_map] at hu
          obtain ⟨p, hp, rfl⟩ := map_some hu
          have hin := q2 p (List.mem_of_getElem? hp)
          have sp := shaped_of hin.lay (by decide)
          subst f1
          refine ⟨_, rfl, !(xs.any fun z => PyData.eqv z p), T, ?_, ?_⟩
          · unfold evC
            simp [evX, truR, cmpU, cmpD, in_tup sp sx]
          · cases hq : (xs.any fun z => PyData.eqv z p) with
            | true => exact .inr ⟨rfl, rfl, by omega, f3⟩
            | false =>
              refine .inl ⟨rfl, p, T, rfl, rfl, by simp; omega, fun x hx => ?_⟩
              rcases List.mem_append.mp hx with hx | hx
              · exact f3 x hx
              · rw [List.mem_singleton.mp hx]
                exact hin)
      subst c2
      rw [List.nil_append] at c4
      have c3 : ys.length ≤ 4 := by simp at c3; omega
      have sy := (lays c4).1
      have hset : evS (cnN tb (n + 2)) (.set 5 (.lc [6] (.nm 6) (.val (.call i_Lnear (.cons (.loc 1) (.cons (.idx (.loc 3) (.neg (.con (.int 1)))) .nil)))) (.cons (.cmp .NotIn (.loc 6) (.loc 3)) .nil) (.loc 6))) [some (.ref b), some (.d (strip r c)), some (.d (.list ps)), some (.d (.tuple xs)), some (.d (.int (0 + (i : Nat)))), w, none] S'' =
          .ok (.nx [some (.ref b), some (.d (strip r c)), some (.d (.list ps)), some (.d (.tuple xs)), some (.d (.int (0 + (i : Nat)))), some (.d (.list ys)), none]) S'' := by
        rw [s_set (ev_lc (it_list (xs := ns) (S1 := S'') (by simp [evX, evXs, g, idxD, hy, q1])) (by rw [List.length_map]; show _ ≤ 16777216; omega) c1)]
        rfl
      have f1 : xs.length + 1 ≤ line := by show _ ≤ 16777216; have : t ≤ 200 := by omega
                                           omega
      have f0 : xs.length ≤ line := by show _ ≤ 16777216; have : t ≤ 200 := by omega
                                       omega
      have one : 1 ≤ line := by decide
      by_cases hys : ys = []
      · subst hys
        refine ⟨[some (.ref b), some (.d (strip r c)), some (.d (.list ps)), some (.d (.tuple xs)), some (.d (.int (0 + (i : Nat)))), w, none], [some (.ref b), some (.d (strip r c)), some (.d (.list ps)), some (.d (.tuple xs)), some (.d (.int (0 + (i : Nat)))), some (.d (.list [])), none], S'', rfl, ?_, D, sm, xs, _, _, rfl, e3, by omega, e5⟩
        rw [ss_cons hset]
        simp [evSs, evS, evX, evXs, binU, cmpU, truR, datas, ne_nil sy, add_tt, f0]
      · obtain ⟨v, T, m4, h4, D4, l4, k4⟩ := some_ok n D (.inl rfl) hys (by omega)
        have hne : ys.isEmpty = false := by cases ys with
          | nil => exact absurd rfl hys
          | cons _ _ => rfl
        refine ⟨[some (.ref b), some (.d (strip r c)), some (.d (.list ps)), some (.d (.tuple xs)), some (.d (.int (0 + (i : Nat)))), w, none], [some (.ref b), some (.d (strip r c)), some (.d (.list ps)), some (.d (.tuple (xs ++ [v]))), some (.d (.int (0 + (i : Nat)))), some (.d (.list ys)), none], T, rfl, ?_, D4, sm.trans ⟨l4, k4⟩, xs ++ [v], _, _, rfl, by simp, by simp; omega, fun x hx => ?_⟩
        · rw [ss_cons hset]
          simp [evSs, evS, evX, evXs, binU, cmpU, truR, datas, ne_nil sy, hne, g, h4, add_tt, f1, one]
        · rcases List.mem_append.mp hx with hx | hx
          · exact e5 x hx
          · rw [List.mem_singleton.mp hx]
            exact c4 v m4)
  subst e2
  rw [Nat.zero_add, rng_len] at e4
  have sm : Same b S S' := (Same.trans ⟨l1, k1⟩ ⟨l2, k2⟩).trans s3
  refine ⟨xs, S', ?_, e3, e5, by omega, D3, sm⟩
  rw [call_at at_Lwalk rfl]
  show Ev.finish false S.length (evSs (cnN tb (n + 2)) ir_Lwalk [some (.ref b), some (.d (strip r c)), none, none, none, none, none] S) = _
  unfold ir_Lwalk
  rw [ss_cons (s_set (u := .d (.list ps)) (S1 := S) (by simp [evX, evXs, g, p1]))]
  rw [ss_cons (s_set (u := .d (.tuple [x0])) (S1 := S1) (by simp [evX, evXs, g, h1, datas, show 1 ≤ line by decide]))]
  rw [show ((([some (.ref b), some (.d (strip r c)), none, none, none, none, none] : Rho).set 2 (some (.d (.list ps)))).set 3 (some (.d (.tuple [x0])))) = [some (.ref b), some (.d (strip r c)), some (.d (.list ps)), some (.d (.tuple [x0])), none, none, none] from rfl]
  rw [ss_cons (ev_for (it_rng1 (j := t + 1) (S1 := S2) (by simp [evX, evXs, binU, g, bltD, h2]) (by omega) (by omega)) h3)]
  rw [ss_ret (s_ret (u := .d (.tuple xs)) rfl)]
  rw [fin_d, List.take_of_length_le (by rw [sm.1]; exact Nat.le_refl _)]
theorem lt_pl {r c : Int} {p q : PyData} (hp : InS r c p) (hq : InS r c q) : cmpD .Lt p q = some (W.dataLt p q) := by
  obtain ⟨a, b, rfl, _⟩ := hp
  obtain ⟨d, e, rfl, _⟩ := hq
  have h1 : SeqAt.shaped (.tuple [.int a, .int b]) = true := shaped_of (d := 1) ⟨rfl, Nat.le_refl 1⟩ (by decide)
  have h2 : SeqAt.shaped (.tuple [.int d, .int e]) = true := shaped_of (d := 1) ⟨rfl, Nat.le_refl 1⟩ (by decide)
  have h3 : W.alikeAll [.int a, .int b] [.int d, .int e] = true := rfl
  show (if (W.alikeAll [.int a, .int b] [.int d, .int e] && SeqAt.shaped (.tuple [.int a, .int b]) && SeqAt.shaped (.tuple [.int d, .int e])) = true then _ else none) = _
  rw [h1, h2, h3]
  rfl
theorem TieS.lay {r c : Int} {x : PyData} (h : TieS r c x) : x.canLay0 = true ∧ x.depth ≤ 2 := by
  obtain ⟨p, q, rfl, ⟨a, b, rfl, _⟩, d, e, rfl, _⟩ := h
  exact ⟨rfl, Nat.le_refl 2⟩
theorem TieS.alike {r c : Int} {x y : PyData} (h : TieS r c x) (k : TieS r c y) : W.alike x y = true := by
  obtain ⟨p, q, rfl, ⟨a, b, rfl, _⟩, d, e, rfl, _⟩ := h
  obtain ⟨p, q, rfl, ⟨a', b', rfl, _⟩, d', e', rfl, _⟩ := k
  rfl
theorem sort_ties {r c : Int} {xs : List PyData} (h : ∀ x, x ∈ xs → TieS r c x) (hl : xs.length ≤ 1000) : bltD .sorted (.list xs) = some (.list (sortD xs)) := by
  have hk : sortOk xs = true := by
    unfold sortOk
    simp only [Bool.and_eq_true, Bool.or_eq_true, decide_eq_true_eq, List.all_eq_true]
    refine ⟨⟨⟨by show _ ≤ 16777216; omega, fun x hx y hy => (h x hx).alike (h y hy)⟩, fun x hx => shaped_of (h x hx).lay (by decide)⟩, .inl fun x hx => ?_⟩
    obtain ⟨p, q, rfl, _⟩ := h x hx
    rfl
  exact if_pos hk
theorem sort_mem {xs : List PyData} {x : PyData} (h : x ∈ sortD xs) : x ∈ xs := by
  unfold sortD at h
  exact List.mem_mergeSort.mp h
theorem sort_len (xs : List PyData) : (sortD xs).length = xs.length := by unfold sortD; exact List.length_mergeSort _
theorem walk_ties_ok (n : Nat) (S : Store) {r c : Int} {ws : List PyData} (h : ∀ x, x ∈ ws → InS r c x) (h0 : ws ≠ []) (hl : ws.length ≤ 300) :
    ∃ xs : List PyData, callN tb (n + 1) i_Lwalk_ties [.d (.tuple ws)] S = .ok (.d (.list xs)) S ∧ (∀ x, x ∈ xs → TieS r c x) ∧ xs.length ≤ 300 := by
  have hpos := List.length_pos_iff.mpr h0
  rw [call_at at_Lwalk_ties rfl]
  obtain ⟨ys, S', h1, h2, h3, h4⟩ := comp_inv (t := .nm 2) (c := fun ρ S => evC (cnN tb n) .nil ρ S) (e := fun ρ S => dataR (evX (cnN tb n) (.tup (.cons (.idx (.loc 0) (.loc 2)) (.cons (.idx (.loc 0) (.bin .Add (.loc 2) (.con (.int 1)))) .nil))) ρ S)) (ρ := [some (.d (.tuple ws)), none, none, none, none])
    (fun k ys S' => S' = S ∧ ys.length = k ∧ ∀ x, x ∈ ys → TieS r c x) (rngItems 0 ((ws.length : Int) - 1).toNat) 0 [] S ⟨rfl, rfl, fun x hx => by cases hx⟩ (fun i u ys T hu ⟨e1, e2, e3⟩ => by
      obtain ⟨hi, rfl⟩ := rng_at hu
      subst e1
      have hi1 : i + 1 < ws.length := by omega
      have g1 : L2.atI ws (i : Int) = some (ws[i]'(by omega)) := at_nat (by omega) (by simp)
      have g2 : L2.atI ws ((i : Int) + 1) = some (ws[i + 1]'hi1) := at_nat (by omega) (by
        have : ((i : Int) + 1).toNat = i + 1 := by omega
        rw [this]
        simp)
      refine ⟨_, rfl, true, T, rfl, .inl ⟨rfl, .tuple [ws[i]'(by omega), ws[i + 1]'hi1], T, ?_, rfl, by simp; omega, fun x hx => ?_⟩⟩
      · simp [dataR, evX, evXs, binU, datas, two_line, idxD, g1, g2]
      · rcases List.mem_append.mp hx with hx | hx
        · exact e3 x hx
        · rw [List.mem_singleton.mp hx]
          exact ⟨_, _, rfl, h _ (List.getElem_mem _), h _ (List.getElem_mem _)⟩)
  subst h2
  rw [List.nil_append] at h3 h4
  rw [rng_len] at h3
  obtain ⟨zs, S'', k1, k2, k3, k4⟩ := comp_inv (t := .cons (.nm 3) (.cons (.nm 4) .nil)) (c := fun ρ S => evC (cnN tb n) .nil ρ S) (e := fun ρ S => dataR (evX (cnN tb n) (.ife (.cmp .Lt (.loc 3) (.loc 4)) (.tup (.cons (.loc 3) (.cons (.loc 4) .nil))) (.tup (.cons (.loc 4) (.cons (.loc 3) .nil)))) ρ S)) (ρ := [some (.d (.tuple ws)), some (.d (.list ys)), none, none, none])
    (fun k zs T => T = S' ∧ zs.length = k ∧ ∀ x, x ∈ zs → TieS r c x) (ys.map U.d) 0 [] S' ⟨rfl, rfl, fun x hx => by cases hx⟩ (fun i u zs T hu ⟨e1, e2, e3⟩ => by
      rw [List.getElem?_map] at hu
      obtain ⟨y, hy, rfl⟩ := map_some hu
      obtain ⟨p, q, rfl, hp, hq⟩ := h4 y (List.mem_of_getElem? hy)
      subst e1
      refine ⟨_, rfl, true, T, rfl, .inl ⟨rfl, if W.dataLt p q = true then .tuple [p, q] else .tuple [q, p], T, ?_, rfl, by simp; omega, fun x hx => ?_⟩⟩
      · cases hlt : W.dataLt p q <;> simp [dataR, evX, evXs, truR, cmpU, lt_pl hp hq, hlt, datas, two_line]
      · rcases List.mem_append.mp hx with hx | hx
        · exact e3 x hx
        · rw [List.mem_singleton.mp hx]
          split
          · exact ⟨_, _, rfl, hp, hq⟩
          · exact ⟨_, _, rfl, hq, hp⟩)
  subst k2
  rw [List.nil_append] at k3 k4
  rw [List.length_map] at k3
  refine ⟨sortD zs, ?_, fun x hx => k4 x (sort_mem hx), by rw [sort_len]; omega⟩
  show Ev.finish false S''.length (evSs (cnN tb n) ir_Lwalk_ties [some (.d (.tuple ws)), none, none, none, none] S'') = _
  unfold ir_Lwalk_ties
  rw [ss_cons (s_set (u := .d (.list ys)) (ev_lc (it_rng1 (j := (ws.length : Int) - 1) (by simp [evX, binU, bltD]) (by omega) (by omega)) (by rw [rng_len]; show _ ≤ 16777216; omega) h1))]
  rw [show ([some (.d (.tuple ws)), none, none, none, none] : Rho).set 1 (some (.d (.list ys))) = [some (.d (.tuple ws)), some (.d (.list ys)), none, none, none] from rfl]
  have hz := ev_lc (g := cnN tb n) (own := [3, 4]) (it := .val (.loc 1)) (ρ := [some (.d (.tuple ws)), some (.d (.list ys)), none, none, none]) (S := S'') (it_list rfl) (by rw [List.length_map]; show _ ≤ 16777216; omega) k1
  rw [ss_ret (s_ret (u := .d (.list (sortD zs))) (S1 := S'') (by rw [evX, hz]; simp [sort_ties k4 (by omega)]))]
  simp
/-! ### drawings -/
/-- a text of n signs 0, 1 -/
def Sg (z : Str) (n : Nat) : Prop := z.cps.size = n ∧ ∀ c, c ∈ z.cps.toList → c = 48 ∨ c = 49
theorem Sg.more {z : Str} {n : Nat} (h : Sg z n) (b : Bool) : Sg (z ++ (if b = true then ("1" : Str) else ("0" : Str))) (n + 1) := by
  have e1 : ("1" : Str).cps = #[49] := by decide
  have e0 : ("0" : Str).cps = #[48] := by decide
  cases b with
  | true =>
    refine ⟨?_, fun c hc => ?_⟩
    · show (z.cps ++ ("1" : Str).cps).size = _
      rw [e1, Array.size_append, h.1]
      rfl
    · have hc : c ∈ (z.cps ++ ("1" : Str).cps).toList := hc
      rw [e1, Array.toList_append] at hc
      rcases List.mem_append.mp hc with hc | hc
      · exact h.2 c hc
      · exact .inr (by simpa using hc)
  | false =>
    refine ⟨?_, fun c hc => ?_⟩
    · show (z.cps ++ ("0" : Str).cps).size = _
      rw [e0, Array.size_append, h.1]
      rfl
    · have hc : c ∈ (z.cps ++ ("0" : Str).cps).toList := hc
      rw [e0, Array.toList_append] at hc
      rcases List.mem_append.mp hc with hc | hc
      · exact h.2 c hc
      · exact .inl (by simpa using hc)
/-- a column's text; of the last column, no tie leads on -/
def Col (r c : Int) (i : Nat) (p : PyData) : Prop := ∃ z : Str, p = .str z ∧ Sg z (2 * r - 1).toNat ∧ ((i : Int) = c - 1 → ∀ j ch, (r - 1).toNat ≤ j → z.cps.toList[j]? = some ch → ch = 48)
theorem not_in {r c : Int} {ts : List PyData} (h : ∀ x, x ∈ ts → TieS r c x) (p : PyData) (b : Int) : (ts.any fun z => PyData.eqv z (.tuple [p, .tuple [.int c, .int b]])) = false := by
  rw [List.any_eq_false]
  intro x hx
  obtain ⟨p', q', rfl, _, d, e, rfl, d0, d1, _⟩ := h x hx
  have hne : (d == c) = false := by
    have : d ≠ c := by omega
    simpa using this
  show ¬ (PyData.eqv p' p && (((d == c) && (PyData.eqv (.int e) (.int b) && true)) && true)) = true
  rw [hne]
  simp
theorem two_pl (a b d e : Int) : SeqAt.shaped (.tuple [.tuple [.int a, .int b], .tuple [.int d, .int e]]) = true := shaped_of (d := 2) ⟨rfl, Nat.le_refl 2⟩ (by decide)
theorem drawn_ok (n : Nat) (S : Store) {r c : Int} (hr : 1 ≤ r) (hc : 1 ≤ c) (hr2 : r ≤ 200) (hc2 : c ≤ 200) {ts : List PyData} (ht : ∀ x, x ∈ ts → TieS r c x) :
    ∃ ds : List PyData, callN tb (n + 1) i_Ldrawn [.d (strip r c), .d (.list ts)] S = .ok (.d (.tuple ds)) S ∧ (ds.length : Int) = c ∧ ∀ i p, ds[i]? = some p → Col r c i p := by
  have sts : SeqAt.shaped (.list ts) = true := shaped_of (lay_seq fun x hx => (ht x hx).lay).1 (by decide)
  rw [call_at at_Ldrawn rfl]
  let g := cnN tb n
  -- one sign more
  have sign : ∀ (q : X) (a b d e : Int) (z : Str) (ρ : Rho) (T : Store), ρ[1]? = some (some (.d (.list ts))) → ρ[4]? = some (some (.d (.str z))) → evX g q ρ T = .ok (.d (.tuple [.tuple [.int a, .int b], .tuple [.int d, .int e]])) T → z.cps.size ≤ 1000 →
      evX g (.bin .Add (.loc 4) (.ife (.cmp .In q (.loc 1)) (.con (.str "1")) (.con (.str "0")))) ρ T = .ok (.d (.str (z ++ (if (ts.any fun y => PyData.eqv y (.tuple [.tuple [.int a, .int b], .tuple [.int d, .int e]])) = true then ("1" : Str) else ("0" : Str))))) T := by
    intro q a b d e z ρ T h1 h4 hq hz
    have l1 : z.length + ("1" : Str).length ≤ line := by show z.cps.size + 1 ≤ 16777216; omega
    have l0 : z.length + ("0" : Str).length ≤ line := by show z.cps.size + 1 ≤ 16777216; omega
    have e1 : evX g (.loc 4) ρ T = .ok (.d (.str z)) T := by simp [evX, h4]
    have e2 : evX g (.loc 1) ρ T = .ok (.d (.list ts)) T := by simp [evX, h1]
    have e3 : truR (evX g (.cmp .In q (.loc 1)) ρ T) = .ok (ts.any fun y => PyData.eqv y (.tuple [.tuple [.int a, .int b], .tuple [.int d, .int e]])) T := by
      rw [evX, hq, b_ok, e2, b_ok]
      simp only [cmpU, d_d, Option.bind_some, cmpD, in_list (two_pl a b d e) sts, Option.map_some, of_some, truR, b_ok, tru_b]
    rw [evX, e1, b_ok, evX, e3, b_ok]
    cases ts.any fun y => PyData.eqv y (.tuple [.tuple [.int a, .int b], .tuple [.int d, .int e]]) with
    | true => rw [if_pos rfl, if_pos rfl]; simp [evX, binU, add_ss l1]
    | false => rw [if_neg (by decide), if_neg (by decide)]; simp [evX, binU, add_ss l0]
  let body1 : Sts := .cons (.set 4 (.bin .Add (.loc 4) (.ife (.cmp .In (.tup (.cons (.tup (.cons (.loc 3) (.cons (.loc 5) .nil))) (.cons (.tup (.cons (.loc 3) (.cons (.bin .Add (.loc 5) (.con (.int 1))) .nil))) .nil))) (.loc 1)) (.con (.str "1")) (.con (.str "0"))))) .nil
  let body2 : Sts := .cons (.set 4 (.bin .Add (.loc 4) (.ife (.cmp .In (.tup (.cons (.tup (.cons (.loc 3) (.cons (.loc 5) .nil))) (.cons (.tup (.cons (.bin .Add (.loc 3) (.con (.int 1))) (.cons (.loc 5) .nil))) .nil))) (.loc 1)) (.con (.str "1")) (.con (.str "0"))))) .nil
  -- one column
  have col : ∀ (a : Nat) (T : Store) (f : Option U) (w : Option U), ∃ (z : Str) (w' : Option U), Col r c a (.str z) ∧
      (∃ z1 w1, loopL (.nm 5) (fun ρ S => evSs g body1 ρ S) (rngItems 0 (r - 1).toNat) [some (.d (strip r c)), some (.d (.list ts)), f, some (.d (.int (a : Nat))), some (.d (.str "")), w] T = .ok (.nx [some (.d (strip r c)), some (.d (.list ts)), f, some (.d (.int (a : Nat))), some (.d (.str z1)), w1]) T ∧
        loopL (.nm 5) (fun ρ S => evSs g body2 ρ S) (rngItems 0 r.toNat) [some (.d (strip r c)), some (.d (.list ts)), f, some (.d (.int (a : Nat))), some (.d (.str z1)), w1] T = .ok (.nx [some (.d (strip r c)), some (.d (.list ts)), f, some (.d (.int (a : Nat))), some (.d (.str z)), w']) T) := by
    intro a T f w
    obtain ⟨ρ', T', h1, rfl, z1, w1, rfl, h2⟩ := loop_inv (t := .nm 5) (body := fun ρ S => evSs g body1 ρ S)
      (fun k ρ T' => T' = T ∧ ∃ (z : Str) (w : Option U), ρ = [some (.d (strip r c)), some (.d (.list ts)), f, some (.d (.int (a : Nat))), some (.d (.str z)), w] ∧ Sg z k) (rngItems 0 (r - 1).toNat) 0 [some (.d (strip r c)), some (.d (.list ts)), f, some (.d (.int (a : Nat))), some (.d (.str "")), w] T
      ⟨rfl, "", w, rfl, rfl, fun ch h => by cases h⟩ (fun i u ρ T' hu ⟨e1, z, w, e2, e3⟩ => by
        obtain ⟨hi, rfl⟩ := rng_at hu
        subst e1 e2
        rw [Nat.zero_add] at e3 ⊢
        refine ⟨[some (.d (strip r c)), some (.d (.list ts)), f, some (.d (.int (a : Nat))), some (.d (.str z)), some (.d (.int (0 + (i : Nat))))], _, T', rfl, ?_, rfl, _, some (.d (.int (0 + (i : Nat)))), rfl, e3.more (ts.any fun y => PyData.eqv y (.tuple [.tuple [.int (a : Nat), .int (0 + (i : Nat))], .tuple [.int (a : Nat), .int (0 + (i : Nat) + 1)]]))⟩
        show evSs g body1 _ _ = _
        rw [ss_cons (s_set (sign _ (a : Nat) (0 + (i : Nat)) (a : Nat) (0 + (i : Nat) + 1) z _ T' rfl rfl (by simp [evX, evXs, binU, datas, two_line]) (by rw [e3.1]; omega)))]
        rfl)
    rw [Nat.zero_add, rng_len] at h2
    obtain ⟨ρ'', T'', h3, e3, z, w', e4, h4, h5⟩ := loop_inv (t := .nm 5) (body := fun ρ S => evSs g body2 ρ S)
      (fun k ρ T'' => T'' = T' ∧ ∃ (z : Str) (w : Option U), ρ = [some (.d (strip r c)), some (.d (.list ts)), f, some (.d (.int (a : Nat))), some (.d (.str z)), w] ∧ Sg z ((r - 1).toNat + k) ∧ ((a : Int) = c - 1 → ∀ j ch, (r - 1).toNat ≤ j → z.cps.toList[j]? = some ch → ch = 48)) (rngItems 0 r.toNat) 0 [some (.d (strip r c)), some (.d (.list ts)), f, some (.d (.int (a : Nat))), some (.d (.str z1)), w1] T'
      ⟨rfl, z1, w1, rfl, h2, fun _ j ch hj hch => by
        have := (List.getElem?_eq_some_iff.mp hch).1
        rw [Array.length_toList, h2.1] at this
        omega⟩ (fun i u ρ T'' hu ⟨e1, z, w, e2, e3, e5⟩ => by
        obtain ⟨hi, rfl⟩ := rng_at hu
        subst e1 e2
        rw [Nat.zero_add] at e3 ⊢
        refine ⟨[some (.d (strip r c)), some (.d (.list ts)), f, some (.d (.int (a : Nat))), some (.d (.str z)), some (.d (.int (0 + (i : Nat))))], _, T'', rfl, ?_, rfl, _, some (.d (.int (0 + (i : Nat)))), rfl, e3.more (ts.any fun y => PyData.eqv y (.tuple [.tuple [.int (a : Nat), .int (0 + (i : Nat))], .tuple [.int ((a : Nat) + 1), .int (0 + (i : Nat))]])), fun ha j ch hj hch => ?_⟩
        · show evSs g body2 _ _ = _
          rw [ss_cons (s_set (sign _ (a : Nat) (0 + (i : Nat)) ((a : Nat) + 1) (0 + (i : Nat)) z _ T'' rfl rfl (by simp [evX, evXs, binU, datas, two_line]) (by rw [e3.1]; omega)))]
          rfl
        · have hca : ((a : Nat) : Int) + 1 = c := by omega
          rw [hca, not_in ht, if_neg (by decide)] at hch
          have e0 : ("0" : Str).cps = #[48] := by decide
          have hch : (z.cps ++ ("0" : Str).cps).toList[j]? = some ch := hch
          rw [e0, Array.toList_append] at hch
          by_cases hjz : j < z.cps.toList.length
          · rw [List.getElem?_append_left hjz] at hch
            exact e5 ha j ch hj hch
          · rw [List.getElem?_append_right (by omega)] at hch
            have := List.mem_of_getElem? hch
            simpa using this)
    subst e3 e4
    rw [Nat.zero_add, rng_len] at h4
    have hn : (r - 1).toNat + r.toNat = (2 * r - 1).toNat := by omega
    rw [hn] at h4
    exact ⟨z, w', ⟨z, rfl, h4, h5⟩, z1, w1, h1, h3⟩
  have box_at : ∀ (xs : List PyData), (S ++ [Box.lst xs])[S.length]? = some (.lst xs) := fun xs => by rw [List.getElem?_append_right (Nat.le_refl _), Nat.sub_self]; rfl
  have box_set : ∀ (xs ys : List PyData), (S ++ [Box.lst xs]).set S.length (.lst ys) = S ++ [Box.lst ys] := fun xs ys => by rw [List.set_append_right _ _ (Nat.le_refl _), Nat.sub_self]; rfl
  obtain ⟨ρ', S', h1, xs, z0, z, w, e1, e2, e3, e4⟩ := loop_inv (t := .nm 3)
    (body := fun ρ S => evSs g (.cons (.set 4 (.con (.str ""))) (.cons (.forr (.nm 5) (.rng (.cons (.bin .Sub (.idx (.loc 0) (.con (.int 0))) (.con (.int 1))) .nil)) body1) (.cons (.forr (.nm 5) (.rng (.cons (.idx (.loc 0) (.con (.int 0))) .nil)) body2) (.cons (.app 2 (.loc 4)) .nil)))) ρ S)
    (fun i ρ S' => ∃ (xs : List PyData) (z0 z w : Option U), S' = S ++ [.lst xs] ∧ ρ = [some (.d (strip r c)), some (.d (.list ts)), some (.ref S.length), z0, z, w] ∧ xs.length = i ∧ ∀ j p, xs[j]? = some p → Col r c j p)
    (rngItems 0 c.toNat) 0 [some (.d (strip r c)), some (.d (.list ts)), some (.ref S.length), none, none, none] (S ++ [.lst []]) ⟨[], none, none, none, rfl, rfl, rfl, fun j p h => by simp at h⟩ (fun i u ρ S' hu ⟨xs, z0, z, w, e1, e2, e3, e4⟩ => by
      obtain ⟨hi, rfl⟩ := rng_at hu
      subst e1 e2
      rw [Nat.zero_add] at e3 ⊢
      rw [show (0 : Int) + (i : Nat) = ((i : Nat) : Int) by omega]
      obtain ⟨y, w', hy, z1, w1, l1, l2⟩ := col i (S ++ [.lst xs]) (some (.ref S.length)) w
      have hlt : xs.length < line := by show _ < 16777216; omega
      refine ⟨[some (.d (strip r c)), some (.d (.list ts)), some (.ref S.length), some (.d (.int (i : Nat))), z, w], [some (.d (strip r c)), some (.d (.list ts)), some (.ref S.length), some (.d (.int (i : Nat))), some (.d (.str y)), w'], S ++ [.lst (xs ++ [.str y])], rfl, ?_, xs ++ [.str y], _, _, _, rfl, rfl, by simp [e3], fun j p hj => ?_⟩
      · show evSs g _ _ _ = _
        rw [ss_cons (s_set (u := .d (.str "")) rfl)]
        rw [show ([some (.d (strip r c)), some (.d (.list ts)), some (.ref S.length), some (.d (.int (i : Nat))), z, w] : Rho).set 4 (some (.d (.str ""))) = [some (.d (strip r c)), some (.d (.list ts)), some (.ref S.length), some (.d (.int (i : Nat))), some (.d (.str "")), w] from rfl]
        rw [ss_cons (ev_for (it_rng1 (j := r - 1) (by simp [evX, binU]) (by omega) (by omega)) l1)]
        rw [ss_cons (ev_for (it_rng1 (j := r) (by simp [evX, binU]) (by omega) (by omega)) l2)]
        simp [evSs, evS, evX, appL, box_at, hlt, box_set]
      · by_cases hjl : j < xs.length
        · rw [List.getElem?_append_left hjl] at hj
          exact e4 j p hj
        · rw [List.getElem?_append_right (by omega)] at hj
          have e0 : j - xs.length = 0 := by
            have := (List.getElem?_eq_some_iff.mp hj).1
            simp at this
            omega
          rw [e0] at hj
          cases hj
          have : j = i := by omega
          rw [this]
          exact hy)
  subst e1 e2
  rw [Nat.zero_add, rng_len] at e3
  refine ⟨xs, ?_, by omega, e4⟩
  show Ev.finish false S.length (evSs g ir_Ldrawn [some (.d (strip r c)), some (.d (.list ts)), none, none, none, none] S) = _
  unfold ir_Ldrawn
  rw [ss_cons (s_set (u := .ref S.length) (S1 := S ++ [.lst []]) (by simp [evX, evXs, datas]))]
  rw [show ([some (.d (strip r c)), some (.d (.list ts)), none, none, none, none] : Rho).set 2 (some (.ref S.length)) = [some (.d (strip r c)), some (.d (.list ts)), some (.ref S.length), none, none, none] from rfl]
  rw [ss_cons (ev_for (it_rng1 (j := c) (by simp [evX, binU]) (by omega) (by omega)) h1)]
  rw [ss_ret (s_ret (u := .d (.tuple xs)) (S1 := S ++ [.lst xs]) (by simp [evX, d_lst (box_at xs), bltD, seqD]))]
  rw [fin_d, List.take_left]
theorem any_ok (n : Nat) {S : Store} {b : Nat} (hS : Drum S b) {r c : Int} (hr : 1 ≤ r) (hc : 1 ≤ c) (hm : r * c ≤ 200) (hr2 : r ≤ 200) (hc2 : c ≤ 200) :
    ∃ (ds : List PyData) (S' : Store), callN tb (n + 4) i_Lany [.ref b, .d (strip r c)] S = .ok (.d (.tuple ds)) S' ∧ (ds.length : Int) = c ∧ (∀ i p, ds[i]? = some p → Col r c i p) ∧ Drum S' b ∧ Same b S S' := by
  obtain ⟨ws, S1, w1, w2, w3, w4, D1, sm1⟩ := walk_ok n hS hr hc hm hr2 hc2
  obtain ⟨ts, t1, t2, t3⟩ := walk_ties_ok (n + 2) S1 w3 w2 (by omega)
  obtain ⟨es, e1, e2, e3⟩ := ties_ok (n + 1) S1 hr hc hm hr2 hc2
  obtain ⟨wy, S2, wy0, wy1, y1, D2, l2, k2⟩ := roll_ok (n + 2) (m := 4) D1 (by decide) (by decide)
  have g : (cnN tb (n + 3)).call = callN tb (n + 3) := rfl
  have ses : SeqAt.shaped (.list es) = true := shaped_of (lay_seq fun x hx => (e2 x hx).lay).1 (by decide)
  -- every tie, or not
  have st4 : ∃ (us : List PyData) (z : Option U) (S3 : Store), evS (cnN tb (n + 3)) (.iff (.cmp .Eq (.loc 4) (.con (.int 0))) (.cons (.set 2 (.lc [5] (.nm 5) (.val (.loc 3)) (.cons (.cmp .Eq (.call i_Lroll (.cons (.loc 0) (.cons (.con (.int 2)) .nil))) (.con (.int 0))) .nil) (.loc 5))) .nil) .nil)
      [some (.ref b), some (.d (strip r c)), some (.d (.list ts)), some (.d (.list es)), some (.d (.int wy)), none, none] S2 = .ok (.nx [some (.ref b), some (.d (strip r c)), some (.d (.list us)), some (.d (.list es)), some (.d (.int wy)), none, none]) S3 ∧ (∀ x, x ∈ us → TieS r c x) ∧ us.length ≤ 400 ∧ Drum S3 b ∧ Same b S2 S3 := by
    by_cases h0 : wy = 0
    · subst h0
      obtain ⟨ys, S3, c1, D3, sm3, c3, c4⟩ := comp_inv (t := .nm 5) (c := fun ρ S => evC (cnN tb (n + 3)) (.cons (.cmp .Eq (.call i_Lroll (.cons (.loc 0) (.cons (.con (.int 2)) .nil))) (.con (.int 0))) .nil) ρ S) (e := fun ρ S => dataR (evX (cnN tb (n + 3)) (.loc 5) ρ S))
        (ρ := [some (.ref b), some (.d (strip r c)), some (.d (.list ts)), some (.d (.list es)), some (.d (.int 0)), none, none])
        (fun k ys T => Drum T b ∧ Same b S2 T ∧ ys.length ≤ k ∧ ∀ x, x ∈ ys → TieS r c x) (es.map U.d) 0 [] S2 ⟨D2, Same.refl _ _, Nat.le_refl _, fun x hx => by cases hx⟩ (fun j u ys T hu ⟨f0, fs, f2, f3⟩ => by
          rw [List.getElem?_map] at hu
          obtain ⟨p, hp, rfl⟩ := map_some hu
          have hin := e2 p (List.mem_of_getElem? hp)
          obtain ⟨q, T', q0, q1, q2, D', l', k'⟩ := roll_ok (n + 2) (m := 2) f0 (by decide) (by decide)
          refine ⟨[some (.ref b), some (.d (strip r c)), some (.d (.list ts)), some (.d (.list es)), some (.d (.int 0)), some (.d p), none], rfl, decide (q = 0), T', ?_, ?_⟩
          · unfold evC
            simp [evX, evXs, truR, cmpU, g, q2]
          · by_cases hq : q = 0
            · refine .inl ⟨by simp [hq], p, T', rfl, D', fs.trans ⟨l', k'⟩, by simp; omega, fun x hx => ?_⟩
              rcases List.mem_append.mp hx with hx | hx
              · exact f3 x hx
              · rw [List.mem_singleton.mp hx]
                exact hin
            · exact .inr ⟨by simp [hq], D', fs.trans ⟨l', k'⟩, by omega, f3⟩)
      rw [List.nil_append] at c3 c4
      rw [List.length_map] at c3
      refine ⟨ys, none, S3, s_ifT (S1 := S2) (by simp [evX, truR, cmpU]) ?_, c4, by omega, D3, sm3⟩
      rw [ss_cons (s_set (u := .d (.list ys)) (S1 := S3) (ev_lc (it_list rfl) (by rw [List.length_map]; show _ ≤ 16777216; omega) c1))]
      rfl
    · exact ⟨ts, none, S2, s_ifF (by simp [evX, truR, cmpU, h0]), t2, by omega, D2, Same.refl _ _⟩
  obtain ⟨us, z6, S3, f1, f2, f3, D3, sm3⟩ := st4
  have sus : SeqAt.shaped (.list us) = true := shaped_of (lay_seq fun x hx => (f2 x hx).lay).1 (by decide)
  -- a tie otherwise, or not
  have st5 : ∃ (vs : List PyData) (z : Option U) (S4 : Store), evS (cnN tb (n + 3)) (.iff (.and (.cmp .Eq (.loc 4) (.con (.int 1))) (.cmp .NotEq (.loc 3) (.lst .nil))) (.cons (.set 5 (.call i_Lsome (.cons (.loc 0) (.cons (.loc 3) .nil)))) (.cons (.set 2 (.bin .Add (.lc [6] (.nm 6) (.val (.loc 2)) (.cons (.cmp .NotEq (.loc 6) (.loc 5)) .nil) (.loc 6)) (.ife (.cmp .In (.loc 5) (.loc 2)) (.lst .nil) (.lst (.cons (.loc 5) .nil))))) .nil)) .nil)
      [some (.ref b), some (.d (strip r c)), some (.d (.list us)), some (.d (.list es)), some (.d (.int wy)), none, none] S3 = .ok (.nx [some (.ref b), some (.d (strip r c)), some (.d (.list vs)), some (.d (.list es)), some (.d (.int wy)), z, none]) S4 ∧ (∀ x, x ∈ vs → TieS r c x) ∧ Drum S4 b ∧ Same b S3 S4 := by
    by_cases h1 : wy = 1 ∧ es ≠ []
    · obtain ⟨rfl, hes⟩ := h1
      obtain ⟨p, S4, m4, h4, D4, l4, k4⟩ := some_ok (n + 1) D3 (.inl rfl) hes (by omega)
      have hp := e2 p m4
      have sp := shaped_of hp.lay (by decide)
      obtain ⟨ys, S5, c1, c2, c3, c4⟩ := comp_inv (t := .nm 6) (c := fun ρ S => evC (cnN tb (n + 3)) (.cons (.cmp .NotEq (.loc 6) (.loc 5)) .nil) ρ S) (e := fun ρ S => dataR (evX (cnN tb (n + 3)) (.loc 6) ρ S))
        (ρ := [some (.ref b), some (.d (strip r c)), some (.d (.list us)), some (.d (.list es)), some (.d (.int 1)), some (.d p), none])
        (fun k ys T => T = S4 ∧ ys.length ≤ k ∧ ∀ x, x ∈ ys → TieS r c x) (us.map U.d) 0 [] S4 ⟨rfl, Nat.le_refl _, fun x hx => by cases hx⟩ (fun j u ys T hu ⟨g1, g2, g3⟩ => by
          rw [List.getElem?_map] at hu
          obtain ⟨q, hq, rfl⟩ := map_some hu
          have hin := f2 q (List.mem_of_getElem? hq)
          have sq := shaped_of hin.lay (by decide)
          subst g1
          refine ⟨[some (.ref b), some (.d (strip r c)), some (.d (.list us)), some (.d (.list es)), some (.d (.int 1)), some (.d p), some (.d q)], rfl, !(PyData.eqv q p), T, ?_, ?_⟩
          · unfold evC
            simp [evX, truR, cmpU, cmpD, eq_d sq sp]
          · cases he : PyData.eqv q p with
            | true => exact .inr ⟨rfl, rfl, by omega, g3⟩
            | false =>
              refine .inl ⟨rfl, q, T, rfl, rfl, by simp; omega, fun x hx => ?_⟩
              rcases List.mem_append.mp hx with hx | hx
              · exact g3 x hx
              · rw [List.mem_singleton.mp hx]
                exact hin)
      subst c2
      rw [List.nil_append] at c3 c4
      rw [List.length_map] at c3
      have hne : es.isEmpty = false := by cases es with
        | nil => exact absurd rfl hes
        | cons _ _ => rfl
      have hlc := ev_lc (g := cnN tb (n + 3)) (own := [6]) (it := .val (.loc 2)) (ρ := [some (.ref b), some (.d (strip r c)), some (.d (.list us)), some (.d (.list es)), some (.d (.int 1)), some (.d p), none]) (S := S5) (it_list rfl) (by rw [List.length_map]; show _ ≤ 16777216; omega) c1
      have z0 : ys.length ≤ line := by show _ ≤ 16777216; omega
      have z1 : ys.length + 1 ≤ line := by show _ ≤ 16777216; omega
      refine ⟨ys ++ (if (us.any fun y => PyData.eqv y p) = true then [] else [p]), some (.d p), S5, s_ifT (S1 := S3) (by simp [evX, evXs, truR, boolR, asB, cmpU, datas, ne_nil ses, hne]) ?_, fun x hx => ?_, D4, l4, k4⟩
      · rw [ss_cons (s_set (u := .d p) (S1 := S5) (by simp [evX, evXs, g, h4]))]
        rw [show ([some (.ref b), some (.d (strip r c)), some (.d (.list us)), some (.d (.list es)), some (.d (.int 1)), none, none] : Rho).set 5 (some (.d p)) = [some (.ref b), some (.d (strip r c)), some (.d (.list us)), some (.d (.list es)), some (.d (.int 1)), some (.d p), none] from rfl]
        rw [ss_cons (s_set (u := .d (.list (ys ++ (if (us.any fun y => PyData.eqv y p) = true then [] else [p])))) (S1 := S5) (by
          rw [evX, hlc, b_ok]
          cases hi : us.any fun y => PyData.eqv y p <;> simp [evX, evXs, truR, cmpU, cmpD, in_list sp sus, hi, datas, binU, add_ll, z0, z1, show 1 ≤ line by decide]))]
        rfl
      · rcases List.mem_append.mp hx with hx | hx
        · exact c4 x hx
        · split at hx
          · cases hx
          · rw [List.mem_singleton.mp hx]
            exact hp
    · refine ⟨us, none, S3, s_ifF ?_, f2, D3, Same.refl _ _⟩
      by_cases hw : wy = 1
      · have hes : es = [] := by
          by_cases he : es = []
          · exact he
          · exact absurd ⟨hw, he⟩ h1
        subst hes
        simp [evX, evXs, truR, boolR, asB, cmpU, datas, ne_nil shaped_nil, hw]
      · simp [evX, evXs, truR, boolR, asB, cmpU, hw]
  obtain ⟨vs, z7, S4, v1, v2, D4, sm4⟩ := st5
  obtain ⟨ds, d1, d2, d3⟩ := drawn_ok (n + 2) S4 hr hc hr2 hc2 v2
  have sm : Same b S S4 := ((sm1.trans ⟨l2, k2⟩).trans sm3).trans sm4
  refine ⟨ds, S4, ?_, d2, d3, D4, sm⟩
  rw [call_at at_Lany rfl]
  show Ev.finish false S.length (evSs (cnN tb (n + 3)) ir_Lany [some (.ref b), some (.d (strip r c)), none, none, none, none, none] S) = _
  unfold ir_Lany
  rw [ss_cons (s_set (u := .d (.list ts)) (S1 := S1) (by simp [evX, evXs, g, w1, t1]))]
  rw [ss_cons (s_set (u := .d (.list es)) (S1 := S1) (by simp [evX, evXs, g, e1]))]
  rw [ss_cons (s_set (u := .d (.int wy)) (S1 := S2) (by simp [evX, evXs, g, y1]))]
  rw [show (((([some (.ref b), some (.d (strip r c)), none, none, none, none, none] : Rho).set 2 (some (.d (.list ts)))).set 3 (some (.d (.list es)))).set 4 (some (.d (.int wy)))) = [some (.ref b), some (.d (strip r c)), some (.d (.list ts)), some (.d (.list es)), some (.d (.int wy)), none, none] from rfl]
  rw [ss_cons f1, ss_cons v1]
  rw [ss_ret (s_ret (u := .d (.tuple ds)) (S1 := S4) (by simp [evX, evXs, g, d1]))]
  rw [fin_d, List.take_of_length_le (by rw [sm.1]; exact Nat.le_refl _)]
end K01
end

section
set_option Elab.async false
set_option linter.all false
set_option maxRecDepth 100000
set_option maxHeartbeats 1000000
namespace K01
open PySem Ev
/-! # Values of any kind: odd, bent -/
def big : Nat := 10 ^ 30
/-- no list and no tuple -/
def Atom (w : Nat) : PyData → Prop
  | .none => True
  | .bool _ => True
  | .int i => i.natAbs ≤ big + w
  | .str z => z.length ≤ 2000 + w ∧ Vs (sg z)
  | _ => False
/-- .. or lists and tuples of such, to a depth -/
def OkV (w : Nat) : Nat → PyData → Prop
  | 0, p => Atom w p
  | d + 1, p => Atom w p ∨ ∃ xs, (p = .list xs ∨ p = .tuple xs) ∧ xs.length ≤ 45 + w ∧ ∀ x, x ∈ xs → OkV w d x
theorem Atom.up {w w' : Nat} (h : w ≤ w') {p : PyData} (k : Atom w p) : Atom w' p := by
  cases p with
  | int i => exact Nat.le_trans (show i.natAbs ≤ big + w from k) (by omega)
  | str z => exact ⟨Nat.le_trans (show z.length ≤ 2000 + w from k.1) (by omega), k.2⟩
  | _ => exact k
theorem OkV.up {w w' : Nat} (h : w ≤ w') : ∀ {d d' : Nat} {p : PyData}, d ≤ d' → OkV w d p → OkV w' d' p
  | 0, 0, _, _, k => Atom.up h k
  | 0, d' + 1, _, _, k => .inl (Atom.up h k)
  | d + 1, 0, _, hd, _ => absurd hd (by omega)
  | d + 1, d' + 1, _, hd, k => by
    rcases k with k | ⟨xs, e, l, a⟩
    · exact .inl (Atom.up h k)
    · exact .inr ⟨xs, e, by omega, fun x hx => OkV.up h (Nat.le_of_succ_le_succ hd) (a x hx)⟩
theorem Atom.lay {w : Nat} {p : PyData} (h : Atom w p) : p.canLay0 = true ∧ p.depth ≤ 1 := by
  cases p with
  | none => exact ⟨rfl, by decide⟩
  | bool b => exact ⟨rfl, Nat.zero_le 1⟩
  | int i => exact ⟨rfl, Nat.zero_le 1⟩
  | str z => exact lay_sD (a := sg z) h.2
  | list _ => exact h.elim
  | tuple _ => exact h.elim
  | dict _ => exact h.elim
theorem OkV.lay {w : Nat} : ∀ {d : Nat} {p : PyData}, OkV w d p → p.canLay0 = true ∧ p.depth ≤ d + 1
  | 0, _, h => Atom.lay h
  | d + 1, _, h => by
    rcases h with h | ⟨xs, e, _, a⟩
    · exact ⟨(Atom.lay h).1, Nat.le_trans (Atom.lay h).2 (by omega)⟩
    · have z := lay_seq fun x hx => OkV.lay (a x hx)
      rcases e with rfl | rfl
      · exact z.1
      · exact z.2
theorem OkV.shaped {w d : Nat} {p : PyData} (h : OkV w d p) (hd : d ≤ 60) : SeqAt.shaped p = true := shaped_of h.lay (by omega)
theorem OkV.of {w d : Nat} {p : PyData} (h : Atom w p) : OkV w d p := by
  cases d with
  | zero => exact h
  | succ d => exact .inl h
theorem OkV.seq {w d : Nat} {xs : List PyData} (l : xs.length ≤ 45 + w) (h : ∀ x, x ∈ xs → OkV w d x) : OkV w (d + 1) (.list xs) ∧ OkV w (d + 1) (.tuple xs) := ⟨.inr ⟨xs, .inl rfl, l, h⟩, .inr ⟨xs, .inr rfl, l, h⟩⟩
/-! ### odd -/
def oddA : List PyData := [.none, .bool true, .bool false, .int 0, .int 1, .int 3, .int 60, .int 61, .int (-1), .int 1000000000000000000000000000000, .str "", .str "0", .str "000", .str "101", .str "line", .tuple [], .list [], .tuple [.int 0, .int 0], .tuple [.int 1, .int 0]]
def oddB : List PyData := [.tuple [.int 2, .int 3], .tuple [.tuple [.int 0, .int 0], .tuple [.int 1, .int 0]], .tuple [.str "000", .str "000"], .tuple [.tuple [.int 0, .int 0]], .tuple [.tuple [.tuple [.int 0, .int 0], .tuple [.int 0, .int 1]]]]
/-- .. as a test -/
def okB : Nat → PyData → Bool
  | _, .none => true
  | _, .bool _ => true
  | _, .int i => decide (i.natAbs ≤ big)
  | _, .str z => decide (z.length ≤ 2000) && (sg z).all fun c => decide (c < 1114112)
  | 0, .list _ => false
  | 0, .tuple _ => false
  | d + 1, .list xs => decide (xs.length ≤ 45) && xs.all (okB d)
  | d + 1, .tuple xs => decide (xs.length ≤ 45) && xs.all (okB d)
  | _, .dict _ => false
theorem okB_ok : ∀ (d : Nat) (p : PyData), okB d p = true → OkV 0 d p := by
  intro d
  induction d with
  | zero =>
    intro p h
    cases p with
    | none => exact trivial
    | bool b => exact trivial
    | int i =>
      have h : decide (i.natAbs ≤ big) = true := h
      exact (of_decide_eq_true h : i.natAbs ≤ big)
    | str z =>
      have h : (decide (z.length ≤ 2000) && (sg z).all fun c => decide (c < 1114112)) = true := h
      rw [Bool.and_eq_true, decide_eq_true_eq, List.all_eq_true] at h
      exact ⟨h.1, fun c hc => of_decide_eq_true (h.2 c hc)⟩
    | _ => cases h
  | succ d ih =>
    intro p h
    cases p with
    | none => exact .inl trivial
    | bool b => exact .inl trivial
    | int i =>
      have h : decide (i.natAbs ≤ big) = true := h
      exact .inl (of_decide_eq_true h : i.natAbs ≤ big)
    | str z =>
      have h : (decide (z.length ≤ 2000) && (sg z).all fun c => decide (c < 1114112)) = true := h
      rw [Bool.and_eq_true, decide_eq_true_eq, List.all_eq_true] at h
      exact .inl ⟨h.1, fun c hc => of_decide_eq_true (h.2 c hc)⟩
    | list xs =>
      have h : (decide (xs.length ≤ 45) && xs.all (okB d)) = true := h
      rw [Bool.and_eq_true, decide_eq_true_eq, List.all_eq_true] at h
      exact .inr ⟨xs, .inl rfl, h.1, fun x hx => ih x (h.2 x hx)⟩
    | tuple xs =>
      have h : (decide (xs.length ≤ 45) && xs.all (okB d)) = true := h
      rw [Bool.and_eq_true, decide_eq_true_eq, List.all_eq_true] at h
      exact .inr ⟨xs, .inr rfl, h.1, fun x hx => ih x (h.2 x hx)⟩
    | dict _ => cases h
theorem odd_all : ((oddA ++ oddB).all (okB 3)) = true := by decide +kernel
theorem oddL_ok {x : PyData} (h : x ∈ oddA ++ oddB) : OkV 0 3 x := okB_ok 3 x (List.all_eq_true.mp odd_all x h)
theorem lt_ii (i j : Int) : cmpD .Lt (.int i) (.int j) = some (decide (i < j)) := rfl
theorem oddLits (g : Cn) (S : Store) (u v : Option U) (a c d : Option U) (r : Sts) : evSs g (.cons (.set 2 (.lst (.cons (.con .none) (.cons (.con (.bool true)) (.cons (.con (.bool false)) (.cons (.con (.int 0)) (.cons (.con (.int 1)) (.cons (.con (.int 3)) (.cons (.con (.int 60)) (.cons (.con (.int 61)) (.cons (.neg (.con (.int 1))) (.cons (.bin .Pow (.con (.int 10)) (.con (.int 30))) (.cons (.con (.str "")) (.cons (.con (.str "0")) (.cons (.con (.str "000")) (.cons (.con (.str "101")) (.cons (.con (.str "line")) (.cons (.tup .nil) (.cons (.lst .nil) (.cons (.tup (.cons (.con (.int 0)) (.cons (.con (.int 0)) .nil))) (.cons (.tup (.cons (.con (.int 1)) (.cons (.con (.int 0)) .nil))) .nil))))))))))))))))))))) r) [u, v, a, c, d] S = evSs g r [u, v, some (.d (.list oddA)), c, d] S := by
  rw [ss_cons (s_set (u := .d (.list oddA)) (S1 := S) (by kernel_rfl))]
  rfl
theorem oddLit2 (g : Cn) (S : Store) (u v : Option U) (c d : Option U) (r : Sts) : evSs g (.cons (.set 2 (.bin .Add (.loc 2) (.lst (.cons (.tup (.cons (.con (.int 2)) (.cons (.con (.int 3)) .nil))) (.cons (.tup (.cons (.tup (.cons (.con (.int 0)) (.cons (.con (.int 0)) .nil))) (.cons (.tup (.cons (.con (.int 1)) (.cons (.con (.int 0)) .nil))) .nil))) (.cons (.tup (.cons (.con (.str "000")) (.cons (.con (.str "000")) .nil))) (.cons (.tup (.cons (.tup (.cons (.con (.int 0)) (.cons (.con (.int 0)) .nil))) .nil)) (.cons (.tup (.cons (.tup (.cons (.tup (.cons (.con (.int 0)) (.cons (.con (.int 0)) .nil))) (.cons (.tup (.cons (.con (.int 0)) (.cons (.con (.int 1)) .nil))) .nil))) .nil)) .nil)))))))) r) [u, v, some (.d (.list oddA)), c, d] S = evSs g r [u, v, some (.d (.list (oddA ++ oddB))), c, d] S := by
  rw [ss_cons (s_set (u := .d (.list (oddA ++ oddB))) (S1 := S) (by kernel_rfl))]
  rfl
/-- one of the written values -/
theorem pick_ok (n : Nat) {S : Store} {b : Nat} (hS : Drum S b) : ∃ x S', x ∈ oddA ++ oddB ∧ callN tb (n + 2) i_Lsome [.ref b, .d (.list (oddA ++ oddB))] S = .ok (.d x) S' ∧ Drum S' b ∧ Same b S S' := by
  obtain ⟨x, S', h1, h2, h3, h4, h5⟩ := some_ok n hS (.inl rfl) (show oddA ++ oddB ≠ [] by decide) (by decide)
  exact ⟨x, S', h1, h2, h3, h4, h5⟩
theorem odd0_ok (n : Nat) {S : Store} {b : Nat} (hS : Drum S b) : ∃ v S', callN tb (n + 3) i_Lodd [.ref b, .d (.int 0)] S = .ok (.d v) S' ∧ OkV 0 3 v ∧ Drum S' b ∧ Same b S S' := by
  obtain ⟨x, S', h1, h2, h3, h4⟩ := pick_ok n hS
  refine ⟨x, S', ?_, oddL_ok h1, h3, h4⟩
  have g : (cnN tb (n + 2)).call = callN tb (n + 2) := rfl
  rw [call_at at_Lodd rfl]
  unfold ir_Lodd
  rw [show Ev.start 5 [U.ref b, U.d (.int 0)] = [some (.ref b), some (.d (.int 0)), none, none, none] from rfl, oddLits, oddLit2]
  rw [ss_ret (s_ifR (S1 := S) (S2 := S') (u := .d x) (by simp [evX, truR, boolR, asB, cmpU]) ?_)]
  · rw [fin_d, List.take_of_length_le (by rw [h4.1]; exact Nat.le_refl _)]
  · rw [ss_ret (s_ret (u := .d x) (S1 := S') ?_)]
    rw [ev_call2 (S1 := S) (S2 := S) (u := .ref b) (v := .d (.list (oddA ++ oddB))) rfl rfl, g, h2]
theorem odd1_ok (n : Nat) {S : Store} {b : Nat} (hS : Drum S b) : ∃ v S', callN tb (n + 4) i_Lodd [.ref b, .d (.int 1)] S = .ok (.d v) S' ∧ OkV 0 4 v ∧ Drum S' b ∧ Same b S S' := by
  have g : (cnN tb (n + 3)).call = callN tb (n + 3) := rfl
  obtain ⟨r, S1, r0, r1, h1, D1, l1, k1⟩ := roll_ok (n + 2) (m := 8) hS (by decide) (by decide)
  rw [call_at at_Lodd rfl]
  unfold ir_Lodd
  rw [show Ev.start 5 [U.ref b, U.d (.int 1)] = [some (.ref b), some (.d (.int 1)), none, none, none] from rfl, oddLits, oddLit2]
  have cond : truR (evX (cnN tb (n + 3)) (.or (.cmp .Eq (.loc 1) (.con (.int 0))) (.cmp .Lt (.call i_Lroll (.cons (.loc 0) (.cons (.con (.int 8)) .nil))) (.con (.int 5)))) [some (.ref b), some (.d (.int 1)), some (.d (.list (oddA ++ oddB))), none, none] S) = .ok (decide (r < 5)) S1 := by
    simp [evX, evXs, truR, boolR, asB, cmpU, g, h1, lt_ii]
  by_cases hr : r < 5
  · obtain ⟨x, S2, p1, p2, p3, p4⟩ := pick_ok (n + 1) D1
    refine ⟨x, S2, ?_, OkV.up (Nat.le_refl 0) (by decide) (oddL_ok p1), p3, Same.trans ⟨l1, k1⟩ p4⟩
    rw [ss_ret (s_ifR (S1 := S1) (S2 := S2) (u := .d x) (by rw [cond]; simp [hr]) ?_)]
    · rw [fin_d, List.take_of_length_le (by rw [p4.1, l1]; exact Nat.le_refl _)]
    · rw [ss_ret (s_ret (u := .d x) (S1 := S2) ?_)]
      rw [ev_call2 (S1 := S1) (S2 := S1) (u := .ref b) (v := .d (.list (oddA ++ oddB))) rfl rfl, g, p2]
  · rw [ss_cons (s_ifF (S1 := S1) (by rw [cond]; simp [hr]))]
    obtain ⟨m, S2, m0, m1, h2, D2, l2, k2⟩ := roll_ok (n + 2) (m := 5) D1 (by decide) (by decide)
    obtain ⟨ys, S3, c1, c2, c3, c4, c5⟩ := comp_inv (t := .nm 4) (c := fun ρ S => evC (cnN tb (n + 3)) .nil ρ S) (e := fun ρ S => dataR (evX (cnN tb (n + 3)) e_Lodd ρ S))
      (ρ := [some (.ref b), some (.d (.int 1)), some (.d (.list (oddA ++ oddB))), none, none])
      (fun k ys T => Drum T b ∧ Same b S2 T ∧ ys.length = k ∧ ∀ x, x ∈ ys → OkV 0 3 x) (rngItems 0 m.toNat) 0 [] S2 ⟨D2, Same.refl _ _, rfl, fun x hx => by cases hx⟩ (fun j u ys T hu ⟨f1, f2, f3, f4⟩ => by
        obtain ⟨hj, rfl⟩ := rng_at hu
        obtain ⟨v, T', q1, q2, q3, q4⟩ := odd0_ok n f1
        refine ⟨_, rfl, true, T, rfl, .inl ⟨rfl, v, T', ?_, q3, f2.trans q4, by rw [List.length_append, f3]; rfl, fun x hx => ?_⟩⟩
        · have e : evX (cnN tb (n + 3)) e_Lodd ([some (.ref b), some (.d (.int 1)), some (.d (.list (oddA ++ oddB))), none, none].set 4 (some (.d (.int (0 + (j : Nat)))))) T = .ok (.d v) T' := by
            unfold e_Lodd
            rw [ev_call2 (S1 := T) (S2 := T) (u := .ref b) (v := .d (.int 0)) rfl rfl, g, q1]
          show dataR (evX (cnN tb (n + 3)) e_Lodd _ T) = _
          rw [e]
          rfl
        · rcases List.mem_append.mp hx with hx | hx
          · exact f4 x hx
          · rw [List.mem_singleton.mp hx]; exact q2)
    rw [List.nil_append] at c4 c5
    rw [rng_len, Nat.zero_add] at c4
    have hlen : ys.length ≤ 45 := by omega
    rw [ss_cons (s_set (u := .d (.list ys)) (S1 := S3) (ev_lc (it_rng1 (j := m) (S1 := S2) (by rw [ev_call2 (S1 := S1) (S2 := S1) (u := .ref b) (v := .d (.int 5)) rfl rfl, g, h2]) m0 (by omega)) (by rw [rng_len]; show _ ≤ 16777216; omega) c1))]
    obtain ⟨q, S4, q0, q1, h4, D4, l4, k4⟩ := roll_ok (n + 2) (m := 3) c2 (by decide) (by decide)
    have sq := OkV.seq (w := 0) (by omega) c5
    have fin : ∀ v, evX (cnN tb (n + 3)) (.ife (.cmp .Eq (.call i_Lroll (.cons (.loc 0) (.cons (.con (.int 3)) .nil))) (.con (.int 0))) (.loc 3) (.blt .tuple (.loc 3))) [some (.ref b), some (.d (.int 1)), some (.d (.list (oddA ++ oddB))), some (.d (.list ys)), none] S3 = .ok (.d v) S4 →
        Ev.finish false S.length (evSs (cnN tb (n + 3)) (.cons (.ret (.ife (.cmp .Eq (.call i_Lroll (.cons (.loc 0) (.cons (.con (.int 3)) .nil))) (.con (.int 0))) (.loc 3) (.blt .tuple (.loc 3)))) .nil) [some (.ref b), some (.d (.int 1)), some (.d (.list (oddA ++ oddB))), some (.d (.list ys)), none] S3) = .ok (.d v) S4 := fun v e => by
      rw [ss_ret (s_ret e), fin_d, List.take_of_length_le (by rw [l4, c3.1, l2, l1]; exact Nat.le_refl _)]
    have sm : Same b S S4 := (Same.trans ⟨l1, k1⟩ ⟨l2, k2⟩).trans (c3.trans ⟨l4, k4⟩)
    by_cases hq : q = 0
    · exact ⟨.list ys, S4, fin _ (by simp [evX, evXs, truR, cmpU, g, h4, hq]), sq.1, D4, sm⟩
    · exact ⟨.tuple ys, S4, fin _ (by simp [evX, evXs, truR, cmpU, g, h4, hq, bltD, seqD]), sq.2, D4, sm⟩
end K01
end

section
set_option Elab.async false
set_option linter.all false
set_option maxRecDepth 100000
set_option maxHeartbeats 1000000
namespace K01
open PySem Ev
/-! # bent -/
theorem vs_of (s : String) : Vs (sg (PySem.Str.ofString s)) := fun c hc => by
  rw [PySem.Str.ofString_eq_toList] at hc
  have hc : c ∈ (s.toList.map Char.toNat) := by simpa using hc
  obtain ⟨x, _, rfl⟩ := List.mem_map.mp hc
  have h := x.valid
  rcases h with h | ⟨_, h⟩
  · have h : x.toNat < 0xd800 := h; omega
  · exact h
theorem vs_cut {z : Str} (h : Vs (sg z)) (lo hi : Option Int) : Vs (sg (L2.cutS z lo hi)) := fun c hc => h c (List.mem_of_mem_drop (List.mem_of_mem_take hc))
theorem len_app (a b : Str) : (a ++ b).length = a.length + b.length := by
  show (a.cps ++ b.cps).size = _
  rw [Array.size_append]
  rfl
theorem vs_app {a b : Str} (h : Vs (sg a)) (k : Vs (sg b)) : Vs (sg (a ++ b)) := fun c hc => by
  have hc : c ∈ (a.cps ++ b.cps).toList := hc
  rw [Array.toList_append] at hc
  rcases List.mem_append.mp hc with hc | hc
  · exact h c hc
  · exact k c hc
theorem bld_str {w : Nat} {z : Str} (h1 : z.length ≤ 2000 + w) (h2 : Vs (sg z)) : Atom w (.str z) := ⟨h1, h2⟩
abbrev irNear : St := .iff (.blt (.isi "str") (.loc 1)) (.cons (.set 2 (.bin .Add (.loc 2) (.lst (.cons (.slc (.loc 1) .nil (.cons (.neg (.con (.int 1))) .nil)) (.cons (.bin .Add (.loc 1) (.con (.str "0"))) (.cons (.rev (.loc 1)) (.cons (.bin .Add (.loc 1) (.con (.str "2"))) (.cons (.bin .Add (.con (.str "1")) (.slc (.loc 1) (.cons (.con (.int 1)) .nil) .nil)) .nil)))))))) .nil) (.cons (.iff (.blt (.isi "int") (.loc 1)) (.cons (.set 2 (.bin .Add (.loc 2) (.lst (.cons (.bin .Add (.loc 1) (.con (.int 1))) (.cons (.bin .Sub (.loc 1) (.con (.int 1))) (.cons (.bin .Add (.loc 1) (.con (.int 1))) (.cons (.bin .Sub (.loc 1) (.con (.int 1))) (.cons (.not (.loc 1)) (.cons (.blt .str (.loc 1)) .nil))))))))) .nil) .nil) .nil)
theorem big_lt {i : Int} {w : Nat} (h : i.natAbs ≤ big + w) (hw : w ≤ 1000) : i.natAbs.log2 < 1920 := by
  have hb : i.natAbs < 2 ^ 110 := Nat.lt_of_le_of_lt h (by
    have : big + w ≤ big + 1000 := by omega
    exact Nat.lt_of_le_of_lt this (by decide))
  by_cases h0 : i.natAbs = 0
  · rw [h0]; decide
  · have := (Nat.log2_lt h0).mpr hb
    omega
theorem line_big : 10000 ≤ line := by decide
theorem s_ifE {g : Cn} {c : Ev.X} {a b : Sts} {ρ ρ1 : Rho} {S S1 S2 : Store} (h : truR (evX g c ρ S) = .ok false S1) (h2 : evSs g b ρ S1 = .ok (.nx ρ1) S2) : evS g (.iff c a b) ρ S = .ok (.nx ρ1) S2 := by
  unfold evS
  rw [h]
  exact h2
/-- what is put behind two odd ones -/
theorem near_add (g : Cn) (S : Store) (u : Option U) {w d : Nat} {v : PyData} (hv : OkV w d v) (hw : w ≤ 1000) (o1 o2 : PyData) :
    ∃ ex : List PyData, evS g irNear [u, some (.d v), some (.d (.list [o1, o2])), none, none] S = .ok (.nx [u, some (.d v), some (.d (.list ([o1, o2] ++ ex))), none, none]) S ∧ (∀ x, x ∈ ex → Atom (w + 1) x) ∧ ex.length ≤ 10 := by
  have a6 : ∀ ex : List PyData, ex.length ≤ 10 → binD .Add (.list [o1, o2]) (.list ex) = some (.list ([o1, o2] ++ ex)) := fun ex h => add_ll (by show 2 + ex.length ≤ 16777216; omega)
  cases v with
  | str z =>
    have hz : z.length ≤ 2000 + w ∧ Vs (sg z) := by
      cases d with
      | zero => exact hv
      | succ d =>
        rcases hv with h | ⟨xs, e, _⟩
        · exact h
        · rcases e with e | e <;> cases e
    have hl : z.length ≤ line := Nat.le_trans hz.1 (Nat.le_trans (by omega) line_big)
    have l1 : ∀ t : Str, t.length ≤ 5000 → t.length + 1 ≤ line := fun t h => Nat.le_trans (by omega) line_big
    have c1 := L2.cutS_length z none (some (-1))
    have c2 := L2.cutS_length z (some 1) none
    have one : ∀ t : Str, t = "0" ∨ t = "1" ∨ t = "2" → t.length = 1 ∧ Vs (sg t) := fun t h => by
      refine ⟨by rcases h with rfl | rfl | rfl <;> decide, ?_⟩
      rcases h with rfl | rfl | rfl <;> exact vs_of _
    have o0 := one "0" (.inl rfl)
    have o1' := one "1" (.inr (.inl rfl))
    have o2' := one "2" (.inr (.inr rfl))
    refine ⟨[.str (L2.cutS z none (some (-1))), .str (z ++ "0"), .str ⟨z.cps.toList.reverse.toArray⟩, .str (z ++ "2"), .str ("1" ++ L2.cutS z (some 1) none)], ?_, fun x hx => ?_, Nat.le_of_ble_eq_true rfl⟩
    · have e1 : slcD (.str z) none (some (-1)) = some (.str (L2.cutS z none (some (-1)))) := if_pos hl
      have e2 : binD .Add (.str z) (.str "0") = some (.str (z ++ "0")) := add_ss (by rw [o0.1]; exact l1 z (by omega))
      have e3 : revD (.str z) = some (.str ⟨z.cps.toList.reverse.toArray⟩) := if_pos hl
      have e4 : binD .Add (.str z) (.str "2") = some (.str (z ++ "2")) := add_ss (by rw [o2'.1]; exact l1 z (by omega))
      have e5 : slcD (.str z) (some 1) none = some (.str (L2.cutS z (some 1) none)) := if_pos hl
      have e6 : binD .Add (.str "1") (.str (L2.cutS z (some 1) none)) = some (.str ("1" ++ L2.cutS z (some 1) none)) := add_ss (by rw [o1'.1, Nat.add_comm]; exact l1 _ (by omega))
      refine s_ifT (S1 := S) (by simp [evX, truR, bltD, isiD, tyN]) ?_
      rw [ss_cons (s_set (u := .d (.list ([o1, o2] ++ [.str (L2.cutS z none (some (-1))), .str (z ++ "0"), .str ⟨z.cps.toList.reverse.toArray⟩, .str (z ++ "2"), .str ("1" ++ L2.cutS z (some 1) none)]))) (S1 := S) ?_)]
      · rfl
      · have a := a6 [.str (L2.cutS z none (some (-1))), .str (z ++ "0"), .str ⟨z.cps.toList.reverse.toArray⟩, .str (z ++ "2"), .str ("1" ++ L2.cutS z (some 1) none)] (Nat.le_of_ble_eq_true rfl)
        simp [evX, evXs, binU, optI, e1, e2, e3, e4, e5, e6, datas, a, show 5 ≤ line by decide]
    · simp only [List.mem_cons, List.not_mem_nil, or_false] at hx
      rcases hx with rfl | rfl | rfl | rfl | rfl
      · exact bld_str (by omega) (vs_cut hz.2 _ _)
      · exact bld_str (by rw [len_app, o0.1]; omega) (vs_app hz.2 o0.2)
      · refine bld_str (by show z.cps.toList.reverse.toArray.size ≤ _; rw [List.size_toArray, List.length_reverse]; have := hz.1; have e : z.cps.toList.length = z.length := rfl; omega) fun c hc => hz.2 c ?_
        have hc : c ∈ z.cps.toList.reverse := by simpa using hc
        exact List.mem_reverse.mp hc
      · exact bld_str (by rw [len_app, o2'.1]; omega) (vs_app hz.2 o2'.2)
      · exact bld_str (by rw [len_app, o1'.1]; omega) (vs_app o1'.2 (vs_cut hz.2 _ _))
  | int i =>
    have hi : i.natAbs ≤ big + w := by
      cases d with
      | zero => exact hv
      | succ d =>
        rcases hv with h | ⟨xs, e, _⟩
        · exact h
        · rcases e with e | e <;> cases e
    have hb := big_lt hi hw
    obtain ⟨z, hz⟩ : ∃ z, z = PySem.Str.ofString (toString i) := ⟨_, rfl⟩
    refine ⟨[.int (i + 1), .int (i - 1), .int (i + 1), .int (i - 1), .bool (!(i != 0)), .str z], ?_, fun x hx => ?_, Nat.le_of_ble_eq_true rfl⟩
    · have e1 : bltD .str (.int i) = some (.str z) := by rw [hz]; exact if_pos hb
      refine s_ifE (S1 := S) (by simp [evX, truR, bltD, isiD, tyN]) ?_
      rw [ss_cons (s_ifT (S1 := S) (ρ1 := [u, some (.d (.int i)), some (.d (.list ([o1, o2] ++ [.int (i + 1), .int (i - 1), .int (i + 1), .int (i - 1), .bool (!(i != 0)), .str z]))), none, none]) (S2 := S) (by simp [evX, truR, bltD, isiD, tyN]) ?_)]
      · rfl
      · rw [ss_cons (s_set (u := .d (.list ([o1, o2] ++ [.int (i + 1), .int (i - 1), .int (i + 1), .int (i - 1), .bool (!(i != 0)), .str z]))) (S1 := S) ?_)]
        · rfl
        · have a := a6 [.int (i + 1), .int (i - 1), .int (i + 1), .int (i - 1), .bool (!(i != 0)), .str z] (Nat.le_of_ble_eq_true rfl)
          simp [evX, evXs, binU, truR, truD, e1, datas, a, show 6 ≤ line by decide]
    · simp only [List.mem_cons, List.not_mem_nil, or_false] at hx
      rcases hx with rfl | rfl | rfl | rfl | rfl | rfl
      · show (i + 1).natAbs ≤ big + (w + 1); omega
      · show (i - 1).natAbs ≤ big + (w + 1); omega
      · show (i + 1).natAbs ≤ big + (w + 1); omega
      · show (i - 1).natAbs ≤ big + (w + 1); omega
      · exact trivial
      · rw [hz]; exact bld_str (Nat.le_trans (PyProof.Rows.int_text_len_1921 hb) (by omega)) (vs_of _)
  | bool b =>
    refine ⟨[.int (b2i b + 1), .int (b2i b - 1), .int (b2i b + 1), .int (b2i b - 1), .bool (!b), .str (if b = true then "True" else "False")], ?_, fun x hx => ?_, Nat.le_of_ble_eq_true rfl⟩
    · refine s_ifE (S1 := S) (by simp [evX, truR, bltD, isiD, tyN]) ?_
      rw [ss_cons (s_ifT (S1 := S) (ρ1 := [u, some (.d (.bool b)), some (.d (.list ([o1, o2] ++ [.int (b2i b + 1), .int (b2i b - 1), .int (b2i b + 1), .int (b2i b - 1), .bool (!b), .str (if b = true then "True" else "False")]))), none, none]) (S2 := S) (by simp [evX, truR, bltD, isiD, tyN]) ?_)]
      · rfl
      · rw [ss_cons (s_set (u := .d (.list ([o1, o2] ++ [.int (b2i b + 1), .int (b2i b - 1), .int (b2i b + 1), .int (b2i b - 1), .bool (!b), .str (if b = true then "True" else "False")]))) (S1 := S) ?_)]
        · rfl
        · have a := a6 [.int (b2i b + 1), .int (b2i b - 1), .int (b2i b + 1), .int (b2i b - 1), .bool (!b), .str (if b = true then "True" else "False")] (Nat.le_of_ble_eq_true rfl)
          cases b <;> (first | kernel_rfl | simp_all [evX, evXs, binU, binD, bltD, truR, truD, datas, show 6 ≤ line by decide])
    · simp only [List.mem_cons, List.not_mem_nil, or_false] at hx
      have hb : b2i b = 0 ∨ b2i b = 1 := by cases b <;> simp [b2i]
      have sm : ∀ k : Int, k.natAbs ≤ 2 → k.natAbs ≤ big + (w + 1) := fun k hk => Nat.le_trans hk (Nat.le_trans (by decide : 2 ≤ big) (Nat.le_add_right _ _))
      rcases hx with rfl | rfl | rfl | rfl | rfl | rfl
      · exact sm _ (by rcases hb with h | h <;> rw [h] <;> decide)
      · exact sm _ (by rcases hb with h | h <;> rw [h] <;> decide)
      · exact sm _ (by rcases hb with h | h <;> rw [h] <;> decide)
      · exact sm _ (by rcases hb with h | h <;> rw [h] <;> decide)
      · exact trivial
      · cases b
        · exact bld_str (Nat.le_trans (by decide : _ ≤ 5) (by omega)) (vs_of _)
        · exact bld_str (Nat.le_trans (by decide : _ ≤ 5) (by omega)) (vs_of _)
  | none => exact ⟨[], by simp [evS, evSs, evX, truR, bltD, isiD, tyN], fun x hx => (by cases hx), by decide⟩
  | list xs => exact ⟨[], by simp [evS, evSs, evX, truR, bltD, isiD, tyN], fun x hx => (by cases hx), by decide⟩
  | tuple xs => exact ⟨[], by simp [evS, evSs, evX, truR, bltD, isiD, tyN], fun x hx => (by cases hx), by decide⟩
  | dict xs => exact ⟨[], by simp [evS, evSs, evX, truR, bltD, isiD, tyN], fun x hx => (by cases hx), by decide⟩
theorem tup_of {w d : Nat} {xs : List PyData} (h : OkV w d (.tuple xs)) : xs = [] ∨ ∃ d', d = d' + 1 ∧ xs.length ≤ 45 + w ∧ ∀ x, x ∈ xs → OkV w d' x := by
  cases d with
  | zero => exact h.elim
  | succ d =>
    rcases h with h | ⟨ys, e, l, a⟩
    · exact h.elim
    · rcases e with e | e
      · cases e
      · cases e
        exact .inr ⟨d, rfl, l, a⟩
theorem slc_t {xs : List PyData} {k : Int} (h : 0 ≤ k) : slcD (.tuple xs) none (some k) = some (.tuple (xs.take k.toNat)) := by
  show some (PyData.tuple (cutD xs none (some k))) = _
  rw [cutD_to h]
theorem slc_f {xs : List PyData} {k : Int} (h : 0 ≤ k) : slcD (.tuple xs) (some k) none = some (.tuple (xs.drop k.toNat)) := by
  show some (PyData.tuple (cutD xs (some k) none)) = _
  rw [cutD_from h]
abbrev irBCond : X := .or (.not (.blt (.isi "tuple") (.loc 1))) (.or (.cmp .Eq (.loc 1) (.tup .nil)) (.cmp .Eq (.call i_Lroll (.cons (.loc 0) (.cons (.con (.int 7)) .nil))) (.con (.int 0))))
theorem bent_cond (n : Nat) {S : Store} {b w d : Nat} {v : PyData} (hS : Drum S b) (hv : OkV w d v) (hd : d ≤ 60) : ∃ (k : Bool) (S1 : Store), truR (evX (cnN tb (n + 1)) irBCond [some (.ref b), some (.d v), none, none, none] S) = .ok k S1 ∧ Drum S1 b ∧ Same b S S1 ∧ (k = false → ∃ xs, v = .tuple xs ∧ xs ≠ []) := by
  have g : (cnN tb (n + 1)).call = callN tb (n + 1) := rfl
  cases v with
  | tuple xs =>
    have sh := hv.shaped hd
    cases xs with
    | nil =>
      have e : cmpD .Eq (.tuple []) (.tuple []) = some true := eq_same (by decide)
      exact ⟨true, S, by simp [evX, evXs, truR, boolR, asB, bltD, isiD, tyN, cmpU, e, datas], hS, Same.refl _ _, fun e => by cases e⟩
    | cons x xs =>
      obtain ⟨r, S1, r0, r1, h1, D1, l1, k1⟩ := roll_ok n (m := 7) hS (by decide) (by decide)
      have e : cmpD .Eq (.tuple (x :: xs)) (.tuple []) = some false := by
        show eqD _ _ = _
        rw [eq_d sh (by decide)]
        rfl
      refine ⟨decide (r = 0), S1, ?_, D1, ⟨l1, k1⟩, fun _ => ⟨_, rfl, by simp⟩⟩
      simp [evX, evXs, truR, boolR, asB, bltD, isiD, tyN, cmpU, e, datas, g, h1]
  | _ => exact ⟨true, S, by simp [evX, truR, boolR, asB, bltD, isiD, tyN], hS, Same.refl _ _, fun e => by cases e⟩
/-- one of two odd ones, or a value near it -/
theorem bent_near (m : Nat) {S S0 : Store} {b w d : Nat} {v : PyData} (hS : Drum S b) (h0 : Same b S0 S) (hv : OkV w d v) (hw : w ≤ 1000) (r : Sts) :
    ∃ v' S', evSs (cnN tb (m + 5)) (.cons (.set 2 (.lst (.cons (.call i_Lodd (.cons (.loc 0) (.cons (.con (.int 1)) .nil))) (.cons (.call i_Lodd (.cons (.loc 0) (.cons (.con (.int 1)) .nil))) .nil)))) (.cons irNear (.cons (.ret (.call i_Lsome (.cons (.loc 0) (.cons (.loc 2) .nil)))) r))) [some (.ref b), some (.d v), none, none, none] S = .ok (.rt (.d v')) S' ∧
      OkV (w + 1) (d + 4) v' ∧ Drum S' b ∧ Same b S0 S' := by
  have g : (cnN tb (m + 5)).call = callN tb (m + 5) := rfl
  obtain ⟨o1, S1, a1, a2, D1, s1⟩ := odd1_ok (m + 1) hS
  obtain ⟨o2, S2, b1, b2, D2, s2⟩ := odd1_ok (m + 1) D1
  have e1 : evX (cnN tb (m + 5)) (.call i_Lodd (.cons (.loc 0) (.cons (.con (.int 1)) .nil))) [some (.ref b), some (.d v), none, none, none] S = .ok (.d o1) S1 := by
    rw [ev_call2 (S1 := S) (S2 := S) (u := .ref b) (v := .d (.int 1)) rfl rfl, g, a1]
  have e2 : evX (cnN tb (m + 5)) (.call i_Lodd (.cons (.loc 0) (.cons (.con (.int 1)) .nil))) [some (.ref b), some (.d v), none, none, none] S1 = .ok (.d o2) S2 := by
    rw [ev_call2 (S1 := S1) (S2 := S1) (u := .ref b) (v := .d (.int 1)) rfl rfl, g, b1]
  rw [ss_cons (s_set (u := .d (.list [o1, o2])) (S1 := S2) (by
    unfold evX evXs
    rw [e1, b_ok]
    unfold evXs
    rw [e2, b_ok]
    unfold evXs
    rfl))]
  rw [show ([some (.ref b), some (.d v), none, none, none] : Rho).set 2 (some (.d (.list [o1, o2]))) = [some (.ref b), some (.d v), some (.d (.list [o1, o2])), none, none] from rfl]
  obtain ⟨ex, n1, n2, n3⟩ := near_add (cnN tb (m + 5)) S2 (some (.ref b)) hv hw o1 o2
  rw [ss_cons n1]
  obtain ⟨x, S3, p1, p2, D3, l3, k3⟩ := some_ok (m + 3) D2 (.inl (rfl : PyData.list ([o1, o2] ++ ex) = _)) (by simp) (by rw [List.length_append]; show 2 + ex.length < 1000000; omega)
  refine ⟨x, S3, ?_, ?_, D3, h0.trans (s1.trans (s2.trans ⟨l3, k3⟩))⟩
  · rw [ss_ret (s_ret (u := .d x) (S1 := S3) ?_)]
    rw [ev_call2 (S1 := S2) (S2 := S2) (u := .ref b) (v := .d (.list ([o1, o2] ++ ex))) rfl rfl, g, p2]
  · rcases List.mem_append.mp p1 with h | h
    · simp only [List.mem_cons, List.not_mem_nil, or_false] at h
      rcases h with rfl | rfl
      · exact OkV.up (Nat.zero_le _) (by omega) a2
      · exact OkV.up (Nat.zero_le _) (by omega) b2
    · exact OkV.of (n2 x h)
theorem binU_d (o : Operator) (p q : PyData) (S : Store) : binU o (.d p) (.d q) S = R.of S ((binD o p q).map U.d) := by cases o <;> rfl
theorem ev_bin {g : Cn} {o : Operator} {a b : Ev.X} {ρ : Rho} {S S1 S2 : Store} {p q r : PyData} (h : evX g a ρ S = .ok (.d p) S1) (h2 : evX g b ρ S1 = .ok (.d q) S2) (h3 : binD o p q = some r) : evX g (.bin o a b) ρ S = .ok (.d r) S2 := by
  unfold evX
  rw [h, b_ok, h2, b_ok, binU_d, h3]
  rfl
/-- a tuple, cut, put together, turned, or with one item bent -/
theorem bent_ok (w : Nat) (hw : w ≤ 1000) : ∀ (d m : Nat) (S : Store) (b : Nat) (v : PyData), Drum S b → OkV w d v → d ≤ 40 → d ≤ m →
    ∃ v' S', callN tb (m + 6) i_Lbent [.ref b, .d v] S = .ok (.d v') S' ∧ OkV (w + 1) (d + 4) v' ∧ Drum S' b ∧ Same b S S' := by
  intro d
  induction d with
  | zero =>
    intro m S b v hS hv h40 hm
    obtain ⟨k, S1, c1, D1, s1, c2⟩ := bent_cond (m + 4) hS hv (by omega)
    cases k with
    | false =>
      obtain ⟨xs, rfl, _⟩ := c2 rfl
      exact hv.elim
    | true =>
      obtain ⟨v', S', e1, e2, D2, s2⟩ := bent_near m D1 s1 hv hw .nil
      refine ⟨v', S', ?_, e2, D2, s2⟩
      rw [call_at at_Lbent rfl]
      unfold ir_Lbent
      rw [show Ev.start 5 [U.ref b, U.d v] = [some (.ref b), some (.d v), none, none, none] from rfl]
      rw [ss_ret (s_ifR c1 e1), fin_d, List.take_of_length_le (by rw [s2.1]; exact Nat.le_refl _)]
  | succ d ih =>
    intro m S b v hS hv h40 hm
    obtain ⟨k, S1, c1, D1, s1, c2⟩ := bent_cond (m + 4) hS hv (by omega)
    have g : (cnN tb (m + 5)).call = callN tb (m + 5) := rfl
    cases k with
    | true =>
      obtain ⟨v', S', e1, e2, D2, s2⟩ := bent_near m D1 s1 hv hw .nil
      refine ⟨v', S', ?_, e2, D2, s2⟩
      rw [call_at at_Lbent rfl]
      unfold ir_Lbent
      rw [show Ev.start 5 [U.ref b, U.d v] = [some (.ref b), some (.d v), none, none, none] from rfl]
      rw [ss_ret (s_ifR c1 e1), fin_d, List.take_of_length_le (by rw [s2.1]; exact Nat.le_refl _)]
    | false =>
      obtain ⟨xs, rfl, hx⟩ := c2 rfl
      rcases tup_of hv with h | ⟨d', hd', hl, hall⟩
      · exact absurd h hx
      · cases hd'
        have hpos : (0 : Int) < (xs.length : Nat) := by have := List.length_pos_iff.mpr hx; omega
        obtain ⟨at_, S2, a0, a1, h2, D2, l2, k2⟩ := roll_ok (m + 4) (m := (xs.length : Nat)) D1 hpos (by have := divOk_small hpos (by omega); unfold divOk at this; simpa using (Bool.and_eq_true_iff.mp this).2)
        obtain ⟨wy, S3, w0, w1, h3, D3, l3, k3⟩ := roll_ok (m + 4) (m := 9) D2 (by decide) (by decide)
        have sm : Same b S S3 := s1.trans (Same.trans ⟨l2, k2⟩ ⟨l3, k3⟩)
        have st : callN tb (m + 6) i_Lbent [.ref b, .d (.tuple xs)] S = Ev.finish false S.length (evSs (cnN tb (m + 5)) (.cons (.iff (.cmp .Eq (.loc 4) (.con (.int 0))) (.cons (.ret (.bin .Add (.slc (.loc 1) .nil (.cons (.loc 3) .nil)) (.slc (.loc 1) (.cons (.bin .Add (.loc 3) (.con (.int 1))) .nil) .nil))) .nil) .nil) (.cons (.iff (.cmp .Eq (.loc 4) (.con (.int 1))) (.cons (.ret (.bin .Add (.slc (.loc 1) .nil (.cons (.bin .Add (.loc 3) (.con (.int 1))) .nil)) (.slc (.loc 1) (.cons (.loc 3) .nil) .nil))) .nil) .nil) (.cons (.iff (.cmp .Eq (.loc 4) (.con (.int 2))) (.cons (.ret (.rev (.loc 1))) .nil) .nil) (.cons (.iff (.cmp .Eq (.loc 4) (.con (.int 3))) (.cons (.ret (.blt .list (.loc 1))) .nil) .nil) (.cons (.ret (.bin .Add (.bin .Add (.slc (.loc 1) .nil (.cons (.loc 3) .nil)) (.tup (.cons (.call i_Lbent (.cons (.loc 0) (.cons (.idx (.loc 1) (.loc 3)) .nil))) .nil))) (.slc (.loc 1) (.cons (.bin .Add (.loc 3) (.con (.int 1))) .nil) .nil))) .nil)))))
            [some (.ref b), some (.d (.tuple xs)), none, some (.d (.int at_)), some (.d (.int wy))] S3) := by
          rw [call_at at_Lbent rfl]
          unfold ir_Lbent
          rw [show Ev.start 5 [U.ref b, U.d (.tuple xs)] = [some (.ref b), some (.d (.tuple xs)), none, none, none] from rfl]
          rw [ss_cons (s_ifF c1)]
          have e1 : evX (cnN tb (m + 5)) (.call i_Lroll (.cons (.loc 0) (.cons (.blt .len (.loc 1)) .nil))) [some (.ref b), some (.d (.tuple xs)), none, none, none] S1 = .ok (.d (.int at_)) S2 := by
            rw [ev_call2 (S1 := S1) (S2 := S1) (u := .ref b) (v := .d (.int (xs.length : Nat))) rfl rfl, g, h2]
          have e2 : evX (cnN tb (m + 5)) (.call i_Lroll (.cons (.loc 0) (.cons (.con (.int 9)) .nil))) [some (.ref b), some (.d (.tuple xs)), none, none, none] S2 = .ok (.d (.int wy)) S3 := by
            rw [ev_call2 (S1 := S2) (S2 := S2) (u := .ref b) (v := .d (.int 9)) rfl rfl, g, h3]
          rw [ss_cons (ρ1 := [some (.ref b), some (.d (.tuple xs)), none, some (.d (.int at_)), some (.d (.int wy))]) (S1 := S3) ?_]
          unfold evS evXs
          rw [e1, b_ok]
          unfold evXs
          rw [e2, b_ok]
          rfl
        have hT : S3.take S.length = S3 := List.take_of_length_le (by rw [sm.1]; exact Nat.le_refl _)
        have hal : ∀ ys : List PyData, ys.length ≤ 45 + (w + 1) → (∀ y, y ∈ ys → y ∈ xs) → OkV (w + 1) (d + 1 + 4) (.tuple ys) ∧ OkV (w + 1) (d + 1 + 4) (.list ys) := fun ys h1 h2 =>
          let z := OkV.seq (w := w + 1) (d := d + 4) h1 fun y hy => OkV.up (Nat.le_succ _) (by omega) (hall y (h2 y hy)); ⟨z.2, z.1⟩
        have hfit : ∀ n : Nat, n ≤ 5000 → n ≤ line := fun n h => Nat.le_trans h (Nat.le_trans (by decide) line_big)
        rw [st]
        have a1' : at_.toNat < xs.length := by omega
        have t1 : (at_ + 1).toNat = at_.toNat + 1 := by omega
        have T1 := slc_t (xs := xs) a0
        have T2 := slc_t (xs := xs) (show 0 ≤ at_ + 1 by omega)
        have F1 := slc_f (xs := xs) a0
        have F2 := slc_f (xs := xs) (show 0 ≤ at_ + 1 by omega)
        rw [t1] at T2 F2
        by_cases q0 : wy = 0
        · have ad := add_tt (a := xs.take at_.toNat) (b := xs.drop (at_.toNat + 1)) (hfit _ (by rw [List.length_take, List.length_drop]; omega))
          refine ⟨.tuple (xs.take at_.toNat ++ xs.drop (at_.toNat + 1)), S3, ?_, (hal _ (by rw [List.length_append, List.length_take, List.length_drop]; omega) fun y hy => ?_).1, D3, sm⟩
          · rw [ss_ret (s_ifR (S1 := S3) (S2 := S3) (u := .d (.tuple (xs.take at_.toNat ++ xs.drop (at_.toNat + 1)))) (by simp [evX, truR, cmpU, q0]) ?_), fin_d, hT]
            rw [ss_ret (s_ret (S1 := S3) (u := .d (.tuple (xs.take at_.toNat ++ xs.drop (at_.toNat + 1)))) (by simp [evX, evXs, binU, optI, T1, F2, ad]))]
          · rcases List.mem_append.mp hy with h | h
            · exact List.mem_of_mem_take h
            · exact List.mem_of_mem_drop h
        by_cases q1 : wy = 1
        · have ad := add_tt (a := xs.take (at_.toNat + 1)) (b := xs.drop at_.toNat) (hfit _ (by rw [List.length_take, List.length_drop]; omega))
          refine ⟨.tuple (xs.take (at_.toNat + 1) ++ xs.drop at_.toNat), S3, ?_, (hal _ (by rw [List.length_append, List.length_take, List.length_drop]; omega) fun y hy => ?_).1, D3, sm⟩
          · rw [ss_cons (s_ifF (S1 := S3) (by simp [evX, truR, cmpU, q0]))]
            rw [ss_ret (s_ifR (S1 := S3) (S2 := S3) (u := .d (.tuple (xs.take (at_.toNat + 1) ++ xs.drop at_.toNat))) (by simp [evX, truR, cmpU, q1]) ?_), fin_d, hT]
            rw [ss_ret (s_ret (S1 := S3) (u := .d (.tuple (xs.take (at_.toNat + 1) ++ xs.drop at_.toNat))) (by simp [evX, evXs, binU, optI, T2, F1, ad]))]
          · rcases List.mem_append.mp hy with h | h
            · exact List.mem_of_mem_take h
            · exact List.mem_of_mem_drop h
        by_cases q2 : wy = 2
        · have rv : revD (.tuple xs) = some (.tuple xs.reverse) := if_pos (hfit _ (by omega))
          refine ⟨.tuple xs.reverse, S3, ?_, (hal _ (by rw [List.length_reverse]; omega) fun y hy => List.mem_reverse.mp hy).1, D3, sm⟩
          rw [ss_cons (s_ifF (S1 := S3) (by simp [evX, truR, cmpU, q0])), ss_cons (s_ifF (S1 := S3) (by simp [evX, truR, cmpU, q1]))]
          rw [ss_ret (s_ifR (S1 := S3) (S2 := S3) (u := .d (.tuple xs.reverse)) (by simp [evX, truR, cmpU, q2]) ?_), fin_d, hT]
          rw [ss_ret (s_ret (S1 := S3) (u := .d (.tuple xs.reverse)) (by simp [evX, rv]))]
        by_cases q3 : wy = 3
        · refine ⟨.list xs, S3, ?_, (hal _ (by omega) fun y hy => hy).2, D3, sm⟩
          rw [ss_cons (s_ifF (S1 := S3) (by simp [evX, truR, cmpU, q0])), ss_cons (s_ifF (S1 := S3) (by simp [evX, truR, cmpU, q1])), ss_cons (s_ifF (S1 := S3) (by simp [evX, truR, cmpU, q2]))]
          rw [ss_ret (s_ifR (S1 := S3) (S2 := S3) (u := .d (.list xs)) (by simp [evX, truR, cmpU, q3]) ?_), fin_d, hT]
          rw [ss_ret (s_ret (S1 := S3) (u := .d (.list xs)) (by simp [evX, bltD, seqD]))]
        obtain ⟨x, hxat⟩ : ∃ x, xs[at_.toNat]? = some x := ⟨xs[at_.toNat], by simp [a1']⟩
        obtain ⟨m', rfl⟩ : ∃ m', m = m' + 1 := ⟨m - 1, by omega⟩
        obtain ⟨x', S4, r1, r2, D4, s4⟩ := ih m' S3 b x D3 (hall x (List.mem_of_getElem? hxat)) (by omega) (by omega)
        have ad1 := add_tt (a := xs.take at_.toNat) (b := [x']) (hfit _ (by rw [List.length_take]; show _ + 1 ≤ 5000; omega))
        have ad2 := add_tt (a := xs.take at_.toNat ++ [x']) (b := xs.drop (at_.toNat + 1)) (hfit _ (by rw [List.length_append, List.length_take, List.length_drop]; show _ + 1 + _ ≤ 5000; omega))
        refine ⟨.tuple (xs.take at_.toNat ++ [x'] ++ xs.drop (at_.toNat + 1)), S4, ?_, ?_, D4, sm.trans s4⟩
        · rw [ss_cons (s_ifF (S1 := S3) (by simp [evX, truR, cmpU, q0])), ss_cons (s_ifF (S1 := S3) (by simp [evX, truR, cmpU, q1])), ss_cons (s_ifF (S1 := S3) (by simp [evX, truR, cmpU, q2])), ss_cons (s_ifF (S1 := S3) (by simp [evX, truR, cmpU, q3]))]
          have ec : evX (cnN tb (m' + 1 + 5)) (.call i_Lbent (.cons (.loc 0) (.cons (.idx (.loc 1) (.loc 3)) .nil))) [some (.ref b), some (.d (.tuple xs)), none, some (.d (.int at_)), some (.d (.int wy))] S3 = .ok (.d x') S4 := by
            rw [ev_call2 (S1 := S3) (S2 := S3) (u := .ref b) (v := .d x) rfl (by simp [evX, idxD, at_nat a0 hxat]), g, r1]
          rw [ss_ret (s_ret (S1 := S4) (u := .d (.tuple (xs.take at_.toNat ++ [x'] ++ xs.drop (at_.toNat + 1)))) ?_), fin_d, show S4.take S.length = S4 from List.take_of_length_le (by rw [(sm.trans s4).1]; exact Nat.le_refl _)]
          have e5 : evX (cnN tb (m' + 1 + 5)) (.slc (.loc 1) .nil (.cons (.loc 3) .nil)) [some (.ref b), some (.d (.tuple xs)), none, some (.d (.int at_)), some (.d (.int wy))] S3 = .ok (.d (.tuple (xs.take at_.toNat))) S3 := by simp [evX, evXs, optI, T1]
          have e6 : evX (cnN tb (m' + 1 + 5)) (.tup (.cons (.call i_Lbent (.cons (.loc 0) (.cons (.idx (.loc 1) (.loc 3)) .nil))) .nil)) [some (.ref b), some (.d (.tuple xs)), none, some (.d (.int at_)), some (.d (.int wy))] S3 = .ok (.d (.tuple [x'])) S4 := by
            unfold evX evXs
            rw [ec, b_ok]
            unfold evXs
            rfl
          have e7 : evX (cnN tb (m' + 1 + 5)) (.slc (.loc 1) (.cons (.bin .Add (.loc 3) (.con (.int 1))) .nil) .nil) [some (.ref b), some (.d (.tuple xs)), none, some (.d (.int at_)), some (.d (.int wy))] S4 = .ok (.d (.tuple (xs.drop (at_.toNat + 1)))) S4 := by simp [evX, evXs, binU, optI, F2]
          exact ev_bin (ev_bin e5 e6 ad1) e7 ad2
        · refine (OkV.seq (w := w + 1) (d := d + 4) (by rw [List.length_append, List.length_append, List.length_take, List.length_drop]; show _ + 1 + _ ≤ _; omega) fun y hy => ?_).2
          rcases List.mem_append.mp hy with h | h
          · rcases List.mem_append.mp h with h | h
            · exact OkV.up (Nat.le_succ _) (by omega) (hall y (List.mem_of_mem_take h))
            · rw [List.mem_singleton.mp h]; exact r2
          · exact OkV.up (Nat.le_succ _) (by omega) (hall y (List.mem_of_mem_drop h))
end K01
end

section
set_option Elab.async false
set_option linter.all false
set_option maxRecDepth 100000
set_option maxHeartbeats 1000000
namespace K01
open PySem Ev
/-! ### strips and places, any values -/
def wholeB (lo hi : Int) : PyData → Bool
  | .int v => decide (lo ≤ v ∧ v ≤ hi)
  | _ => false
theorem whole_ok (n : Nat) (S : Store) (p : PyData) (lo hi : Int) : callN tb (n + 1) i_Pis_whole [.d p, .d (.int lo), .d (.int hi)] S = .ok (.d (.bool (wholeB lo hi p))) S := by
  rw [call_at at_Pis_whole rfl]
  cases p with
  | int v =>
    by_cases h : lo ≤ v
    · simp [ir_Pis_whole, evSs, evS, evX, Ev.start, bltD, isiD, tyN, boolR, asB, truR, cmpU, h, wholeB]
    · simp [ir_Pis_whole, evSs, evS, evX, Ev.start, bltD, isiD, tyN, boolR, asB, truR, cmpU, h, wholeB]
  | _ => simp [ir_Pis_whole, evSs, evS, evX, Ev.start, bltD, isiD, tyN, boolR, asB, truR, cmpU, wholeB]
def stripB : PyData → Bool
  | .tuple [a, b] => wholeB 1 3 a && wholeB 1 60 b
  | _ => false
theorem fitsS_ok (n : Nat) (S : Store) (p : PyData) : callN tb (n + 2) i_Pfits_strip [.d p] S = .ok (.d (.bool (stripB p))) S := by
  rw [call_at at_Pfits_strip rfl]
  have g : (cnN tb (n + 1)).call = callN tb (n + 1) := rfl
  cases p with
  | tuple xs =>
    match xs with
    | [] => simp [ir_Pfits_strip, evSs, evS, evX, evXs, Ev.start, bltD, isiD, tyN, boolR, asB, truR, cmpU, stripB]
    | [a] => simp [ir_Pfits_strip, evSs, evS, evX, evXs, Ev.start, bltD, isiD, tyN, boolR, asB, truR, cmpU, stripB]
    | [a, b] => cases h : wholeB 1 3 a <;> simp [ir_Pfits_strip, evSs, evS, evX, evXs, Ev.start, bltD, isiD, tyN, boolR, asB, truR, cmpU, stripB, g, whole_ok, h]
    | a :: b :: d :: r =>
      have hl : bltD .len (.tuple (a :: b :: d :: r)) = some (.int (((r.length : Nat) : Int) + 3)) := by
        show some (PyData.int (((a :: b :: d :: r).length : Nat) : Int)) = _
        simp only [List.length_cons]
        congr 2
      have hi : bltD (.isi "tuple") (.tuple (a :: b :: d :: r)) = some (.bool true) := rfl
      have he : ¬ ((r.length : Nat) : Int) + 3 = 2 := by omega
      simp [ir_Pfits_strip, evSs, evS, evX, evXs, Ev.start, hl, hi, boolR, asB, truR, cmpU, stripB, he]
  | _ => simp [ir_Pfits_strip, evSs, evS, evX, evXs, Ev.start, bltD, isiD, tyN, boolR, asB, truR, cmpU, stripB]
theorem needS_ok (n : Nat) (S : Store) (p : PyData) : callN tb (n + 3) i_Pneed_strip [.d p] S = if stripB p = true then .ok (.d .none) S else .exc x_InvalidStrip S := by
  have g : (cnN tb (n + 2)).call = callN tb (n + 2) := rfl
  rw [call_at at_Pneed_strip rfl]
  cases h : stripB p <;> simp [ir_Pneed_strip, evSs, evS, evX, evXs, Ev.start, truR, g, fitsS_ok, h]
theorem strip_fit {r c : Int} (hr : 1 ≤ r) (hr3 : r ≤ 3) (hc : 1 ≤ c) (hc6 : c ≤ 60) : stripB (strip r c) = true := by
  show (decide (1 ≤ r ∧ r ≤ 3) && decide (1 ≤ c ∧ c ≤ 60)) = true
  rw [Bool.and_eq_true, decide_eq_true_eq, decide_eq_true_eq]
  omega
def placeB (r c : Int) : PyData → Bool
  | .tuple [a, b] => wholeB 0 (c - 1) a && wholeB 0 (r - 1) b
  | _ => false
theorem fitsP_ok (n : Nat) (S : Store) (r c : Int) (p : PyData) : callN tb (n + 2) i_Pfits_place [.d (strip r c), .d p] S = .ok (.d (.bool (placeB r c p))) S := by
  rw [call_at at_Pfits_place rfl]
  have g : (cnN tb (n + 1)).call = callN tb (n + 1) := rfl
  cases p with
  | tuple xs =>
    match xs with
    | [] => simp [ir_Pfits_place, evSs, evS, evX, evXs, Ev.start, bltD, isiD, tyN, boolR, asB, truR, cmpU, placeB]
    | [a] => simp [ir_Pfits_place, evSs, evS, evX, evXs, Ev.start, bltD, isiD, tyN, boolR, asB, truR, cmpU, placeB]
    | [a, b] => cases h : wholeB 0 (c - 1) a <;> simp [ir_Pfits_place, evSs, evS, evX, evXs, Ev.start, bltD, isiD, tyN, boolR, asB, truR, cmpU, placeB, binU, g, whole_ok, h]
    | a :: b :: d :: r =>
      have hl : bltD .len (.tuple (a :: b :: d :: r)) = some (.int (((r.length : Nat) : Int) + 3)) := by
        show some (PyData.int (((a :: b :: d :: r).length : Nat) : Int)) = _
        simp only [List.length_cons]
        congr 2
      have hi : bltD (.isi "tuple") (.tuple (a :: b :: d :: r)) = some (.bool true) := rfl
      have he : ¬ ((r.length : Nat) : Int) + 3 = 2 := by omega
      simp [ir_Pfits_place, evSs, evS, evX, evXs, Ev.start, hl, hi, boolR, asB, truR, cmpU, placeB, he]
  | _ => simp [ir_Pfits_place, evSs, evS, evX, evXs, Ev.start, bltD, isiD, tyN, boolR, asB, truR, cmpU, placeB]
def sgn (a : Nat) : Bool := a == 48 || a == 49
theorem in_signs {a : Nat} (h : a < 1114112) : inD (sD [a]) (.tuple [.str "0", .str "1"]) = some (sgn a) := by
  rw [in_tup (shaped_sD fun c hc => by rw [List.mem_singleton.mp hc]; exact h) (by decide +kernel)]
  have e0 : (PyData.str "0") = sD [48] := str_lit (by decide)
  have e1 : (PyData.str "1") = sD [49] := str_lit (by decide)
  rw [e0, e1]
  simp only [List.any_cons, List.any_nil, eqv_sD, sgn, Bool.or_false]
  congr 1
  rw [Bool.eq_iff_iff]
  simp only [Bool.or_eq_true, decide_eq_true_eq, List.cons.injEq, and_true, beq_iff_eq]
  omega
theorem fitsT_ok (n : Nat) (S : Store) (r : Int) (x : List Nat) (hx : x.length ≤ 1000000) (hv : Vs x) : callN tb (n + 1) i_Pfits_string [.d (.int r), .d (sD x)] S = .ok (.d (.bool (decide ((x.length : Int) = 2 * r - 1) && x.all sgn))) S := by
  have hl : x.length ≤ line := by show _ ≤ 16777216; omega
  have m2 : mulOk 2 r = true := mul_small (.inl (by decide))
  have hc := comp_map (t := .nm 2) (c := fun ρ S => evC (cnN tb n) .nil ρ S) (e := fun ρ S => dataR (evX (cnN tb n) (.cmp .In (.loc 2) (.tup (.cons (.con (.str "0")) (.cons (.con (.str "1")) .nil)))) ρ S))
    (ρ := [some (.d (.int r)), some (.d (sD x)), none]) (S := S) (fun c => U.d (sD [c])) (fun _ => true) (fun c => .bool (sgn c)) x (fun a ha => ⟨_, rfl, rfl, fun _ => by
      simp [dataR, evX, evXs, datas, two_line, cmpU, cmpD, in_signs (hv a ha)]⟩)
  rw [filt_all] at hc
  have hlc := ev_lc (g := cnN tb n) (own := [2]) (it := .val (.loc 1)) (ρ := [some (.d (.int r)), some (.d (sD x)), none]) (S := S) (it_str rfl) (by rw [items_sD, List.length_map]; exact hl) hc
  have hb : bltD .all (.list (x.map fun c => .bool (sgn c))) = some (.bool (x.all sgn)) := by
    have := all_bools (x.map sgn)
    rw [List.map_map, List.all_map] at this
    exact this
  rw [call_at at_Pfits_string rfl]
  show Ev.finish false S.length (evSs (cnN tb n) ir_Pfits_string [some (.d (.int r)), some (.d (sD x)), none] S) = _
  unfold ir_Pfits_string
  have hi : bltD (.isi "str") (sD x) = some (.bool true) := rfl
  have c1 : truR (evX (cnN tb n) (.or (.not (.blt (.isi "str") (.loc 1))) (.cmp .NotEq (.blt .len (.loc 1)) (.bin .Sub (.bin .Mult (.con (.int 2)) (.loc 0)) (.con (.int 1))))) [some (.d (.int r)), some (.d (sD x)), none] S) = .ok (!decide ((x.length : Int) = 2 * r - 1)) S := by
    simp [evX, truR, boolR, asB, hi, len_sD hl, binU, mul_ii m2, cmpU]
  by_cases h : (x.length : Int) = 2 * r - 1
  · rw [ss_cons (s_ifF (S1 := S) (by rw [c1]; simp [h]))]
    rw [ss_ret (s_ret (u := .d (.bool (x.all sgn))) (S1 := S) (by rw [evX, hlc]; simp [hb]))]
    rw [fin_d, List.take_length]
    simp [h]
  · rw [ss_ret (s_ifR (S1 := S) (by rw [c1]; simp [h]) (ss_ret (s_ret (u := .d (.bool false)) rfl)))]
    rw [fin_d, List.take_length]
    simp [h]
/-- the strings of a drawing -/
def okD (r : Int) (ls : List (List Nat)) : Bool := ls.all (fun x => decide ((x.length : Int) = 2 * r - 1) && x.all sgn) && !decide (49 ∈ (lastL ls).drop (r - 1).toNat)
theorem one_sg : (PyData.str "1") = sD [49] := str_lit (by decide)
theorem fitsD_ok (n : Nat) (S : Store) (r c : Int) (ls : List (List Nat)) (hr : 1 ≤ r) (hc : (ls.length : Int) = c) (h0 : ls ≠ []) (hl : ls.length ≤ 1000000) (hx : ∀ x, x ∈ ls → x.length ≤ 1000000) (hv : ∀ x, x ∈ ls → Vs x) :
    callN tb (n + 2) i_Pfits_drawing [.d (strip r c), .d (.tuple (ls.map sD))] S = .ok (.d (.bool (okD r ls))) S := by
  have g : (cnN tb (n + 1)).call = callN tb (n + 1) := rfl
  have hc' := comp_map (t := .nm 2) (c := fun ρ S => evC (cnN tb (n + 1)) .nil ρ S) (e := fun ρ S => dataR (evX (cnN tb (n + 1)) (.call i_Pfits_string (.cons (.idx (.loc 0) (.con (.int 0))) (.cons (.loc 2) .nil))) ρ S))
    (ρ := [some (.d (strip r c)), some (.d (.tuple (ls.map sD))), none]) (S := S) (fun x => U.d (sD x)) (fun _ => true) (fun x => .bool (decide ((x.length : Int) = 2 * r - 1) && x.all sgn)) ls (fun x hm => ⟨_, rfl, rfl, fun _ => by
      simp [dataR, evX, evXs, g, fitsT_ok n S r x (hx x hm) (hv x hm)]⟩)
  rw [filt_all] at hc'
  have hlc := ev_lc (g := cnN tb (n + 1)) (own := [2]) (it := .val (.loc 1)) (ρ := [some (.d (strip r c)), some (.d (.tuple (ls.map sD))), none]) (S := S) (it_tup rfl) (by rw [List.length_map, List.length_map]; show _ ≤ 16777216; omega) (by rw [List.map_map]; exact hc')
  have hb : bltD .all (.list (ls.map fun x => .bool (decide ((x.length : Int) = 2 * r - 1) && x.all sgn))) = some (.bool (ls.all fun x => decide ((x.length : Int) = 2 * r - 1) && x.all sgn)) := by
    have := all_bools (ls.map fun x => decide ((x.length : Int) = 2 * r - 1) && x.all sgn)
    rw [List.map_map, List.all_map] at this
    exact this
  have hlast : (lastL ls).length ≤ line := by
    have : lastL ls ∈ ls := last_mem h0
    have := hx _ this
    show _ ≤ 16777216
    omega
  have hin : inD (.str "1") (sD ((lastL ls).drop (r - 1).toNat)) = some (decide (49 ∈ (lastL ls).drop (r - 1).toNat)) := by
    rw [one_sg]
    show some (hasSub ⟨#[49]⟩ (mkS _)) = _
    rw [has_one, sg_mk]
  rw [call_at at_Pfits_drawing rfl]
  show Ev.finish false S.length (evSs (cnN tb (n + 1)) ir_Pfits_drawing [some (.d (strip r c)), some (.d (.tuple (ls.map sD))), none] S) = _
  unfold ir_Pfits_drawing
  have hi : bltD (.isi "tuple") (.tuple (ls.map sD)) = some (.bool true) := rfl
  have hlen : bltD .len (.tuple (ls.map sD)) = some (.int (ls.length : Nat)) := by
    show some (PyData.int ((ls.map sD).length : Nat)) = _
    rw [List.length_map]
  rw [ss_cons (s_ifF (S1 := S) (by simp [evX, truR, boolR, asB, hi, hlen, binU, cmpU, hc]))]
  rw [ss_ret (s_ret (u := .d (.bool (okD r ls))) (S1 := S) ?_)]
  · rw [fin_d, List.take_length]
  · rw [evX, evX, hlc]
    unfold okD
    cases hA : ls.all fun x => decide ((x.length : Int) = 2 * r - 1) && x.all sgn with
    | false => simp [hb, hA, boolR, asB]
    | true =>
      have hidx : idxD (.tuple (ls.map sD)) (.int (-1)) = some (sD (lastL ls)) := last_sD h0
      have hcut := slc_from hlast (show (0 : Int) ≤ r - 1 by omega)
      revert hidx hcut hin
      generalize lastL ls = w
      generalize List.drop (r - 1).toNat w = v
      intro hin hidx hcut
      simp [hb, hA, boolR, asB, evX, evXs, optI, binU, hidx, hcut, cmpU, cmpD, hin]
end K01
end

section
set_option Elab.async false
set_option linter.all false
set_option maxRecDepth 100000
set_option maxHeartbeats 1000000
namespace K01
open PySem Ev
/-! # Drawings: of any value, by the program and by the law -/
def sgD : PyData → List Nat
  | .str z => sg z
  | _ => []
def strB (r : Int) : PyData → Bool
  | .str z => decide (((sg z).length : Int) = 2 * r - 1) && (sg z).all sgn
  | _ => false
theorem ok_str {w d : Nat} {z : Str} (h : OkV w d (.str z)) : z.length ≤ 2000 + w ∧ Vs (sg z) := by
  cases d with
  | zero => exact h
  | succ d =>
    rcases h with h | ⟨xs, e, _⟩
    · exact h
    · rcases e with e | e <;> cases e
theorem ok_items {w d : Nat} {xs : List PyData} (h : OkV w d (.tuple xs)) : xs.length ≤ 45 + w ∧ ∀ x, x ∈ xs → OkV w d x := by
  rcases tup_of h with rfl | ⟨d', rfl, h1, h2⟩
  · exact ⟨Nat.zero_le _, fun x hx => by cases hx⟩
  · exact ⟨h1, fun x hx => OkV.up (Nat.le_refl _) (Nat.le_succ _) (h2 x hx)⟩
theorem strB_sD {r : Int} {p : PyData} (h : strB r p = true) : p = sD (sgD p) := by
  cases p with
  | str z => rfl
  | _ => cases h
theorem fitsT_any (n : Nat) (S : Store) (r : Int) {w d : Nat} (hw : w ≤ 1000) {p : PyData} (hp : OkV w d p) : callN tb (n + 1) i_Pfits_string [.d (.int r), .d p] S = .ok (.d (.bool (strB r p))) S := by
  cases p with
  | str z =>
    have h := ok_str hp
    exact fitsT_ok n S r (sg z) (by rw [← len_sg]; omega) h.2
  | _ =>
    rw [call_at at_Pfits_string rfl]
    simp [ir_Pfits_string, evSs, evS, evX, evXs, Ev.start, bltD, isiD, tyN, boolR, asB, truR, strB]
def drawB (r c : Int) : PyData → Bool
  | .tuple xs => decide ((xs.length : Int) = c) && (xs.all (strB r) && !decide (49 ∈ (lastL (xs.map sgD)).drop (r - 1).toNat))
  | _ => false
theorem drawB_t (r c : Int) (xs : List PyData) : drawB r c (.tuple xs) = (decide ((xs.length : Int) = c) && (xs.all (strB r) && !decide (49 ∈ (lastL (xs.map sgD)).drop (r - 1).toNat))) := rfl
theorem map_sD {r : Int} {xs : List PyData} (h : xs.all (strB r) = true) : xs = (xs.map sgD).map sD := by
  rw [List.map_map]
  have : ∀ x, x ∈ xs → (sD ∘ sgD) x = x := fun x hx => (strB_sD (List.all_eq_true.mp h x hx)).symm
  exact (List.map_congr_left this |>.trans (List.map_id _)).symm
theorem okD_eq {r : Int} {xs : List PyData} (h : xs.all (strB r) = true) : okD r (xs.map sgD) = !decide (49 ∈ (lastL (xs.map sgD)).drop (r - 1).toNat) := by
  unfold okD
  have : ((xs.map sgD).all fun x => decide ((x.length : Int) = 2 * r - 1) && x.all sgn) = true := by
    rw [List.all_map, List.all_eq_true]
    intro x hx
    have := List.all_eq_true.mp h x hx
    cases x with
    | str z => exact this
    | _ => cases this
  rw [this, Bool.true_and]
theorem vs_all {w d : Nat} {xs : List PyData} (hp : OkV w d (.tuple xs)) (hw : w ≤ 1000) : (∀ x, x ∈ xs.map sgD → x.length ≤ 1000000) ∧ ∀ x, x ∈ xs.map sgD → Vs x := by
  refine ⟨fun x hx => ?_, fun x hx => ?_⟩ <;>
  · obtain ⟨y, hy, rfl⟩ := List.mem_map.mp hx
    have hk := (ok_items hp).2 y hy
    cases y with
    | str z =>
      have := ok_str hk
      first
        | exact this.2
        | (show (sg z).length ≤ _; rw [← len_sg]; omega)
    | _ => first | exact Nat.zero_le _ | (intro c hc; cases hc)
theorem fitsD_any (n : Nat) (S : Store) {r c : Int} (hr : 1 ≤ r) (hc : 1 ≤ c) {w d : Nat} (hw : w ≤ 1000) {p : PyData} (hp : OkV w d p) : callN tb (n + 2) i_Pfits_drawing [.d (strip r c), .d p] S = .ok (.d (.bool (drawB r c p))) S := by
  cases p with
  | tuple xs =>
    have hi := ok_items hp
    by_cases hl : (xs.length : Int) = c
    · by_cases hA : xs.all (strB r) = true
      · have e := fitsD_ok n S r c (xs.map sgD) hr (by rw [List.length_map]; exact hl) (by intro z; have := congrArg List.length z; rw [List.length_map] at this; simp only [List.length_nil] at this; omega) (by rw [List.length_map]; omega) (vs_all hp hw).1 (vs_all hp hw).2
        rw [← map_sD hA, okD_eq hA] at e
        rw [e]
        rw [drawB_t, hA, decide_eq_true hl, Bool.true_and, Bool.true_and]
      · have hA : xs.all (strB r) = false := by simpa using hA
        have g : (cnN tb (n + 1)).call = callN tb (n + 1) := rfl
        have hc' := comp_map (t := .nm 2) (c := fun ρ S => evC (cnN tb (n + 1)) .nil ρ S) (e := fun ρ S => dataR (evX (cnN tb (n + 1)) (.call i_Pfits_string (.cons (.idx (.loc 0) (.con (.int 0))) (.cons (.loc 2) .nil))) ρ S))
          (ρ := [some (.d (strip r c)), some (.d (.tuple xs)), none]) (S := S) U.d (fun _ => true) (fun x => .bool (strB r x)) xs (fun x hm => ⟨_, rfl, rfl, fun _ => by
            simp [dataR, evX, evXs, g, fitsT_any n S r hw (hi.2 x hm)]⟩)
        rw [filt_all] at hc'
        have hlc := ev_lc (g := cnN tb (n + 1)) (own := [2]) (it := .val (.loc 1)) (ρ := [some (.d (strip r c)), some (.d (.tuple xs)), none]) (S := S) (it_tup rfl) (by rw [List.length_map]; show _ ≤ 16777216; omega) hc'
        rw [call_at at_Pfits_drawing rfl]
        show Ev.finish false S.length (evSs (cnN tb (n + 1)) ir_Pfits_drawing [some (.d (strip r c)), some (.d (.tuple xs)), none] S) = _
        unfold ir_Pfits_drawing
        have h1 : bltD (.isi "tuple") (.tuple xs) = some (.bool true) := rfl
        have h2 : bltD .len (.tuple xs) = some (.int (xs.length : Nat)) := rfl
        rw [ss_cons (s_ifF (S1 := S) (by simp [evX, truR, boolR, asB, h1, h2, binU, cmpU, hl]))]
        rw [ss_ret (s_ret (u := .d (.bool false)) (S1 := S) (by rw [evX, evX, hlc]; simp [all_map, hA, boolR, asB]))]
        rw [fin_d, List.take_length]
        rw [drawB_t, hA, Bool.false_and, Bool.and_false]
    · rw [call_at at_Pfits_drawing rfl]
      have h1 : bltD (.isi "tuple") (.tuple xs) = some (.bool true) := rfl
      have h2 : bltD .len (.tuple xs) = some (.int (xs.length : Nat)) := rfl
      simp [ir_Pfits_drawing, evSs, evS, evX, evXs, Ev.start, h1, h2, boolR, asB, truR, cmpU, hl, drawB]
  | _ =>
    rw [call_at at_Pfits_drawing rfl]
    simp [ir_Pfits_drawing, evSs, evS, evX, evXs, Ev.start, bltD, isiD, tyN, boolR, asB, truR, drawB]
theorem nil_sD : (PyData.str "") = sD [] := str_lit (by decide)
theorem two_sg : (PyData.str "01") = sD [48, 49] := str_lit (by decide)
theorem zero_sg : (PyData.str "0") = sD [48] := str_lit (by decide)
theorem strip2 {x : List Nat} (h : Vs x) : cmpD .NotEq (.str (Txt.stripChars (mkS x) (mkS [48, 49]))) (sD []) = some (!x.all sgn) := by
  have hv : Vs (sg (Txt.stripChars (mkS x) (mkS [48, 49]))) := strip_vs0 h
  have ct : ∀ a, (mkS [48, 49]).cps.contains a = sgn a := fun a => by
    show (#[48, 49] : Array Nat).contains a = (a == 48 || a == 49)
    rw [Bool.eq_iff_iff]
    simp
  have key : (Txt.stripChars (mkS x) (mkS [48, 49]) = mkS []) ↔ x.all sgn = true := by
    rw [List.all_eq_true]
    constructor
    · intro e a ha
      cases hs : sgn a with
      | true => rfl
      | false => exact absurd e (strip_some (y := mkS [48, 49]) ha (by rw [ct]; exact hs))
    · intro hA
      exact strip_all (y := mkS [48, 49]) fun a ha => by rw [ct]; exact hA a ha
  generalize Txt.stripChars (mkS x) (mkS [48, 49]) = t at hv key
  show (eqD (sD (sg t)) (sD [])).map (!·) = _
  rw [eq_d (shaped_sD hv) (shaped_sD fun c hc => by cases hc), eqv_sD]
  show some (!decide _) = some _
  congr 2
  rw [Bool.eq_iff_iff, decide_eq_true_eq, ← key]
  exact ⟨fun e => by rw [← mk_sg t, e], fun e => by rw [e]; rfl⟩
theorem lawD_any (n : Nat) (S : Store) {r c : Int} (hr : 1 ≤ r) (hr3 : r ≤ 3) (hc : 1 ≤ c) {w d : Nat} (hw : w ≤ 1000) {p : PyData} (hp : OkV w d p) : callN tb (n + 1) i_Lis_drawing [.d (strip r c), .d p] S = .ok (.d (.bool (drawB r c p))) S := by
  cases p with
  | tuple xs =>
    have hi := ok_items hp
    have h1 : bltD (.isi "tuple") (.tuple xs) = some (.bool true) := rfl
    have h2 : bltD .len (.tuple xs) = some (.int (xs.length : Nat)) := rfl
    by_cases hl : (xs.length : Int) = c
    · rw [call_at at_Lis_drawing rfl]
      show Ev.finish false S.length (evSs (cnN tb n) ir_Lis_drawing [some (.d (strip r c)), some (.d (.tuple xs)), none] S) = _
      unfold ir_Lis_drawing
      rw [ss_cons (s_ifF (S1 := S) (by simp [evX, truR, boolR, asB, h1, h2, binU, cmpU, hl]))]
      have m2 : mulOk 2 r = true := mul_small (.inl (by decide))
      have turn := loop_all (t := .nm 2) (body := fun ρ S => evSs (cnN tb n) b_Lis_drawing ρ S) (S := S) (strB r) U.d (.d (.bool false)) (fun ρ => ∃ z, ρ = [some (.d (strip r c)), some (.d (.tuple xs)), z]) xs _ ⟨none, rfl⟩ (fun x hx ρ ⟨z, e⟩ => by
        subst e
        refine ⟨[some (.d (strip r c)), some (.d (.tuple xs)), some (.d x)], rfl, ?_⟩
        have cond : truR (evX (cnN tb n) (.or (.not (.blt (.isi "str") (.loc 2))) (.or (.cmp .NotEq (.blt .len (.loc 2)) (.bin .Sub (.bin .Mult (.con (.int 2)) (.idx (.loc 0) (.con (.int 0)))) (.con (.int 1)))) (.cmp .NotEq (.mth .strip (.loc 2) (.cons (.con (.str "01")) .nil)) (.con (.str ""))))) [some (.d (strip r c)), some (.d (.tuple xs)), some (.d x)] S) = .ok (!strB r x) S := by
          cases x with
          | str z =>
            have hz := ok_str (hi.2 _ hx)
            obtain ⟨x, rfl⟩ : ∃ x, z = mkS x := ⟨sg z, rfl⟩
            rw [sg_mk, len_mk] at hz
            have hlz : x.length ≤ line := Nat.le_trans (show x.length ≤ 10000 by omega) line_big
            have l3 : bltD .len (.str (mkS x)) = some (.int (x.length : Nat)) := len_sD hlz
            have l4 : mthD .strip (.str (mkS x)) [.str "01"] = some (.str (Txt.stripChars (mkS x) (mkS [48, 49]))) := by
              rw [two_sg]
              exact if_pos (by rw [len_mk]; exact hlz)
            have l5 := strip2 hz.2
            rw [← nil_sD] at l5
            have l6 : bltD (.isi "str") (.str (mkS x)) = some (.bool true) := rfl
            have hS : strB r (.str (mkS x)) = (decide ((x.length : Int) = 2 * r - 1) && x.all sgn) := rfl
            rw [hS]
            generalize Txt.stripChars (mkS x) (mkS [48, 49]) = y at l4 l5
            generalize x.all sgn = bb at l5
            generalize (x.length : Int) = k at l3
            generalize mkS x = zz at l3 l4 l6
            by_cases hlen : k = 2 * r - 1
            · simp [evX, evXs, truR, boolR, asB, l6, l3, binU, mul_ii m2, cmpU, hlen, derefs, l4, l5]
            · simp [evX, evXs, truR, boolR, asB, l6, l3, binU, mul_ii m2, cmpU, hlen]
          | _ => simp [evX, truR, boolR, asB, bltD, isiD, tyN, strB]
        cases hg : strB r x with
        | true =>
          refine .inl ⟨rfl, [some (.d (strip r c)), some (.d (.tuple xs)), some (.d x)], ?_, some (.d x), rfl⟩
          show evSs (cnN tb n) (.cons _ .nil) _ S = _
          rw [ss_cons (s_ifF (S1 := S) (by rw [cond, hg]; rfl))]
          rfl
        | false =>
          refine .inr ⟨rfl, ?_⟩
          show evSs (cnN tb n) (.cons _ .nil) _ S = _
          rw [ss_ret (s_ifR (S1 := S) (by rw [cond, hg]; rfl) (ss_ret (s_ret (u := .d (.bool false)) rfl)))])
      rcases turn with ⟨hA, ρ', e1, z, rfl⟩ | ⟨hA, e1⟩
      · rw [ss_cons (ev_for (it_tup rfl) e1)]
        have h0 : xs.map sgD ≠ [] := by intro z; have := congrArg List.length z; rw [List.length_map] at this; simp only [List.length_nil] at this; omega
        have hmem : lastL (xs.map sgD) ∈ xs.map sgD := last_mem h0
        have hvl := (vs_all hp hw).2 _ hmem
        have hll := (vs_all hp hw).1 _ hmem
        obtain ⟨y, hy, hye⟩ := List.mem_map.mp hmem
        have hyB := List.all_eq_true.mp hA y hy
        have hidx : idxD (.tuple xs) (.int (-1)) = some (sD (lastL (xs.map sgD))) := by
          have := last_sD h0
          rw [← map_sD hA] at this
          exact this
        have hlen : ((lastL (xs.map sgD)).length : Int) = 2 * r - 1 ∧ (lastL (xs.map sgD)).all sgn = true := by
          rw [← hye]
          cases y with
          | str q =>
            have hyB : (decide (((sg q).length : Int) = 2 * r - 1) && (sg q).all sgn) = true := hyB
            rw [Bool.and_eq_true, decide_eq_true_eq] at hyB
            exact hyB
          | _ => cases hyB
        have hlast : (lastL (xs.map sgD)).length ≤ line := by show _ ≤ 16777216; omega
        have hcut := slc_from hlast (show (0 : Int) ≤ r - 1 by omega)
        have hmul : binD .Mult (.str "0") (.int r) = some (sD (List.replicate r.toNat 48)) := by
          have e : (⟨(reps r ("0" : Str).cps.toList).toArray⟩ : Str) = mkS (List.replicate r.toNat 48) := by
            have : r = 1 ∨ r = 2 ∨ r = 3 := by omega
            rcases this with rfl | rfl | rfl <;> decide +kernel
          show (if 0 ≤ r ∧ r ≤ 1000 ∧ ("0" : Str).length ≤ 1000 then some (PyData.str ⟨(reps r ("0" : Str).cps.toList).toArray⟩) else none) = _
          rw [if_pos ⟨by omega, by omega, by decide +kernel⟩, e]
          rfl
        have hcmp : cmpD .Eq (sD ((lastL (xs.map sgD)).drop (r - 1).toNat)) (sD (List.replicate r.toNat 48)) = some (!decide (49 ∈ (lastL (xs.map sgD)).drop (r - 1).toNat)) := by
          show eqD _ _ = _
          rw [eq_d (shaped_sD (hvl.drop _)) (shaped_sD fun a ha => by rw [(List.mem_replicate.mp ha).2]; decide), eqv_sD]
          congr 1
          have hl2 : ((lastL (xs.map sgD)).drop (r - 1).toNat).length = r.toNat := by rw [List.length_drop]; omega
          have hs2 : ∀ a, a ∈ (lastL (xs.map sgD)).drop (r - 1).toNat → a = 48 ∨ a = 49 := fun a ha => by
            have := List.all_eq_true.mp hlen.2 a (List.mem_of_mem_drop ha)
            simpa [sgn] using this
          generalize (lastL (xs.map sgD)).drop (r - 1).toNat = v at hl2 hs2
          rw [Bool.eq_iff_iff]
          simp only [decide_eq_true_eq, Bool.not_eq_true', decide_eq_false_iff_not]
          constructor
          · intro e h49
            rw [e] at h49
            have := (List.mem_replicate.mp h49).2
            omega
          · intro h49
            exact List.eq_replicate_iff.mpr ⟨hl2, fun a ha => (hs2 a ha).elim id fun z => absurd (by rw [← z]; exact ha) h49⟩
        rw [ss_ret (s_ret (u := .d (.bool (!decide (49 ∈ (lastL (xs.map sgD)).drop (r - 1).toNat)))) (S1 := S) ?_)]
        · rw [fin_d, List.take_length]
          rw [drawB_t, hA, decide_eq_true hl, Bool.true_and, Bool.true_and]
        · generalize (lastL (xs.map sgD)).drop (r - 1).toNat = v at hcut hcmp
          generalize lastL (xs.map sgD) = u at hidx hcut
          generalize List.replicate r.toNat 48 = q at hmul hcmp
          simp [evX, evXs, optI, binU, hidx, hcut, hmul, cmpU, hcmp]
      · rw [ev_forR (it_tup rfl) e1, fin_d, List.take_length]
        rw [drawB_t, hA, Bool.false_and, Bool.and_false]
    · rw [call_at at_Lis_drawing rfl]
      simp [ir_Lis_drawing, evSs, evS, evX, evXs, Ev.start, h1, h2, boolR, asB, truR, cmpU, hl, drawB]
  | _ =>
    rw [call_at at_Lis_drawing rfl]
    simp [ir_Lis_drawing, evSs, evS, evX, evXs, Ev.start, bltD, isiD, tyN, boolR, asB, truR, drawB]
end K01
end

section
set_option Elab.async false
set_option linter.all false
set_option maxRecDepth 100000
set_option maxHeartbeats 1000000
namespace K01
open PySem Ev
/-! ### exact: the law's places, ties, drawings -/
theorem placesX (n : Nat) (S : Store) {R C : Nat} (hR : R ≤ 100) (hC : C ≤ 100) : callN tb (n + 1) i_Lplaces [.d (strip R C)] S = .ok (.d (.list ((pl R C).map plD))) S := by
  refine call_v0 at_Lplaces rfl rfl ?_
  show evSs (cnN tb n) ir_Lplaces [some (.d (strip R C)), none, none, none] S = _
  unfold ir_Lplaces
  refine k_set (u := .d (.list [])) (S1 := S) (by simp [evX, evXs, datas]) ?_
  let f : List Pl × Option U × Option U → Nat → List Pl × Option U × Option U := fun s k => (s.1 ++ (List.range R).map fun j => (k, j), some (.d (nI k)), s.2.2)
  have hf := fold_fst f (fun k => (List.range R).map fun j => (k, j)) fun s x => rfl
  refine k_for (fun k : Nat => U.d (nI k)) (fun s : List Pl × Option U × Option U => [some (.d (strip R C)), some (.d (.list (s.1.map plD))), s.2.1, s.2.2])
    f (List.range C) ([], none, none) rfl (it_rngN (m := C) (by simp [evX]) (by omega)) (fun pre k post hp => ⟨_, rfl, ?_⟩) ?_
  · obtain ⟨rfl, hk⟩ := pre_range hp
    have hlen := flat_len (fun k => (List.range R).map fun j => (k, j)) R (List.range k) fun x _ => by simp
    rw [List.length_range, ← List.nil_append (List.flatMap _ _), ← hf (List.range k) ([], none, none)] at hlen
    have hb : R * k ≤ 100 * 100 := Nat.mul_le_mul hR (by omega)
    generalize (List.range k).foldl f ([], none, none) = s at hlen ⊢
    obtain ⟨as, u, v⟩ := s
    dsimp only at hlen ⊢
    refine k_set (u := .d (.list ((as ++ (List.range R).map fun j => (k, j)).map plD))) (S1 := S) ?_ rfl
    rw [List.map_append, List.map_map]
    exact ev_bin rfl (lc_all (fun j : Nat => U.d (nI j)) (fun j => plD (k, j)) (it_rngN (m := R) (by simp [evX]) (by omega)) (by rw [List.length_range]; show _ ≤ 16777216; omega) fun j _ => ⟨_, rfl, by simp [wipe, evX, evXs, datas, two_line]⟩)
      (add_ll (by rw [List.length_map, List.length_map, List.length_range]; show _ ≤ 16777216; omega))
  · refine (k_ret (S1 := S) rfl).trans ?_
    rw [hf]
    rfl
theorem tiesX (n : Nat) (S : Store) {R C : Nat} (hR : R ≤ 100) (hC : C ≤ 100) : callN tb (n + 2) i_Lties [.d (strip R C)] S = .ok (.d (.list ((ti R C).map tiD))) S := by
  refine call_v0 at_Lties rfl rfl ?_
  show evSs (cnN tb (n + 1)) ir_Lties [some (.d (strip R C)), none, none, none] S = _
  unfold ir_Lties
  have hP := placesX n S hR hC
  have hit : evIt (cnN tb (n + 1)) (.val (.call i_Lplaces (.cons (.loc 0) .nil))) [some (.d (strip R C)), some (.d (.list [])), none, none] S = .ok (.fix ((pl R C).map fun p => U.d (plD p))) S := by
    rw [it_list (xs := (pl R C).map plD) (S1 := S) (by rw [ev_call1 (S1 := S) (u := .d (strip R C)) rfl, call_cn]; exact hP), List.map_map]
    rfl
  refine k_set (u := .d (.list [])) (S1 := S) (by simp [evX, evXs, datas]) ?_
  let f : List Ti × Option U × Option U → Pl → List Ti × Option U × Option U := fun s p => (s.1 ++ tiP R C p, some (.d (nI p.1)), some (.d (nI p.2)))
  have hf := fold_fst f (tiP R C) fun s x => rfl
  refine k_for (fun p : Pl => U.d (plD p)) (fun s : List Ti × Option U × Option U => [some (.d (strip R C)), some (.d (.list (s.1.map tiD))), s.2.1, s.2.2])
    f (pl R C) ([], none, none) rfl hit (fun pre p post hp => ⟨_, rfl, ?_⟩) ?_
  · have hlen := flat_len (tiP R C) 2 pre fun x _ => tiP_len R C x
    have hpl := pre_len hp
    rw [pl_len] at hpl
    rw [← List.nil_append (List.flatMap _ _), ← hf pre ([], none, none)] at hlen
    have hb : C * R ≤ 100 * 100 := Nat.mul_le_mul hC hR
    generalize pre.foldl f ([], none, none) = s at hlen ⊢
    obtain ⟨as, u, v⟩ := s
    obtain ⟨x, y⟩ := p
    dsimp only at hlen ⊢
    have e1 : ((y : Int) + 1 < (R : Int)) ↔ y + 1 < R := by omega
    have e2 : ((x : Int) + 1 < (C : Int)) ↔ x + 1 < C := by omega
    have a1 : (as.map tiD).length + (if y + 1 < R then [tiD ((x, y), (x, y + 1))] else []).length ≤ line := by
      rw [List.length_map]
      show _ ≤ 16777216
      split <;> simp only [List.length_cons, List.length_nil] <;> omega
    have a2 : (as.map tiD ++ (if y + 1 < R then [tiD ((x, y), (x, y + 1))] else [])).length + (if x + 1 < C then [tiD ((x, y), (x + 1, y))] else []).length ≤ line := by
      rw [List.length_append, List.length_map]
      show _ ≤ 16777216
      split <;> split <;> simp only [List.length_cons, List.length_nil] <;> omega
    refine k_set (u := .d (.list (as.map tiD ++ (if y + 1 < R then [tiD ((x, y), (x, y + 1))] else [])))) (S1 := S) (ev_bin (q := .list (if y + 1 < R then [tiD ((x, y), (x, y + 1))] else [])) rfl ?_ (add_ll a1)) ?_
    · by_cases h : y + 1 < R
      · rw [if_pos h]
        exact ev_ifT (S1 := S) (by simp [evX, truR, cmpU, binU, e1, h]) (by simp [evX, evXs, datas, binU, one_line, two_line])
      · rw [if_neg h]
        exact ev_ifF (S1 := S) (by simp [evX, truR, cmpU, binU, e1, h]) (by simp [evX, evXs, datas])
    · refine k_set (u := .d (.list ((as ++ tiP R C (x, y)).map tiD))) (S1 := S) ?_ rfl
      have e : (as ++ tiP R C (x, y)).map tiD = (as.map tiD ++ (if y + 1 < R then [tiD ((x, y), (x, y + 1))] else [])) ++ (if x + 1 < C then [tiD ((x, y), (x + 1, y))] else []) := by
        unfold tiP
        split <;> split <;> simp
      rw [e]
      refine ev_bin (q := .list (if x + 1 < C then [tiD ((x, y), (x + 1, y))] else [])) rfl ?_ (add_ll a2)
      by_cases h : x + 1 < C
      · rw [if_pos h]
        exact ev_ifT (S1 := S) (by simp [evX, truR, cmpU, binU, e2, h]) (by simp [evX, evXs, datas, binU, one_line, two_line])
      · rw [if_neg h]
        exact ev_ifF (S1 := S) (by simp [evX, truR, cmpU, binU, e2, h]) (by simp [evX, evXs, datas])
  · refine (k_ret (S1 := S) rfl).trans ?_
    rw [hf]
    rfl
end K01
end

section
set_option Elab.async false
set_option linter.all false
set_option maxRecDepth 100000
set_option maxHeartbeats 1000000
namespace K01
open PySem Ev
/-! ### exact: the law's ties of a drawing, the drawing of ties -/
theorem tiesOfX (n : Nat) (S : Store) {R C : Nat} (hR1 : 1 ≤ R) (hR : R ≤ 100) (hC : C ≤ 100) {D : List (List Nat)} (hD : IsD R C D) : callN tb (n + 3) i_Lties_of [.d (strip R C), .d (.tuple (D.map sD))] S = .ok (.d (.list ((tis R C D).map tiD))) S := by
  have body : evSs (cnN tb (n + 2)) ir_Lties_of [some (.d (strip R C)), some (.d (.tuple (D.map sD))), none, none, none, none, none, none, none] S = .ok (.rt (.ref S.length)) (S ++ [.lst ((tis R C D).map tiD)]) := by
    unfold ir_Lties_of
    refine k_set (u := .ref S.length) (S1 := S ++ [.lst []]) (by simp [evX, evXs, datas]) ?_
    dsimp only [List.set]
    have hit : ∀ ρ : Rho, ρ[0]? = some (some (.d (strip R C))) → evIt (cnN tb (n + 2)) (.val (.call i_Lties (.cons (.loc 0) .nil))) ρ (S ++ [.lst []]) = .ok (.fix ((ti R C).map fun t => U.d (tiD t))) (S ++ [.lst []]) := fun ρ h0 => by
      rw [it_list (xs := (ti R C).map tiD) (S1 := S ++ [.lst []]) (by rw [ev_call1 (S1 := S ++ [.lst []]) (u := .d (strip R C)) (by simp [evX, h0]), call_cn]; exact tiesX n _ hR hC), List.map_map]
      rfl
    refine k_forI (fun t : Ti => U.d (tiD t)) (fun pre ρ S' => S' = S ++ [.lst ((pre.filter (hasT R D)).map tiD)] ∧ ∃ a b c d e f : Option U, ρ = [some (.d (strip R C)), some (.d (.tuple (D.map sD))), some (.ref S.length), a, b, c, d, e, f]) (ti R C) (hit _ rfl) ⟨rfl, none, none, none, none, none, none, rfl⟩ (fun pre t post hp ρ S' hI => ?_) fun ρ' S' hI => ?_
    · obtain ⟨rfl, a, b, c, d, e, f, rfl⟩ := hI
      have ht : IsTi R C t := mem_ti.mp (by rw [hp]; simp)
      obtain ⟨x, ch, i1, i2, i3⟩ := sign_facts hR hD ht
      have h4 : ∀ ρ : Rho, ρ[0]? = some (some (.d (strip R C))) → ρ[5]? = some (some (.d (nI t.1.1))) → ρ[6]? = some (some (.d (nI t.1.2))) → ρ[7]? = some (some (.d (nI t.2.1))) → evX (cnN tb (n + 2)) (.ife (.cmp .Eq (.loc 7) (.loc 5)) (.loc 6) (.bin .Add (.bin .Sub (.idx (.loc 0) (.con (.int 0))) (.con (.int 1))) (.loc 6))) ρ (S ++ [.lst ((pre.filter (hasT R D)).map tiD)]) = .ok (.d (nI (sgnAt R t).2)) (S ++ [.lst ((pre.filter (hasT R D)).map tiD)]) := fun ρ h0 h5 h6 h7 => by
        unfold sgnAt
        by_cases h : t.2.1 = t.1.1
        · rw [if_pos h]
          simp [evX, truR, cmpU, h0, h5, h6, h7, h]
        · rw [if_neg h]
          have h' : ¬ ((t.2.1 : Nat) : Int) = ((t.1.1 : Nat) : Int) := by omega
          have e1 : ((R : Int) - 1 + (t.1.2 : Int)) = ((R - 1 + t.1.2 : Nat) : Int) := by omega
          simp [evX, truR, cmpU, h0, h5, h6, h7, h', binU, e1]
      generalize hxs : (pre.filter (hasT R D)).map tiD = xs at h4 ⊢
      have hlen : xs.length < line := by
        rw [← hxs, List.length_map]
        have h1 := List.length_filter_le (hasT R D) pre
        have h2 := pre_len hp
        have h3 := ti_len R C
        have h4 : C * R ≤ 100 * 100 := Nat.mul_le_mul hC hR
        show _ < 16777216
        omega
      have fin : evSs (cnN tb (n + 2)) b_Lties_of [some (.d (strip R C)), some (.d (.tuple (D.map sD))), some (.ref S.length), some (.d (tiD t)), b, c, d, e, f] (S ++ [.lst xs]) =
          .ok (.nx [some (.d (strip R C)), some (.d (.tuple (D.map sD))), some (.ref S.length), some (.d (tiD t)), some (.d (nI (sgnAt R t).2)), some (.d (nI t.1.1)), some (.d (nI t.1.2)), some (.d (nI t.2.1)), some (.d (nI t.2.2))])
            (S ++ [.lst (xs ++ if hasT R D t = true then [tiD t] else [])]) := by
        refine k_sett (u := .d (tiD t)) (S1 := S ++ [.lst xs]) rfl rfl ?_
        refine k_set (h4 _ rfl rfl rfl rfl) ?_
        have cond : truR (evX (cnN tb (n + 2)) (.cmp .Eq (.idx (.idx (.loc 1) (.loc 5)) (.loc 4)) (.con (.str "1"))) [some (.d (strip R C)), some (.d (.tuple (D.map sD))), some (.ref S.length), some (.d (tiD t)), some (.d (nI (sgnAt R t).2)), some (.d (nI t.1.1)), some (.d (nI t.1.2)), some (.d (nI t.2.1)), some (.d (nI t.2.2))] (S ++ [.lst xs])) = .ok (hasT R D t) (S ++ [.lst xs]) :=
          tru_bool (ev_cmp (S1 := S ++ [.lst xs]) (ev_idx (S1 := S ++ [.lst xs]) (ev_idx (S1 := S ++ [.lst xs]) rfl rfl i1) rfl i2) rfl i3)
        cases hb : hasT R D t with
        | true =>
          rw [hb] at cond
          refine k_ifT cond (k_app (b := S.length) rfl rfl (get_last _ _) hlen rfl) ?_
          rw [set_last, if_pos rfl]
          rfl
        | false =>
          rw [hb] at cond
          refine k_ifF cond ?_
          rw [if_neg (by decide), List.append_nil]
          rfl
      refine ⟨_, _, _, rfl, fin, ?_, _, _, _, _, _, _, rfl⟩
      rw [filter_snoc, List.map_append, hxs]
      split <;> rfl
    · obtain ⟨rfl, a, b, c, d, e, f, rfl⟩ := hI
      exact k_ret rfl
  exact call_r at_Lties_of rfl rfl body (get_last _ _) (Nat.lt_irrefl _) (take_last _ _)
theorem drawnX (n : Nat) (S : Store) {R C : Nat} (hR1 : 1 ≤ R) (hR : R ≤ 100) (hC : C ≤ 100) (ts : List Ti) : callN tb (n + 1) i_Ldrawn [.d (strip R C), .d (.list (ts.map tiD))] S = .ok (.d (.tuple ((drw R C fun t => decide (t ∈ ts)).map sD))) S := by
  -- one sign more
  have sign : ∀ (q : Ev.X) (t : Ti) (z : List Nat) (ρ : Rho) (T : Store), ρ[1]? = some (some (.d (.list (ts.map tiD)))) → ρ[4]? = some (some (.d (sD z))) → evX (cnN tb n) q ρ T = .ok (.d (tiD t)) T → z.length ≤ 1000 →
      evX (cnN tb n) (.bin .Add (.loc 4) (.ife (.cmp .In q (.loc 1)) (.con (.str "1")) (.con (.str "0")))) ρ T = .ok (.d (sD (z ++ [bitC (decide (t ∈ ts))]))) T := fun q t z ρ T h1 h4 hq hz => by
    refine ev_bin (p := sD z) (q := sD [bitC (decide (t ∈ ts))]) (S1 := T) (by simp [evX, h4]) ?_ (add_sD (by show _ + 1 ≤ 16777216; omega))
    have cond : truR (evX (cnN tb n) (.cmp .In q (.loc 1)) ρ T) = .ok (decide (t ∈ ts)) T := tru_bool (ev_cmp (o := .In) (q := .list (ts.map tiD)) hq (by simp [evX, h1]) (in_tiD t ts))
    rw [bit_sD]
    cases hb : decide (t ∈ ts) with
    | true => rw [hb] at cond; exact ev_ifT cond rfl
    | false => rw [hb] at cond; exact ev_ifF cond rfl
  have body : evSs (cnN tb n) ir_Ldrawn [some (.d (strip R C)), some (.d (.list (ts.map tiD))), none, none, none, none] S = .ok (.rt (.d (.tuple ((drw R C fun t => decide (t ∈ ts)).map sD)))) (S ++ [.lst ((drw R C fun t => decide (t ∈ ts)).map sD)]) := by
    unfold ir_Ldrawn
    refine k_set (u := .ref S.length) (S1 := S ++ [.lst []]) (by simp [evX, evXs, datas]) ?_
    dsimp only [List.set]
    refine k_forI (fun k : Nat => U.d (nI k)) (fun pre ρ S' => S' = S ++ [.lst ((pre.map fun k => colT R k fun t => decide (t ∈ ts)).map sD)] ∧ ∃ a b c : Option U, ρ = [some (.d (strip R C)), some (.d (.list (ts.map tiD))), some (.ref S.length), a, b, c]) (List.range C) (it_rngN (m := C) (by simp [evX]) (by omega)) ⟨rfl, none, none, none, rfl⟩ (fun pre k post hp ρ S' hI => ?_) fun ρ' S' hI => ?_
    · obtain ⟨rfl, a, b, c, rfl⟩ := hI
      have hpl := pre_len hp
      rw [List.length_range] at hpl
      have hlen : ((pre.map fun k => colT R k fun t => decide (t ∈ ts)).map sD).length < line := by
        rw [List.length_map, List.length_map]
        show _ < 16777216
        omega
      rw [List.map_append, List.map_append]
      generalize (pre.map fun k => colT R k fun t => decide (t ∈ ts)).map sD = xs at hlen ⊢
      let f1 : List Nat × Option U → Nat → List Nat × Option U := fun s j => (s.1 ++ [bitC (decide (((k, j), (k, j + 1)) ∈ ts))], some (.d (nI j)))
      let f2 : List Nat × Option U → Nat → List Nat × Option U := fun s j => (s.1 ++ [bitC (decide (((k, j), (k + 1, j)) ∈ ts))], some (.d (nI j)))
      have g1 := fold_one f1 (fun j => bitC (decide (((k, j), (k, j + 1)) ∈ ts))) fun s x => rfl
      have g2 := fold_one f2 (fun j => bitC (decide (((k, j), (k + 1, j)) ∈ ts))) fun s x => rfl
      iterate 3 apply Exists.intro
      refine And.intro rfl (And.intro ?main ?eq)
      case main =>
        refine k_set (u := .d (.str "")) (S1 := S ++ [.lst xs]) rfl ?_
        dsimp only [List.set]
        rw [nil_sD]
        refine k_for (fun j : Nat => U.d (nI j)) (fun s : List Nat × Option U => [some (.d (strip R C)), some (.d (.list (ts.map tiD))), some (.ref S.length), some (.d (nI k)), some (.d (sD s.1)), s.2]) f1 (List.range (R - 1)) ([], c) rfl (it_rngN (m := R - 1) (by simp [evX, binU]; omega) (by omega)) (fun pre1 j post1 hp1 => ⟨_, rfl, ?_⟩) ?_
        · have hl1 := pre_len hp1
          rw [List.length_range] at hl1
          have hz : (pre1.foldl f1 ([], c)).1.length ≤ 1000 := by
            rw [g1, List.nil_append, List.length_map]
            omega
          generalize pre1.foldl f1 ([], c) = s at hz ⊢
          exact k_set (sign _ ((k, j), (k, j + 1)) s.1 _ _ rfl rfl (by simp [evX, evXs, datas, binU, two_line]) hz) rfl
        · refine k_for (fun j : Nat => U.d (nI j)) (fun s : List Nat × Option U => [some (.d (strip R C)), some (.d (.list (ts.map tiD))), some (.ref S.length), some (.d (nI k)), some (.d (sD s.1)), s.2]) f2 (List.range R) ((List.range (R - 1)).foldl f1 ([], c)) rfl (it_rngN (m := R) (by simp [evX]) (by omega)) (fun pre1 j post1 hp1 => ⟨_, rfl, ?_⟩) ?_
          · have hl1 := pre_len hp1
            rw [List.length_range] at hl1
            have hz : (pre1.foldl f2 ((List.range (R - 1)).foldl f1 ([], c))).1.length ≤ 1000 := by
              rw [g2, List.length_append, List.length_map, g1, List.nil_append, List.length_map, List.length_range]
              omega
            generalize pre1.foldl f2 ((List.range (R - 1)).foldl f1 ([], c)) = s at hz ⊢
            exact k_set (sign _ ((k, j), (k + 1, j)) s.1 _ _ rfl rfl (by simp [evX, evXs, datas, binU, two_line]) hz) rfl
          · exact k_app (b := S.length) rfl rfl (get_last _ _) hlen rfl
      case eq =>
        refine ⟨?_, _, _, _, rfl⟩
        rw [set_last, g2, g1, List.nil_append, ← colT_split (m := fun t => decide (t ∈ ts)) hR1]
        rfl
    · obtain ⟨rfl, a, b, c, rfl⟩ := hI
      refine k_ret ?_
      unfold drw
      simp [evX, d_lst (get_last _ _), bltD, seqD]
  exact call_v at_Ldrawn rfl rfl body (take_last _ _)
end K01
end

section
set_option Elab.async false
set_option linter.all false
set_option maxRecDepth 100000
set_option maxHeartbeats 1000000
namespace K01
open PySem Ev
/-! ### exact: the program's ties and drawings -/
theorem psignX (n : Nat) (S : Store) {R C : Nat} (hR : 1 ≤ R) (t : Ti) : callN tb (n + 1) i_Psign_of [.d (strip R C), .d (tiD t)] S = .ok (.d (plD (sgnAt R t))) S := by
  refine call_v0 at_Psign_of rfl rfl ?_
  show evSs (cnN tb n) ir_Psign_of [some (.d (strip R C)), some (.d (tiD t)), none, none, none, none] S = _
  unfold ir_Psign_of
  refine k_sett (u := .d (tiD t)) (S1 := S) rfl rfl (k_ret ?_)
  unfold sgnAt
  by_cases h : t.2.1 = t.1.1
  · rw [if_pos h]
    simp [evX, evXs, truR, cmpU, h, datas, two_line]
  · rw [if_neg h]
    have h' : ¬ ((t.2.1 : Nat) : Int) = ((t.1.1 : Nat) : Int) := by omega
    have e1 : ((R : Int) - 1 + (t.1.2 : Int)) = ((R - 1 + t.1.2 : Nat) : Int) := by omega
    simp [evX, evXs, truR, cmpU, h', binU, e1, datas, two_line]
theorem ptieX (n : Nat) (S : Store) {R C : Nat} (hR : 1 ≤ R) (k m : Nat) : callN tb (n + 1) i_Ptie_at [.d (strip R C), .d (nI k), .d (nI m)] S = .ok (.d (tiD (tieAt R k m))) S := by
  refine call_v0 at_Ptie_at rfl rfl ?_
  show evSs (cnN tb n) ir_Ptie_at [some (.d (strip R C)), some (.d (nI k)), some (.d (nI m)), none] S = _
  unfold ir_Ptie_at tieAt
  by_cases h : m < R - 1
  · rw [if_pos h]
    have h' : ((m : Nat) : Int) < (R : Int) - 1 := by omega
    exact k_ifR (S1 := S) (by simp [evX, truR, cmpU, binU, h']) (k_ret (by simp [evX, evXs, datas, two_line, binU]))
  · rw [if_neg h]
    have h' : ¬ ((m : Nat) : Int) < (R : Int) - 1 := by omega
    have e1 : ((m : Int) - (R : Int) + 1) = ((m - (R - 1) : Nat) : Int) := by omega
    refine k_ifF (S1 := S) (by simp [evX, truR, cmpU, binU, h']) (k_set (u := .d (nI (m - (R - 1)))) (S1 := S) (by simp [evX, binU, e1]) (k_ret (by simp [evX, evXs, datas, two_line, binU])))
/-- the ties of a column -/
theorem col_found {R C : Nat} {D : List (List Nat)} (hD : IsD R C D) {k : Nat} (hk : k < C) : ((D.getD k []).zipIdx.filter fun q => decide (q.1 = 49)).map (fun q => tieAt R k q.2) = ((List.range (2 * R - 1)).filter fun n => hasB D (k, n)).map (tieAt R k) := by
  have hkD : k < D.length := by rw [hD.len]; exact hk
  have e : D.getD k [] = D[k] := by simp [List.getD_eq_getElem?_getD, hkD]
  have hw := hD.wid _ (List.getElem_mem hkD)
  rw [e, zipIdx_range _ 0, hw, List.filter_map, List.map_map]
  have hf : (List.range (2 * R - 1)).filter ((fun q : Nat × Nat => decide (q.1 = 49)) ∘ fun n => (D[k].getD n 0, n)) = (List.range (2 * R - 1)).filter fun n => hasB D (k, n) := by
    refine List.filter_congr fun n hn => ?_
    have hn : n < D[k].length := by rw [hw]; exact List.mem_range.mp hn
    unfold hasB
    dsimp only [Function.comp]
    rw [List.getElem?_eq_getElem hkD, Option.bind_some, List.getElem?_eq_getElem hn]
    simp [List.getD_eq_getElem?_getD, hn]
  rw [hf]
  rfl
theorem pallX (n : Nat) (S : Store) {R C : Nat} (hR1 : 1 ≤ R) (hR : R ≤ 100) (hC : C ≤ 100) {D : List (List Nat)} (hD : IsD R C D) : callN tb (n + 2) i_Pall_ties [.d (strip R C), .d (.tuple (D.map sD))] S = .ok (.d (.list ((tis R C D).map tiD))) S := by
  refine call_v0 at_Pall_ties rfl rfl ?_
  show evSs (cnN tb (n + 1)) ir_Pall_ties [some (.d (strip R C)), some (.d (.tuple (D.map sD))), none, none, none, none, none] S = _
  unfold ir_Pall_ties
  refine k_set (u := .d (.list [])) (S1 := S) (by simp [evX, evXs, datas]) ?_
  let fc : Nat → List Ti := fun k => ((List.range (2 * R - 1)).filter fun n => hasB D (k, n)).map (tieAt R k)
  let f : List Ti × Option U × Option U × Option U × Option U → Nat → List Ti × Option U × Option U × Option U × Option U := fun s k => (s.1 ++ fc k, some (.d (nI k)), some (.d (sD (D.getD k []))), s.2.2.2.1, s.2.2.2.2)
  have hf := fold_fst f fc fun s x => rfl
  have hfl : ∀ k, (fc k).length ≤ 200 := fun k => by
    show (((List.range (2 * R - 1)).filter fun n => hasB D (k, n)).map (tieAt R k)).length ≤ 200
    rw [List.length_map]
    have := List.length_filter_le (fun n => hasB D (k, n)) (List.range (2 * R - 1))
    rw [List.length_range] at this
    omega
  have hit : evIt (cnN tb (n + 1)) (.enm (.loc 1)) [some (.d (strip R C)), some (.d (.tuple (D.map sD))), some (.d (.list [])), none, none, none, none] S = .ok (.fix ((List.range C).map fun k => U.it [nI k, sD (D.getD k [])])) S := by
    rw [it_enmT (xs := D.map sD) (S1 := S) rfl, enm_eq, zipIdx_range _ [], hD.len, List.map_map]
    rfl
  refine k_for (fun k : Nat => U.it [nI k, sD (D.getD k [])]) (fun s : List Ti × Option U × Option U × Option U × Option U => [some (.d (strip R C)), some (.d (.tuple (D.map sD))), some (.d (.list (s.1.map tiD))), s.2.1, s.2.2.1, s.2.2.2.1, s.2.2.2.2]) f (List.range C) ([], none, none, none, none) rfl hit (fun pre k post hp => ⟨_, rfl, ?_⟩) ?_
  · obtain ⟨rfl, hk⟩ := pre_range hp
    have hlen := flat_len fc 200 (List.range k) fun x _ => hfl x
    rw [List.length_range, ← List.nil_append (List.flatMap _ _), ← hf (List.range k) ([], none, none, none, none)] at hlen
    generalize (List.range k).foldl f ([], none, none, none, none) = s at hlen ⊢
    obtain ⟨as, u1, u2, u3, u4⟩ := s
    dsimp only at hlen
    have hkD : k < D.length := by rw [hD.len]; exact hk
    have hw : (D.getD k []).length = 2 * R - 1 := by
      rw [show D.getD k [] = D[k] by simp [List.getD_eq_getElem?_getD, hkD]]
      exact hD.wid _ (List.getElem_mem hkD)
    have hvs : ∀ c, c ∈ D.getD k [] → c < 1114112 := fun c hc => by
      rw [show D.getD k [] = D[k] by simp [List.getD_eq_getElem?_getD, hkD]] at hc
      rcases hD.sg _ (List.getElem_mem hkD) _ hc with h | h <;> rw [h] <;> decide
    have e1 := col_found hD hk
    have e2 : (as ++ fc k).map tiD = as.map tiD ++ ((D.getD k []).zipIdx.filter fun q => decide (q.1 = 49)).map (fun q => tiD (tieAt R k q.2)) := by
      rw [List.map_append]
      congr 1
      show (((List.range (2 * R - 1)).filter fun n => hasB D (k, n)).map (tieAt R k)).map tiD = _
      rw [← e1, List.map_map]
      rfl
    have hlc : evX (cnN tb (n + 1)) (.lc [5, 6] (.cons (.nm 5) (.cons (.nm 6) .nil)) (.enm (.loc 4)) t_Pall_ties e_Pall_ties) [some (.d (strip R C)), some (.d (.tuple (D.map sD))), some (.d (.list (as.map tiD))), some (.d (nI k)), some (.d (sD (D.getD k []))), u3, u4] S =
        .ok (.d (.list (((D.getD k []).zipIdx.filter fun q => decide (q.1 = 49)).map fun q => tiD (tieAt R k q.2)))) S := by
      refine lc_map (fun q : Nat × Nat => U.it [nI q.2, sD [q.1]]) (fun q => decide (q.1 = 49)) (fun q => tiD (tieAt R k q.2)) (xs := (D.getD k []).zipIdx) ?_ (by rw [List.length_zipIdx, hw]; show _ ≤ 16777216; omega) fun q hq => ⟨_, rfl, ?_, fun _ => ?_⟩
      · rw [it_enmS (z := mkS (D.getD k [])) (S1 := S) rfl, strP_mk, enm_eq]
      · exact tru_bool (ev_cmp (S1 := S) (p := sD [q.1]) rfl rfl (eq_sg (hvs _ (by
          obtain ⟨q1, q2⟩ := q
          have := List.mem_zipIdx hq
          rw [this.2.2]
          exact List.getElem_mem _))))
      · show evX _ (.call i_Ptie_at _) _ _ = _
        rw [ev_call3 (S1 := S) (S2 := S) (S3 := S) (u := .d (strip R C)) (v := .d (nI k)) (w := .d (nI q.2)) rfl rfl rfl, call_cn]
        exact ptieX n S hR1 k q.2
    refine k_set (u := .d (.list ((as ++ fc k).map tiD))) (S1 := S) ?_ rfl
    rw [e2]
    refine ev_bin rfl hlc (add_ll ?_)
    rw [← List.length_append, ← e2, List.length_map, List.length_append]
    have := hfl k
    show _ ≤ 16777216
    omega
  · have hsort := sorted_tis (xs := found R C D) (ys := tis R C D) (by
        have := flat_len fc 200 (List.range C) fun x _ => hfl x
        rw [List.length_range] at this
        show ((List.range C).flatMap fc).length ≤ _
        omega) (found_perm hR1 (by omega) (by omega) hD) (tis_sorted (by omega) (by omega)) (fun t ht => by
        have := ((mem_tis.mp ((found_perm hR1 (by omega) (by omega) hD).mem_iff.mp ht)).1).lt
        omega)
    refine k_ret (ev_blt (p := .list ((found R C D).map tiD)) (S1 := S) ?_ hsort)
    show Ev.R.ok (U.d (.list ((List.foldl f _ _).1.map tiD))) S = _
    rw [hf]
    rfl
/-- the program's drawing of ties -/
theorem sgn_mem {R C : Nat} {ts : List Ti} (h : ∀ t, t ∈ ts → IsTi R C t) (k n : Nat) : decide ((k, n) ∈ ts.map (sgnAt R)) = decide (tieAt R k n ∈ ts) := by
  rw [Bool.eq_iff_iff, decide_eq_true_eq, decide_eq_true_eq, List.mem_map]
  constructor
  · rintro ⟨t, ht, e⟩
    have := tieAt_sgn (h t ht)
    rw [e] at this
    dsimp only at this
    rw [this]
    exact ht
  · exact fun ht => ⟨_, ht, sgn_tieAt⟩
theorem flat_one {α : Type} (l : List α) : (l.map fun a => [a]).flatten = l := by
  induction l with
  | nil => rfl
  | cons a l ih => rw [List.map_cons, List.flatten_cons, ih]; rfl
theorem pdrawnX (n : Nat) (S : Store) {R C : Nat} (hR1 : 1 ≤ R) (hR : R ≤ 100) (hC : C ≤ 100) {ts : List Ti} (ht : ∀ t, t ∈ ts → IsTi R C t) (hl : ts.length ≤ 100000) {p : PyData} (hp : p = .list (ts.map tiD) ∨ p = .tuple (ts.map tiD)) :
    callN tb (n + 2) i_Pdrawn [.d (strip R C), .d p] S = .ok (.d (.tuple ((drw R C fun t => decide (t ∈ ts)).map sD))) S := by
  refine call_v0 at_Pdrawn rfl rfl ?_
  show evSs (cnN tb (n + 1)) ir_Pdrawn [some (.d (strip R C)), some (.d p), none, none, none, none, none, none] S = _
  unfold ir_Pdrawn
  have hit : evIt (cnN tb (n + 1)) (.val (.loc 1)) [some (.d (strip R C)), some (.d p), none, none, none, none, none, none] S = .ok (.fix (ts.map fun t => U.d (tiD t))) S := by
    rcases hp with rfl | rfl
    · rw [it_list (xs := ts.map tiD) (S1 := S) rfl, List.map_map]; rfl
    · rw [it_tup (xs := ts.map tiD) (S1 := S) rfl, List.map_map]; rfl
  have hsig : evX (cnN tb (n + 1)) (.lc [6] (.nm 6) (.val (.loc 1)) .nil e_Pdrawn) [some (.d (strip R C)), some (.d p), none, none, none, none, none, none] S = .ok (.d (.list ((ts.map (sgnAt R)).map plD))) S := by
    rw [List.map_map]
    refine lc_all (fun t : Ti => U.d (tiD t)) (plD ∘ sgnAt R) hit (by show _ ≤ 16777216; omega) fun t _ => ⟨_, rfl, ?_⟩
    show evX _ (.call i_Psign_of _) _ _ = _
    rw [ev_call2 (S1 := S) (S2 := S) (u := .d (strip R C)) (v := .d (tiD t)) rfl rfl, call_cn]
    exact psignX n S hR1 t
  refine k_set hsig (k_set (u := .d (.tuple [])) (S1 := S) (by simp [evX, evXs, datas]) ?_)
  dsimp only [List.set]
  generalize hsg : ts.map (sgnAt R) = sg
  let f : List (List Nat) × Option U × Option U × Option U × Option U → Nat → List (List Nat) × Option U × Option U × Option U × Option U := fun s k => (s.1 ++ [colT R k fun t => decide (t ∈ ts)], some (.d (nI k)), some (.d (.list ((List.range (2 * R - 1)).map fun j => sD [bitC (decide (tieAt R k j ∈ ts))]))), s.2.2.2.1, s.2.2.2.2)
  have hf := fold_one f (fun k => colT R k fun t => decide (t ∈ ts)) fun s x => rfl
  refine k_for (fun k : Nat => U.d (nI k)) (fun s : List (List Nat) × Option U × Option U × Option U × Option U => [some (.d (strip R C)), some (.d p), some (.d (.list (sg.map plD))), some (.d (.tuple (s.1.map sD))), s.2.1, s.2.2.1, s.2.2.2.1, s.2.2.2.2]) f (List.range C) ([], none, none, none, none) rfl (it_rngN (m := C) (by simp [evX]) (by omega)) (fun pre k post hp2 => ⟨_, rfl, ?_⟩) ?_
  · have hl2 := pre_len hp2
    rw [List.length_range] at hl2
    have hz : (pre.foldl f ([], none, none, none, none)).1.length ≤ 1000 := by
      rw [hf, List.nil_append, List.length_map]
      omega
    generalize pre.foldl f ([], none, none, none, none) = s at hz ⊢
    obtain ⟨as, u1, u2, u3, u4⟩ := s
    dsimp only at hz
    have hlc : ∀ (v : Option U), evX (cnN tb (n + 1)) (.lc [7] (.nm 7) (.rng (.cons (.bin .Sub (.bin .Mult (.con (.int 2)) (.idx (.loc 0) (.con (.int 0)))) (.con (.int 1))) .nil)) .nil e1_Pdrawn) [some (.d (strip R C)), some (.d p), some (.d (.list (sg.map plD))), some (.d (.tuple (as.map sD))), some (.d (nI k)), v, u3, u4] S =
        .ok (.d (.list ((List.range (2 * R - 1)).map fun j => sD [bitC (decide (tieAt R k j ∈ ts))]))) S := fun v => by
      have m2 : mulOk 2 (R : Int) = true := mul_small (.inl (by decide))
      have e2 : (2 * (R : Int) - 1) = ((2 * R - 1 : Nat) : Int) := by omega
      refine lc_all (fun j : Nat => U.d (nI j)) (fun j => sD [bitC (decide (tieAt R k j ∈ ts))]) (it_rngN (m := 2 * R - 1) (by simp [evX, binU, mul_ii m2, e2]) (by omega)) (by rw [List.length_range]; show _ ≤ 16777216; omega) fun j hj => ⟨_, rfl, ?_⟩
      have hin := in_plD (k, j) sg
      rw [← hsg, sgn_mem ht, hsg] at hin
      rw [bit_sD]
      have cond : truR (evX (cnN tb (n + 1)) (.cmp .In (.tup (.cons (.loc 4) (.cons (.loc 7) .nil))) (.loc 2)) [some (.d (strip R C)), some (.d p), some (.d (.list (sg.map plD))), some (.d (.tuple (as.map sD))), some (.d (nI k)), v, u3, some (.d (nI j))] S) = .ok (decide (tieAt R k j ∈ ts)) S :=
        tru_bool (ev_cmp (o := .In) (S1 := S) (p := plD (k, j)) (q := .list (sg.map plD)) (by simp [evX, evXs, datas, two_line]) rfl hin)
      cases hb : decide (tieAt R k j ∈ ts) with
      | true => rw [hb] at cond; exact ev_ifT cond rfl
      | false => rw [hb] at cond; exact ev_ifF cond rfl
    refine k_set (hlc _) (k_set (u := .d (.tuple ((as ++ [colT R k fun t => decide (t ∈ ts)]).map sD))) (S1 := S) ?_ rfl)
    rw [List.map_append]
    refine ev_bin (S1 := S) (q := .tuple [sD (colT R k fun t => decide (t ∈ ts))]) rfl ?_ (add_tt (by rw [List.length_map]; show as.length + 1 ≤ 16777216; omega))
    have hj := join_okL0 (ls := (List.range (2 * R - 1)).map fun j => [bitC (decide (tieAt R k j ∈ ts))]) (by
      have : ((List.range (2 * R - 1)).map fun j => [bitC (decide (tieAt R k j ∈ ts))]) = ((List.range (2 * R - 1)).map fun j => bitC (decide (tieAt R k j ∈ ts))).map fun a => [a] := by rw [List.map_map]; rfl
      rw [this, flat_one, List.length_map, List.length_range]
      show _ ≤ 16777216
      omega)
    have hfl : ((List.range (2 * R - 1)).map fun j => [bitC (decide (tieAt R k j ∈ ts))]).flatten = colT R k fun t => decide (t ∈ ts) := by
      have : ((List.range (2 * R - 1)).map fun j => [bitC (decide (tieAt R k j ∈ ts))]) = ((List.range (2 * R - 1)).map fun j => bitC (decide (tieAt R k j ∈ ts))).map fun a => [a] := by rw [List.map_map]; rfl
      rw [this, flat_one]
      rfl
    rw [List.map_map, hfl] at hj
    have hj2 : mthD .join (.str "") [.list ((List.range (2 * R - 1)).map fun j => sD [bitC (decide (tieAt R k j ∈ ts))])] = some (sD (colT R k fun t => decide (t ∈ ts))) := by
      rw [nil_sD]
      exact hj
    generalize ((List.range (2 * R - 1)).map fun j => sD [bitC (decide (tieAt R k j ∈ ts))]) = js at hj2 ⊢
    simp [evX, evXs, derefs, hj2, datas, one_line]
  · refine (k_ret (S1 := S) rfl).trans ?_
    rw [hf]
    rfl
end K01
end

section
set_option Elab.async false
set_option linter.all false
set_option maxRecDepth 100000
set_option maxHeartbeats 1000000
namespace K01
open PySem Ev
/-! ### ties of any value -/
def plO : PyData → Option Pl
  | .tuple [.int a, .int b] => if 0 ≤ a ∧ 0 ≤ b then some (a.toNat, b.toNat) else none
  | _ => none
def tiO : PyData → Option Ti
  | .tuple [a, b] => (plO a).bind fun p => (plO b).map fun q => (p, q)
  | _ => none
instance (R C : Nat) (t : Ti) : Decidable (IsTi R C t) := by unfold IsTi; infer_instance
def tieB (R C : Nat) (v : PyData) : Bool :=
  match tiO v with
  | some t => decide (IsTi R C t)
  | none => false
def tiesB (R C : Nat) : PyData → Bool
  | .tuple xs => xs.all (tieB R C) && decide (xs.filterMap tiO).Nodup
  | _ => false
theorem plO_some {v : PyData} {p : Pl} (h : plO v = some p) : v = plD p := by
  unfold plO at h
  split at h
  · split at h
    · rename_i a b hc
      cases h
      show PyData.tuple [.int a, .int b] = .tuple [.int ((a.toNat : Nat) : Int), .int ((b.toNat : Nat) : Int)]
      rw [Int.toNat_of_nonneg hc.1, Int.toNat_of_nonneg hc.2]
    · cases h
  · cases h
theorem plO_plD (p : Pl) : plO (plD p) = some p := by
  show (if (0 : Int) ≤ (p.1 : Int) ∧ (0 : Int) ≤ (p.2 : Int) then some (Int.toNat (p.1 : Int), Int.toNat (p.2 : Int)) else none) = _
  rw [if_pos ⟨by omega, by omega⟩]
  rfl
theorem tiO_tiD (t : Ti) : tiO (tiD t) = some t := by
  show ((plO (plD t.1)).bind fun p => (plO (plD t.2)).map fun q => (p, q)) = _
  rw [plO_plD, plO_plD]
  rfl
theorem tiO_some {v : PyData} {t : Ti} (h : tiO v = some t) : v = tiD t := by
  unfold tiO at h
  split at h
  · rename_i a b
    obtain ⟨p, h1, h2⟩ := bindO h
    obtain ⟨q, h3, rfl⟩ := map_some h2
    rw [plO_some h1, plO_some h3]
  · cases h
theorem tieB_some {R C : Nat} {v : PyData} (h : tieB R C v = true) : ∃ t, v = tiD t ∧ IsTi R C t := by
  unfold tieB at h
  split at h
  · rename_i t e
    exact ⟨t, tiO_some e, of_decide_eq_true h⟩
  · cases h
theorem tieB_tiD (R C : Nat) (t : Ti) : tieB R C (tiD t) = decide (IsTi R C t) := by
  unfold tieB
  rw [tiO_tiD]
theorem placeB_plO (R C : Nat) (v : PyData) : placeB R C v = match plO v with
    | some p => decide (p.1 < C ∧ p.2 < R)
    | none => false := by
  cases v with
  | tuple xs =>
    match xs with
    | [] => rfl
    | [a] => cases a <;> rfl
    | [a, b] =>
      cases a with
      | int i =>
        cases b with
        | int j =>
          show (decide ((0 : Int) ≤ i ∧ i ≤ (C : Int) - 1) && decide ((0 : Int) ≤ j ∧ j ≤ (R : Int) - 1)) = match (if 0 ≤ i ∧ 0 ≤ j then some (i.toNat, j.toNat) else none) with
            | some p => decide (p.1 < C ∧ p.2 < R)
            | none => false
          split
          · rename_i p e
            split at e
            · cases e
              rw [Bool.eq_iff_iff]
              simp only [Bool.and_eq_true, decide_eq_true_eq]
              omega
            · cases e
          · rename_i e
            split at e
            · cases e
            · rw [Bool.and_eq_false_iff]
              simp only [decide_eq_false_iff_not]
              omega
        | _ => show (_ && false) = _; rw [Bool.and_false]; rfl
      | _ => rfl
    | a :: b :: _ :: _ => cases a <;> cases b <;> rfl
  | _ => rfl
theorem all_bs (bs : List Bool) : bltD .all (.list (bs.map .bool)) = some (.bool (bs.all id)) := all_bools bs
theorem fitsTieX (n : Nat) (S : Store) {R C : Nat} (v : PyData) : callN tb (n + 3) i_Pfits_tie [.d (strip R C), .d v] S = .ok (.d (.bool (tieB R C v))) S := by
  refine call_v0 at_Pfits_tie rfl rfl ?_
  show evSs (cnN tb (n + 2)) ir_Pfits_tie [some (.d (strip R C)), some (.d v), none, none, none, none, none] S = _
  unfold ir_Pfits_tie
  cases v with
  | tuple xs =>
    have h1 : bltD (.isi "tuple") (.tuple xs) = some (.bool true) := rfl
    by_cases hl : xs.length = 2
    · match xs, hl with
      | [a, b], _ =>
        have hall : evX (cnN tb (n + 2)) (.blt .all (.lc [6] (.nm 6) (.val (.loc 1)) .nil e_Pfits_tie)) [some (.d (strip R C)), some (.d (.tuple [a, b])), none, none, none, none, none] S = .ok (.d (.bool (placeB R C a && placeB R C b))) S := by
          refine ev_blt (p := .list ([a, b].map fun x => .bool (placeB R C x))) (S1 := S) (lc_all (xs := [a, b]) (fun x : PyData => U.d x) (fun x => .bool (placeB R C x)) (it_tup rfl) (by show (2 : Nat) ≤ 16777216; omega) fun x _ => ⟨_, rfl, ?_⟩) ?_
          · show evX _ (.call i_Pfits_place _) _ _ = _
            rw [ev_call2 (S1 := S) (S2 := S) (u := .d (strip R C)) (v := .d x) rfl rfl, call_cn]
            exact fitsP_ok n S R C x
          · have := all_bools ([a, b].map (placeB R C))
            rw [List.map_map] at this
            rw [show ([a, b].map fun x => PyData.bool (placeB R C x)) = [a, b].map (PyData.bool ∘ placeB R C) from rfl, this]
            simp
        have hA : evX (cnN tb (n + 2)) (.not (.blt (.isi "tuple") (.loc 1))) [some (.d (strip R C)), some (.d (.tuple [a, b])), none, none, none, none, none] S = .ok (.d (.bool false)) S := by simp [evX, truR, h1]
        have hB : evX (cnN tb (n + 2)) (.cmp .NotEq (.blt .len (.loc 1)) (.con (.int 2))) [some (.d (strip R C)), some (.d (.tuple [a, b])), none, none, none, none, none] S = .ok (.d (.bool false)) S := by
          have h2 : bltD .len (.tuple [a, b]) = some (.int 2) := rfl
          simp [evX, h2, cmpU]
        by_cases hp : (placeB R C a && placeB R C b) = true
        · have hp' := hp
          rw [Bool.and_eq_true] at hp
          have pa := hp.1
          have pb := hp.2
          rw [placeB_plO] at pa pb
          split at pa
          · rename_i p ep
            split at pb
            · rename_i q eq
              have ha := plO_some ep
              have hb := plO_some eq
              subst ha hb
              have hP := of_decide_eq_true pa
              have hQ := of_decide_eq_true pb
              rw [hp'] at hall
              refine k_ifF (S1 := S) (tru_bool (ev_orF hA (ev_orF hB (ev_not (tru_bool hall))))) ?_
              refine k_sett (u := .d (.tuple [plD p, plD q])) (S1 := S) rfl rfl ?_
              refine k_ret (ev_cmp (o := .In) (S1 := S) (p := .tuple [.int ((q.1 : Int) - p.1), .int ((q.2 : Int) - p.2)]) (q := .tuple [.tuple [.int 1, .int 0], .tuple [.int 0, .int 1]]) (by simp [evX, evXs, binU, datas, two_line]) (by simp [evX, evXs, datas, two_line]) ?_)
              rw [show ∀ x y : PyData, cmpD .In x y = inD x y from fun _ _ => rfl]
              have s1 : SeqAt.shaped (.tuple [.int ((q.1 : Int) - p.1), .int ((q.2 : Int) - p.2)]) = true := shaped_of (d := 1) ⟨rfl, Nat.le_refl 1⟩ (by decide)
              have s2 : SeqAt.shaped (.tuple [.tuple [.int 1, .int 0], .tuple [.int 0, .int 1]]) = true := shaped_of (d := 2) ⟨rfl, by decide⟩ (by decide)
              rw [in_tup s1 s2]
              have e1 : PyData.eqv (.tuple [.int 1, .int 0]) (.tuple [.int ((q.1 : Int) - p.1), .int ((q.2 : Int) - p.2)]) = (((1 : Int) == (q.1 : Int) - p.1) && (((0 : Int) == (q.2 : Int) - p.2) && true)) := rfl
              have e2 : PyData.eqv (.tuple [.int 0, .int 1]) (.tuple [.int ((q.1 : Int) - p.1), .int ((q.2 : Int) - p.2)]) = (((0 : Int) == (q.1 : Int) - p.1) && (((1 : Int) == (q.2 : Int) - p.2) && true)) := rfl
              rw [List.any_cons, List.any_cons, List.any_nil, e1, e2]
              have e3 := tieB_tiD R C (p, q)
              rw [show (PyData.tuple [plD p, plD q]) = tiD (p, q) from rfl, e3]
              congr 1
              rw [Bool.eq_iff_iff]
              simp only [Bool.or_eq_true, Bool.and_eq_true, beq_iff_eq, decide_eq_true_eq, Bool.or_false, Bool.and_true, Bool.false_eq_true, or_false]
              unfold IsTi
              simp only [Prod.ext_iff]
              omega
            · cases pb
          · cases pa
        · rw [Bool.not_eq_true] at hp
          rw [hp] at hall
          have hT : tieB R C (.tuple [a, b]) = false := by
            cases ht : tieB R C (.tuple [a, b]) with
            | false => rfl
            | true =>
              obtain ⟨t, e, hI⟩ := tieB_some ht
              cases e
              have := hI.lt
              rw [placeB_plO, placeB_plO, plO_plD, plO_plD] at hp
              dsimp only at hp
              rw [decide_eq_true this.1, decide_eq_true this.2] at hp
              cases hp
          rw [hT]
          exact k_ifR (S1 := S) (tru_bool (ev_orF hA (ev_orF hB (ev_not (tru_bool hall))))) (k_ret rfl)
    · have h2 : bltD .len (.tuple xs) = some (.int (xs.length : Nat)) := rfl
      have hl' : ¬ ((xs.length : Nat) : Int) = 2 := by omega
      have hT : tieB R C (.tuple xs) = false := by
        unfold tieB tiO
        split
        · rename_i t e
          split at e
          · rename_i e2
            cases e2
            exact absurd rfl hl
          · cases e
        · rfl
      rw [hT]
      exact k_ifR (S1 := S) (by simp [evX, truR, boolR, asB, h1, h2, cmpU, hl']) (k_ret rfl)
  | _ => exact k_ifR (S1 := S) (by simp [evX, truR, boolR, asB, bltD, isiD, tyN]) (k_ret rfl)
/-! ### tuples of ties -/
theorem fm_tiD (ts : List Ti) : (ts.map tiD).filterMap tiO = ts := by
  induction ts with
  | nil => rfl
  | cons t ts ih => rw [List.map_cons, List.filterMap_cons_some (tiO_tiD t), ih]
theorem all_ties {R C : Nat} {xs : List PyData} (h : xs.all (tieB R C) = true) : ∃ ts : List Ti, xs = ts.map tiD ∧ ∀ t, t ∈ ts → IsTi R C t := by
  induction xs with
  | nil => exact ⟨[], rfl, fun t ht => by cases ht⟩
  | cons x xs ih =>
    rw [List.all_cons, Bool.and_eq_true] at h
    obtain ⟨t, rfl, ht⟩ := tieB_some h.1
    obtain ⟨ts, rfl, hts⟩ := ih h.2
    exact ⟨t :: ts, rfl, fun u hu => (List.mem_cons.mp hu).elim (fun e => e ▸ ht) (hts u)⟩
theorem dist_le : ∀ (xs seen : List PyData), (distD seen xs).length ≤ xs.length
  | [], _ => Nat.le_refl 0
  | x :: xs, seen => by
    unfold distD
    split
    · exact Nat.le_trans (dist_le xs seen) (Nat.le_succ _)
    · exact Nat.succ_le_succ (dist_le xs _)
theorem dist_nodup : ∀ (ts seen : List Ti), (distD (seen.map tiD) (ts.map tiD)).length = ts.length ↔ ts.Nodup ∧ ∀ t, t ∈ ts → t ∉ seen
  | [], seen => ⟨fun _ => ⟨List.nodup_nil, fun t ht => by cases ht⟩, fun _ => rfl⟩
  | t :: ts, seen => by
    have e : ((seen.map tiD).any fun y => PyData.eqv y (tiD t)) = decide (t ∈ seen) := by
      rw [any_map tiD _ _ (fun a => eqv_tiD a t), any_mem]
      exact decide_eq_decide.mpr Iff.rfl
    rw [List.map_cons]
    unfold distD
    rw [e]
    by_cases h : t ∈ seen
    · rw [if_pos (decide_eq_true h)]
      have := dist_le (ts.map tiD) (seen.map tiD)
      rw [List.length_map] at this
      refine ⟨fun z => ?_, fun z => absurd h (z.2 t List.mem_cons_self)⟩
      rw [List.length_cons] at z
      omega
    · rw [if_neg (by rw [decide_eq_false h]; decide)]
      have ih := dist_nodup ts (t :: seen)
      rw [List.map_cons] at ih
      rw [List.length_cons, List.length_cons, Nat.add_right_cancel_iff, ih, List.nodup_cons]
      constructor
      · rintro ⟨h1, h2⟩
        refine ⟨⟨fun z => h2 t z List.mem_cons_self, h1⟩, fun u hu z => ?_⟩
        rcases List.mem_cons.mp hu with rfl | hu
        · exact h z
        · exact h2 u hu (List.mem_cons_of_mem _ z)
      · rintro ⟨⟨h1, h2⟩, h3⟩
        refine ⟨h2, fun u hu z => ?_⟩
        rcases List.mem_cons.mp z with rfl | z
        · exact h1 hu
        · exact h3 u (List.mem_cons_of_mem _ hu) z
theorem lenset_tis {ts : List Ti} (hl : ts.length < 64) : ∃ m : Nat, bltD .lenset (.tuple (ts.map tiD)) = some (.int (m : Nat)) ∧ (m = ts.length ↔ ts.Nodup) := by
  refine ⟨(distD [] (ts.map tiD)).length, ?_, ?_⟩
  · have ht : (ts.map tiD).all tupKey = true := by
      rw [List.all_eq_true]
      intro x hx
      obtain ⟨t, _, rfl⟩ := List.mem_map.mp hx
      rfl
    show (if (decide ((ts.map tiD).length < 64) && (ts.map tiD).all tupKey) = true then some (PyData.int ((distD [] (ts.map tiD)).length : Nat)) else none) = _
    rw [if_pos (by rw [ht, List.length_map, decide_eq_true hl]; rfl)]
  · have := dist_nodup ts []
    rw [List.map_nil] at this
    rw [this]
    exact ⟨fun h => h.1, fun h => ⟨h, fun t _ z => by cases z⟩⟩
theorem tiesB_map (R C : Nat) {ts : List Ti} (h : ∀ t, t ∈ ts → IsTi R C t) : tiesB R C (.tuple (ts.map tiD)) = decide ts.Nodup := by
  have h1 : (ts.map tiD).all (tieB R C) = true := by
    rw [List.all_eq_true]
    intro x hx
    obtain ⟨t, ht, rfl⟩ := List.mem_map.mp hx
    rw [tieB_tiD]
    exact decide_eq_true (h t ht)
  show ((ts.map tiD).all (tieB R C) && decide ((ts.map tiD).filterMap tiO).Nodup) = _
  rw [h1, fm_tiD, Bool.true_and]
theorem drawing_ofX (n : Nat) (S : Store) {R C : Nat} (hR1 : 1 ≤ R) (hR : R ≤ 3) (hC1 : 1 ≤ C) (hC : C ≤ 60) {v : PyData} (hv : ∀ xs, v = .tuple xs → xs.length < 64) :
    (tiesB R C v = false ∧ callN tb (n + 4) i_Pdrawing_of [.d (strip R C), .d v] S = .exc x_InvalidTies S) ∨
      ∃ ts : List Ti, tiesB R C v = true ∧ v = .tuple (ts.map tiD) ∧ (∀ t, t ∈ ts → IsTi R C t) ∧ callN tb (n + 4) i_Pdrawing_of [.d (strip R C), .d v] S = .ok (.d (.tuple ((drw R C fun t => decide (t ∈ ts)).map sD))) S := by
  have hneed : evX (cnN tb (n + 3)) (.call i_Pneed_strip (.cons (.loc 0) .nil)) [some (.d (strip R C)), some (.d v), none] S = .ok (.d .none) S := by
    rw [ev_call1 (S1 := S) (u := .d (strip R C)) rfl, call_cn, needS_ok n S (strip R C), strip_fit (by omega) (by omega) (by omega) (by omega)]
    rfl
  cases v with
  | tuple xs =>
    have hA : evX (cnN tb (n + 3)) (.not (.blt (.isi "tuple") (.loc 1))) [some (.d (strip R C)), some (.d (.tuple xs)), none] S = .ok (.d (.bool false)) S := by simp [evX, truR, bltD, isiD, tyN]
    have hl := hv xs rfl
    have hall : evX (cnN tb (n + 3)) (.blt .all (.lc [2] (.nm 2) (.val (.loc 1)) .nil e_Pdrawing_of)) [some (.d (strip R C)), some (.d (.tuple xs)), none] S = .ok (.d (.bool (xs.all (tieB R C)))) S := by
      refine ev_blt (p := .list (xs.map fun x => .bool (tieB R C x))) (S1 := S) (lc_all (xs := xs) (fun x : PyData => U.d x) (fun x => .bool (tieB R C x)) (it_tup rfl) (by show _ ≤ 16777216; omega) fun x _ => ⟨_, rfl, ?_⟩) (all_map (tieB R C) xs)
      show evX _ (.call i_Pfits_tie _) _ _ = _
      rw [ev_call2 (S1 := S) (S2 := S) (u := .d (strip R C)) (v := .d x) rfl rfl, call_cn]
      exact fitsTieX n S x
    cases ha : xs.all (tieB R C) with
    | false =>
      rw [ha] at hall
      refine .inl ⟨by show (xs.all (tieB R C) && _) = false; rw [ha]; rfl, call_x at_Pdrawing_of rfl (S1 := S) ?_ List.take_length⟩
      show evSs (cnN tb (n + 3)) ir_Pdrawing_of [some (.d (strip R C)), some (.d (.tuple xs)), none] S = _
      unfold ir_Pdrawing_of
      refine k_exp hneed (k_ifX (S1 := S) (tru_bool (ev_orF hA (ev_orT (ev_not (tru_bool hall))))) ?_)
      rfl
    | true =>
      rw [ha] at hall
      obtain ⟨ts, rfl, hts⟩ := all_ties ha
      rw [List.length_map] at hl
      obtain ⟨m, hm, hnd⟩ := lenset_tis hl
      rw [tiesB_map R C hts]
      have hC' : evX (cnN tb (n + 3)) (.cmp .NotEq (.blt .lenset (.loc 1)) (.blt .len (.loc 1))) [some (.d (strip R C)), some (.d (.tuple (ts.map tiD))), none] S = .ok (.d (.bool (!decide ts.Nodup))) S := by
        refine ev_cmp (S1 := S) (p := .int (m : Nat)) (q := .int (ts.length : Nat)) (ev_blt (p := .tuple (ts.map tiD)) rfl hm) (ev_blt (p := .tuple (ts.map tiD)) rfl (by show some (PyData.int ((ts.map tiD).length : Nat)) = _; rw [List.length_map])) ?_
        rw [ne_ii]
        congr 2
        rw [Bool.eq_iff_iff, decide_eq_true_eq, decide_eq_true_eq, ← hnd]
        omega
      by_cases hn : ts.Nodup
      · refine .inr ⟨ts, decide_eq_true hn, rfl, hts, call_v0 at_Pdrawing_of rfl rfl ?_⟩
        rw [decide_eq_true hn] at hC'
        show evSs (cnN tb (n + 3)) ir_Pdrawing_of [some (.d (strip R C)), some (.d (.tuple (ts.map tiD))), none] S = _
        unfold ir_Pdrawing_of
        refine k_exp hneed (k_ifF (S1 := S) (tru_bool (ev_orF hA (ev_orF (ev_not (tru_bool hall)) hC'))) (k_ret ?_))
        rw [ev_call2 (S1 := S) (S2 := S) (u := .d (strip R C)) (v := .d (.tuple (ts.map tiD))) rfl rfl, call_cn]
        exact pdrawnX (n + 1) S hR1 (by omega) (by omega) hts (by omega) (.inr rfl)
      · refine .inl ⟨decide_eq_false hn, call_x at_Pdrawing_of rfl (S1 := S) ?_ List.take_length⟩
        rw [decide_eq_false hn] at hC'
        show evSs (cnN tb (n + 3)) ir_Pdrawing_of [some (.d (strip R C)), some (.d (.tuple (ts.map tiD))), none] S = _
        unfold ir_Pdrawing_of
        refine k_exp hneed (k_ifX (S1 := S) (tru_bool (ev_orF hA (ev_orF (ev_not (tru_bool hall)) hC'))) ?_)
        rfl
  | _ =>
    refine .inl ⟨rfl, call_x at_Pdrawing_of rfl (S1 := S) ?_ List.take_length⟩
    show evSs (cnN tb (n + 3)) ir_Pdrawing_of [some (.d (strip R C)), some (.d _), none] S = _
    unfold ir_Pdrawing_of
    refine k_exp hneed (k_ifX (S1 := S) (tru_bool (ev_orT (ev_not (k := false) (by simp [evX, truR, bltD, isiD, tyN])))) ?_)
    rfl
end K01
end

section
set_option Elab.async false
set_option linter.all false
set_option maxRecDepth 100000
set_option maxHeartbeats 1000000
namespace K01
open PySem Ev
/-! ### the law's own test of ties -/
theorem num_inv {m : Nat} {a : PyData} (h : PyData.eqv (nI m) a = true) : a = nI m ∨ ∃ b, a = .bool b := by
  cases a with
  | int j =>
    have : ((m : Int) == j) = true := h
    exact .inl (by rw [beq_iff_eq] at this; rw [← this])
  | bool b => exact .inr ⟨b, rfl⟩
  | _ => cases h
theorem pl_inv {p : Pl} {a : PyData} (h : PyData.eqv (plD p) a = true) : ∃ x y, a = .tuple [x, y] ∧ PyData.eqv (nI p.1) x = true ∧ PyData.eqv (nI p.2) y = true := by
  cases a with
  | tuple xs =>
    match xs with
    | [] => cases h
    | [x] =>
      have : (PyData.eqv (nI p.1) x && false) = true := h
      rw [Bool.and_false] at this
      cases this
    | [x, y] =>
      have : (PyData.eqv (nI p.1) x && (PyData.eqv (nI p.2) y && true)) = true := h
      rw [Bool.and_true, Bool.and_eq_true] at this
      exact ⟨x, y, rfl, this⟩
    | x :: y :: z :: r =>
      have : (PyData.eqv (nI p.1) x && (PyData.eqv (nI p.2) y && false)) = true := h
      rw [Bool.and_false, Bool.and_false] at this
      cases this
  | _ => cases h
theorem ti_inv {t : Ti} {v : PyData} (h : PyData.eqv (tiD t) v = true) : ∃ a b, v = .tuple [a, b] ∧ PyData.eqv (plD t.1) a = true ∧ PyData.eqv (plD t.2) b = true := by
  cases v with
  | tuple xs =>
    match xs with
    | [] => cases h
    | [x] =>
      have : (PyData.eqv (plD t.1) x && false) = true := h
      rw [Bool.and_false] at this
      cases this
    | [x, y] =>
      have : (PyData.eqv (plD t.1) x && (PyData.eqv (plD t.2) y && true)) = true := h
      rw [Bool.and_true, Bool.and_eq_true] at this
      exact ⟨x, y, rfl, this⟩
    | x :: y :: z :: r =>
      have : (PyData.eqv (plD t.1) x && (PyData.eqv (plD t.2) y && false)) = true := h
      rw [Bool.and_false, Bool.and_false] at this
      cases this
  | _ => cases h
def isB : PyData → Bool
  | .bool _ => true
  | _ => false
/-- a pair that holds a truth value -/
def hasBool : PyData → Bool
  | .tuple [x, y] => isB x || isB y
  | _ => false
theorem isi_bool (x : PyData) : bltD (.isi "bool") x = some (.bool (isB x)) := by cases x <;> rfl
theorem any_tie {R C : Nat} {x : PyData} : ((ti R C).map tiD).any (fun z => PyData.eqv z x) = true ↔ ∃ t, IsTi R C t ∧ PyData.eqv (tiD t) x = true := by
  rw [List.any_map, List.any_eq_true]
  exact ⟨fun ⟨t, h1, h2⟩ => ⟨t, mem_ti.mp h1, h2⟩, fun ⟨t, h1, h2⟩ => ⟨t, mem_ti.mpr h1, h2⟩⟩
theorem eqv_self {p : Pl} : PyData.eqv (plD p) (plD p) = true := by rw [eqv_plD]; exact decide_eq_true rfl
theorem count_lt {xs : List PyData} {p : PyData → Bool} : xs.countP p ≤ xs.length := List.countP_le_length
theorem ties_counts {ts : List Ti} : (ts.map tiD).all (fun x => decide (((ts.map tiD).countP fun z => PyData.eqv z x) = 1)) = decide ts.Nodup := by
  rw [Bool.eq_iff_iff, List.all_eq_true, decide_eq_true_eq]
  have hc : ∀ t, ((ts.map tiD).countP fun z => PyData.eqv z (tiD t)) = ts.count t := fun t => by
    rw [List.countP_map, List.count]
    refine List.countP_congr fun u _ => ?_
    dsimp only [Function.comp]
    rw [eqv_tiD, decide_eq_true_eq, beq_iff_eq]
  constructor
  · intro h
    rw [List.nodup_iff_count]
    intro a
    by_cases ha : a ∈ ts
    · have := h (tiD a) (List.mem_map_of_mem ha)
      rw [hc, decide_eq_true_eq] at this
      omega
    · rw [List.count_eq_zero_of_not_mem ha]
      omega
  · intro h x hx
    obtain ⟨t, ht, rfl⟩ := List.mem_map.mp hx
    rw [hc, decide_eq_true_eq, h.count, if_pos ht]
theorem are_tiesX (n : Nat) (S : Store) {R C : Nat} (hR1 : 1 ≤ R) (hR : R ≤ 100) (hC : C ≤ 100) {v : PyData} (hv : SeqAt.shaped v = true) (hx : ∀ xs, v = .tuple xs → xs.length < 10000 ∧ ∀ x, x ∈ xs → SeqAt.shaped x = true ∧ ∀ ys, x = .tuple ys → ys.length < 10000) :
    callN tb (n + 3) i_Lare_ties [.d (strip R C), .d v] S = .ok (.d (.bool (tiesB R C v))) S := by
  refine call_v0 at_Lare_ties rfl rfl ?_
  show evSs (cnN tb (n + 2)) ir_Lare_ties [some (.d (strip R C)), some (.d v), none, none] S = _
  unfold ir_Lare_ties
  cases v with
  | tuple xs =>
    obtain ⟨hl, hxs⟩ := hx xs rfl
    refine k_ifF (S1 := S) (by simp [evX, truR, bltD, isiD, tyN]) ?_
    -- one tie
    have turn := loop_all (t := .nm 2) (body := fun ρ S => evSs (cnN tb (n + 2)) b_Lare_ties ρ S) (S := S) (fun x => tieB R C x && decide ((xs.countP fun z => PyData.eqv z x) = 1)) U.d (.d (.bool false)) (fun ρ => ∃ y z : Option U, ρ = [some (.d (strip R C)), some (.d (.tuple xs)), y, z]) xs [some (.d (strip R C)), some (.d (.tuple xs)), none, none] ⟨none, none, rfl⟩ (fun x hmem ρ ⟨y, z, e⟩ => by
      subst e
      obtain ⟨sx, hys⟩ := hxs x hmem
      refine ⟨[some (.d (strip R C)), some (.d (.tuple xs)), some (.d x), z], rfl, ?_⟩
      have j1 : evX (cnN tb (n + 2)) (.not (.blt (.isi "tuple") (.loc 2))) [some (.d (strip R C)), some (.d (.tuple xs)), some (.d x), z] S = .ok (.d (.bool (!isiD "tuple" x))) S := by
        have : bltD (.isi "tuple") x = some (.bool (isiD "tuple" x)) := rfl
        simp [evX, truR, this]
      have j3 : evX (cnN tb (n + 2)) (.cmp .NotIn (.loc 2) (.call i_Lties (.cons (.loc 0) .nil))) [some (.d (strip R C)), some (.d (.tuple xs)), some (.d x), z] S = .ok (.d (.bool (!((ti R C).map tiD).any fun z => PyData.eqv z x))) S := by
        refine ev_cmp (S1 := S) (p := x) (q := .list ((ti R C).map tiD)) rfl ?_ ?_
        · rw [ev_call1 (S1 := S) (u := .d (strip R C)) rfl, call_cn]
          exact tiesX n S hR hC
        · show (inD x (.list ((ti R C).map tiD))).map (!·) = _
          rw [in_list sx (shaped_tis _).1, Option.map_some]
      have j4 : evX (cnN tb (n + 2)) (.cmp .NotEq (.mth .count (.loc 1) (.cons (.loc 2) .nil)) (.con (.int 1))) [some (.d (strip R C)), some (.d (.tuple xs)), some (.d x), z] S = .ok (.d (.bool (!decide ((xs.countP fun z => PyData.eqv z x) = 1)))) S := by
        have hc : mthD .count (.tuple xs) [x] = some (.int ((xs.countP fun z => PyData.eqv z x : Nat) : Int)) := if_pos (by rw [sx, hv]; rfl)
        have hs : seqM .count (.tuple xs) = true := rfl
        refine ev_cmp (S1 := S) (p := .int ((xs.countP fun z => PyData.eqv z x : Nat) : Int)) (q := .int 1) ?_ rfl ?_
        · generalize (xs.countP fun z => PyData.eqv z x) = m at hc
          simp [evX, evXs, hs, derefs, hc]
        · rw [ne_ii]
          have : ∀ m : Nat, decide (((m : Nat) : Int) = 1) = decide (m = 1) := fun m => by
            rw [Bool.eq_iff_iff, decide_eq_true_eq, decide_eq_true_eq]
            omega
          rw [this]
      -- the second test
      have j5 : ∀ a b, x = .tuple [a, b] → (∃ a1 a2, a = .tuple [a1, a2]) → (∃ b1 b2, b = .tuple [b1, b2]) → truR (evX (cnN tb (n + 2)) (.cmp .NotEq (.lc [3] (.nm 3) (.val (.loc 2)) t_Lare_ties e_Lare_ties) (.lst .nil)) [some (.d (strip R C)), some (.d (.tuple xs)), some (.d x), z] S) = .ok (hasBool a || hasBool b) S := fun a b ex ⟨a1, a2, ea⟩ ⟨b1, b2, eb⟩ => by
        subst ex
        have hlc : evX (cnN tb (n + 2)) (.lc [3] (.nm 3) (.val (.loc 2)) t_Lare_ties e_Lare_ties) [some (.d (strip R C)), some (.d (.tuple xs)), some (.d (.tuple [a, b])), z] S = .ok (.d (.list (([a, b].filter hasBool).map fun _ => .int 1))) S := by
          refine lc_map (xs := [a, b]) (fun x : PyData => U.d x) hasBool (fun _ => .int 1) (it_tup rfl) (by show (2 : Nat) ≤ 16777216; omega) fun p hp => ⟨_, rfl, ?_, fun _ => rfl⟩
          have : ∃ p1 p2, p = .tuple [p1, p2] := by
            rcases List.mem_cons.mp hp with rfl | hp
            · exact ⟨_, _, ea⟩
            · rw [List.mem_singleton.mp hp]
              exact ⟨_, _, eb⟩
          obtain ⟨p1, p2, rfl⟩ := this
          show truR (evX _ (.or _ _) _ _) = _
          refine tru_bool (ev_or (S2 := S) (j := isB p1) (k := isB p2) ?_ fun _ => ?_)
          · exact ev_blt (p := p1) (S1 := S) (by simp [evX, wipe]) (isi_bool p1)
          · exact ev_blt (p := p2) (S1 := S) (by simp [evX, wipe]) (isi_bool p2)
        have hne : cmpD .NotEq (.list (([a, b].filter hasBool).map fun _ => .int 1)) (.list []) = some (hasBool a || hasBool b) := by
          cases ha : hasBool a <;> cases hb : hasBool b <;> simp only [List.filter_cons, List.filter_nil, ha, hb, if_true, if_false, Bool.false_eq_true, List.map_cons, List.map_nil] <;> decide +kernel
        exact tru_bool (ev_cmp (S1 := S) hlc (by simp [evX, evXs, datas]) hne)
      cases hT : tieB R C x with
      | true =>
        obtain ⟨t, rfl, ht⟩ := tieB_some hT
        have j2 : evX (cnN tb (n + 2)) (.cmp .NotEq (.blt .len (.loc 2)) (.con (.int 2))) [some (.d (strip R C)), some (.d (.tuple xs)), some (.d (tiD t)), z] S = .ok (.d (.bool false)) S := by
          have h2 : bltD .len (tiD t) = some (.int 2) := rfl
          exact ev_cmp (S1 := S) (p := .int 2) (q := .int 2) (ev_blt rfl h2) rfl (by rw [ne_ii]; rfl)
        have hin : (((ti R C).map tiD).any fun z => PyData.eqv z (tiD t)) = true := any_tie.mpr ⟨t, ht, by rw [eqv_tiD]; exact decide_eq_true rfl⟩
        rw [hin] at j3
        rw [Bool.true_and]
        cases hc : decide ((xs.countP fun z => PyData.eqv z (tiD t)) = 1) with
        | true =>
          rw [hc] at j4
          refine .inl ⟨rfl, [some (.d (strip R C)), some (.d (.tuple xs)), some (.d (tiD t)), z], ?_, _, _, rfl⟩
          exact k_ifF (tru_bool (ev_orF j1 (ev_orF j2 (ev_orF j3 j4)))) (k_ifF (j5 (plD t.1) (plD t.2) rfl ⟨_, _, rfl⟩ ⟨_, _, rfl⟩) rfl)
        | false =>
          rw [hc] at j4
          exact .inr ⟨rfl, k_ifR (tru_bool (ev_orF j1 (ev_orF j2 (ev_orF j3 j4)))) (k_ret rfl)⟩
      | false =>
        refine .inr ⟨by rw [Bool.false_and], ?_⟩
        cases hi : isiD "tuple" x with
        | false =>
          rw [hi] at j1
          exact k_ifR (tru_bool (ev_orT j1)) (k_ret rfl)
        | true =>
          rw [hi] at j1
          cases x with
          | tuple ys =>
            have h2 : bltD .len (.tuple ys) = some (.int (ys.length : Nat)) := rfl
            have j2 : evX (cnN tb (n + 2)) (.cmp .NotEq (.blt .len (.loc 2)) (.con (.int 2))) [some (.d (strip R C)), some (.d (.tuple xs)), some (.d (.tuple ys)), z] S = .ok (.d (.bool (!decide (((ys.length : Nat) : Int) = 2)))) S :=
              ev_cmp (S1 := S) (p := .int (ys.length : Nat)) (q := .int 2) (ev_blt rfl h2) rfl (by rw [ne_ii])
            cases h3 : decide (((ys.length : Nat) : Int) = 2) with
            | false =>
              rw [h3] at j2
              exact k_ifR (tru_bool (ev_orF j1 (ev_orT j2))) (k_ret rfl)
            | true =>
              rw [h3] at j2
              cases h4 : ((ti R C).map tiD).any fun z => PyData.eqv z (.tuple ys) with
              | false =>
                rw [h4] at j3
                exact k_ifR (tru_bool (ev_orF j1 (ev_orF j2 (ev_orT j3)))) (k_ret rfl)
              | true =>
                rw [h4] at j3
                cases hc : decide ((xs.countP fun z => PyData.eqv z (.tuple ys)) = 1) with
                | false =>
                  rw [hc] at j4
                  exact k_ifR (tru_bool (ev_orF j1 (ev_orF j2 (ev_orF j3 j4)))) (k_ret rfl)
                | true =>
                  rw [hc] at j4
                  refine k_ifF (tru_bool (ev_orF j1 (ev_orF j2 (ev_orF j3 j4)))) ?_
                  obtain ⟨t, ht, heq⟩ := any_tie.mp h4
                  obtain ⟨a, b, hab, ha, hb⟩ := ti_inv heq
                  obtain ⟨a1, a2, rfl, ha1, ha2⟩ := pl_inv ha
                  obtain ⟨b1, b2, rfl, hb1, hb2⟩ := pl_inv hb
                  cases hab
                  have h5 := j5 _ _ rfl ⟨_, _, rfl⟩ ⟨_, _, rfl⟩
                  have hbool : (hasBool (.tuple [a1, a2]) || hasBool (.tuple [b1, b2])) = true := by
                    show ((isB a1 || isB a2) || (isB b1 || isB b2)) = true
                    rcases num_inv ha1 with rfl | ⟨k, rfl⟩
                    · rcases num_inv ha2 with rfl | ⟨k, rfl⟩
                      · rcases num_inv hb1 with rfl | ⟨k, rfl⟩
                        · rcases num_inv hb2 with rfl | ⟨k, rfl⟩
                          · have := tieB_tiD R C t
                            rw [decide_eq_true ht] at this
                            rw [show PyData.tuple [.tuple [nI t.1.1, nI t.1.2], .tuple [nI t.2.1, nI t.2.2]] = tiD t from rfl, this] at hT
                            cases hT
                          · show ((false || false) || (false || true)) = true
                            rfl
                        · rfl
                      · rfl
                    · rfl
                  rw [hbool] at h5
                  exact k_ifR h5 (k_ret rfl)
          | _ => cases hi)
    have key : tiesB R C (.tuple xs) = xs.all (fun x => tieB R C x && decide ((xs.countP fun z => PyData.eqv z x) = 1)) := by
      cases ha : xs.all (tieB R C) with
      | false =>
        have : tiesB R C (.tuple xs) = false := by show (xs.all (tieB R C) && _) = false; rw [ha]; rfl
        rw [this]
        symm
        rw [List.all_eq_false] at ha ⊢
        obtain ⟨x, h1, h2⟩ := ha
        exact ⟨x, h1, by rw [Bool.and_eq_true]; exact fun z => h2 z.1⟩
      | true =>
        obtain ⟨ts, rfl, hts⟩ := all_ties ha
        rw [tiesB_map R C hts, ← ties_counts]
        rw [Bool.eq_iff_iff, List.all_eq_true, List.all_eq_true]
        refine ⟨fun h x hxm => ?_, fun h x hxm => ?_⟩
        · rw [List.all_eq_true.mp ha x hxm, Bool.true_and]
          exact h x hxm
        · have := h x hxm
          rw [Bool.and_eq_true] at this
          exact this.2
    rcases turn with ⟨hA, ρ', e1, y, z, rfl⟩ | ⟨hA, e1⟩
    · rw [key, hA, ss_cons (ev_for (it_tup rfl) e1)]
      exact k_ret rfl
    · rw [key, hA]
      exact ev_forR (it_tup rfl) e1
  | _ => exact k_ifR (S1 := S) (by simp [evX, truR, bltD, isiD, tyN]) (k_ret rfl)
end K01
end

section
set_option Elab.async false
set_option linter.all false
set_option maxRecDepth 100000
set_option maxHeartbeats 1000000
namespace K01
open PySem Ev
/-! # The law, turn by turn -/
theorem nm_strip : tb.nm x_InvalidStrip = some "strip value" := rfl
theorem nm_drawing : tb.nm x_InvalidDrawing = some "drawing value" := rfl
theorem nm_ties : tb.nm x_InvalidTies = some "ties value" := rfl
theorem needD (n : Nat) (S : Store) {r c : Int} (hr : 1 ≤ r) (hc : 1 ≤ c) {w d : Nat} (hw : w ≤ 1000) {p : PyData} (hp : OkV w d p) : callN tb (n + 3) i_Pneed_drawing [.d (strip r c), .d p] S = if drawB r c p = true then .ok (.d .none) S else .exc x_InvalidDrawing S := by
  have hf := fitsD_any n S hr hc hw hp
  have hcond : truR (evX (cnN tb (n + 2)) (.not (.call i_Pfits_drawing (.cons (.loc 0) (.cons (.loc 1) .nil)))) [some (.d (strip r c)), some (.d p)] S) = .ok (!drawB r c p) S :=
    tru_bool (ev_not (tru_bool (by rw [ev_call2 (S1 := S) (S2 := S) (u := .d (strip r c)) (v := .d p) rfl rfl, call_cn]; exact hf)))
  cases hd : drawB r c p with
  | true =>
    rw [hd] at hcond
    rw [if_pos rfl]
    exact call_n at_Pneed_drawing rfl (k_ifF hcond rfl) List.take_length
  | false =>
    rw [hd] at hcond
    rw [if_neg (by decide)]
    exact call_x at_Pneed_drawing rfl (k_ifX hcond rfl) List.take_length
theorem lis_strip (n : Nat) (S : Store) (p : PyData) : callN tb (n + 2) i_Lis_strip [.d p] S = .ok (.d (.bool (stripB p))) S := by
  have hw : ∀ (p : PyData) (lo hi : Int), callN tb (n + 1) i_Lwhole [.d p, .d (.int lo), .d (.int hi)] S = .ok (.d (.bool (wholeB lo hi p))) S := fun p lo hi => by
    rw [call_at at_Lwhole rfl]
    cases p with
    | int v =>
      by_cases h : lo ≤ v
      · simp [ir_Lwhole, evSs, evS, evX, Ev.start, bltD, isiD, tyN, boolR, asB, truR, cmpU, h, wholeB]
      · simp [ir_Lwhole, evSs, evS, evX, Ev.start, bltD, isiD, tyN, boolR, asB, truR, cmpU, h, wholeB]
    | _ => simp [ir_Lwhole, evSs, evS, evX, Ev.start, bltD, isiD, tyN, boolR, asB, truR, cmpU, wholeB]
  rw [call_at at_Lis_strip rfl]
  have g : (cnN tb (n + 1)).call = callN tb (n + 1) := rfl
  cases p with
  | tuple xs =>
    match xs with
    | [] => simp [ir_Lis_strip, evSs, evS, evX, evXs, Ev.start, bltD, isiD, tyN, boolR, asB, truR, cmpU, stripB]
    | [a] => simp [ir_Lis_strip, evSs, evS, evX, evXs, Ev.start, bltD, isiD, tyN, boolR, asB, truR, cmpU, stripB]
    | [a, b] => cases h : wholeB 1 3 a <;> simp [ir_Lis_strip, evSs, evS, evX, evXs, Ev.start, bltD, isiD, tyN, boolR, asB, truR, cmpU, stripB, g, hw, h]
    | a :: b :: d :: r =>
      have hl : bltD .len (.tuple (a :: b :: d :: r)) = some (.int (((r.length : Nat) : Int) + 3)) := by
        show some (PyData.int (((a :: b :: d :: r).length : Nat) : Int)) = _
        simp only [List.length_cons]
        congr 2
      have hi : bltD (.isi "tuple") (.tuple (a :: b :: d :: r)) = some (.bool true) := rfl
      have he : ¬ ((r.length : Nat) : Int) + 3 = 2 := by omega
      simp [ir_Lis_strip, evSs, evS, evX, evXs, Ev.start, hl, hi, boolR, asB, truR, cmpU, stripB, he]
  | _ => simp [ir_Lis_strip, evSs, evS, evX, evXs, Ev.start, bltD, isiD, tyN, boolR, asB, truR, cmpU, stripB]
theorem pis_strip (n : Nat) (S : Store) (p : PyData) : callN tb (n + 3) i_Pis_strip [.d p] S = .ok (.d (.bool (stripB p))) S :=
  call_v0 at_Pis_strip rfl rfl (k_ret (by rw [ev_call1 (S1 := S) (u := .d p) rfl, call_cn]; exact fitsS_ok n S p))
theorem strip_inv {p : PyData} (h : stripB p = true) : ∃ R C : Nat, p = strip R C ∧ 1 ≤ R ∧ R ≤ 3 ∧ 1 ≤ C ∧ C ≤ 60 := by
  cases p with
  | tuple xs =>
    match xs with
    | [] => cases h
    | [a] => cases h
    | [a, b] =>
      have h : (wholeB 1 3 a && wholeB 1 60 b) = true := h
      rw [Bool.and_eq_true] at h
      cases a with
      | int i => cases b with
        | int j =>
          have h1 := of_decide_eq_true h.1
          have h2 := of_decide_eq_true h.2
          refine ⟨i.toNat, j.toNat, ?_, by omega, by omega, by omega, by omega⟩
          show PyData.tuple [.int i, .int j] = .tuple [.int ((i.toNat : Nat) : Int), .int ((j.toNat : Nat) : Int)]
          rw [Int.toNat_of_nonneg (by omega), Int.toNat_of_nonneg (by omega)]
        | _ => cases h.2
      | _ => cases h.1
    | a :: b :: c :: r => cases h
  | _ => cases h
theorem needS_nat (n : Nat) (S : Store) {R C : Nat} (h1 : 1 ≤ R) (h2 : R ≤ 3) (h3 : 1 ≤ C) (h4 : C ≤ 60) : callN tb (n + 3) i_Pneed_strip [.d (strip R C)] S = .ok (.d .none) S := by
  rw [needS_ok, strip_fit (by omega) (by omega) (by omega) (by omega)]
  rfl
theorem pis_drawing (n : Nat) (S : Store) {R C : Nat} (h1 : 1 ≤ R) (h2 : R ≤ 3) (h3 : 1 ≤ C) (h4 : C ≤ 60) {w d : Nat} (hw : w ≤ 1000) {p : PyData} (hp : OkV w d p) : callN tb (n + 4) i_Pis_drawing [.d (strip R C), .d p] S = .ok (.d (.bool (drawB R C p))) S := by
  refine call_v0 at_Pis_drawing rfl rfl ?_
  refine k_exp (u := .d .none) (S1 := S) (by rw [ev_call1 (S1 := S) (u := .d (strip R C)) rfl, call_cn]; exact needS_nat n S h1 h2 h3 h4) (k_ret ?_)
  rw [ev_call2 (S1 := S) (S2 := S) (u := .d (strip R C)) (v := .d p) rfl rfl, call_cn]
  exact fitsD_any (n + 1) S (by omega) (by omega) hw hp
/-- `_law_judged` -/
theorem judged (S : Store) (v : PyData) : callN tb 39 i_Ljudged [.d v] S = .ok (.d (.bool true)) S := by
  have none_ok : OkV 0 0 .none := trivial
  -- the two errors
  have e1 : ∀ T, callN tb 36 i_Pis_drawing [.d v, .d .none] T = if stripB v = true then .ok (.d (.bool false)) T else .exc x_InvalidStrip T := fun T => by
    cases hs : stripB v with
    | true =>
      obtain ⟨R, C, rfl, h1, h2, h3, h4⟩ := strip_inv hs
      rw [if_pos rfl, pis_drawing 32 T h1 h2 h3 h4 (Nat.zero_le _) none_ok]
      rfl
    | false =>
      rw [if_neg (by decide)]
      refine call_x at_Pis_drawing rfl (S1 := T) (k_expX ?_) List.take_length
      rw [ev_call1 (S1 := T) (u := .d v) rfl, call_cn, needS_ok 32, hs]
      rfl
  have e2 : ∀ T, (∃ q, callN tb 36 i_Pdrawing_of [.d v, .d (.tuple [])] T = .ok (.d q) T ∧ stripB v = true) ∨ (callN tb 36 i_Pdrawing_of [.d v, .d (.tuple [])] T = .exc x_InvalidStrip T ∧ stripB v = false) := fun T => by
    cases hs : stripB v with
    | true =>
      obtain ⟨R, C, rfl, h1, h2, h3, h4⟩ := strip_inv hs
      rcases drawing_ofX 32 T h1 h2 h3 h4 (v := .tuple []) (fun xs e => by cases e; decide) with ⟨h, _⟩ | ⟨ts, _, _, _, h⟩
      · cases h
      · exact .inl ⟨_, h, rfl⟩
    | false =>
      refine .inr ⟨call_x at_Pdrawing_of rfl (S1 := T) (k_expX ?_) List.take_length, rfl⟩
      rw [ev_call1 (S1 := T) (u := .d v) rfl, call_cn, needS_ok 32, hs]
      rfl
  let z : PyData := if stripB v = true then .str "" else .str "strip value"
  have l1 : ∀ (ρ : Rho) (T : Store), ρ[0]? = some (some (.d v)) → evX (cnN tb 38) (.err (.call i_Pis_drawing (.cons (.loc 0) (.cons (.con .none) .nil)))) ρ T = .ok (.d z) T := fun ρ T h0 => by
    cases hs : stripB v with
    | true =>
      have h := e1 T
      rw [hs, if_pos rfl] at h
      have hz : z = .str "" := by show (if stripB v = true then _ else _) = _; rw [hs]; rfl
      rw [hz]
      exact ev_errO (low_eq tb 36) (u := .d (.bool false)) (by rw [ev_call2 (S1 := T) (S2 := T) (u := .d v) (v := .d .none) (by simp [evX, h0]) rfl]; exact h)
    | false =>
      have h := e1 T
      rw [hs, if_neg (by decide)] at h
      have hz : z = .str "strip value" := by show (if stripB v = true then _ else _) = _; rw [hs]; rfl
      rw [hz]
      exact ev_errX (low_eq tb 36) (by rw [ev_call2 (S1 := T) (S2 := T) (u := .d v) (v := .d .none) (by simp [evX, h0]) rfl]; exact h) nm_strip
  have l2 : ∀ (ρ : Rho) (T : Store), ρ[0]? = some (some (.d v)) → evX (cnN tb 38) (.err (.call i_Pdrawing_of (.cons (.loc 0) (.cons (.tup .nil) .nil)))) ρ T = .ok (.d z) T := fun ρ T h0 => by
    rcases e2 T with ⟨q, h, hs⟩ | ⟨h, hs⟩
    · have hz : z = .str "" := by show (if stripB v = true then _ else _) = _; rw [hs]; rfl
      rw [hz]
      exact ev_errO (low_eq tb 36) (u := .d q) (by rw [ev_call2 (S1 := T) (S2 := T) (u := .d v) (v := .d (.tuple [])) (by simp [evX, h0]) (by simp [evX, evXs, datas])]; exact h)
    · have hz : z = .str "strip value" := by show (if stripB v = true then _ else _) = _; rw [hs]; rfl
      rw [hz]
      exact ev_errX (low_eq tb 36) (by rw [ev_call2 (S1 := T) (S2 := T) (u := .d v) (v := .d (.tuple [])) (by simp [evX, h0]) (by simp [evX, evXs, datas])]; exact h) nm_strip
  have p1 : ∀ ρ : Rho, ρ[0]? = some (some (.d v)) → evX (cnN tb 38) (.call i_Pis_strip (.cons (.loc 0) .nil)) ρ S = .ok (.d (.bool (stripB v))) S := fun ρ h0 => by
    rw [ev_call1 (S1 := S) (u := .d v) (by simp [evX, h0]), call_cn]
    exact pis_strip 35 S v
  have hzz : SeqAt.shaped (.list [z, z]) = true := by
    show SeqAt.shaped (.list [(if stripB v = true then .str "" else .str "strip value"), (if stripB v = true then .str "" else .str "strip value")]) = true
    cases stripB v <;> kernel_rfl
  have body : evSs (cnN tb 38) ir_Ljudged [some (.d v), none, none] S = .ok (.rt (.d (.bool true))) (S ++ [.lst [z, z]]) := by
    unfold ir_Ljudged
    refine k_set (u := .d (.bool (stripB v))) (S1 := S) (by rw [ev_call1 (S1 := S) (u := .d v) rfl, call_cn]; exact lis_strip 36 S v) ?_
    refine k_ifF (S1 := S) (tru_bool (ev_orF (ev_cmp (o := .NotEq) (p := .bool (stripB v)) (q := .bool (stripB v)) (p1 _ rfl) rfl (ne_same (by cases stripB v <;> rfl))) (ev_not (k := true) (tru_bool (ev_blt (p := .bool (stripB v)) (p1 _ rfl) rfl))))) ?_
    refine k_set (u := .ref S.length) (S1 := S ++ [.lst [z]]) ?_ ?_
    · unfold evX
      unfold evXs
      rw [l1 _ S rfl, b_ok]
      unfold evXs
      show (match datas S [.d z] with
        | some ps => if ps.length ≤ line then Ev.R.ok (U.ref S.length) (S ++ [Box.lst ps]) else .bad
        | none => .bad) = _
      rw [show datas S [.d z] = some [z] from rfl]
      exact if_pos one_line
    · refine k_app (b := S.length) rfl (l2 _ _ rfl) (get_last _ _) (by show (1 : Nat) < 16777216; omega) ?_
      rw [set_last]
      have hm : binD .Mult (.list [z]) (.int 2) = some (.list [z, z]) := rfl
      refine k_ret (ev_cmpR (o := .Eq) (q := .list [z, z]) (p := .list [z, z]) (S1 := S ++ [.lst [z, z]]) (S2 := S ++ [.lst [z, z]]) (x := .ref S.length) (y := .d (.list [z, z])) rfl ?_ (d_lst (get_last _ _)) rfl (eq_same hzz))
      refine ev_bin (p := .list [z]) (q := .int 2) (S1 := S ++ [.lst [z, z]]) ?_ rfl hm
      have hz : ∀ T : Store, evX (cnN tb 38) (.ife (.loc 1) (.con (.str "")) (.con (.str "strip value"))) [some (.d v), some (.d (.bool (stripB v))), some (.ref S.length)] T = .ok (.d z) T := fun T => by
        show _ = Ev.R.ok (U.d (if stripB v = true then PyData.str "" else PyData.str "strip value")) T
        cases stripB v <;> rfl
      unfold evX evXs
      dsimp only [List.set]
      rw [hz, b_ok]
      unfold evXs
      rw [b_ok, b_ok]
      rfl
  exact call_v at_Ljudged rfl rfl body (take_last _ _)
end K01
end

section
set_option Elab.async false
set_option linter.all false
set_option maxRecDepth 100000
set_option maxHeartbeats 1000000
namespace K01
open PySem Ev
abbrev g39 : Cn := cnN tb 39
/-- a drawing of columns as the law makes it -/
theorem isD_of {R C : Nat} {ds : List PyData} (hR : 1 ≤ R) (hC : 1 ≤ C) (hl : (ds.length : Int) = C) (hc : ∀ i p, ds[i]? = some p → Col R C i p) : ∃ D : List (List Nat), ds = D.map sD ∧ IsD R C D := by
  have hw : (2 * (R : Int) - 1).toNat = 2 * R - 1 := by omega
  have hr : ((R : Int) - 1).toNat = R - 1 := by omega
  have key : ∀ p, p ∈ ds → ∃ z : Str, p = .str z ∧ Sg z (2 * R - 1) := fun p hp => by
    obtain ⟨i, hi⟩ := List.mem_iff_getElem?.mp hp
    obtain ⟨z, e, h, _⟩ := hc i p hi
    rw [hw] at h
    exact ⟨z, e, h⟩
  refine ⟨ds.map sgD, ?_, ?_, ?_, ?_, ?_⟩
  · rw [List.map_map]
    have : ds.map (sD ∘ sgD) = ds.map id := List.map_congr_left fun p hp => by
      obtain ⟨z, rfl, _⟩ := key p hp
      rfl
    rw [this, List.map_id]
  · rw [List.length_map]; omega
  · intro x hx
    obtain ⟨p, hp, rfl⟩ := List.mem_map.mp hx
    obtain ⟨z, rfl, h⟩ := key p hp
    show z.cps.toList.length = _
    rw [Array.length_toList]
    exact h.1
  · intro x hx a ha
    obtain ⟨p, hp, rfl⟩ := List.mem_map.mp hx
    obtain ⟨z, rfl, h⟩ := key p hp
    exact h.2 a ha
  · intro j hj
    unfold hasB
    rw [decide_eq_false_iff_not]
    dsimp only
    rw [List.getElem?_map]
    cases e : ds[C - 1]? with
    | none => intro z; cases z
    | some p =>
      obtain ⟨z, rfl, h, hlast⟩ := hc _ _ e
      rw [hr] at hlast
      intro hz
      have hz : z.cps.toList[j]? = some 49 := hz
      have := hlast (by omega) j 49 hj hz
      cases this
theorem okD_str {R C : Nat} {D : List (List Nat)} (hR : R ≤ 3) (hC : C ≤ 45) (h : IsD R C D) : OkV 0 1 (.tuple (D.map sD)) := by
  refine .inr ⟨_, .inr rfl, by rw [List.length_map, h.len]; omega, fun x hx => ?_⟩
  obtain ⟨y, hy, rfl⟩ := List.mem_map.mp hx
  show Atom 0 (.str (mkS y))
  refine ⟨?_, ?_⟩
  · rw [len_mk, h.wid y hy]
    omega
  · rw [sg_mk]
    intro c hc
    rcases h.sg y hy c hc with e | e <;> rw [e] <;> decide
theorem drawB_isD {R C : Nat} {D : List (List Nat)} (hR : 1 ≤ R) (hC : 1 ≤ C) (h : IsD R C D) : drawB R C (.tuple (D.map sD)) = true := by
  rw [drawB_t, List.length_map, h.len, decide_eq_true rfl, Bool.true_and, Bool.and_eq_true]
  constructor
  · rw [List.all_eq_true]
    intro p hp
    obtain ⟨y, hy, rfl⟩ := List.mem_map.mp hp
    show (decide (((sg (mkS y)).length : Int) = 2 * (R : Int) - 1) && (sg (mkS y)).all sgn) = true
    rw [sg_mk, h.wid y hy, Bool.and_eq_true, decide_eq_true_eq, List.all_eq_true]
    refine ⟨by omega, fun a ha => ?_⟩
    rcases h.sg y hy a ha with e | e <;> rw [e] <;> rfl
  · have e : (D.map sD).map sgD = D := by
      rw [List.map_map]
      have : D.map (sgD ∘ sD) = D.map id := List.map_congr_left fun x _ => rfl
      rw [this, List.map_id]
    rw [e, Bool.not_eq_true', decide_eq_false_iff_not]
    intro hm
    obtain ⟨i, hi⟩ := List.mem_iff_getElem?.mp hm
    rw [List.getElem?_drop] at hi
    have hne : D ≠ [] := by intro z; have := h.len; rw [z] at this; simp at this; omega
    have hlast : D[C - 1]? = some (lastL D) := by
      have hlt : D.length - 1 < D.length := by have := List.length_pos_iff.mpr hne; omega
      rw [← h.len, List.getElem?_eq_getElem hlt, last_el hne (z := [])]
      rfl
    have := h.last (((R : Int) - 1).toNat + i) (by omega)
    unfold hasB at this
    rw [decide_eq_false_iff_not] at this
    dsimp only at this
    rw [hlast] at this
    exact this hi
theorem okT_tis {R C : Nat} (hR : R ≤ 3) (hC : C ≤ 60) {ts : List Ti} (hl : ts.length ≤ 48) (h : ∀ t, t ∈ ts → IsTi R C t) : OkV 3 3 (.tuple (ts.map tiD)) := by
  refine .inr ⟨_, .inr rfl, by rw [List.length_map]; omega, fun x hx => ?_⟩
  obtain ⟨t, ht, rfl⟩ := List.mem_map.mp hx
  have hi := (h t ht).lt
  have okp : ∀ p : Pl, p.1 < C → p.2 < R → OkV 3 1 (plD p) := fun p h1 h2 => .inr ⟨_, .inr rfl, by show 2 ≤ _; omega, fun y hy => by
    have big1 : 1000 ≤ big := by unfold big; decide
    rcases List.mem_cons.mp hy with rfl | hy
    · show Int.natAbs (p.1 : Int) ≤ big + 3
      omega
    · rw [List.mem_singleton.mp hy]
      show Int.natAbs (p.2 : Int) ≤ big + 3
      omega⟩
  refine .inr ⟨_, .inr rfl, by show 2 ≤ _; omega, fun y hy => ?_⟩
  rcases List.mem_cons.mp hy with rfl | hy
  · exact okp _ hi.1.1 hi.1.2
  · rw [List.mem_singleton.mp hy]
    exact okp _ hi.2.1 hi.2.2
theorem okS_strip {R C : Nat} (hR : R ≤ 3) (hC : C ≤ 60) : OkV 0 1 (strip R C) := .inr ⟨_, .inr rfl, by show 2 ≤ _; omega, fun y hy => by
  have big1 : 1000 ≤ big := by unfold big; decide
  rcases List.mem_cons.mp hy with rfl | hy
  · show Int.natAbs (R : Int) ≤ big + 0
    omega
  · rw [List.mem_singleton.mp hy]
    show Int.natAbs (C : Int) ≤ big + 0
    omega⟩
/-- what is known of the value ahead of the j-th turn -/
def Bd (j : Nat) (v : PyData) : Prop := (j % 2 = 1 → OkV 4 7 v) ∧ OkV 5 11 v
theorem Bd.zero {v : PyData} (h : OkV 3 3 v) : Bd 0 v := ⟨fun z => absurd z (by decide), OkV.up (by decide) (by decide) h⟩
theorem bent_step {S : Store} {b j : Nat} {v p0 : PyData} (hS : Drum S b) (h0 : OkV 3 3 p0) (hv : Bd j v) :
    ∃ v' S', callN tb 39 i_Lbent [.ref b, .d (if j % 2 = 0 then p0 else v)] S = .ok (.d v') S' ∧ Bd (j + 1) v' ∧ Drum S' b ∧ Same b S S' := by
  by_cases hj : j % 2 = 0
  · rw [if_pos hj]
    obtain ⟨v', S', e1, e2, e3, e4⟩ := bent_ok 3 (by decide) 3 33 S b p0 hS h0 (by decide) (by decide)
    exact ⟨v', S', e1, ⟨fun _ => e2, OkV.up (by decide) (by decide) e2⟩, e3, e4⟩
  · rw [if_neg hj]
    obtain ⟨v', S', e1, e2, e3, e4⟩ := bent_ok 4 (by decide) 7 33 S b v hS (hv.1 (by omega)) (by decide) (by decide)
    exact ⟨v', S', e1, ⟨fun z => by omega, e2⟩, e3, e4⟩
theorem ife_par {A B : Ev.X} {ρ : Rho} {S : Store} {j : Nat} {p q : PyData} (h11 : ρ[11]? = some (some (.d (nI j)))) (hA : evX g39 A ρ S = .ok (.d p) S) (hB : evX g39 B ρ S = .ok (.d q) S) :
    evX g39 (.ife (.cmp .Eq (.bin .Mod (.blt .int (.loc 11)) (.con (.int 2))) (.con (.int 0))) A B) ρ S = .ok (.d (if j % 2 = 0 then p else q)) S := by
  have e : evX g39 (.loc 11) ρ S = .ok (.d (nI j)) S := by unfold evX; rw [h11]
  have c : truR (evX g39 (.cmp .Eq (.bin .Mod (.blt .int (.loc 11)) (.con (.int 2))) (.con (.int 0))) ρ S) = .ok (decide (j % 2 = 0)) S := by
    refine tru_bool (ev_cmp (p := .int ((j : Int) % 2)) (q := .int 0) (ev_bin (p := nI j) (q := .int 2) (ev_blt (p := nI j) e rfl) rfl (mod_ii (by decide))) rfl ?_)
    rw [eqc_ii]
    congr 1
    rw [Bool.eq_iff_iff, decide_eq_true_eq, decide_eq_true_eq]
    omega
  by_cases hj : j % 2 = 0
  · rw [decide_eq_true hj] at c
    rw [if_pos hj]
    exact ev_ifT c hA
  · rw [decide_eq_false hj] at c
    rw [if_neg hj]
    exact ev_ifF c hB
theorem pties_err {S : Store} {R C : Nat} (h1 : 1 ≤ R) (h2 : R ≤ 3) (h3 : 1 ≤ C) (h4 : C ≤ 60) {w d : Nat} (hw : w ≤ 1000) {v : PyData} (hv : OkV w d v) (hb : drawB R C v = false) : callN tb 37 i_Pties_of [.d (strip R C), .d v] S = .exc x_InvalidDrawing S := by
  refine call_x at_Pties_of rfl (S1 := S) (k_exp (u := .d .none) (S1 := S) (by rw [ev_call1 (S1 := S) (u := .d (strip R C)) rfl, call_cn]; exact needS_nat 33 S h1 h2 h3 h4) (k_expX ?_)) List.take_length
  rw [ev_call2 (S1 := S) (S2 := S) (u := .d (strip R C)) (v := .d v) rfl rfl, call_cn, needD 33 S (by omega) (by omega) hw hv, hb]
  rfl
theorem pties_ok {S : Store} {R C : Nat} (h1 : 1 ≤ R) (h2 : R ≤ 3) (h3 : 1 ≤ C) (h4 : C ≤ 45) {D : List (List Nat)} (hD : IsD R C D) : callN tb 39 i_Pties_of [.d (strip R C), .d (.tuple (D.map sD))] S = .ok (.d (.list ((tis R C D).map tiD))) S := by
  refine call_v0 at_Pties_of rfl rfl (k_exp (u := .d .none) (S1 := S) (by rw [ev_call1 (S1 := S) (u := .d (strip R C)) rfl, call_cn]; exact needS_nat 35 S h1 h2 h3 (by omega)) (k_exp (u := .d .none) (S1 := S) ?_ (k_ret ?_)))
  · rw [ev_call2 (S1 := S) (S2 := S) (u := .d (strip R C)) (v := .d (.tuple (D.map sD))) rfl rfl, call_cn, needD 35 S (by omega) (by omega) (Nat.zero_le _) (okD_str h2 h4 hD), drawB_isD h1 h3 hD]
    rfl
  · rw [ev_call2 (S1 := S) (S2 := S) (u := .d (strip R C)) (v := .d (.tuple (D.map sD))) rfl rfl, call_cn]
    exact pallX 36 S h1 (by omega) (by omega) hD
/-- the first loop's body -/
theorem turn_draw {S : Store} {b j : Nat} {R C : Nat} {D : List (List Nat)} {v : PyData} (hS : Drum S b) (h1 : 1 ≤ R) (h2 : R ≤ 3) (h3 : 1 ≤ C) (h4 : C ≤ 45) (hD : IsD R C D) (hv : Bd j v) (a0 a1 a2 a4 a5 a6 a9 a12 a13 : Option U) :
    ∃ v' S' z, evSs g39 b_Llaw [a0, a1, a2, some (.ref b), a4, a5, a6, some (.d (strip R C)), some (.d (.tuple (D.map sD))), a9, some (.d v), some (.d (nI j)), a12, a13] S =
      .ok (.nx [a0, a1, a2, some (.ref b), a4, a5, a6, some (.d (strip R C)), some (.d (.tuple (D.map sD))), a9, some (.d v'), some (.d (nI j)), a12, z]) S' ∧ Bd (j + 1) v' ∧ Drum S' b ∧ Same b S S' := by
  obtain ⟨v', S', e1, e2, e3, e4⟩ := bent_step hS (OkV.up (by decide) (by decide) (okD_str h2 h4 hD) : OkV 3 3 (.tuple (D.map sD))) hv
  refine ⟨v', S', some (.d (.bool (drawB R C v))), ?_, e2, e3, e4⟩
  have hd : ∀ ρ : Rho, ρ[7]? = some (some (.d (strip R C))) → ρ[10]? = some (some (.d v)) → evX g39 (.call i_Pis_drawing (.cons (.loc 7) (.cons (.loc 10) .nil))) ρ S = .ok (.d (.bool (drawB R C v))) S := fun ρ h7 h10 => by
    rw [ev_call2 (S1 := S) (S2 := S) (u := .d (strip R C)) (v := .d v) (by simp [evX, h7]) (by simp [evX, h10]), call_cn]
    exact pis_drawing 35 S h1 h2 h3 (by omega) (by decide) hv.2
  refine k_set (u := .d (.bool (drawB R C v))) (S1 := S) ?_ ?_
  · rw [ev_call2 (S1 := S) (S2 := S) (u := .d (strip R C)) (v := .d v) rfl rfl, call_cn]
    exact lawD_any 38 S (by omega) (by omega) (by omega) (by decide) hv.2
  refine k_ifF (S1 := S) (tru_bool (ev_orF (ev_cmp (o := .NotEq) (p := .bool (drawB R C v)) (q := .bool (drawB R C v)) (hd _ rfl rfl) rfl (ne_same (by cases drawB R C v <;> rfl))) (ev_not (k := true) (tru_bool (ev_blt (p := .bool (drawB R C v)) (hd _ rfl rfl) rfl))))) ?_
  refine k_ifF (S1 := S) ?_ ?_
  · cases hb : drawB R C v with
    | true => exact tru_bool (ev_andF (ev_not (k := true) rfl))
    | false =>
      refine tru_bool (ev_andT (ev_not (k := false) rfl) (ev_cmp (o := .NotEq) (p := .str "drawing value") (q := .str "drawing value") (ev_errX (low_eq tb 37) ?_ nm_drawing) rfl (ne_same (by kernel_rfl))))
      rw [ev_call2 (S1 := S) (S2 := S) (u := .d (strip R C)) (v := .d v) rfl rfl]
      exact pties_err h1 h2 h3 (by omega) (by decide) hv.2 hb
  · refine k_set (u := .d v') (S1 := S') ?_ rfl
    rw [ev_call2 (S1 := S) (S2 := S) (u := .ref b) (v := .d (if j % 2 = 0 then .tuple (D.map sD) else v)) rfl (ife_par rfl rfl rfl), call_cn]
    exact e1
/-- the second loop's body -/
theorem turn_ties {S : Store} {b j : Nat} {R C : Nat} {ts : List Ti} {v a8 : PyData} (hS : Drum S b) (h1 : 1 ≤ R) (h2 : R ≤ 3) (h3 : 1 ≤ C) (h4 : C ≤ 45) (hts : OkV 3 3 (.tuple (ts.map tiD))) (hv : Bd j v) (a0 a1 a2 a4 a5 a6 a12 a13 : Option U) :
    ∃ v' S' z, evSs g39 b1_Llaw [a0, a1, a2, some (.ref b), a4, a5, a6, some (.d (strip R C)), some (.d a8), some (.d (.list (ts.map tiD))), some (.d v), some (.d (nI j)), a12, a13] S =
      .ok (.nx [a0, a1, a2, some (.ref b), a4, a5, a6, some (.d (strip R C)), some (.d a8), some (.d (.list (ts.map tiD))), some (.d v'), some (.d (nI j)), a12, z]) S' ∧ Bd (j + 1) v' ∧ Drum S' b ∧ Same b S S' := by
  obtain ⟨v', S', e1, e2, e3, e4⟩ := bent_step hS hts hv
  refine ⟨v', S', some (.d (.bool (tiesB R C v))), ?_, e2, e3, e4⟩
  have hlen : ∀ xs, v = .tuple xs → xs.length < 64 := fun xs e => by
    have := (ok_items (e ▸ hv.2)).1
    omega
  refine k_set (u := .d (.bool (tiesB R C v))) (S1 := S) ?_ ?_
  · rw [ev_call2 (S1 := S) (S2 := S) (u := .d (strip R C)) (v := .d v) rfl rfl, call_cn]
    refine are_tiesX 36 S h1 (by omega) (by omega) (hv.2.shaped (by decide)) fun xs e => ?_
    have hi := ok_items (e ▸ hv.2)
    refine ⟨by omega, fun x hx => ⟨(hi.2 x hx).shaped (by decide), fun ys e2 => ?_⟩⟩
    have := (ok_items (e2 ▸ hi.2 x hx)).1
    omega
  refine k_ifF (S1 := S) ?_ ?_
  · rcases drawing_ofX 33 S h1 h2 h3 (by omega) hlen with ⟨hb, he⟩ | ⟨us, hb, _, _, he⟩
    · refine tru_bool (ev_cmp (o := .NotEq) (S1 := S) (p := .str "ties value") (q := .str "ties value") (ev_errX (low_eq tb 37) ?_ nm_ties) ?_ (ne_same (by kernel_rfl)))
      · rw [ev_call2 (S1 := S) (S2 := S) (u := .d (strip R C)) (v := .d v) rfl rfl]
        exact he
      · rw [hb]
        exact ev_ifF (S1 := S) rfl rfl
    · refine tru_bool (ev_cmp (o := .NotEq) (S1 := S) (p := .str ⟨#[]⟩) (q := .str ⟨#[]⟩) (ev_errO (u := .d (.tuple ((drw R C fun t => decide (t ∈ us)).map sD))) (low_eq tb 37) ?_) ?_ (ne_same (by kernel_rfl)))
      · rw [ev_call2 (S1 := S) (S2 := S) (u := .d (strip R C)) (v := .d v) rfl rfl]
        exact he
      · rw [hb]
        exact ev_ifT (S1 := S) rfl rfl
  · refine k_set (u := .d v') (S1 := S') ?_ rfl
    rw [ev_call2 (S1 := S) (S2 := S) (u := .ref b) (v := .d (if j % 2 = 0 then .tuple (ts.map tiD) else v)) rfl (ife_par rfl (ev_blt (p := .list (ts.map tiD)) rfl rfl) rfl), call_cn]
    exact e1
/-- the third loop's body -/
theorem turn_strip {S : Store} {b j : Nat} {R C : Nat} {v : PyData} (hS : Drum S b) (h2 : R ≤ 3) (h4 : C ≤ 45) (hv : Bd j v) (a0 a1 a2 a4 a5 a6 a8 a9 a10 a13 : Option U) :
    ∃ v' S', evSs g39 b2_Llaw [a0, a1, a2, some (.ref b), a4, a5, a6, some (.d (strip R C)), a8, a9, a10, some (.d (nI j)), some (.d v), a13] S =
      .ok (.nx [a0, a1, a2, some (.ref b), a4, a5, a6, some (.d (strip R C)), a8, a9, a10, some (.d (nI j)), some (.d v'), a13]) S' ∧ Bd (j + 1) v' ∧ Drum S' b ∧ Same b S S' := by
  obtain ⟨v', S', e1, e2, e3, e4⟩ := bent_step hS (OkV.up (by decide) (by decide) (okS_strip h2 (by omega)) : OkV 3 3 (strip R C)) hv
  refine ⟨v', S', ?_, e2, e3, e4⟩
  refine k_set (u := .d v') (S1 := S') ?_ ?_
  · rw [ev_call2 (S1 := S) (S2 := S) (u := .ref b) (v := .d (if j % 2 = 0 then strip R C else v)) rfl (ife_par rfl rfl rfl), call_cn]
    exact e1
  · refine k_ifF (S1 := S') (tru_bool (ev_not (k := true) (tru_bool ?_))) rfl
    rw [ev_call1 (S1 := S') (u := .d v') rfl, call_cn]
    exact judged S' v'
end K01
end

section
set_option Elab.async false
set_option linter.all false
set_option maxRecDepth 100000
set_option maxHeartbeats 1000000
namespace K01
open PySem Ev
abbrev rw14 (a0 a1 a2 : Option U) (b : Nat) (a4 a5 a6 a7 a8 a9 a10 a11 a12 a13 : Option U) : Rho := [a0, a1, a2, some (.ref b), a4, a5, a6, a7, a8, a9, a10, a11, a12, a13]
theorem it_eight {k : Nat} (hk : k < 1000) (ρ : Rho) (S : Store) : evIt g39 (.rng (.cons (.con (.int ((k : Nat) : Int))) .nil)) ρ S = .ok (.fix ((List.range k).map fun i : Nat => U.d (nI i))) S := it_rngN (m := k) rfl (by omega)
theorem k_loop {g : Cn} {ρ ρ1 : Rho} {S S1 S2 : Store} {Z : Ev.R F} {r : Sts} {t : Tg} {it : It} {b : Sts} {us : List U} (hit : evIt g it ρ S = .ok (.fix us) S1) (h : loopL t (fun ρ S => evSs g b ρ S) us ρ S1 = .ok (.nx ρ1) S2) (k : evSs g r ρ1 S2 = Z) : evSs g (.cons (.forr t it b) r) ρ S = Z := by
  rw [ss_cons (ev_for hit h)]
  exact k
/-- a strip, its drawing -/
theorem turn_ok {S : Store} {b : Nat} (hS : Drum S b) (a0 a1 a2 a4 a5 a6 a7 a8 a9 a10 a11 a12 a13 : Option U) :
    ∃ c7 c8 c9 c10 c11 c12 c13 S', evSs g39 b3_Llaw (rw14 a0 a1 a2 b a4 a5 a6 a7 a8 a9 a10 a11 a12 a13) S = .ok (.nx (rw14 a0 a1 a2 b a4 a5 a6 c7 c8 c9 c10 c11 c12 c13)) S' ∧ Drum S' b ∧ Same b S S' := by
  obtain ⟨r, c, S1, r1, r3, c1, hrc, p1, D1, l1, k1⟩ := strip_ok 37 hS (m := 24) (by decide) (by decide)
  have s1 : Same b S S1 := ⟨l1, k1⟩
  obtain ⟨R, rfl⟩ : ∃ R : Nat, r = R := ⟨r.toNat, by omega⟩
  obtain ⟨C, rfl⟩ : ∃ C : Nat, c = C := ⟨c.toNat, by omega⟩
  have hRC : R * C ≤ 24 := by exact_mod_cast hrc
  have hR1 : 1 ≤ R := by omega
  have hR3 : R ≤ 3 := by omega
  have hC1 : 1 ≤ C := by omega
  have hC : C ≤ 24 := Nat.le_trans (Nat.le_mul_of_pos_left C hR1) hRC
  obtain ⟨ds, S2, p2, l2, col2, D2, s2⟩ := any_ok 35 D1 (r := R) (c := C) (by omega) (by omega) (by omega) (by omega) (by omega)
  obtain ⟨D, rfl, hD⟩ := isD_of hR1 hC1 l2 col2
  have p3 := tiesOfX 36 S2 hR1 (by omega) (by omega) hD
  have p4 := pties_ok (S := S2) hR1 hR3 hC1 (by omega) hD
  have hts : ∀ t, t ∈ tis R C D → IsTi R C t := fun t ht => (mem_tis.mp ht).1
  have hl : (tis R C D).length ≤ 48 := by
    have h1 := ti_len R C
    have h2 : (tis R C D).length ≤ (ti R C).length := List.length_filter_le _ _
    have h3 : C * R = R * C := Nat.mul_comm _ _
    omega
  have hok := okT_tis hR3 (by omega) hl hts
  have hnd : (tis R C D).Nodup := nodup_of_lt (tis_sorted (by omega) (by omega))
  -- the drawing of the ties, turned
  have p5 : callN tb 39 i_Pdrawing_of [.d (strip R C), .d (.tuple ((tis R C D).map tiD).reverse)] S2 = .ok (.d (.tuple (D.map sD))) S2 := by
    have hr : ((tis R C D).map tiD).reverse = (tis R C D).reverse.map tiD := List.map_reverse.symm
    rw [hr]
    have hb : tiesB R C (.tuple ((tis R C D).reverse.map tiD)) = true := by
      rw [tiesB_map R C (fun t ht => hts t (List.mem_reverse.mp ht))]
      exact decide_eq_true (List.pairwise_reverse.mpr (hnd.imp fun h => h.symm))
    rcases drawing_ofX 35 S2 hR1 hR3 hC1 (by omega) (v := .tuple ((tis R C D).reverse.map tiD)) (fun xs e => by cases e; rw [List.length_map, List.length_reverse]; omega) with ⟨h, _⟩ | ⟨us, _, e, _, h⟩
    · rw [hb] at h; cases h
    · have e2 : us = (tis R C D).reverse := by
        have e3 : (tis R C D).reverse.map tiD = us.map tiD := PyData.tuple.inj e
        have := congrArg (List.filterMap tiO) e3
        rw [fm_tiD, fm_tiD] at this
        exact this.symm
      rw [h, e2]
      have e4 : (fun t => decide (t ∈ (tis R C D).reverse)) = fun t => decide (t ∈ tis R C D) := funext fun t => decide_eq_decide.mpr List.mem_reverse
      rw [e4, drw_tis hR1 hD]
  have sT := (shaped_tis (tis R C D)).1
  have sD' : SeqAt.shaped (.tuple (D.map sD)) = true := (okD_str hR3 (by omega) hD).shaped (by decide)
  -- the three loops
  have go : ∃ c10 c11 c12 c13 S', evSs g39 (.cons (.set 10 (.loc 8)) (.cons (.forr (.nm 11) (.rng (.cons (.con (.int 8)) .nil)) b_Llaw) (.cons (.set 10 (.blt .tuple (.loc 9))) (.cons (.forr (.nm 11) (.rng (.cons (.con (.int 8)) .nil)) b1_Llaw) (.cons (.set 12 (.loc 7)) (.cons (.forr (.nm 11) (.rng (.cons (.con (.int 6)) .nil)) b2_Llaw) .nil))))))
      (rw14 a0 a1 a2 b a4 a5 a6 (some (.d (strip R C))) (some (.d (.tuple (D.map sD)))) (some (.d (.list ((tis R C D).map tiD)))) a10 a11 a12 a13) S2 =
      .ok (.nx (rw14 a0 a1 a2 b a4 a5 a6 (some (.d (strip R C))) (some (.d (.tuple (D.map sD)))) (some (.d (.list ((tis R C D).map tiD)))) c10 c11 c12 c13)) S' ∧ Drum S' b ∧ Same b S2 S' := by
    -- each loop by what it keeps
    obtain ⟨ρ3, S3, h3, D3, s3, v3, x11, x13, rfl, _⟩ := loop_pre (t := .nm 11) (body := fun ρ S => evSs g39 b_Llaw ρ S) (fun i : Nat => U.d (nI i))
      (fun pre ρ S' => Drum S' b ∧ Same b S2 S' ∧ ∃ v x11 x13, ρ = rw14 a0 a1 a2 b a4 a5 a6 (some (.d (strip R C))) (some (.d (.tuple (D.map sD)))) (some (.d (.list ((tis R C D).map tiD)))) (some (.d v)) x11 a12 x13 ∧ Bd pre.length v) (List.range 8)
      (ρ := rw14 a0 a1 a2 b a4 a5 a6 (some (.d (strip R C))) (some (.d (.tuple (D.map sD)))) (some (.d (.list ((tis R C D).map tiD)))) (some (.d (.tuple (D.map sD)))) a11 a12 a13) (S := S2)
      ⟨D2, Same.refl _ _, _, _, _, rfl, Bd.zero (OkV.up (by decide) (by decide) (okD_str hR3 (by omega) hD))⟩ (fun pre j post hp ρ S' hI => by
        obtain ⟨D', s', v, x11, x13, rfl, hb⟩ := hI
        obtain ⟨rfl, hj⟩ := pre_range hp
        rw [List.length_range] at hb
        obtain ⟨v', S4, z, e, hb', D4, s4⟩ := turn_draw D' hR1 hR3 hC1 (by omega) hD hb a0 a1 a2 a4 a5 a6 (some (.d (.list ((tis R C D).map tiD)))) a12 x13
        refine ⟨_, _, _, rfl, e, D4, s'.trans s4, _, _, _, rfl, ?_⟩
        rw [List.length_append, List.length_range]
        exact hb')
    obtain ⟨ρ5, S5, h5, D5, s5, v5, y11, y13, rfl, _⟩ := loop_pre (t := .nm 11) (body := fun ρ S => evSs g39 b1_Llaw ρ S) (fun i : Nat => U.d (nI i))
      (fun pre ρ S' => Drum S' b ∧ Same b S3 S' ∧ ∃ v x11 x13, ρ = rw14 a0 a1 a2 b a4 a5 a6 (some (.d (strip R C))) (some (.d (.tuple (D.map sD)))) (some (.d (.list ((tis R C D).map tiD)))) (some (.d v)) x11 a12 x13 ∧ Bd pre.length v) (List.range 8)
      (ρ := rw14 a0 a1 a2 b a4 a5 a6 (some (.d (strip R C))) (some (.d (.tuple (D.map sD)))) (some (.d (.list ((tis R C D).map tiD)))) (some (.d (.tuple ((tis R C D).map tiD)))) x11 a12 x13) (S := S3)
      ⟨D3, Same.refl _ _, _, _, _, rfl, Bd.zero hok⟩ (fun pre j post hp ρ S' hI => by
        obtain ⟨D', s', v, x11, x13, rfl, hb⟩ := hI
        obtain ⟨rfl, hj⟩ := pre_range hp
        rw [List.length_range] at hb
        obtain ⟨v', S4, z, e, hb', D4, s4⟩ := turn_ties (a8 := .tuple (D.map sD)) D' hR1 hR3 hC1 (by omega) hok hb a0 a1 a2 a4 a5 a6 a12 x13
        refine ⟨_, _, _, rfl, e, D4, s'.trans s4, _, _, _, rfl, ?_⟩
        rw [List.length_append, List.length_range]
        exact hb')
    obtain ⟨ρ6, S6, h6, D6, s6, v6, z11, rfl, _⟩ := loop_pre (t := .nm 11) (body := fun ρ S => evSs g39 b2_Llaw ρ S) (fun i : Nat => U.d (nI i))
      (fun pre ρ S' => Drum S' b ∧ Same b S5 S' ∧ ∃ v x11, ρ = rw14 a0 a1 a2 b a4 a5 a6 (some (.d (strip R C))) (some (.d (.tuple (D.map sD)))) (some (.d (.list ((tis R C D).map tiD)))) (some (.d v5)) x11 (some (.d v)) y13 ∧ Bd pre.length v) (List.range 6)
      (ρ := rw14 a0 a1 a2 b a4 a5 a6 (some (.d (strip R C))) (some (.d (.tuple (D.map sD)))) (some (.d (.list ((tis R C D).map tiD)))) (some (.d v5)) y11 (some (.d (strip R C))) y13) (S := S5)
      ⟨D5, Same.refl _ _, _, _, rfl, Bd.zero (OkV.up (by decide) (by decide) (okS_strip hR3 (by omega)))⟩ (fun pre j post hp ρ S' hI => by
        obtain ⟨D', s', v, x11, rfl, hb⟩ := hI
        obtain ⟨rfl, hj⟩ := pre_range hp
        rw [List.length_range] at hb
        obtain ⟨v', S4, e, hb', D4, s4⟩ := turn_strip (R := R) (C := C) D' hR3 (by omega) hb a0 a1 a2 a4 a5 a6 (some (.d (.tuple (D.map sD)))) (some (.d (.list ((tis R C D).map tiD)))) (some (.d v5)) y13
        refine ⟨_, _, _, rfl, e, D4, s'.trans s4, _, _, rfl, ?_⟩
        rw [List.length_append, List.length_range]
        exact hb')
    refine ⟨some (.d v5), z11, some (.d v6), y13, S6, ?_, D6, (s3.trans s5).trans s6⟩
    refine k_set (u := .d (.tuple (D.map sD))) (S1 := S2) rfl ?_
    refine k_loop (it_eight (k := 8) (by decide) _ _) h3 ?_
    refine k_set (u := .d (.tuple ((tis R C D).map tiD))) (S1 := S3) (ev_blt (p := .list ((tis R C D).map tiD)) rfl rfl) ?_
    refine k_loop (it_eight (k := 8) (by decide) _ _) h5 ?_
    refine k_set (u := .d (strip R C)) (S1 := S5) rfl ?_
    refine k_loop (it_eight (k := 6) (by decide) _ _) h6 ?_
    rfl
  obtain ⟨c10, c11, c12, c13, S', hgo, D', s'⟩ := go
  refine ⟨some (.d (strip R C)), some (.d (.tuple (D.map sD))), some (.d (.list ((tis R C D).map tiD))), c10, c11, c12, c13, S', ?_, D', (s1.trans s2).trans s'⟩
  refine k_set (u := .d (strip R C)) (S1 := S1) (by rw [ev_call2 (S1 := S) (S2 := S) (u := .ref b) (v := .d (.int 24)) rfl rfl, call_cn]; exact p1) ?_
  refine k_set (u := .d (.tuple (D.map sD))) (S1 := S2) (by rw [ev_call2 (S1 := S1) (S2 := S1) (u := .ref b) (v := .d (strip R C)) rfl rfl, call_cn]; exact p2) ?_
  refine k_set (u := .d (.list ((tis R C D).map tiD))) (S1 := S2) (by rw [ev_call2 (S1 := S2) (S2 := S2) (u := .d (strip R C)) (v := .d (.tuple (D.map sD))) rfl rfl, call_cn]; exact p3) ?_
  refine k_ifF (S1 := S2) (tru_bool (ev_orF (S1 := S2) (ev_cmp (o := .NotEq) (S1 := S2) (p := .list ((tis R C D).map tiD)) (q := .list ((tis R C D).map tiD)) ?_ rfl (ne_same sT)) (ev_cmp (o := .NotEq) (S1 := S2) (p := .tuple (D.map sD)) (q := .tuple (D.map sD)) ?_ rfl (ne_same sD')))) ?_
  · rw [ev_call2 (S1 := S2) (S2 := S2) (u := .d (strip R C)) (v := .d (.tuple (D.map sD))) rfl rfl, call_cn]
    exact p4
  · rw [ev_call2 (S1 := S2) (S2 := S2) (u := .d (strip R C)) (v := .d (.tuple ((tis R C D).map tiD).reverse)) rfl (ev_blt (p := .list ((tis R C D).map tiD).reverse) (by unfold evX; rfl) rfl), call_cn]
    exact p5
  · exact hgo
theorem cell_ok (S : Store) (cell : Int) (a0 a2 a3 a4 a5 a6 a7 a8 a9 a10 a11 a12 a13 : Option U) :
    ∃ c3 c4 c7 c8 c9 c10 c11 c12 c13 S', evSs g39 b4_Llaw [a0, some (.d (.int cell)), a2, a3, a4, a5, a6, a7, a8, a9, a10, a11, a12, a13] S = .ok (.nx [a0, some (.d (.int cell)), a2, c3, c4, a5, a6, c7, c8, c9, c10, c11, c12, c13]) S' := by
  obtain ⟨S1, p1, D1, _, _⟩ := drum_ok 38 S cell
  obtain ⟨ρ2, S2, h2, D2, x4, x7, x8, x9, x10, x11, x12, x13, rfl⟩ := loop_pre (t := .nm 4) (body := fun ρ S => evSs g39 b3_Llaw ρ S) (fun i : Nat => U.d (nI i))
    (fun _ ρ S' => Drum S' S.length ∧ ∃ x4 x7 x8 x9 x10 x11 x12 x13, ρ = rw14 a0 (some (.d (.int cell))) a2 S.length x4 a5 a6 x7 x8 x9 x10 x11 x12 x13) (List.range 2)
    (ρ := rw14 a0 (some (.d (.int cell))) a2 S.length a4 a5 a6 a7 a8 a9 a10 a11 a12 a13) (S := S1) ⟨D1, _, _, _, _, _, _, _, _, rfl⟩ (fun pre j post hp ρ S' hI => by
      obtain ⟨D', x4, x7, x8, x9, x10, x11, x12, x13, rfl⟩ := hI
      obtain ⟨c7, c8, c9, c10, c11, c12, c13, S4, e, D4, _⟩ := turn_ok D' a0 (some (.d (.int cell))) a2 (some (.d (nI j))) a5 a6 x7 x8 x9 x10 x11 x12 x13
      exact ⟨_, _, _, rfl, e, D4, _, _, _, _, _, _, _, _, rfl⟩)
  refine ⟨some (.ref S.length), x4, x7, x8, x9, x10, x11, x12, x13, S2, ?_⟩
  refine k_set (u := .ref S.length) (S1 := S1) (by rw [ev_call2 (S1 := S) (S2 := S) (u := .d (.int cell)) (v := .d (.int 3)) rfl rfl, call_cn]; exact p1) ?_
  refine k_loop (it_eight (k := 2) (by decide) _ _) h2 ?_
  rfl
end K01
end

section
set_option Elab.async false
set_option linter.all false
set_option maxRecDepth 100000
set_option maxHeartbeats 1000000
namespace K01
open PySem Ev
/-! # The law's end -/
def fnsL : List Fn := [⟨3, 3, false, ir_Pis_whole⟩,
  ⟨1, 1, false, ir_Pfits_strip⟩,
  ⟨2, 3, false, ir_Pfits_string⟩,
  ⟨2, 3, false, ir_Pfits_drawing⟩,
  ⟨2, 2, false, ir_Pfits_place⟩,
  ⟨2, 7, false, ir_Pfits_tie⟩,
  ⟨2, 6, false, ir_Psign_of⟩,
  ⟨3, 4, false, ir_Ptie_at⟩,
  ⟨2, 7, false, ir_Pall_ties⟩,
  ⟨2, 8, false, ir_Pdrawn⟩,
  ⟨1, 1, false, ir_Pneed_strip⟩,
  ⟨2, 2, false, ir_Pneed_drawing⟩,
  ⟨1, 1, false, ir_Pis_strip⟩,
  ⟨2, 2, false, ir_Pis_drawing⟩,
  ⟨2, 2, false, ir_Pties_of⟩,
  ⟨2, 3, false, ir_Pdrawing_of⟩,
  ⟨2, 3, true, ir_Ldrum⟩,
  ⟨2, 4, false, ir_Lroll⟩,
  ⟨2, 2, false, ir_Lsome⟩,
  ⟨1, 4, false, ir_Lplaces⟩,
  ⟨1, 4, false, ir_Lties⟩,
  ⟨2, 6, false, ir_Ldrawn⟩,
  ⟨2, 9, false, ir_Lties_of⟩,
  ⟨2, 6, false, ir_Lnear⟩,
  ⟨2, 3, false, ir_Lstrip⟩,
  ⟨2, 7, false, ir_Lwalk⟩,
  ⟨1, 5, false, ir_Lwalk_ties⟩,
  ⟨2, 7, false, ir_Lany⟩,
  ⟨2, 5, false, ir_Lodd⟩,
  ⟨2, 5, false, ir_Lbent⟩,
  ⟨3, 3, false, ir_Lwhole⟩,
  ⟨1, 1, false, ir_Lis_strip⟩,
  ⟨2, 3, false, ir_Lis_drawing⟩,
  ⟨2, 4, false, ir_Lare_ties⟩,
  ⟨1, 3, false, ir_Ljudged⟩,
  ⟨1, 14, false, ir_Llaw⟩]
theorem fns_eq : fns = fnsL := by
  refine List.ext_getElem? fun i => ?_
  match i with
  | 0 => exact at_Pis_whole
  | 1 => exact at_Pfits_strip
  | 2 => exact at_Pfits_string
  | 3 => exact at_Pfits_drawing
  | 4 => exact at_Pfits_place
  | 5 => exact at_Pfits_tie
  | 6 => exact at_Psign_of
  | 7 => exact at_Ptie_at
  | 8 => exact at_Pall_ties
  | 9 => exact at_Pdrawn
  | 10 => exact at_Pneed_strip
  | 11 => exact at_Pneed_drawing
  | 12 => exact at_Pis_strip
  | 13 => exact at_Pis_drawing
  | 14 => exact at_Pties_of
  | 15 => exact at_Pdrawing_of
  | 16 => exact at_Ldrum
  | 17 => exact at_Lroll
  | 18 => exact at_Lsome
  | 19 => exact at_Lplaces
  | 20 => exact at_Lties
  | 21 => exact at_Ldrawn
  | 22 => exact at_Lties_of
  | 23 => exact at_Lnear
  | 24 => exact at_Lstrip
  | 25 => exact at_Lwalk
  | 26 => exact at_Lwalk_ties
  | 27 => exact at_Lany
  | 28 => exact at_Lodd
  | 29 => exact at_Lbent
  | 30 => exact at_Lwhole
  | 31 => exact at_Lis_strip
  | 32 => exact at_Lis_drawing
  | 33 => exact at_Lare_ties
  | 34 => exact at_Ljudged
  | 35 => exact at_Llaw
  | n + 36 => rfl
def tbL : Tab := ⟨fnsL, pg.nm⟩
theorem tb_eq : tb = tbL := congrArg (fun f => (⟨f, pg.nm⟩ : Tab)) fns_eq
def bEnd : Sts := (.cons (.sett (.cons (.nm 5) (.cons (.nm 6) .nil)) (.tup (.cons (.tup (.cons (.con (.int 2)) (.cons (.con (.int 3)) .nil))) (.cons (.tup (.cons (.con (.str "110")) (.cons (.con (.str "101")) (.cons (.con (.str "000")) .nil)))) .nil)))) (.cons (.set 2 (.lc [10] (.nm 10) (.val (.tup (.cons (.loc 5) (.cons (.tup (.cons (.con (.int 4)) (.cons (.con (.int 1)) .nil))) (.cons (.tup (.cons (.con (.int 1)) (.cons (.con (.int 61)) .nil))) (.cons (.tup (.cons (.con (.int 0)) (.cons (.con (.int 1)) .nil))) (.cons (.tup (.cons (.con (.int 3)) (.cons (.con (.int 60)) .nil))) (.cons (.tup (.cons (.con (.int 1)) (.cons (.con (.int 0)) .nil))) .nil)))))))) .nil e_Llaw)) (.cons (.iff (.cmp .NotEq (.loc 2) (.lst (.cons (.con (.bool true)) (.cons (.con (.bool false)) (.cons (.con (.bool false)) (.cons (.con (.bool false)) (.cons (.con (.bool true)) (.cons (.con (.bool false)) .nil)))))))) (.cons (.ret (.con (.bool false))) .nil) .nil) (.cons (.iff (.or (.cmp .IsNot (.call i_Pis_drawing (.cons (.loc 5) (.cons (.loc 6) .nil))) (.con (.bool true))) (.call i_Pis_drawing (.cons (.loc 5) (.cons (.tup (.cons (.con (.str "110")) (.cons (.con (.str "101")) (.cons (.con (.str "001")) .nil)))) .nil)))) (.cons (.ret (.con (.bool false))) .nil) .nil) (.cons (.iff (.cmp .IsNot (.call i_Pis_drawing (.cons (.tup (.cons (.con (.int 1)) (.cons (.con (.int 2)) .nil))) (.cons (.tup (.cons (.con (.str "1")) (.cons (.con (.str "0")) .nil))) .nil))) (.con (.bool true))) (.cons (.ret (.con (.bool false))) .nil) .nil) (.cons (.iff (.cmp .NotEq (.call i_Pties_of (.cons (.loc 5) (.cons (.loc 6) .nil))) (.lst (.cons (.tup (.cons (.tup (.cons (.con (.int 0)) (.cons (.con (.int 0)) .nil))) (.cons (.tup (.cons (.con (.int 0)) (.cons (.con (.int 1)) .nil))) .nil))) (.cons (.tup (.cons (.tup (.cons (.con (.int 0)) (.cons (.con (.int 0)) .nil))) (.cons (.tup (.cons (.con (.int 1)) (.cons (.con (.int 0)) .nil))) .nil))) (.cons (.tup (.cons (.tup (.cons (.con (.int 1)) (.cons (.con (.int 0)) .nil))) (.cons (.tup (.cons (.con (.int 1)) (.cons (.con (.int 1)) .nil))) .nil))) (.cons (.tup (.cons (.tup (.cons (.con (.int 1)) (.cons (.con (.int 1)) .nil))) (.cons (.tup (.cons (.con (.int 2)) (.cons (.con (.int 1)) .nil))) .nil))) .nil)))))) (.cons (.ret (.con (.bool false))) .nil) .nil) (.cons (.iff (.or (.cmp .NotEq (.call i_Pdrawing_of (.cons (.tup (.cons (.con (.int 2)) (.cons (.con (.int 2)) .nil))) (.cons (.tup (.cons (.tup (.cons (.tup (.cons (.con (.int 0)) (.cons (.con (.int 0)) .nil))) (.cons (.tup (.cons (.con (.int 1)) (.cons (.con (.int 0)) .nil))) .nil))) (.cons (.tup (.cons (.tup (.cons (.con (.int 0)) (.cons (.con (.int 0)) .nil))) (.cons (.tup (.cons (.con (.int 0)) (.cons (.con (.int 1)) .nil))) .nil))) .nil))) .nil))) (.tup (.cons (.con (.str "110")) (.cons (.con (.str "000")) .nil)))) (.cmp .NotEq (.call i_Pdrawing_of (.cons (.tup (.cons (.con (.int 1)) (.cons (.con (.int 1)) .nil))) (.cons (.tup .nil) .nil))) (.tup (.cons (.con (.str "0")) .nil)))) (.cons (.ret (.con (.bool false))) .nil) .nil) (.cons (.ret (.and (.cmp .Eq (.err (.call i_Pdrawing_of (.cons (.loc 5) (.cons (.tup (.cons (.tup (.cons (.tup (.cons (.con (.int 1)) (.cons (.con (.int 0)) .nil))) (.cons (.tup (.cons (.con (.int 0)) (.cons (.con (.int 0)) .nil))) .nil))) .nil)) .nil)))) (.con (.str "ties value"))) (.call i_Pis_drawing (.cons (.tup (.cons (.con (.int 1)) (.cons (.con (.int 1)) .nil))) (.cons (.tup (.cons (.con (.str "0")) .nil)) .nil))))) .nil))))))))
abbrev L23 : PyData := .tuple [.int 2, .int 3]
abbrev Lline : PyData := .tuple [.str "110", .str "101", .str "000"]
theorem d1 (S : Store) : callN tb 39 i_Pis_drawing [.d L23, .d Lline] S = .ok (.d (.bool true)) S := call_any (ps := [L23, Lline]) (by rw [tb_eq]; kernel_rfl) S
theorem d2 (S : Store) : callN tb 39 i_Pis_drawing [.d L23, .d (.tuple [.str "110", .str "101", .str "001"])] S = .ok (.d (.bool false)) S := call_any (ps := [L23, .tuple [.str "110", .str "101", .str "001"]]) (by rw [tb_eq]; kernel_rfl) S
theorem d3 (S : Store) : callN tb 39 i_Pis_drawing [.d (.tuple [.int 1, .int 2]), .d (.tuple [.str "1", .str "0"])] S = .ok (.d (.bool true)) S := call_any (ps := [.tuple [.int 1, .int 2], .tuple [.str "1", .str "0"]]) (by rw [tb_eq]; kernel_rfl) S
abbrev pp (a b : Int) : PyData := .tuple [.int a, .int b]
abbrev tt (a b c d : Int) : PyData := .tuple [pp a b, pp c d]
abbrev Lties4 : PyData := .list [tt 0 0 0 1, tt 0 0 1 0, tt 1 0 1 1, tt 1 1 2 1]
theorem isD23 : IsD 2 3 [[49, 49, 48], [49, 48, 49], [48, 48, 48]] where
  len := rfl
  wid := by decide
  sg := by decide
  last := fun j hj => by
    unfold hasB
    rw [decide_eq_false_iff_not]
    match j with
    | 0 => decide
    | 1 => decide
    | 2 => decide
    | j + 3 => intro z; cases z
theorem d4 (S : Store) : callN tb 39 i_Pties_of [.d L23, .d Lline] S = .ok (.d Lties4) S := by
  have h := pties_ok (S := S) (by decide) (by decide) (by decide) (by decide) isD23
  have e1 : (PyData.tuple ([[49, 49, 48], [49, 48, 49], [48, 48, 48]].map sD)) = Lline := by
    rw [show Lline = .tuple [.str "110", .str "101", .str "000"] from rfl, show (PyData.str "110") = sD [49, 49, 48] from str_lit (by decide), show (PyData.str "101") = sD [49, 48, 49] from str_lit (by decide), show (PyData.str "000") = sD [48, 48, 48] from str_lit (by decide)]
    rfl
  have e2 : tis 2 3 [[49, 49, 48], [49, 48, 49], [48, 48, 48]] = [((0, 0), (0, 1)), ((0, 0), (1, 0)), ((1, 0), (1, 1)), ((1, 1), (2, 1))] := by decide +kernel
  rw [e1, e2] at h
  exact h
theorem d5 (S : Store) : callN tb 39 i_Pdrawing_of [.d (pp 2 2), .d (.tuple [tt 0 0 1 0, tt 0 0 0 1])] S = .ok (.d (.tuple [.str "110", .str "000"])) S := call_any (ps := [pp 2 2, .tuple [tt 0 0 1 0, tt 0 0 0 1]]) (by rw [tb_eq]; kernel_rfl) S
theorem d6 (S : Store) : callN tb 39 i_Pdrawing_of [.d (pp 1 1), .d (.tuple [])] S = .ok (.d (.tuple [.str "0"])) S := call_any (ps := [pp 1 1, .tuple []]) (by rw [tb_eq]; kernel_rfl) S
theorem d7 (S : Store) : callN tb 37 i_Pdrawing_of [.d L23, .d (.tuple [tt 1 0 0 0])] S = .exc x_InvalidTies S := call_anyX (ps := [L23, .tuple [tt 1 0 0 0]]) (by rw [tb_eq]; kernel_rfl) S
theorem d8 (S : Store) : callN tb 39 i_Pis_drawing [.d (pp 1 1), .d (.tuple [.str "0"])] S = .ok (.d (.bool true)) S := call_any (ps := [pp 1 1, .tuple [.str "0"]]) (by rw [tb_eq]; kernel_rfl) S
end K01
end

section
set_option Elab.async false
set_option linter.all false
set_option maxRecDepth 100000
set_option maxHeartbeats 1000000
namespace K01
open PySem Ev
theorem end_ok (S : Store) (a0 a1 a2 a3 a4 a5 a6 a7 a8 a9 a10 a11 a12 a13 : Option U) :
    evSs g39 bEnd [a0, a1, a2, a3, a4, a5, a6, a7, a8, a9, a10, a11, a12, a13] S = .ok (.rt (.d (.bool true))) S := by
  have g : g39.call = callN tb 39 := rfl
  have e3 : 3 ≤ line := by decide
  have e6 : 6 ≤ line := by decide
  have e4 : 4 ≤ line := by decide
  unfold bEnd
  refine k_sett (u := .d (.tuple [L23, Lline])) (S1 := S) (by simp [evX, evXs, datas, two_line, e3]) rfl ?_
  have hlc : evX g39 (.lc [10] (.nm 10) (.val (.tup (.cons (.loc 5) (.cons (.tup (.cons (.con (.int 4)) (.cons (.con (.int 1)) .nil))) (.cons (.tup (.cons (.con (.int 1)) (.cons (.con (.int 61)) .nil))) (.cons (.tup (.cons (.con (.int 0)) (.cons (.con (.int 1)) .nil))) (.cons (.tup (.cons (.con (.int 3)) (.cons (.con (.int 60)) .nil))) (.cons (.tup (.cons (.con (.int 1)) (.cons (.con (.int 0)) .nil))) .nil)))))))) .nil e_Llaw)
      [a0, a1, a2, a3, a4, some (.d L23), some (.d Lline), a7, a8, a9, a10, a11, a12, a13] S = .ok (.d (.list [.bool true, .bool false, .bool false, .bool false, .bool true, .bool false])) S := by
    refine (lc_all (xs := [L23, pp 4 1, pp 1 61, pp 0 1, pp 3 60, pp 1 0]) U.d (fun v => .bool (stripB v)) ?_ (by show (6 : Nat) ≤ 16777216; omega) fun v _ => ⟨_, rfl, ?_⟩).trans ?_
    · exact it_tup (xs := [L23, pp 4 1, pp 1 61, pp 0 1, pp 3 60, pp 1 0]) (by simp [evX, evXs, datas, two_line, e6])
    · rw [ev_call1 (S1 := S) (u := .d v) rfl, g]
      exact pis_strip 36 S v
    · have : [L23, pp 4 1, pp 1 61, pp 0 1, pp 3 60, pp 1 0].map (fun v => PyData.bool (stripB v)) = [.bool true, .bool false, .bool false, .bool false, .bool true, .bool false] := by kernel_rfl
      rw [this]
  refine k_set hlc ?_
  dsimp only [List.set]
  refine k_ifF (S1 := S) (tru_bool (ev_cmp (o := .NotEq) (S1 := S) (p := .list [.bool true, .bool false, .bool false, .bool false, .bool true, .bool false]) (q := .list [.bool true, .bool false, .bool false, .bool false, .bool true, .bool false]) rfl (by simp [evX, evXs, datas, e6]) (ne_same (by kernel_rfl)))) ?_
  refine k_ifF (S1 := S) (tru_bool (ev_orF (S1 := S) (ev_cmp (o := .IsNot) (S1 := S) (p := .bool true) (q := .bool true) ?_ rfl rfl) ?_)) ?_
  · rw [ev_call2 (S1 := S) (S2 := S) (u := .d L23) (v := .d Lline) rfl rfl, g]
    exact d1 S
  · rw [ev_call2 (S1 := S) (S2 := S) (u := .d L23) (v := .d (.tuple [.str "110", .str "101", .str "001"])) rfl (by simp [evX, evXs, datas, e3]), g]
    exact d2 S
  refine k_ifF (S1 := S) (tru_bool (ev_cmp (o := .IsNot) (S1 := S) (p := .bool true) (q := .bool true) ?_ rfl rfl)) ?_
  · rw [ev_call2 (S1 := S) (S2 := S) (u := .d (.tuple [.int 1, .int 2])) (v := .d (.tuple [.str "1", .str "0"])) (by simp [evX, evXs, datas, two_line]) (by simp [evX, evXs, datas, two_line]), g]
    exact d3 S
  refine k_ifF (S1 := S) (tru_bool (ev_cmp (o := .NotEq) (S1 := S) (p := Lties4) (q := Lties4) ?_ (by simp [evX, evXs, datas, two_line, e4]) (ne_same (by kernel_rfl)))) ?_
  · rw [ev_call2 (S1 := S) (S2 := S) (u := .d L23) (v := .d Lline) rfl rfl, g]
    exact d4 S
  refine k_ifF (S1 := S) (tru_bool (ev_orF (S1 := S) (ev_cmp (o := .NotEq) (S1 := S) (p := .tuple [.str "110", .str "000"]) (q := .tuple [.str "110", .str "000"]) ?_ (by simp [evX, evXs, datas, two_line]) (ne_same (by kernel_rfl))) (ev_cmp (o := .NotEq) (S1 := S) (p := .tuple [.str "0"]) (q := .tuple [.str "0"]) ?_ (by simp [evX, evXs, datas, one_line]) (ne_same (by kernel_rfl))))) ?_
  · rw [ev_call2 (S1 := S) (S2 := S) (u := .d (pp 2 2)) (v := .d (.tuple [tt 0 0 1 0, tt 0 0 0 1])) (by simp [evX, evXs, datas, two_line]) (by simp [evX, evXs, datas, two_line]), g]
    exact d5 S
  · rw [ev_call2 (S1 := S) (S2 := S) (u := .d (pp 1 1)) (v := .d (.tuple [])) (by simp [evX, evXs, datas, two_line]) (by simp [evX, evXs, datas]), g]
    exact d6 S
  refine k_ret (ev_andT (S1 := S) (ev_cmp (o := .Eq) (S1 := S) (p := .str "ties value") (q := .str "ties value") (ev_errX (low_eq tb 37) ?_ nm_ties) rfl (eq_same (by kernel_rfl))) ?_)
  · rw [ev_call2 (S1 := S) (S2 := S) (u := .d L23) (v := .d (.tuple [tt 1 0 0 0])) rfl (by simp [evX, evXs, datas, two_line, one_line])]
    exact d7 S
  · rw [ev_call2 (S1 := S) (S2 := S) (u := .d (pp 1 1)) (v := .d (.tuple [.str "0"])) (by simp [evX, evXs, datas, two_line]) (by simp [evX, evXs, datas, one_line]), g]
    exact d8 S
theorem plain : Plain := by
  intro ns hn hbits
  have hN : ns.length + 1 ≤ line := by show _ ≤ 16777216; omega
  obtain ⟨ρ', S', h1, a1, a2, a3, a4, a5, a6, a7, a8, a9, a10, a11, a12, a13, rfl⟩ := loop_pre (t := .nm 1) (body := fun ρ S => evSs g39 b4_Llaw ρ S) (fun c : Int => U.d (.int c))
    (fun _ ρ S' => ∃ a1 a2 a3 a4 a5 a6 a7 a8 a9 a10 a11 a12 a13, ρ = [some (.scr ns), a1, a2, a3, a4, a5, a6, a7, a8, a9, a10, a11, a12, a13])
    ((0 :: ns).take 8) (ρ := [some (.scr ns), none, none, none, none, none, none, none, none, none, none, none, none, none]) (S := []) ⟨_, _, _, _, _, _, _, _, _, _, _, _, _, rfl⟩ (fun pre cell post hp ρ S' hI => by
      obtain ⟨a1, a2, a3, a4, a5, a6, a7, a8, a9, a10, a11, a12, a13, rfl⟩ := hI
      obtain ⟨c3, c4, c7, c8, c9, c10, c11, c12, c13, S4, q⟩ := cell_ok S' cell (some (.scr ns)) a2 a3 a4 a5 a6 a7 a8 a9 a10 a11 a12 a13
      exact ⟨_, _, S4, rfl, q, _, _, _, _, _, _, _, _, _, _, _, _, _, rfl⟩)
  refine ⟨[], ?_⟩
  show callN tb (39 + 1) i_Llaw [.scr ns] [] = _
  refine call_v at_Llaw rfl rfl (S1 := S') ?_ rfl
  show evSs g39 (.cons (.forr (.nm 1) (.val (.slc (.bin .Add (.lst (.cons (.con (.int 0)) .nil)) (.loc 0)) .nil (.cons (.con (.int 8)) .nil))) b4_Llaw) bEnd) [some (.scr ns), none, none, none, none, none, none, none, none, none, none, none, none, none] [] = _
  have hit : evX g39 (.slc (.bin .Add (.lst (.cons (.con (.int 0)) .nil)) (.loc 0)) .nil (.cons (.con (.int 8)) .nil)) [some (.scr ns), none, none, none, none, none, none, none, none, none, none, none, none, none] [] = .ok (.d (.list (((0 :: ns).take 8).map .int))) [] := by
    have e2 : slcD (.list (.int 0 :: ns.map .int)) none (some 8) = some (.list (((0 :: ns).take 8).map .int)) := by
      show some (PyData.list (cutD _ none (some 8))) = _
      rw [cutD_to (by decide)]
      show some (PyData.list ((((0 : Int) :: ns).map PyData.int).take 8)) = _
      rw [← List.map_take]
    have e3 : 1 + ns.length ≤ line := by omega
    simp [evX, evXs, datas, show 1 ≤ line by decide, binU, e2, optI, hN, e3]
  have hit2 : evIt g39 (.val (.slc (.bin .Add (.lst (.cons (.con (.int 0)) .nil)) (.loc 0)) .nil (.cons (.con (.int 8)) .nil))) [some (.scr ns), none, none, none, none, none, none, none, none, none, none, none, none, none] [] = .ok (.fix (((0 :: ns).take 8).map fun c : Int => U.d (.int c))) [] := by
    rw [it_list hit, List.map_map]
    rfl
  rw [ss_cons (ev_for hit2 h1)]
  exact end_ok _ _ _ _ _ _ _ _ _ _ _ _ _ _ _
end K01
end

theorem PySem.Challenge.cw_stripwalks_k01_strips_known_holds : PySem.Challenge.rw_stripwalks_k01_strips_known.Holds := by
  exact K01.holds_of K01.plain
