import PyProof.Rows.All
import Wide.All
import OpenK.AllK
import Wide.FinOn
import HandS.ForMost
import HandS.Exc
import HandS.TryOnly
import HandS.ExcOwn
import HandS.Wide
import HandS.Deep
import HandS.TupAny
import HandS.TupMul
import HandS.StrMore
import HandS.IsInst
import HandS.Flow
import HandS.Style
import HandS.Zip
import HandS.SetFor
import HandS.Lambda
import HandS.EndTab
import HandS.HotCalls
import KE.SortData
import HandS.ExcCtx
import HandS.ExcInit
import KE.KExcSuper
import HandS.ExcSuper
import PyProof.ExcBaseAll.ValueError
import HandS.HeadWalk
import HandS.HeadHook4
import HandS.ExcIs
import KE.KExcIs
import PyProof.P3Eq
import HandS.Head0
import HandS.Head1
import HandS.Head2
import HandS.HeadEnd
import HandS.HeadHook1
import HandS.HeadHook2
import PySem.Challenge.RW_stripwalks_k06_whole_walks_that_are_trap
section
set_option Elab.async false
set_option linter.all false
set_option autoImplicit false
set_option maxRecDepth 100000
set_option maxHeartbeats 4000000
/-! # The little language: values, stores, expressions, statements, and what they come to -/
namespace Ev
open PySem

/-- a value: frozen data, or a box of the store -/
inductive U where
  | d (p : PyData)
  | ref (i : Nat)
  /-- the script -/
  | scr (ns : List Int)
  /-- an object of which nothing is told -/
  | obj (a : Nat)
inductive Box where
  | lst (xs : List PyData)
  | dct (kvs : List (PyData × PyData))
  | ins (c : Nat) (fs : List (Str × U))
abbrev Store := List Box
abbrev Rho := List (Option U)
inductive R (α : Type) where
  | ok (a : α) (S : Store)
  | exc (c : Nat) (S : Store)
  | bad
def R.bind {α β : Type} (r : R α) (f : α → Store → R β) : R β :=
  match r with
  | .ok a S => f a S
  | .exc c S => .exc c S
  | .bad => .bad
def R.of {α : Type} (S : Store) : Option α → R α
  | some a => .ok a S
  | none => .bad

/-! ### operations upon data -/
abbrev line : Nat := 16777216
def b2i (b : Bool) : Int := if b then 1 else 0
/-- a box read -/
def deref (S : Store) : U → Option PyData
  | .d p => some p
  | .ref i => match S[i]? with
    | some (.lst xs) => some (.list xs)
    | some (.dct kvs) => some (.dict kvs)
    | _ => none
  | .scr _ => none
  | .obj _ => none
def smallI (i : Int) : Bool := decide (-(2 ^ 64) < i) && decide (i < 2 ^ 64)
def mulOk (i j : Int) : Bool := smallI i || smallI j || decide (i.natAbs.log2 + j.natAbs.log2 < 1000000)
def reps {α : Type} (k : Int) (xs : List α) : List α := (List.replicate k.toNat xs).flatten
def binD (o : Operator) (x y : PyData) : Option PyData :=
  match o, x, y with
  | .Add, .int i, .int j => some (.int (i + j))
  | .Sub, .int i, .int j => some (.int (i - j))
  | .Mult, .int i, .int j => if mulOk i j = true then some (.int (i * j)) else none
  | .FloorDiv, .int i, .int j => if 0 < j ∧ j.natAbs.log2 < 9000 then some (.int (i / j)) else none
  | .Mod, .int i, .int j => if 0 < j then some (.int (i % j)) else none
  | .Pow, .int i, .int j => if 0 ≤ j ∧ j ≤ 1000000 ∧ i.natAbs < 2 ^ 64 then some (.int (i ^ j.toNat)) else none
  | .Add, .str a, .str b => if a.length + b.length ≤ line then some (.str (a ++ b)) else none
  | .Add, .list a, .list b => if a.length + b.length ≤ line then some (.list (a ++ b)) else none
  | .Add, .tuple a, .tuple b => if a.length + b.length ≤ line then some (.tuple (a ++ b)) else none
  | .Mult, .list a, .int k => if 0 ≤ k ∧ k ≤ 1000 ∧ a.length ≤ 1000 then some (.list (reps k a)) else none
  | .Mult, .tuple a, .int k => if 1 ≤ k ∧ k ≤ 1000 ∧ a.length ≤ 1000 ∧ a.isEmpty = false then some (.tuple (reps k a)) else none
  | .Mult, .str a, .int k => if 0 ≤ k ∧ k ≤ 1000 ∧ a.length ≤ 1000 then some (.str ⟨(reps k a.cps.toList).toArray⟩) else none
  | _, _, _ => none
def hasSub (a b : Str) : Bool := !(Builtin.Str.occurrences b a 0 b.length 1).isEmpty
def eqD (x y : PyData) : Option Bool := if (SeqAt.shaped x && SeqAt.shaped y) = true then some (PyData.eqv x y) else none
def inD (x y : PyData) : Option Bool :=
  match y with
  | .list ys => if (SeqAt.shaped x && SeqAt.shaped (.list ys)) = true then some (ys.any fun z => PyData.eqv z x) else none
  | .tuple ys => if (SeqAt.shaped x && SeqAt.shaped (.tuple ys)) = true then some (ys.any fun z => PyData.eqv z x) else none
  | .str b => match x with
    | .str a => some (hasSub a b)
    | _ => none
  | _ => none
def ltD (x y : PyData) : Option Bool :=
  match x, y with
  | .int i, .int j => some (decide (i < j))
  | .str a, .str b => some (decide (a.cps.toList < b.cps.toList))
  | .tuple a, .tuple b => if (W.alikeAll a b && SeqAt.shaped (.tuple a) && SeqAt.shaped (.tuple b)) = true then some (W.dataLt (.tuple a) (.tuple b)) else none
  | _, _ => none
def leD (x y : PyData) : Option Bool :=
  match x, y with
  | .int i, .int j => some (decide (i ≤ j))
  | _, _ => none
def isNone : PyData → Bool
  | .none => true
  | _ => false
def isD (x y : PyData) : Option Bool :=
  match y with
  | .none => some (isNone x)
  | .bool b => match x with
    | .bool a => some (decide (a = b))
    | _ => none
  | _ => none
def gtD (x y : PyData) : Option Bool :=
  match x, y with
  | .int i, .int j => some (decide (j < i))
  | _, _ => none
def geD (x y : PyData) : Option Bool :=
  match x, y with
  | .int i, .int j => some (decide (j ≤ i))
  | _, _ => none
def cmpD (o : CmpOp) (x y : PyData) : Option Bool :=
  match o with
  | .Eq => eqD x y
  | .NotEq => (eqD x y).map (!·)
  | .In => inD x y
  | .NotIn => (inD x y).map (!·)
  | .Lt => ltD x y
  | .Gt => gtD x y
  | .LtE => leD x y
  | .GtE => geD x y
  | .Is => isD x y
  | .IsNot => (isD x y).map (!·)
/-- truth -/
def truD : PyData → Option Bool
  | .none => some false
  | .bool b => some b
  | .int i => some (i != 0)
  | .list xs => some (!xs.isEmpty)
  | .tuple xs => some (!xs.isEmpty)
  | _ => none
def idxD (x i : PyData) : Option PyData :=
  match x, i with
  | .list xs, .int i => L2.atI xs i
  | .tuple xs, .int i => L2.atI xs i
  | .str z, .int i => if z.length ≤ line then (L2.atI z.cps.toList i).map fun c => .str ⟨#[c]⟩ else none
  | _, _ => none
def cutD {α : Type} (xs : List α) (lo hi : Option Int) : List α := (xs.drop (HT.sIx xs.length 0 lo)).take (HT.sIx xs.length xs.length hi - HT.sIx xs.length 0 lo)
def slcD (x : PyData) (lo hi : Option Int) : Option PyData :=
  match x with
  | .list xs => some (.list (cutD xs lo hi))
  | .tuple xs => some (.tuple (cutD xs lo hi))
  | .str z => if z.length ≤ line then some (.str (L2.cutS z lo hi)) else none
  | _ => none
def revD : PyData → Option PyData
  | .list xs => some (.list xs.reverse)
  | _ => none
/-- the built-in functions -/
inductive Blt where
  | len | isi (T : String) | all | sum | max | min | int | bool | str | abs | tuple | list | sorted | lenset | sortset
  deriving DecidableEq
def tyN : PyData → String
  | .none => "NoneType"
  | .bool _ => "bool"
  | .int _ => "int"
  | .str _ => "str"
  | .list _ => "list"
  | .tuple _ => "tuple"
  | .dict _ => "dict"
def isiD (T : String) (x : PyData) : Bool := tyN x == T || (T == "int" && tyN x == "bool")
def boolsD : List PyData → Option (List Bool)
  | [] => some []
  | .bool b :: r => (boolsD r).map (b :: ·)
  | _ :: _ => none
def intsD : List PyData → Option (List Int)
  | [] => some []
  | .int i :: r => (intsD r).map (i :: ·)
  | _ :: _ => none
def strsD : List PyData → Option (List Str)
  | [] => some []
  | .str s :: r => (strsD r).map (s :: ·)
  | _ :: _ => none
def leastI : Int → List Int → Int
  | m, [] => m
  | m, x :: r => leastI (if x < m then x else m) r
def mostI : Int → List Int → Int
  | m, [] => m
  | m, x :: r => mostI (if m < x then x else m) r
def seqD : PyData → Option (List PyData)
  | .list xs => some xs
  | .tuple xs => some xs
  | _ => none
/-- may be sorted: alike, with nothing that is not ordered -/
def sortOk (xs : List PyData) : Bool := decide (xs.length ≤ line) && (xs.all fun d => xs.all fun e => PySem.W.alike d e) && (xs.all fun d => SeqAt.shaped d) &&
  ((xs.all fun d => match d with | .tuple (_ :: _) => true | _ => false) || xs.all fun d => match d with | .none => false | .tuple _ => false | _ => true)
def sortD (xs : List PyData) : List PyData := xs.mergeSort (PySem.W.dataLe false id)
def bltD (b : Blt) (x : PyData) : Option PyData :=
  match b with
  | .len => match x with
    | .list xs => some (.int xs.length)
    | .tuple xs => some (.int xs.length)
    | .str z => if z.length ≤ line then some (.int z.length) else none
    | _ => none
  | .isi T => some (.bool (isiD T x))
  | .all => match x with
    | .list xs => (boolsD xs).map fun bs => .bool (bs.all id)
    | _ => none
  | .sum => match x with
    | .list xs => (intsD xs).map fun ns => .int ns.sum
    | _ => none
  | .int => match x with
    | .int i => some (.int i)
    | .bool b => some (.int (b2i b))
    | _ => none
  | .bool => match x with
    | .bool b => some (.bool b)
    | _ => none
  | .abs => match x with
    | .int i => some (.int (if i < 0 then -i else i))
    | _ => none
  | .tuple => (seqD x).map .tuple
  | .list => (seqD x).map .list
  | .sorted => match x with
    | .list xs => if sortOk xs = true then some (.list (sortD xs)) else none
    | _ => none
  | _ => none
/-- the methods of texts, lists, tuples -/
inductive Mth where
  | join | split | strip | count | index
  deriving DecidableEq
def joinFit (z : Str) (ys : List Str) : Bool := decide ((ys.map (·.length)).sum + ys.length * z.length ≤ line)
def strsOf : PyData → Option (List Str)
  | .list ys => strsD ys
  | .tuple ys => strsD ys
  | _ => none
def joinD (x y : PyData) : Option PyData :=
  match x with
  | .str z => (strsOf y).bind fun ss => if joinFit z ss = true then some (.str (Txt.join z ss)) else none
  | _ => none
def splitD (x y : PyData) : Option PyData :=
  match x, y with
  | .str a, .str b => if (b.length == 0) = false ∧ a.length + 2 ≤ line then some (.list ((Txt.split a b).map .str)) else none
  | _, _ => none
def stripD (x y : PyData) : Option PyData :=
  match x, y with
  | .str a, .str b => if a.length ≤ line then some (.str (Txt.stripChars a b)) else none
  | _, _ => none
def countD (x y : PyData) : Option PyData :=
  match x with
  | .list ys => if (SeqAt.shaped y && SeqAt.shaped (.list ys)) = true then some (.int (ys.countP fun z => PyData.eqv z y)) else none
  | .tuple ys => if (SeqAt.shaped y && SeqAt.shaped (.tuple ys)) = true then some (.int (ys.countP fun z => PyData.eqv z y)) else none
  | _ => none
def mthD (m : Mth) (x : PyData) (as : List PyData) : Option PyData :=
  match as with
  | [y] => match m with
    | .join => joinD x y
    | .split => splitD x y
    | .strip => stripD x y
    | _ => none
  | _ => none

/-! ### expressions -/
/-- the target of an assignment: a slot, a tuple of targets -/
inductive Tg where
  | nm (i : Nat)
  | nil
  | cons (a r : Tg)
mutual
inductive X where
  | loc (i : Nat)
  | con (p : PyData)
  | bin (o : Operator) (a b : X)
  | neg (a : X)
  | not (a : X)
  | cmp (o : CmpOp) (a b : X)
  | chn (o p : CmpOp) (a b c : X)
  | and (a b : X)
  | or (a b : X)
  | ife (c a b : X)
  | call (f : Nat) (as : Xs)
  | blt (b : Blt) (a : X)
  | mth (m : Mth) (a : X) (as : Xs)
  | idx (a i : X)
  | slc (a : X) (lo hi : Xs)
  | rev (a : X)
  | lst (as : Xs)
  | box (as : Xs)
  | tup (as : Xs)
  | lc (own : List Nat) (t : Tg) (it : It) (c : Xs) (e : X)
  | err (e : X)
  | isE (i a : Nat) (b : Bool)
inductive Xs where
  | nil
  | cons (a : X) (r : Xs)
inductive It where
  | val (a : X)
  | rng (as : Xs)
  | enm (a : X)
  | zip (a b : X)
  | zipL (a b : X)
end
mutual
inductive St where
  | set (i : Nat) (e : X)
  | sett (t : Tg) (e : X)
  | par (is : List Nat) (es : Xs)
  | seti (i : Nat) (k e : X)
  | app (i : Nat) (e : X)
  | exp (e : X)
  | ret (e : X)
  | retN
  | iff (c : X) (a b : Sts)
  | forr (t : Tg) (it : It) (b : Sts)
  | whil (c : X) (b : Sts)
  | rais (c : Nat) (as : Xs)
  | pass
inductive Sts where
  | nil
  | cons (a : St) (r : Sts)
end

abbrev CF := Nat → List U → Store → R U
/-- the calls; those that a function handed over may make; the word for an error of a class -/
structure Cn where
  call : CF
  low : Option CF
  nm : Nat → Option Str

def asB : U → Option Bool
  | .d (.bool b) => some b
  | _ => none
def wipe (ρ : Rho) : List Nat → Rho
  | [] => ρ
  | v :: vs => (wipe ρ vs).set v none
/-- the items at the places of a target -/
def bindT : Tg → U → Rho → Option Rho
  | .nm i, u, ρ => some (ρ.set i (some u))
  | .nil, u, ρ => match u with
    | .d (.tuple []) => some ρ
    | _ => none
  | .cons a r, u, ρ => match u with
    | .d (.tuple (x :: xs)) => (bindT a (.d x) ρ).bind fun ρ' => bindT r (.d (.tuple xs)) ρ'
    | _ => none
def binU (o : Operator) (x y : U) (S : Store) : R U :=
  match o, y with
  | .Add, .scr ns => R.of S (((deref S x).bind fun p => match p with
    | .list a => if a.length + ns.length ≤ line then some (.list (a ++ ns.map .int)) else none
    | _ => none).map .d)
  | _, _ => R.of S (((deref S x).bind fun p => (deref S y).bind fun q => binD o p q).map .d)
def cmpU (o : CmpOp) (x y : U) (S : Store) : Option Bool := (deref S x).bind fun p => (deref S y).bind fun q => cmpD o p q
def datas (S : Store) : List U → Option (List PyData)
  | [] => some []
  | .d p :: r => (datas S r).map (p :: ·)
  | _ :: _ => none
def derefs (S : Store) : List U → Option (List PyData)
  | [] => some []
  | u :: r => (deref S u).bind fun p => (derefs S r).map (p :: ·)
def strItems (z : Str) : List U := z.cps.toList.map fun c => .d (.str ⟨#[c]⟩)
/-- what a loop walks: items that stand, or a list of the store as it stands -/
inductive Src where
  | fix (us : List U)
  | live (i : Nat)
def srcU (S : Store) : U → Option Src
  | .d (.list xs) => some (.fix (xs.map .d))
  | .d (.tuple xs) => some (.fix (xs.map .d))
  | .d (.str z) => some (.fix (strItems z))
  | .ref i => match S[i]? with
    | some (.lst _) => some (.live i)
    | _ => none
  | _ => none
def rngItems (lo : Int) (n : Nat) : List U := (List.range n).map fun i => .d (.int (lo + (i : Nat)))
def smallR (i : Int) : Bool := decide (-(2 ^ 62) ≤ i) && decide (i < 2 ^ 62)
def rngD : List PyData → Option (List U)
  | [.int j] => if smallR j = true then some (rngItems 0 j.toNat) else none
  | [.int i, .int j] => if (smallR i && smallR j) = true then some (rngItems i (j - i).toNat) else none
  | [.int i, .int j, .int c] => if c = -1 ∧ (smallR i && smallR j) = true then some ((List.range (i - j).toNat).map fun k => .d (.int (i - (k : Nat)))) else none
  | _ => none
def enmItems (k : Nat) : List PyData → List U
  | [] => []
  | x :: r => .d (.tuple [.int k, x]) :: enmItems (k + 1) r
def zipItems : List PyData → List PyData → List U
  | x :: xs, y :: ys => .d (.tuple [x, y]) :: zipItems xs ys
  | _, _ => []
inductive F where
  | nx (ρ : Rho)
  | rt (u : U)
/-- a loop over items -/
def loopL (t : Tg) (body : Rho → Store → R F) : List U → Rho → Store → R F
  | [], ρ, S => .ok (.nx ρ) S
  | u :: us, ρ, S => match bindT t u ρ with
    | none => .bad
    | some ρ1 => (body ρ1 S).bind fun f S1 => match f with
      | .nx ρ2 => loopL t body us ρ2 S1
      | .rt v => .ok (.rt v) S1
/-- a loop over a list of the store -/
def loopB (t : Tg) (body : Rho → Store → R F) (b : Nat) : Nat → Nat → Rho → Store → R F
  | 0, _, _, _ => .bad
  | n + 1, j, ρ, S => match S[b]? with
    | some (.lst xs) => match xs[j]? with
      | none => .ok (.nx ρ) S
      | some x => match bindT t (.d x) ρ with
        | none => .bad
        | some ρ1 => (body ρ1 S).bind fun f S1 => match f with
          | .nx ρ2 => loopB t body b n (j + 1) ρ2 S1
          | .rt v => .ok (.rt v) S1
    | _ => .bad
def loopW (c : Rho → Store → R Bool) (body : Rho → Store → R F) : Nat → Rho → Store → R F
  | 0, _, _ => .bad
  | n + 1, ρ, S => (c ρ S).bind fun b S1 => if b = true then (body ρ S1).bind fun f S2 => match f with
      | .nx ρ2 => loopW c body n ρ2 S2
      | .rt v => .ok (.rt v) S2
    else .ok (.nx ρ) S1
/-- a comprehension's loop: what it makes -/
def compL (t : Tg) (c : Rho → Store → R Bool) (e : Rho → Store → R PyData) (ρ : Rho) : List U → Store → R (List PyData)
  | [], S => .ok [] S
  | u :: us, S => match bindT t u ρ with
    | none => .bad
    | some ρ1 => (c ρ1 S).bind fun b S1 => if b = true then (e ρ1 S1).bind fun y S2 => (compL t c e ρ us S2).bind fun ys S3 => .ok (y :: ys) S3
      else compL t c e ρ us S1
/-- .. over a list of the store -/
def compB (t : Tg) (c : Rho → Store → R Bool) (e : Rho → Store → R PyData) (ρ : Rho) (b : Nat) : Nat → Nat → Store → R (List PyData)
  | 0, _, _ => .bad
  | n + 1, j, S => match S[b]? with
    | some (.lst xs) => match xs[j]? with
      | none => .ok [] S
      | some x => match bindT t (.d x) ρ with
        | none => .bad
        | some ρ1 => (c ρ1 S).bind fun k S1 => if k = true then (e ρ1 S1).bind fun y S2 => (compB t c e ρ b n (j + 1) S2).bind fun ys S3 => .ok (y :: ys) S3
          else compB t c e ρ b n (j + 1) S1
    | _ => .bad
/-- nothing is raised within a comprehension -/
def noexc {α : Type} : R α → R α
  | .exc _ _ => .bad
  | r => r
def dataR (r : R U) : R PyData := r.bind fun u S => match u with
  | .d p => .ok p S
  | _ => .bad
def boolR (r : R U) : R Bool := r.bind fun u S => R.of S (asB u)
def truR (r : R U) : R Bool := r.bind fun u S => R.of S ((deref S u).bind truD)
def optI : List U → Option (Option Int)
  | [] => some none
  | [.d (.int i)] => some (some i)
  | _ => none
mutual
def evX (g : Cn) : X → Rho → Store → R U
  | .loc i, ρ, S => match ρ[i]? with
    | some (some u) => .ok u S
    | _ => .bad
  | .con p, _, S => .ok (.d p) S
  | .bin o a b, ρ, S => (evX g a ρ S).bind fun x S1 => (evX g b ρ S1).bind fun y S2 => binU o x y S2
  | .neg a, ρ, S => (evX g a ρ S).bind fun x S1 => match x with
    | .d (.int i) => .ok (.d (.int (-i))) S1
    | _ => .bad
  | .not a, ρ, S => (truR (evX g a ρ S)).bind fun b S1 => .ok (.d (.bool (!b))) S1
  | .cmp o a b, ρ, S => (evX g a ρ S).bind fun x S1 => (evX g b ρ S1).bind fun y S2 => R.of S2 ((cmpU o x y S2).map fun b => .d (.bool b))
  | .chn o p a b c, ρ, S => (evX g a ρ S).bind fun x S1 => (evX g b ρ S1).bind fun y S2 => (R.of S2 (cmpU o x y S2)).bind fun k S3 =>
      if k = true then (evX g c ρ S3).bind fun z S4 => R.of S4 ((cmpU p y z S4).map fun b => .d (.bool b)) else .ok (.d (.bool false)) S3
  | .and a b, ρ, S => (boolR (evX g a ρ S)).bind fun k S1 => if k = true then evX g b ρ S1 else .ok (.d (.bool false)) S1
  | .or a b, ρ, S => (boolR (evX g a ρ S)).bind fun k S1 => if k = true then .ok (.d (.bool true)) S1 else evX g b ρ S1
  | .ife c a b, ρ, S => (truR (evX g c ρ S)).bind fun k S1 => if k = true then evX g a ρ S1 else evX g b ρ S1
  | .call f as, ρ, S => (evXs g as ρ S).bind fun us S1 => g.call f us S1
  | .blt b a, ρ, S => (evX g a ρ S).bind fun x S1 => R.of S1 (((deref S1 x).bind fun p => bltD b p).map .d)
  | .mth m a as, ρ, S => (evX g a ρ S).bind fun x S1 => match x with
    | .d (.str z) => (evXs g as ρ S1).bind fun us S2 => R.of S2 (((derefs S2 us).bind fun ps => mthD m (.str z) ps).map .d)
    | _ => .bad
  | .idx a i, ρ, S => (evX g a ρ S).bind fun x S1 => (evX g i ρ S1).bind fun y S2 => R.of S2 (((deref S2 x).bind fun p => (deref S2 y).bind fun q => idxD p q).map .d)
  | .slc a lo hi, ρ, S => (evX g a ρ S).bind fun x S1 => ((evXs g lo ρ S1).bind fun us S2 => R.of S2 (optI us)).bind fun l S3 => ((evXs g hi ρ S3).bind fun us S4 => R.of S4 (optI us)).bind fun h S5 =>
      R.of S5 (((deref S5 x).bind fun p => slcD p l h).map .d)
  | .rev a, ρ, S => (evX g a ρ S).bind fun x S1 => R.of S1 (((deref S1 x).bind revD).map .d)
  | .lst as, ρ, S => (evXs g as ρ S).bind fun us S1 => R.of S1 ((datas S1 us).bind fun ps => if ps.length ≤ line then some (.d (.list ps)) else none)
  | .box as, ρ, S => (evXs g as ρ S).bind fun us S1 => match datas S1 us with
    | some ps => if ps.length ≤ line then .ok (.ref S1.length) (S1 ++ [.lst ps]) else .bad
    | none => .bad
  | .tup as, ρ, S => (evXs g as ρ S).bind fun us S1 => R.of S1 ((datas S1 us).bind fun ps => if ps.length ≤ line then some (.d (.tuple ps)) else none)
  | .lc own t it c e, ρ, S => (noexc (evIt g it ρ S)).bind fun s S1 => match s with
    | .fix us => if us.length ≤ line then (noexc (compL t (fun ρ S => evC g c ρ S) (fun ρ S => dataR (evX g e ρ S)) (wipe ρ own) us S1)).bind fun ys S2 => .ok (.d (.list ys)) S2 else .bad
    | .live b => (noexc (compB t (fun ρ S => evC g c ρ S) (fun ρ S => dataR (evX g e ρ S)) (wipe ρ own) b 100000 0 S1)).bind fun ys S2 => .ok (.d (.list ys)) S2
  | .err e, ρ, S => match g.low with
    | none => .bad
    | some lf => match evX ⟨lf, none, g.nm⟩ e ρ S with
      | .ok _ S1 => .ok (.d (.str ⟨#[]⟩)) S1
      | .exc c S1 => R.of S1 ((g.nm c).map fun z => .d (.str z))
      | .bad => .bad
  | .isE i a b, ρ, S => match ρ[i]? with
    | some (some (.obj a')) => if a' = a then .ok (.d (.bool b)) S else .bad
    | _ => .bad
def evXs (g : Cn) : Xs → Rho → Store → R (List U)
  | .nil, _, S => .ok [] S
  | .cons a r, ρ, S => (evX g a ρ S).bind fun x S1 => (evXs g r ρ S1).bind fun xs S2 => .ok (x :: xs) S2
/-- a comprehension's tests -/
def evC (g : Cn) : Xs → Rho → Store → R Bool
  | .nil, _, S => .ok true S
  | .cons a _, ρ, S => truR (evX g a ρ S)
def evIt (g : Cn) : It → Rho → Store → R Src
  | .val a, ρ, S => (evX g a ρ S).bind fun x S1 => R.of S1 (srcU S1 x)
  | .rng as, ρ, S => (evXs g as ρ S).bind fun us S1 => R.of S1 (((datas S1 us).bind rngD).map .fix)
  | .enm a, ρ, S => (evX g a ρ S).bind fun x S1 => match x with
    | .d (.list xs) => .ok (.fix (enmItems 0 xs)) S1
    | _ => .bad
  | .zip a b, ρ, S => (evX g a ρ S).bind fun x S1 => (evX g b ρ S1).bind fun y S2 => match x, y with
    | .d (.list xs), .d (.list ys) => .ok (.fix (zipItems xs ys)) S2
    | .d (.tuple xs), .d (.tuple ys) => .ok (.fix (zipItems xs ys)) S2
    | _, _ => .bad
  | .zipL a b, ρ, S => (evX g a ρ S).bind fun x S1 => (evX g b ρ S1).bind fun y S2 => match x, y with
    | .d (.list xs), .d (.list ys) => .ok (.fix (zipItems xs ys)) S2
    | _, _ => .bad
end
def setSlots : List Nat → List U → Rho → Option Rho
  | [], [], ρ => some ρ
  | i :: is, u :: us, ρ => setSlots is us (ρ.set i (some u))
  | _, _, _ => none
/-- a place of a list, or the next one, is written -/
def putL (b : Nat) (u q : U) (ρ : Rho) (S : Store) : R F :=
  match u, q with
  | .d p, .d (.int j) => match S[b]? with
    | some (.lst xs) => match L2.ixN xs.length j with
      | some m => .ok (.nx ρ) (S.set b (.lst (xs.set m p)))
      | none => .bad
    | _ => .bad
  | _, _ => .bad
def appL (b : Nat) (u : U) (ρ : Rho) (S : Store) : R F :=
  match u with
  | .d p => match S[b]? with
    | some (.lst xs) => if xs.length < line then .ok (.nx ρ) (S.set b (.lst (xs ++ [p]))) else .bad
    | _ => .bad
  | _ => .bad
mutual
def evS (g : Cn) : St → Rho → Store → R F
  | .set i e, ρ, S => (evX g e ρ S).bind fun u S1 => .ok (.nx (ρ.set i (some u))) S1
  | .sett t e, ρ, S => (evX g e ρ S).bind fun u S1 => R.of S1 ((bindT t u ρ).map .nx)
  | .par is es, ρ, S => (evXs g es ρ S).bind fun us S1 => R.of S1 ((setSlots is us ρ).map .nx)
  | .seti i k e, ρ, S => match ρ[i]? with
    | some (some (.ref b)) => (evX g e ρ S).bind fun u S1 => (evX g k ρ S1).bind fun q S2 => putL b u q ρ S2
    | _ => .bad
  | .app i e, ρ, S => match ρ[i]? with
    | some (some (.ref b)) => (evX g e ρ S).bind fun u S1 => appL b u ρ S1
    | _ => .bad
  | .exp e, ρ, S => (evX g e ρ S).bind fun _ S1 => .ok (.nx ρ) S1
  | .ret e, ρ, S => (evX g e ρ S).bind fun u S1 => .ok (.rt u) S1
  | .retN, _, S => .ok (.rt (.d .none)) S
  | .iff c a b, ρ, S => (truR (evX g c ρ S)).bind fun k S1 => if k = true then evSs g a ρ S1 else evSs g b ρ S1
  | .forr t it b, ρ, S => (evIt g it ρ S).bind fun s S1 => match s with
    | .fix us => loopL t (fun ρ S => evSs g b ρ S) us ρ S1
    | .live i => loopB t (fun ρ S => evSs g b ρ S) i 1000000 0 ρ S1
  | .whil c b, ρ, S => loopW (fun ρ S => truR (evX g c ρ S)) (fun ρ S => evSs g b ρ S) 1000000 ρ S
  | .rais c as, ρ, S => (evXs g as ρ S).bind fun _ S1 => .exc c S1
  | .pass, ρ, S => .ok (.nx ρ) S
def evSs (g : Cn) : Sts → Rho → Store → R F
  | .nil, ρ, S => .ok (.nx ρ) S
  | .cons a r, ρ, S => (evS g a ρ S).bind fun f S1 => match f with
    | .nx ρ1 => evSs g r ρ1 S1
    | .rt u => .ok (.rt u) S1
end
/-- a def: how many parameters, how many names, whether it hands on a box that it made -/
structure Fn where
  np : Nat
  nn : Nat
  keep : Bool
  body : Sts
structure Tab where
  fns : List Fn
  nm : Nat → Option Str
/-- the end of a call: boxes made within go, a list that is handed back is frozen -/
def finish (mk : Bool) (n0 : Nat) : R F → R U
  | .ok (.nx _) S => .ok (.d .none) (S.take n0)
  | .ok (.rt (.d p)) S => .ok (.d p) (if mk = true then S else S.take n0)
  | .ok (.rt (.ref i)) S => if mk = true then .ok (.ref i) S else if i < n0 then .ok (.ref i) (S.take n0) else match deref S (.ref i) with
    | some p => .ok (.d p) (S.take n0)
    | none => .bad
  | .ok (.rt (.scr _)) _ => .bad
  | .ok (.rt (.obj _)) _ => .bad
  | .exc c S => .exc c (S.take n0)
  | .bad => .bad
def start (nn : Nat) (us : List U) : Rho := us.map some ++ List.replicate (nn - us.length) none
def runF (T : Tab) (g : Cn) (f : Nat) (us : List U) (S : Store) : R U :=
  match T.fns[f]? with
  | none => .bad
  | some fn => if us.length = fn.np then finish fn.keep S.length (evSs g fn.body (start fn.nn us) S) else .bad
/-- the calls to a depth, and to lesser ones -/
structure C3 where
  a : CF
  b : CF
  c : CF
def callP (T : Tab) : Nat → C3
  | 0 => ⟨fun _ _ _ => .bad, fun _ _ _ => .bad, fun _ _ _ => .bad⟩
  | n + 1 => ⟨runF T ⟨(callP T n).a, some (callP T n).c, T.nm⟩, (callP T n).a, (callP T n).b⟩
def callN (T : Tab) (n : Nat) : CF := (callP T n).a
def cnN (T : Tab) (n : Nat) : Cn := ⟨(callP T n).a, some (callP T n).c, T.nm⟩
theorem callN_succ (T : Tab) (n : Nat) : callN T (n + 1) = runF T (cnN T n) := rfl
theorem low_eq (T : Tab) (n : Nat) : (cnN T (n + 2)).low = some (callN T n) := rfl
end Ev
end

section
set_option Elab.async false
set_option linter.all false
set_option autoImplicit false
set_option maxRecDepth 100000
set_option maxHeartbeats 4000000
/-! # How the little language's values stand in the abstract heap -/
namespace Ev
open PySem PySem.Spec PyProof.Rows L2

/-- the boxes, in order; and other objects that nobody may hand out (a list that a comprehension is making) -/
structure Ms where
  b : List Addr
  x : List Addr
instance : Membership Addr Ms := ⟨fun M a => a ∈ M.b ∨ a ∈ M.x⟩
theorem Ms.mem_b {M : Ms} {a : Addr} (h : a ∈ M.b) : a ∈ M := .inl h
theorem Ms.mem_x {M : Ms} {a : Addr} (h : a ∈ M.x) : a ∈ M := .inr h
theorem Ms.not_b {M : Ms} {a : Addr} (h : a ∉ M) : a ∉ M.b := fun z => h (.inl z)
/-- one box more; one more that nobody may hand out -/
def Ms.add (M : Ms) (p : Addr) : Ms := ⟨M.b ++ [p], M.x⟩
def Ms.hide (M : Ms) (p : Addr) : Ms := ⟨M.b, p :: M.x⟩

/-- a tuple at a: tracked, not a box; or an object of the module -/
def TupAt (K : W.Frag) (M : Ms) (H : Hp) (a : Addr) (xs : List V) : Prop :=
  (a ∉ M ∧ H a = some (.tup xs)) ∨
    ∃ (o : Obj) (its : Array Value) (n : Nat), K.lookup a = some o ∧ o.cls = .type "tuple" ∧ o.data = .seq its n ∧ its.size ≤ sizeLine ∧ Vals xs its.toList
theorem TupAt.sq {K : W.Frag} {M : Ms} {H : Hp} {a : Addr} {xs : List V} (h : TupAt K M H a xs) : SqT K H a xs := h.imp (fun z => .inl z.2) id

/-- the script's list -/
def ScrAt (K : W.Frag) (M : Ms) (H : Hp) (a : Addr) (xs : List V) : Prop :=
  (a ∉ M ∧ Rd H a (.lst xs)) ∨
    ∃ (o : Obj) (its : Array Value) (n : Nat), K.lookup a = some o ∧ o.cls = .type "list" ∧ o.dict = none ∧ o.data = .seq its n ∧ its.size ≤ sizeLine ∧ Vals xs its.toList
theorem ScrAt.sq {K : W.Frag} {M : Ms} {H : Hp} {a : Addr} {xs : List V} (h : ScrAt K M H a xs) : SqL K H a xs := h.imp (fun z => z.2) id
mutual
/-- the value v stands for the data, in the heap H; the lists of the data are none of the boxes M -/
inductive Rp (K : W.Frag) (M : Ms) (H : Hp) : V → PyData → Prop
  | non : Rp K M H .non .none
  | bl (b : Bool) : Rp K M H (.bl b) (.bool b)
  | int (i : Int) : Rp K M H (.int i) (.int i)
  | str (x : Str) : Rp K M H (.str x) (.str x)
  | lst {a : Addr} {xs : List V} {ds : List PyData} : a ∉ M → H a = some (.lst xs) → RpA K M H xs ds → Rp K M H (.ref a) (.list ds)
  | tup {a : Addr} {xs : List V} {ds : List PyData} : TupAt K M H a xs → RpA K M H xs ds → Rp K M H (.ref a) (.tuple ds)
inductive RpA (K : W.Frag) (M : Ms) (H : Hp) : List V → List PyData → Prop
  | nil : RpA K M H [] []
  | cons {v : V} {vs : List V} {d : PyData} {ds : List PyData} : Rp K M H v d → RpA K M H vs ds → RpA K M H (v :: vs) (d :: ds)
end
def RU (K : W.Frag) (M : Ms) (H : Hp) (v : V) : U → Prop
  | .d p => Rp K M H v p
  | .ref i => ∃ a, M.b[i]? = some a ∧ v = .ref a
  | .scr ns => ∃ a, v = .ref a ∧ ScrAt K M H a (ns.map V.int)
  | .obj a => v = .ref a
inductive RUs (K : W.Frag) (M : Ms) (H : Hp) : List V → List U → Prop
  | nil : RUs K M H [] []
  | cons {v : V} {vs : List V} {u : U} {us : List U} : RU K M H v u → RUs K M H vs us → RUs K M H (v :: vs) (u :: us)
/-- what stands at a box -/
def BoxOk (K : W.Frag) (M : Ms) (H : Hp) (a : Addr) : Box → Prop
  | .lst ds => ∃ xs, H a = some (.lst xs) ∧ RpA K M H xs ds
  | .dct _ => False
  | .ins _ _ => False
structure StOk (K : W.Frag) (T : List (Addr × Str)) (M : Ms) (S : Store) (H : Hp) : Prop where
  len : M.b.length = S.length
  nd : M.b.Nodup
  box : ∀ (i : Nat) a b, M.b[i]? = some a → S[i]? = some b → BoxOk K M H a b
  xt : ∀ a, a ∈ M.x → a ∉ M.b ∧ ∃ o, H a = some o ∧ ∀ ps, o ≠ .tbl ps
  tab : LamX.Tabs T H
/-- the slots -/
structure EnvOk (K : W.Frag) (ρ : Rho) (σ : L2.St) (M : Ms) (H : Hp) : Prop where
  len : ρ.length = σ.length
  at_ : ∀ (i : Nat) u, ρ[i]? = some (some u) → ∃ v, σ[i]? = some (some v) ∧ RU K M H v u
/-- nothing, or a table of code objects -/
def NoT (H : Hp) (a : Addr) : Prop := H a = none ∨ ∃ ps, H a = some (.tbl ps)
theorem NoT.ne {H : Hp} {a : Addr} {o : HO} (n : NoT H a) (h : H a = some o) (t : ∀ ps, o ≠ .tbl ps) : False := by
  rcases n with n | ⟨ps, n⟩
  · rw [h] at n; cases n
  · rw [h] at n; exact t ps (Option.some.inj n)
/-- what may have changed -/
structure Gr (M : Ms) (H : Hp) (M' : Ms) (H' : Hp) : Prop where
  pre : M.b <+: M'.b
  ext : ∀ a, a ∈ M.x → a ∈ M'.x
  keep : ∀ a o, H a = some o → a ∉ M.b → (∀ ps, o ≠ .tbl ps) → H' a = some o
  new : ∀ a, a ∈ M' → a ∈ M ∨ NoT H a
  newb : ∀ a, a ∈ M'.b → a ∈ M.b ∨ NoT H a
  dom : ∀ a, NoT H' a → NoT H a

section
variable {K : W.Frag} {T : List (Addr × Str)} {M M' M'' : Ms} {H H' H'' : Hp} {S S' : Store} {ρ : Rho} {σ : L2.St}
theorem Gr.refl (M : Ms) (H : Hp) : Gr M H M H := ⟨List.prefix_refl _, fun _ h => h, fun _ _ h _ _ => h, fun _ h => .inl h, fun _ h => .inl h, fun _ h => h⟩
theorem Gr.neb {a : Addr} {o : HO} (g : Gr M H M' H') (h : H a = some o) (n : a ∉ M.b) (t : ∀ ps, o ≠ .tbl ps) : a ∉ M'.b := fun z => (g.newb a z).elim n fun q => q.ne h t
theorem Gr.trans (a : Gr M H M' H') (b : Gr M' H' M'' H'') : Gr M H M'' H'' where
  pre := a.pre.trans b.pre
  ext := fun x h => b.ext x (a.ext x h)
  keep := fun x o h n t => b.keep x o (a.keep x o h n t) (a.neb h n t) t
  new := fun x h => (b.new x h).elim (a.new x) fun q => .inr (a.dom x q)
  newb := fun x h => (b.newb x h).elim (a.newb x) fun q => .inr (a.dom x q)
  dom := fun x h => a.dom x (b.dom x h)
theorem Gr.ne {a : Addr} {o : HO} (g : Gr M H M' H') (h : H a = some o) (n : a ∉ M) (t : ∀ ps, o ≠ .tbl ps) : a ∉ M' := fun z => (g.new a z).elim n fun q => q.ne h t
theorem Gr.get {i : Nat} {a : Addr} (g : Gr M H M' H') (h : M.b[i]? = some a) : M'.b[i]? = some a := by
  obtain ⟨r, e⟩ := g.pre
  rw [← e, List.getElem?_append_left (List.getElem?_eq_some_iff.mp h).1]
  exact h
theorem Gr.rd {a : Addr} {o : HO} (g : Gr M H M' H') (h : Rd H a o) (n : a ∉ M) (t : ∀ ps, o ≠ .tbl ps) : a ∉ M' ∧ Rd H' a o := by
  rcases h with h | ⟨ob, h⟩
  · exact ⟨g.ne h n t, .inl (g.keep a _ h (Ms.not_b n) t)⟩
  · exact ⟨g.ne h n fun ps z => (by cases z), .inr ⟨ob, g.keep a _ h (Ms.not_b n) fun ps z => by cases z⟩⟩
theorem Gr.at_ {a : Addr} {o : HO} (g : Gr M H M' H') (h : H a = some o) (n : a ∉ M) (t : ∀ ps, o ≠ .tbl ps) : a ∉ M' ∧ H' a = some o := ⟨g.ne h n t, g.keep a _ h (Ms.not_b n) t⟩
theorem TupAt.mono {a : Addr} {xs : List V} (g : Gr M H M' H') (h : TupAt K M H a xs) : TupAt K M' H' a xs := by
  rcases h with ⟨n, h⟩ | h
  · exact .inl (g.at_ h n fun ps z => by cases z)
  · exact .inr h
mutual
theorem Rp.mono (g : Gr M H M' H') : ∀ {v : V} {d : PyData}, Rp K M H v d → Rp K M' H' v d
  | _, _, .non => .non
  | _, _, .bl b => .bl b
  | _, _, .int i => .int i
  | _, _, .str x => .str x
  | _, _, .lst n h r => .lst (g.at_ h n fun ps z => by cases z).1 (g.at_ h n fun ps z => by cases z).2 (RpA.mono g r)
  | _, _, .tup h r => .tup (h.mono g) (RpA.mono g r)
theorem RpA.mono (g : Gr M H M' H') : ∀ {vs : List V} {ds : List PyData}, RpA K M H vs ds → RpA K M' H' vs ds
  | _, _, .nil => .nil
  | _, _, .cons h r => .cons (Rp.mono g h) (RpA.mono g r)
end
theorem RU.mono {v : V} {u : U} (g : Gr M H M' H') (h : RU K M H v u) : RU K M' H' v u := by
  cases u with
  | d p => exact Rp.mono g h
  | ref i => obtain ⟨a, e, q⟩ := h; exact ⟨a, g.get e, q⟩
  | scr ns =>
    obtain ⟨a, e, q⟩ := h
    exact ⟨a, e, q.imp (fun z => g.rd z.2 z.1 fun ps z => by cases z) id⟩
  | obj a => exact h
theorem RUs.mono (g : Gr M H M' H') : ∀ {vs : List V} {us : List U}, RUs K M H vs us → RUs K M' H' vs us
  | _, _, .nil => .nil
  | _, _, .cons h r => .cons (h.mono g) (RUs.mono g r)
theorem RUs.length : ∀ {vs : List V} {us : List U}, RUs K M H vs us → vs.length = us.length
  | _, _, .nil => rfl
  | _, _, .cons _ r => congrArg (· + 1) (RUs.length r)
theorem RpA.length : ∀ {vs : List V} {us : List PyData}, RpA K M H vs us → vs.length = us.length
  | _, _, .nil => rfl
  | _, _, .cons _ r => congrArg (· + 1) (RpA.length r)
theorem RpA.get : ∀ {vs : List V} {us : List PyData} {i : Nat} {d : PyData}, RpA K M H vs us → us[i]? = some d → ∃ v, vs[i]? = some v ∧ Rp K M H v d
  | _, _, i, d, .nil, e => by simp at e
  | _, _, 0, d, .cons h r, e => by simp at e; subst e; exact ⟨_, rfl, h⟩
  | _, _, i + 1, d, .cons h r, e => by
    obtain ⟨v, h1, h2⟩ := RpA.get (i := i) r (by simpa using e)
    exact ⟨v, by simpa using h1, h2⟩
theorem RpA.getV : ∀ {vs : List V} {us : List PyData} {i : Nat} {v : V}, RpA K M H vs us → vs[i]? = some v → ∃ d, us[i]? = some d ∧ Rp K M H v d
  | _, _, i, d, .nil, e => by simp at e
  | _, _, 0, d, .cons h r, e => by simp at e; subst e; exact ⟨_, rfl, h⟩
  | _, _, i + 1, d, .cons h r, e => by
    obtain ⟨v, h1, h2⟩ := RpA.getV (i := i) r (by simpa using e)
    exact ⟨v, by simpa using h1, h2⟩
theorem RpA.append : ∀ {vs ws : List V} {us ts : List PyData}, RpA K M H vs us → RpA K M H ws ts → RpA K M H (vs ++ ws) (us ++ ts)
  | _, _, _, _, .nil, h => h
  | _, _, _, _, .cons a r, h => .cons a (RpA.append r h)
theorem RpA.take : ∀ {vs : List V} {us : List PyData} (n : Nat), RpA K M H vs us → RpA K M H (vs.take n) (us.take n)
  | _, _, 0, _ => .nil
  | _, _, _ + 1, .nil => .nil
  | _, _, n + 1, .cons a r => .cons a (RpA.take n r)
theorem RpA.drop : ∀ {vs : List V} {us : List PyData} (n : Nat), RpA K M H vs us → RpA K M H (vs.drop n) (us.drop n)
  | _, _, 0, h => h
  | _, _, _ + 1, .nil => .nil
  | _, _, n + 1, .cons a r => RpA.drop n r
theorem RpA.set {v : V} {d : PyData} (h : Rp K M H v d) : ∀ {vs : List V} {us : List PyData} (n : Nat), RpA K M H vs us → RpA K M H (vs.set n v) (us.set n d)
  | _, _, _, .nil => .nil
  | _, _, 0, .cons _ r => .cons h r
  | _, _, n + 1, .cons a r => .cons a (RpA.set h n r)
theorem RpA.rev : ∀ {vs : List V} {us : List PyData}, RpA K M H vs us → RpA K M H vs.reverse us.reverse
  | _, _, .nil => .nil
  | _, _, .cons a r => by
    rw [List.reverse_cons, List.reverse_cons]
    exact (RpA.rev r).append (.cons a .nil)
theorem RpA.flat {vs : List V} {us : List PyData} (h : RpA K M H vs us) : ∀ n : Nat, RpA K M H (List.replicate n vs).flatten (List.replicate n us).flatten
  | 0 => .nil
  | n + 1 => by
    rw [List.replicate_succ, List.replicate_succ, List.flatten_cons, List.flatten_cons]
    exact h.append (RpA.flat h n)
mutual
/-- data without dicts, as the library's relation says it -/
theorem Rp.dp : ∀ {v : V} {d : PyData}, Rp K M H v d → Dp K H v d
  | _, _, .non => .non
  | _, _, .bl b => .bl b
  | _, _, .int i => .int i
  | _, _, .str x => .str x
  | _, _, .lst n h r => .lst (.inl (.inl h)) (RpA.dp r)
  | _, _, .tup h r => .tup h.sq (RpA.dp r)
theorem RpA.dp : ∀ {vs : List V} {ds : List PyData}, RpA K M H vs ds → DpAll K H vs ds
  | _, _, .nil => .nil
  | _, _, .cons h r => .cons (Rp.dp h) (RpA.dp r)
end
/-- a box holds an object that is no table -/
theorem StOk.heldb {a : Addr} (s : StOk K T M S H) (h : a ∈ M.b) : ∃ o, H a = some o ∧ ∀ ps, o ≠ .tbl ps := by
  obtain ⟨i, hi⟩ := List.getElem?_of_mem h
  have hl : i < S.length := by rw [← s.len]; exact (List.getElem?_eq_some_iff.mp hi).1
  have hb := s.box i a S[i] hi (by simp [hl])
  cases e : S[i] with
  | lst ds =>
    rw [e] at hb
    obtain ⟨xs, h1, _⟩ := hb
    exact ⟨_, h1, fun ps z => by cases z⟩
  | dct _ => rw [e] at hb; exact hb.elim
  | ins _ _ => rw [e] at hb; exact hb.elim
theorem StOk.held {a : Addr} (s : StOk K T M S H) (h : a ∈ M) : ∃ o, H a = some o ∧ ∀ ps, o ≠ .tbl ps := by
  rcases h with h | h
  · exact s.heldb h
  · exact (s.xt a h).2
theorem StOk.free {p : Addr} (s : StOk K T M S H) (h : H p = none) : p ∉ M := fun z => by
  obtain ⟨o, e, _⟩ := s.held z
  rw [h] at e; cases e
theorem StOk.lt {i : Nat} {a : Addr} (s : StOk K T M S H) (h : M.b[i]? = some a) : ∃ b, S[i]? = some b ∧ BoxOk K M H a b := by
  have hl : i < S.length := by rw [← s.len]; exact (List.getElem?_eq_some_iff.mp h).1
  exact ⟨S[i], by simp [hl], s.box i a _ h (by simp [hl])⟩
/-- a list of data at a box is read -/
theorem StOk.lst {i : Nat} {a : Addr} {ds : List PyData} (s : StOk K T M S H) (h : M.b[i]? = some a) (e : S[i]? = some (.lst ds)) : ∃ xs, H a = some (.lst xs) ∧ RpA K M H xs ds :=
  s.box i a _ h e
theorem BoxOk.mono {a : Addr} {b : Box} (g : Gr M H M' H') (ha : H' a = H a) (h : BoxOk K M H a b) : BoxOk K M' H' a b := by
  cases b with
  | lst ds => obtain ⟨xs, e, r⟩ := h; exact ⟨xs, by rw [ha]; exact e, r.mono g⟩
  | dct _ => exact h
  | ins _ _ => exact h
theorem upd_dom {p a : Addr} {o : HO} (h : (∀ ps, o ≠ .tbl ps) ∨ NoT H p) (z : NoT (upd H p o) a) : NoT H a := by
  by_cases q : a = p
  · subst q
    rcases h with h | h
    · exact (z.ne upd_same h).elim
    · exact h
  · unfold NoT at z ⊢
    rw [upd_ne q] at z
    exact z
/-- a new object is laid -/
theorem gr_new {p : Addr} {o : HO} (s : StOk K T M S H) (h : H p = none) : Gr M H M (upd H p o) where
  pre := List.prefix_refl _
  ext := fun _ z => z
  keep := fun a u e _ _ => by rw [upd_ne (ne_of_none e h)]; exact e
  new := fun a z => .inl z
  newb := fun a z => .inl z
  dom := fun a z => upd_dom (.inr (.inl h)) z
theorem xt_new {p : Addr} {o : HO} (s : StOk K T M S H) (h : H p = none) {a : Addr} (ha : a ∈ M.x) : ∃ u, upd H p o a = some u ∧ ∀ ps, u ≠ .tbl ps := by
  obtain ⟨_, u, e, t⟩ := s.xt a ha
  exact ⟨u, by rw [upd_ne (ne_of_none e h)]; exact e, t⟩
theorem st_new {p : Addr} {o : HO} (s : StOk K T M S H) (h : H p = none) : StOk K T M S (upd H p o) where
  len := s.len
  nd := s.nd
  box := fun i a b e1 e2 => (s.box i a b e1 e2).mono (gr_new s h) (by
    rw [upd_ne]
    rintro rfl
    exact s.free h (.inl (List.mem_of_getElem? e1)))
  xt := fun a ha => ⟨(s.xt a ha).1, xt_new s h ha⟩
  tab := s.tab.ext fun b u e => by rw [upd_ne (ne_of_none e h)]; exact e
/-- .. and is a box from now on -/
theorem gr_box {p : Addr} {o : HO} (s : StOk K T M S H) (h : H p = none) : Gr M H (M.add p) (upd H p o) where
  pre := List.prefix_append _ _
  ext := fun _ z => z
  keep := (gr_new s h).keep
  new := fun a z => by
    rcases z with z | z
    · rcases List.mem_append.mp z with z | z
      · exact .inl (.inl z)
      · have e : a = p := by simpa using z
        subst e
        exact .inr (.inl h)
    · exact .inl (.inr z)
  newb := fun a z => by
    rcases List.mem_append.mp z with z | z
    · exact .inl z
    · have e : a = p := by simpa using z
      subst e
      exact .inr (.inl h)
  dom := (gr_new s h).dom
theorem st_box {p : Addr} {xs : List V} {ds : List PyData} (s : StOk K T M S H) (h : H p = none) (r : RpA K M H xs ds) : StOk K T (M.add p) (S ++ [.lst ds]) (upd H p (.lst xs)) where
  len := by show (M.b ++ [p]).length = _; simp [s.len]
  nd := by
    show (M.b ++ [p]).Nodup
    rw [List.nodup_append]
    refine ⟨s.nd, by simp, fun a ha b hb => ?_⟩
    have e : b = p := by simpa using hb
    subst e
    rintro rfl
    exact s.free h (.inl ha)
  box := fun i a b e1 e2 => by
    have e3 : (M.b ++ [p])[i]? = some a := e1
    clear e1
    by_cases hi : i < M.b.length
    · rw [List.getElem?_append_left hi] at e3
      rw [List.getElem?_append_left (by rw [← s.len]; exact hi)] at e2
      exact (s.box i a b e3 e2).mono (gr_box s h) (by
        rw [upd_ne]
        rintro rfl
        exact s.free h (.inl (List.mem_of_getElem? e3)))
    · have hi' : i = M.b.length := by
        have := (List.getElem?_eq_some_iff.mp e3).1
        simp at this
        omega
      subst hi'
      rw [List.getElem?_append_right (Nat.le_refl _)] at e3
      rw [List.getElem?_append_right (by rw [s.len]; exact Nat.le_refl _)] at e2
      simp at e3
      rw [s.len] at e2
      simp at e2
      subst e3 e2
      exact ⟨xs, upd_same, r.mono (gr_box s h)⟩
  xt := fun a ha => ⟨fun z => by
    rcases List.mem_append.mp z with z | z
    · exact (s.xt a ha).1 z
    · have e : a = p := by simpa using z
      subst e
      exact s.free h (.inr ha), xt_new s h ha⟩
  tab := (st_new s h).tab
/-- a new list that is being made: nobody may hand it out -/
theorem gr_hide {p : Addr} {o : HO} (s : StOk K T M S H) (h : H p = none) : Gr M H (M.hide p) (upd H p o) where
  pre := List.prefix_refl _
  ext := fun _ z => List.mem_cons_of_mem _ z
  keep := (gr_new s h).keep
  new := fun a z => by
    rcases z with z | z
    · exact .inl (.inl z)
    · rcases List.mem_cons.mp z with e | z
      · subst e
        exact .inr (.inl h)
      · exact .inl (.inr z)
  newb := fun a z => .inl z
  dom := (gr_new s h).dom
theorem st_hide {p : Addr} {xs : List V} (s : StOk K T M S H) (h : H p = none) : StOk K T (M.hide p) S (upd H p (.lst xs)) where
  len := s.len
  nd := s.nd
  box := fun i a b e1 e2 => (s.box i a b e1 e2).mono (gr_hide s h) (by
    rw [upd_ne]
    rintro rfl
    exact s.free h (.inl (List.mem_of_getElem? e1)))
  xt := fun a ha => by
    rcases List.mem_cons.mp ha with e | ha
    · subst e
      exact ⟨fun z => s.free h (.inl z), _, upd_same, fun ps z => by cases z⟩
    · exact ⟨(s.xt a ha).1, xt_new s h ha⟩
  tab := (st_new s h).tab
theorem nd_ix {l : List Addr} {i j : Nat} {a : Addr} (nd : l.Nodup) (h1 : l[i]? = some a) (h2 : l[j]? = some a) : i = j := by
  obtain ⟨x, e1⟩ := List.getElem?_eq_some_iff.mp h1
  obtain ⟨y, e2⟩ := List.getElem?_eq_some_iff.mp h2
  exact (List.getElem_inj nd).mp (e1.trans e2.symm)
/-- an object that nobody hands out is written -/
theorem gr_wr {a : Addr} {o : HO} (m : Ms) (h : a ∈ m.b) (ht : ∀ ps, o ≠ .tbl ps) : Gr m H m (upd H a o) where
  pre := List.prefix_refl _
  ext := fun _ z => z
  keep := fun b u e n _ => by
    rw [upd_ne]
    · exact e
    · rintro rfl
      exact n h
  new := fun a z => .inl z
  newb := fun a z => .inl z
  dom := fun b z => upd_dom (.inl ht) z
theorem tab_wr {a : Addr} {o u : HO} (t : LamX.Tabs T H) (e : H a = some u) (n : ∀ ps, u ≠ .tbl ps) (nc : ∀ q, u ≠ LamX.CodeO a q) : LamX.Tabs T (upd H a o) := fun p hp => by
  obtain ⟨ps, t1, t2, t3⟩ := t p hp
  have na : ∀ b v, H b = some v → v ≠ u → b ≠ a := fun b v hb hv z => by
    subst z
    rw [e] at hb
    exact hv (Option.some.inj hb).symm
  refine ⟨ps, by rw [upd_ne (na _ _ t1 fun z => n ps z.symm)]; exact t1, t2, fun pos cv hc => ?_⟩
  obtain ⟨c, e1, e2⟩ := t3 pos cv hc
  refine ⟨c, e1, ?_⟩
  rw [upd_ne]
  · exact e2
  · rintro rfl
    rw [e] at e2
    exact nc _ (Option.some.inj e2)
theorem lst_code {xs : List V} {a : Addr} {q : Str} : HO.lst xs ≠ LamX.CodeO a q := fun z => by
  unfold LamX.CodeO at z
  cases z
/-- a box of data is written -/
theorem st_put {i : Nat} {a : Addr} {xs : List V} {ds : List PyData} (s : StOk K T M S H) (h : M.b[i]? = some a) (r : RpA K M H xs ds) : StOk K T M (S.set i (.lst ds)) (upd H a (.lst xs)) where
  len := by rw [List.length_set]; exact s.len
  nd := s.nd
  box := fun j b x e1 e2 => by
    have g : Gr M H M (upd H a (.lst xs)) := gr_wr M (List.mem_of_getElem? h) fun ps z => by cases z
    by_cases hj : i = j
    · subst hj
      rw [h] at e1; cases e1
      have hl : i < S.length := by rw [← s.len]; exact (List.getElem?_eq_some_iff.mp h).1
      rw [List.getElem?_set_self hl] at e2
      cases e2
      exact ⟨xs, upd_same, r.mono g⟩
    · rw [List.getElem?_set_ne hj] at e2
      refine (s.box j b x e1 e2).mono g ?_
      rw [upd_ne]
      rintro rfl
      exact hj (nd_ix s.nd h e1)
  xt := fun b hb => ⟨(s.xt b hb).1, by
    obtain ⟨n, u, e, t⟩ := s.xt b hb
    exact ⟨u, by rw [upd_ne (fun z => n (by rw [z]; exact List.mem_of_getElem? h))]; exact e, t⟩⟩
  tab := by
    obtain ⟨b, _, hb⟩ := s.lt h
    cases b with
    | lst ds' =>
      obtain ⟨ys, h1, _⟩ := hb
      exact tab_wr s.tab h1 (fun ps z => by cases z) fun q => lst_code
    | dct _ => exact hb.elim
    | ins _ _ => exact hb.elim
/-- more objects, and tables that have grown -/
theorem gr_ext (e : LamX.ExtN H H') : Gr M H M H' where
  pre := List.prefix_refl _
  ext := fun _ z => z
  keep := fun a o h _ t => e a o h t
  new := fun a z => .inl z
  newb := fun a z => .inl z
  dom := fun a z => by
    cases h : H a with
    | none => exact .inl h
    | some o =>
      by_cases t : ∀ ps, o ≠ .tbl ps
      · exact (z.ne (e a o h t) t).elim
      · have : ∃ ps, o = .tbl ps := Classical.byContradiction fun q => t fun ps z => q ⟨ps, z⟩
        obtain ⟨ps, rfl⟩ := this
        exact .inr ⟨ps, h⟩
theorem st_ext (s : StOk K T M S H) (e : LamX.ExtN H H') (t : LamX.Tabs T H') : StOk K T M S H' where
  len := s.len
  nd := s.nd
  box := fun i a b e1 e2 => (s.box i a b e1 e2).mono (gr_ext e) (by
    obtain ⟨o, h, q⟩ := s.heldb (List.mem_of_getElem? e1)
    rw [h, e a o h q])
  xt := fun a ha => by
    obtain ⟨n, o, h, q⟩ := s.xt a ha
    exact ⟨n, o, e a o h q, q⟩
  tab := t
/-! ### less is kept from being handed out -/
mutual
theorem Rp.less (l : ∀ a, a ∈ M' → a ∈ M) : ∀ {v : V} {d : PyData}, Rp K M H v d → Rp K M' H v d
  | _, _, .non => .non
  | _, _, .bl b => .bl b
  | _, _, .int i => .int i
  | _, _, .str x => .str x
  | _, _, .lst n h r => .lst (fun z => n (l _ z)) h (RpA.less l r)
  | _, _, .tup h r => .tup (h.imp (fun z => ⟨fun y => z.1 (l _ y), z.2⟩) id) (RpA.less l r)
theorem RpA.less (l : ∀ a, a ∈ M' → a ∈ M) : ∀ {vs : List V} {ds : List PyData}, RpA K M H vs ds → RpA K M' H vs ds
  | _, _, .nil => .nil
  | _, _, .cons h r => .cons (Rp.less l h) (RpA.less l r)
end
theorem EnvOk.mono (g : Gr M H M' H') (e : EnvOk K ρ σ M H) : EnvOk K ρ σ M' H' := ⟨e.len, fun i u h => let ⟨v, h1, h2⟩ := e.at_ i u h; ⟨v, h1, h2.mono g⟩⟩
theorem EnvOk.set {i : Nat} {v : V} {u : U} (e : EnvOk K ρ σ M H) (h : RU K M H v u) : EnvOk K (ρ.set i (some u)) (σ.set i (some v)) M H := by
  refine ⟨by simp [e.len], fun j w hj => ?_⟩
  by_cases hji : i = j
  · subst hji
    have hl : i < ρ.length := by
      have := (List.getElem?_eq_some_iff.mp hj).1
      simpa using this
    rw [List.getElem?_set_self hl] at hj
    have e' : w = u := by
      have := Option.some.inj hj
      exact (Option.some.inj this).symm
    subst e'
    exact ⟨v, by rw [List.getElem?_set_self (by rw [← e.len]; exact hl)], h⟩
  · rw [List.getElem?_set_ne hji] at hj
    obtain ⟨x, h1, h2⟩ := e.at_ j w hj
    exact ⟨x, by rw [List.getElem?_set_ne hji]; exact h1, h2⟩
theorem EnvOk.unset {i : Nat} (e : EnvOk K ρ σ M H) : EnvOk K (ρ.set i none) (σ.set i none) M H := by
  refine ⟨by simp [e.len], fun j w hj => ?_⟩
  by_cases hji : i = j
  · subst hji
    have hl : i < ρ.length := by
      have := (List.getElem?_eq_some_iff.mp hj).1
      simpa using this
    rw [List.getElem?_set_self hl] at hj
    cases hj
  · rw [List.getElem?_set_ne hji] at hj
    obtain ⟨x, h1, h2⟩ := e.at_ j w hj
    exact ⟨x, by rw [List.getElem?_set_ne hji]; exact h1, h2⟩
theorem EnvOk.wipe (e : EnvOk K ρ σ M H) : ∀ vs : List Nat, EnvOk K (wipe ρ vs) (L2.wipe σ vs) M H
  | [] => e
  | v :: vs => by
    unfold Ev.wipe L2.wipe
    exact (EnvOk.wipe e vs).unset
/-- the error's own dict, if it has one, stands -/
def Dic (d : Option Addr) (H : Hp) : Prop := ∀ dd, d = some dd → ∃ fs, H dd = some (.xd fs)
theorem dic_none {H : Hp} : Dic none H := fun dd h => by cases h
/-- what an evaluation hands on -/
def Out {α β : Type} (K : W.Frag) (T : List (Addr × Str)) (cl : Nat → Option Addr) (E : XK) (M : Ms) (H : Hp) (r : R α) (rel : Ms → Hp → β → α → Prop) (Q : β → Hp → Prop) : Prop :=
  match r with
  | .ok a S => ∀ b M' H', Gr M H M' H' → StOk K T M' S H' → rel M' H' b a → Q b H'
  | .exc c S => ∃ C, cl c = some C ∧ ∀ d M' H', Dic d H' → Gr M H M' H' → StOk K T M' S H' → E (.ref C) d H'
  | .bad => False
theorem Out.ok {α β : Type} {cl : Nat → Option Addr} {E : XK} {a : α} {rel : Ms → Hp → β → α → Prop} {Q : β → Hp → Prop} {b : β} (h : Out K T cl E M H (.ok a S) rel Q) (g : Gr M H M' H') (s : StOk K T M' S H') (r : rel M' H' b a) : Q b H' := h b M' H' g s r
/-- an evaluation behind another one -/
theorem Out.bind {α α' β β' : Type} {cl : Nat → Option Addr} {E : XK} {r : R α} {f : α → Store → R α'} {rel : Ms → Hp → β → α → Prop} {rel' : Ms → Hp → β' → α' → Prop} {Q : β' → Hp → Prop}
    (h : Out K T cl E M H (r.bind f) rel' Q) : Out K T cl E M H r rel fun b H1 => ∃ M1 S1 a, Gr M H M1 H1 ∧ StOk K T M1 S1 H1 ∧ rel M1 H1 b a ∧ Out K T cl E M1 H1 (f a S1) rel' Q := by
  cases r with
  | ok a S => 
    intro b M1 H1 g s q
    refine ⟨M1, S, a, g, s, q, ?_⟩
    have h' : Out K T cl E M H (f a S) rel' Q := h
    cases e : f a S with
    | ok a2 S2 =>
      rw [e] at h'
      exact fun b2 M2 H2 g2 s2 q2 => h' b2 M2 H2 (g.trans g2) s2 q2
    | exc c S2 =>
      rw [e] at h'
      obtain ⟨C, hC, h'⟩ := h'
      exact ⟨C, hC, fun d M2 H2 hd g2 s2 => h' d M2 H2 hd (g.trans g2) s2⟩
    | bad =>
      rw [e] at h'
      exact h'
  | exc c S => exact h
  | bad => exact h
theorem Out.mono {α β : Type} {cl : Nat → Option Addr} {E : XK} {r : R α} {rel : Ms → Hp → β → α → Prop} {Q Q' : β → Hp → Prop} (h : Out K T cl E M H r rel Q) (q : ∀ b H', Q b H' → Q' b H') : Out K T cl E M H r rel Q' := by
  cases r with
  | ok a S => exact fun b M1 H1 g s r => q _ _ (h b M1 H1 g s r)
  | exc c S => exact h
  | bad => exact h
/-- from a later state -/
theorem Out.later {α β : Type} {cl : Nat → Option Addr} {E : XK} {r : R α} {rel : Ms → Hp → β → α → Prop} {Q : β → Hp → Prop} (h : Out K T cl E M H r rel Q) (g : Gr M H M' H') : Out K T cl E M' H' r rel Q := by
  cases r with
  | ok a S => exact fun b M1 H1 g1 s r => h b M1 H1 (g.trans g1) s r
  | exc c S =>
    obtain ⟨C, hC, h⟩ := h
    exact ⟨C, hC, fun d M1 H1 hd g1 s => h d M1 H1 hd (g.trans g1) s⟩
  | bad => exact h
end
end Ev
end

section
set_option Elab.async false
set_option linter.all false
set_option autoImplicit false
set_option maxRecDepth 100000
set_option maxHeartbeats 4000000
/-! # Operators, subscripts, built-ins, methods: by values -/
namespace Ev
open PySem PySem.Spec PyProof.Rows L2

/-- read at a place of the heap, perhaps a box -/
def Rs (K : W.Frag) (M : Ms) (H : Hp) (v : V) : PyData → Prop
  | .list ds => ∃ a xs, v = .ref a ∧ H a = some (.lst xs) ∧ RpA K M H xs ds
  | p => Rp K M H v p
section
variable {K : W.Frag} {T : List (Addr × Str)} {cl : Nat → Option Addr} {E : XK} {M : Ms} {S : Store} {H : Hp} {v : V} {u : U} {p : PyData}
theorem Rp.rs (h : Rp K M H v p) : Rs K M H v p := by
  cases h with
  | lst n r a => exact ⟨_, _, rfl, r, a⟩
  | tup t a => exact .tup t a
  | non => exact .non
  | bl b => exact .bl b
  | int i => exact .int i
  | str x => exact .str x
theorem rs_of (h : RU K M H v u) (s : StOk K T M S H) (e : deref S u = some p) : Rs K M H v p := by
  cases u with
  | d q => cases e; exact Rp.rs h
  | ref i =>
    obtain ⟨a, e1, rfl⟩ := h
    obtain ⟨b, e2, hb⟩ := s.lt e1
    simp only [deref, e2] at e
    cases b with
    | lst ds =>
      cases e
      obtain ⟨xs, e3, r⟩ := hb
      exact ⟨a, xs, rfl, e3, r⟩
    | dct _ => exact hb.elim
    | ins _ _ => exact hb.elim
  | scr ns => cases e
  | obj a => cases e
theorem Rs.dp (h : Rs K M H v p) : Dp K H v p := by
  cases p with
  | list ds => obtain ⟨a, xs, rfl, r, q⟩ := h; exact .lst (.inl (.inl r)) q.dp
  | none => exact Rp.dp h
  | bool b => exact Rp.dp h
  | int i => exact Rp.dp h
  | str x => exact Rp.dp h
  | tuple ds => exact Rp.dp h
  | dict kvs => exact Rp.dp h
theorem Rs.int {i : Int} (h : Rs K M H v (.int i)) : v = .int i := by cases h; rfl
theorem Rs.bool {i : Bool} (h : Rs K M H v (.bool i)) : v = .bl i := by cases h; rfl
theorem Rs.str {i : Str} (h : Rs K M H v (.str i)) : v = .str i := by cases h; rfl
theorem Rs.none (h : Rs K M H v .none) : v = .non := by cases h; rfl
theorem Rs.tup {ds : List PyData} (h : Rs K M H v (.tuple ds)) : ∃ a xs, v = .ref a ∧ TupAt K M H a xs ∧ RpA K M H xs ds := by
  cases h with
  | tup t r => exact ⟨_, _, rfl, t, r⟩
/-- what is wanted of data that come out -/
def Wish (K : W.Frag) (T : List (Addr × Str)) (M : Ms) (S : Store) (H : Hp) (p : PyData) (Q : VK) : Prop := ∀ v M' H', Gr M H M' H' → StOk K T M' S H' → Rp K M' H' v p → Q v H'
theorem out_data {o : Option PyData} {Q : VK} (h : Out K T cl E M H (R.of S (o.map U.d)) (RU K) Q) : ∃ p, o = some p ∧ Wish K T M S H p Q := by
  cases o with
  | none => exact h.elim
  | some p => exact ⟨p, rfl, h⟩
theorem out_bool {o : Option Bool} {Q : VK} (h : Out K T cl E M H (R.of S (o.map fun b => U.d (.bool b))) (RU K) Q) : ∃ b, o = some b ∧ Wish K T M S H (.bool b) Q := by
  cases o with
  | none => exact h.elim
  | some p => exact ⟨p, rfl, h⟩
theorem bind2 {α β γ : Type} {o : Option α} {q : Option β} {f : α → β → Option γ} {r : γ} (h : (o.bind fun a => q.bind fun b => f a b) = some r) : ∃ a b, o = some a ∧ q = some b ∧ f a b = some r := by
  cases o with
  | none => cases h
  | some a => cases q with
    | none => cases h
    | some b => exact ⟨a, b, rfl, rfl, h⟩
theorem Wish.here {Q : VK} (w : Wish K T M S H p Q) (s : StOk K T M S H) (r : Rp K M H v p) : Q v H := w v M H (Gr.refl _ _) s r
theorem Wish.list {Q : VK} {xs : List V} {ds : List PyData} {q : Addr} (w : Wish K T M S H (.list ds) Q) (s : StOk K T M S H) (hq : H q = none) (r : RpA K M H xs ds) : Q (.ref q) (upd H q (.lst xs)) :=
  w _ M _ (gr_new s hq) (st_new s hq) (.lst (s.free hq) upd_same (r.mono (gr_new s hq)))
theorem Wish.tuple {Q : VK} {xs : List V} {ds : List PyData} {q : Addr} (w : Wish K T M S H (.tuple ds) Q) (s : StOk K T M S H) (hq : H q = none) (r : RpA K M H xs ds) : Q (.ref q) (upd H q (.tup xs)) :=
  w _ M _ (gr_new s hq) (st_new s hq) (.tup (.inl ⟨s.free hq, upd_same⟩) (r.mono (gr_new s hq)))
end

/-- a two-place operation, by the little language's -/
def rOp (K : W.Frag) (T : List (Addr × Str)) (cl : Nat → Option Addr) (E : XK) (f : U → U → Store → R U) : R2 := fun x y H Q =>
  ∃ M S u w, RU K M H x u ∧ RU K M H y w ∧ StOk K T M S H ∧ Out K T cl E M H (f u w S) (RU K) Q

section
variable {X : Cx} {T : List (Addr × Str)} {cl : Nat → Option Addr} {E : XK} {pins : List (Addr × Obj)} {s : Shared} {σ : L2.St} {H : Hp}
theorem add_gen (l : Addr) (items : Array Value) (n : Nat) (b : Addr) (items2 : Array Value) (n2 : Nat) (dd : Option Addr) (sl : Array (Option Value)) (hsz : items.size + items2.size ≤ sizeLine) :
    Meets (Builtin.«list.__add__» ⟨[.ref l, .ref b], []⟩) (fun _ R s => s.heap.get? l = some { cls := .type "list", data := .seq items n } ∧ s.heap.get? b = some { cls := .type "list", dict := dd, data := .seq items2 n2, slots := sl } ∧
      R (.ok (.ret (Value.ref s.heap.objs.size))) { s with heap := s.heap.push { cls := Value.type "list", data := Data.seq (items ++ items2) } }) :=
  .of_wp fun prog w A R s h => by
    obtain ⟨hp, g, d, tk, os⟩ := s
    obtain ⟨hl, hb, q⟩ := h
    have f1 := AutoSeq1.idx_int
    have f2 := AutoSeq1.sub_list_list
    wp_walk using AutoSeq1.wpAny_loadPart' hl, AutoSeq1.wpAny_loadPart' hb
    exact ⟨_, rfl, q⟩
/-- a list and the script -/
theorem op_catR : OpR X (binaryOp .Add) (fun x y H Q => ∃ l b xs zs, x = .ref l ∧ y = .ref b ∧ H l = some (.lst xs) ∧ SqL X.K H b zs ∧ xs.length + zs.length ≤ sizeLine ∧ ∀ p, H p = none → Q (.ref p) (upd H p (.lst (xs ++ zs)))) := by
  intro pins s σ H x y v u Q I rx ry ⟨l, b, xs, zs, ex, ey, hH, hB, hz, q⟩
  subst ex ey
  cases rx
  cases ry
  obtain ⟨z, its, n, r, hl, e⟩ := I.lstM hH
  obtain ⟨its2, r2, ⟨⟨c2, dd, data, sl⟩, n2, e2, hc, hd, hdt⟩, z2⟩ := I.list hB
  simp only at hc hd hdt
  subst hc hd hdt
  have hl2 := r2.length
  refine PySem.concat_meets ⟨_, e, rfl⟩ ⟨_, e2, rfl⟩ noFill_list_add seq_list_add F.slot_list_add F.entry_list_add (F.args_list_add_2 _ _)
    (add_gen l its.toArray n b its2.toArray n2 _ sl (by rw [List.size_toArray, List.size_toArray, ← hl, ← hl2]; exact hz)) ⟨e, e2, ?_⟩
  rw [show its.toArray ++ its2.toArray = (its ++ its2).toArray by simp]
  exact ⟨.ref _, _, I.lnew (t' := s.toks) (r.append r2) (by rw [List.length_append]; exact hz), rfl, q _ I.fresh⟩
theorem op_inT (hu : X.A.units + 65 < cLine) : OpR X (compareOp .In) (fun x y H Q => ∃ d ds, Dp X.K H x d ∧ Dp X.K H y (.tuple ds) ∧ SeqAt.shaped d = true ∧ SeqAt.shaped (.tuple ds) = true ∧ Q (.bl (ds.any fun z => PyData.eqv z d)) H) := by
  intro pins s σ H x y v u Q I rx ry h
  obtain ⟨d, ds, hd, he, sd, se, q⟩ := h
  obtain ⟨as, r1⟩ := Dp.reads I d x v hd rx
  obtain ⟨bs, r2⟩ := Dp.reads I (.tuple ds) y u he ry
  exact SeqAt.in_tuple_reads r2 r1 (SeqAt.canLay_of_shaped se) (SeqAt.canLay_of_shaped sd) (room_in_shaped sd hu) ⟨.bl _, H, I, rfl, q⟩
theorem op_notInT (hu : X.A.units + 65 < cLine) : OpR X (compareOp .NotIn) (fun x y H Q => ∃ d ds, Dp X.K H x d ∧ Dp X.K H y (.tuple ds) ∧ SeqAt.shaped d = true ∧ SeqAt.shaped (.tuple ds) = true ∧ Q (.bl (!ds.any fun z => PyData.eqv z d)) H) := by
  intro pins s σ H x y v u Q I rx ry h
  obtain ⟨d, ds, hd, he, sd, se, q⟩ := h
  obtain ⟨as, r1⟩ := Dp.reads I d x v hd rx
  obtain ⟨bs, r2⟩ := Dp.reads I (.tuple ds) y u he ry
  exact SeqAt.notIn_tuple_reads r2 r1 (SeqAt.canLay_of_shaped se) (SeqAt.canLay_of_shaped sd) (room_in_shaped sd hu) ⟨.bl _, H, I, rfl, q⟩
theorem op_ltD (hu : X.A.units + 64 < cLine) : OpR X (compareOp .Lt) (fun x y H Q => ∃ d e, Dp X.K H x d ∧ Dp X.K H y e ∧ SeqAt.shaped d = true ∧ W.alike d e = true ∧ d ≠ .none ∧ Q (.bl (W.dataLt d e)) H) := by
  intro pins s σ H x y v u Q I rx ry h
  obtain ⟨d, e, hd, he, sd, al, ne, q⟩ := h
  obtain ⟨as, r1⟩ := Dp.reads I d x v hd rx
  obtain ⟨bs, r2⟩ := Dp.reads I e y u he ry
  exact W.rcLt_alike d e X.A s v u as bs r1 r2 al ne (SeqAt.room_of_shaped sd hu) _ _ _ _ ⟨.bl _, H, I, rfl, q⟩

theorem line_eq : line = sizeLine := by rw [sizeLine_eq]
theorem str_rep (x : Str) (k : Nat) : (List.replicate k x.cps).foldl (· ++ ·) #[] = ((List.replicate k x.cps.toList).flatten).toArray := by
  have h : ∀ (m : Nat) (acc : Array Nat), (List.replicate m x.cps).foldl (· ++ ·) acc = acc ++ ((List.replicate m x.cps.toList).flatten).toArray := fun m => by
    induction m with
    | zero => intro acc; simp
    | succ m ih =>
      intro acc
      rw [List.replicate_succ, List.foldl_cons, ih, List.replicate_succ, List.flatten_cons]
      rw [Array.append_assoc]
      congr 1
      apply Array.toList_inj.mp
      simp
  rw [h]
  simp
/-- text * int -/
theorem op_repS : OpR X (binaryOp .Mult) (fun x y H Q => ∃ (a : Str) (k : Int), x = .str a ∧ y = .int k ∧ 0 ≤ k ∧ k ≤ 1000 ∧ a.length ≤ 1000 ∧ Q (.str ⟨(reps k a.cps.toList).toArray⟩) H) := by
  intro pins s σ H x y v u Q I rx ry ⟨a, k, ex, ey, h0, h1, hz, q⟩
  subst ex ey
  obtain ⟨t, rfl⟩ := rx
  obtain ⟨t', rfl⟩ := ry
  have hlen : a.length * k.toNat ≤ 1000 * 1000 := Nat.mul_le_mul hz (by omega)
  have hN : (a.length : Int) * k ≤ 1000 * 1000 := Int.le_trans (Int.mul_le_mul_of_nonneg_right (show (a.length : Int) ≤ 1000 by omega) h0) (by omega)
  refine PySem.P.mul_str (by rw [decide_eq_false (by omega), decide_eq_false (by omega)]; rfl) (fun h2 _ => ?_) (fun h2 _ => ?_) ?_
  · have := Int.le_ediv_of_mul_le (a := (a.length : Int)) (b := 2 ^ 63 - 1) (c := k) (by omega) (by omega)
    omega
  · unfold Builtin.Str.tooLong
    exact decide_eq_false (by rw [sizeLine_eq]; omega)
  · by_cases h2 : k < 1
    · rw [if_pos h2]
      have e : k = 0 := by omega
      subst e
      exact ⟨by decide, ⟨.str _, H, I.tok _, ⟨_, rfl⟩, q⟩⟩
    · rw [if_neg h2]
      by_cases h3 : (k == 1 || a.length == 0) = true
      · rw [if_pos h3]
        have e : (⟨(reps k a.cps.toList).toArray⟩ : Str) = a := by
          rw [Bool.or_eq_true, beq_iff_eq, beq_iff_eq] at h3
          have : reps k a.cps.toList = a.cps.toList := by
            rcases h3 with h3 | h3
            · subst h3
              unfold reps
              simp
            · have h4 : a.cps.toList = [] := by
                unfold Str.length at h3
                exact List.eq_nil_of_length_eq_zero (by simpa using h3)
              unfold reps
              rw [h4]
              simp
          rw [this]
        rw [e] at q
        exact ⟨.str _, H, I, ⟨_, rfl⟩, q⟩
      · rw [if_neg h3]
        refine ⟨?_, ?_⟩
        · rw [str_rep]
          unfold Str.length
          rw [List.size_toArray, PyProof.Rows.lm_len_rep_flat, sizeLine_eq]
          unfold Str.length at hlen
          rw [Array.length_toList, Nat.mul_comm]
          omega
        · rw [str_rep]
          exact ⟨.str _, H, I.tok _, ⟨_, rfl⟩, q⟩
theorem tuple_mul1 (l : Addr) (items : Array Value) (n : Nat) (dd : Option Addr) (sl : Array (Option Value)) (u : Tok) :
    Meets (Builtin.«tuple.__mul__» ⟨[.ref l, .int 1 u], []⟩) (fun _ R s => s.heap.get? l = some { cls := .type "tuple", dict := dd, data := .seq items n, slots := sl } ∧ R (.ok (.ret (Value.ref l))) s) :=
  .of_wp fun prog w A R s h => by
    obtain ⟨hp, g, d, tk, os⟩ := s
    obtain ⟨hl, q⟩ := h
    have f1 := AutoSeq1.idx_int
    wp_walk using AutoSeq1.wpAny_loadPart' hl
    exact ⟨_, rfl, q⟩
/-- tuple * int -/
theorem op_repU : OpR X (binaryOp .Mult) (fun x y H Q => ∃ l k xs, x = .ref l ∧ y = .int k ∧ SqT X.K H l xs ∧ xs ≠ [] ∧ 1 ≤ k ∧ k ≤ 1000 ∧ xs.length ≤ 1000 ∧ (k = 1 → Q (.ref l) H) ∧ (2 ≤ k → ∀ p, H p = none → Q (.ref p) (upd H p (.tup (List.replicate k.toNat xs).flatten)))) := by
  intro pins s σ H x y v u Q I rx ry ⟨l, k, xs, ex, ey, hT, hne, h1, h2, hz, q1, q2⟩
  by_cases hk : 2 ≤ k
  · exact op_repT pins s σ H x y v u Q I rx ry ⟨l, k, xs, ex, ey, hT, hne, hk, h2, hz, q2 hk⟩
  · have e1 : k = 1 := by omega
    subst ex ey e1
    cases rx
    obtain ⟨t, rfl⟩ := ry
    obtain ⟨its, r, ⟨⟨c2, dd, data, sl⟩, ho, hc, n, hd⟩, z⟩ := I.tuple hT
    simp only at hc hd
    subst hc hd
    refine wpAny_binaryOp_repeat_ref (T := "tuple") (U := "int") (by decide) ⟨_, ho, rfl⟩ (fun s' => typeIs_int s' 1 t) noFill_tuple_mul F.fills_int_mul F.slot_int_rmul repeat_tuple F.slot_int_index.lookup ?_
    refine call_meets F.slot_int_rmul (typeIs_int s 1 t) F.entry_int_rmul (F.args_int_rmul_2 _ _) (int_rmul_tuple 1 t l its.toArray n dd sl) ⟨ho, rfl, ⟨_, ho, rfl⟩, ?_⟩
    exact call_meets F.slot_tuple_mul ⟨_, ho, rfl⟩ F.entry_tuple_mul (F.args_tuple_mul_2 _ _) (tuple_mul1 l its.toArray n dd sl t) ⟨ho, .ref l, H, I, rfl, q1 rfl⟩

theorem mulok {i j : Int} (h : mulOk i j = true) : IntMulOk i j := by
  unfold mulOk smallI at h
  simp only [Bool.or_eq_true, Bool.and_eq_true, decide_eq_true_eq] at h
  rcases h with (h | h) | h
  · exact CMul.ok (.inl h)
  · exact CMul.ok (.inr h)
  · exact CMulW.ok h
theorem op_mulA : OpR X (binaryOp .Mult) (fun x y H Q => ∃ i j, x = .int i ∧ y = .int j ∧ mulOk i j = true ∧ Q (.int (i * j)) H) := by
  intro pins s σ H x y v u Q I rx ry ⟨i, j, ex, ey, hm, q⟩
  subst ex ey
  obtain ⟨t, rfl⟩ := rx
  obtain ⟨t', rfl⟩ := ry
  exact mul_int ⟨.int _, H, I.tok _, ⟨_, rfl⟩, q⟩ (mulok hm)
theorem flat_one (xs : List V) : (List.replicate (1 : Int).toNat xs).flatten = xs := by simp
/-- the operators -/
theorem bin_ok (o : Operator) : OpR X (binaryOp o) (rOp X.K T cl E (binU o)) := by
  intro pins s σ H x y v u Q I rx ry h
  obtain ⟨M, S, a, b, ra, rb, st, h⟩ := h
  have pl : ∀ {S' : Store}, Out X.K T cl E M H (R.of S (((deref S a).bind fun p => (deref S b).bind fun q => binD o p q).map U.d)) (RU X.K) Q → ∃ p q r, Rs X.K M H x p ∧ Rs X.K M H y q ∧ binD o p q = some r ∧ Wish X.K T M S H r Q := fun {S'} h => by
    obtain ⟨r, e, w⟩ := out_data h
    obtain ⟨p, q, e1, e2, e3⟩ := bind2 e
    exact ⟨p, q, r, rs_of ra st e1, rs_of rb st e2, e3, w⟩
  have main : (∃ p q r, Rs X.K M H x p ∧ Rs X.K M H y q ∧ binD o p q = some r ∧ Wish X.K T M S H r Q) → wpAny (model X.prog X.w) X.A (binaryOp o v u) (EP X pins σ Q) X.xe s := by
    rintro ⟨p, q, r, rp, rq, e, w⟩
    unfold binD at e
    split at e
    · cases e
      exact op_add pins s σ H x y v u Q I rx ry ⟨_, _, rp.int, rq.int, w.here st (.int _)⟩
    · cases e
      exact op_sub pins s σ H x y v u Q I rx ry ⟨_, _, rp.int, rq.int, w.here st (.int _)⟩
    · split at e
      · cases e
        exact op_mulA pins s σ H x y v u Q I rx ry ⟨_, _, rp.int, rq.int, by assumption, w.here st (.int _)⟩
      · cases e
    · split at e
      · rename_i hc
        cases e
        exact op_fdivW pins s σ H x y v u Q I rx ry ⟨_, _, rp.int, rq.int, hc, w.here st (.int _)⟩
      · cases e
    · split at e
      · rename_i hc
        cases e
        exact op_mod pins s σ H x y v u Q I rx ry ⟨_, _, rp.int, rq.int, hc, w.here st (.int _)⟩
      · cases e
    · split at e
      · rename_i hc
        cases e
        exact op_pow pins s σ H x y v u Q I rx ry ⟨_, _, rp.int, rq.int, hc, w.here st (.int _)⟩
      · cases e
    · split at e
      · rename_i hc
        cases e
        exact op_add_str pins s σ H x y v u Q I rx ry ⟨_, _, rp.str, rq.str, by rw [← line_eq]; exact hc, w.here st (.str _)⟩
      · cases e
    · split at e
      · rename_i hc
        cases e
        obtain ⟨a1, xs, e1, h1, r1⟩ := rp
        obtain ⟨a2, ys, e2, h2, r2⟩ := rq
        refine op_cat pins s σ H x y v u Q I rx ry ⟨a1, a2, xs, ys, e1, e2, h1, h2, by rw [r1.length, r2.length, ← line_eq]; exact hc, fun p hp => w.list st hp (r1.append r2)⟩
      · cases e
    · split at e
      · rename_i hc
        cases e
        obtain ⟨a1, xs, e1, h1, r1⟩ := rp.tup
        obtain ⟨a2, ys, e2, h2, r2⟩ := rq.tup
        refine op_catA pins s σ H x y v u Q I rx ry ⟨a1, a2, xs, ys, e1, e2, h1.sq, h2.sq, by rw [r1.length, r2.length, ← line_eq]; exact hc, fun z => ?_, fun _ z => ?_, fun _ _ p hp => w.tuple st hp (r1.append r2)⟩
        · subst z
          cases r1
          exact w.here st (.tup h2 r2)
        · subst z
          cases r2
          rw [List.append_nil] at w
          exact w.here st (.tup h1 r1)
      · cases e
    · split at e
      · rename_i hc
        cases e
        obtain ⟨a1, xs, e1, h1, r1⟩ := rp
        have hl := r1.length
        refine op_rep pins s σ H x y v u Q I rx ry ⟨a1, _, xs, e1, rq.int, h1, by omega, by omega, ?_, fun p hp => w.list st hp (r1.flat _)⟩
        rw [sizeLine_eq]
        exact Nat.le_trans (Nat.mul_le_mul (show xs.length ≤ 1000 by omega) (show _ ≤ 1000 by omega)) (by decide)
      · cases e
    · split at e
      · rename_i hc
        cases e
        obtain ⟨a1, xs, e1, h1, r1⟩ := rp.tup
        have hl := r1.length
        refine op_repU pins s σ H x y v u Q I rx ry ⟨a1, _, xs, e1, rq.int, h1.sq, ?_, hc.1, hc.2.1, by omega, fun z => ?_, fun _ p hp => w.tuple st hp (r1.flat _)⟩
        · rintro rfl
          cases r1
          exact absurd hc.2.2.2 (by simp)
        · subst z
          unfold reps at w
          have e3 : ∀ {α : Type} (l : List α), (List.replicate (1 : Int).toNat l).flatten = l := fun l => by simp
          rw [e3] at w
          exact w.here st (.tup h1 r1)
      · cases e
    · split at e
      · rename_i hc
        cases e
        exact op_repS pins s σ H x y v u Q I rx ry ⟨_, _, rp.str, rq.int, hc.1, hc.2.1, hc.2.2, w.here st (.str _)⟩
      · cases e
    · cases e
  unfold binU at h
  split at h
  · rename_i ns
    obtain ⟨r, e, w⟩ := out_data h
    cases e1 : deref S a with
    | none => rw [e1] at e; cases e
    | some p =>
      rw [e1] at e
      have rp := rs_of ra st e1
      obtain ⟨b1, e4, hb⟩ := rb
      cases p with
      | list ds =>
        have e : (if ds.length + ns.length ≤ line then some (PyData.list (ds ++ ns.map .int)) else none) = some r := e
        split at e
        · rename_i hc
          cases e
          obtain ⟨a1, xs, e5, h1, r1⟩ := rp
          have hl := r1.length
          refine op_catR pins s σ H x y v u Q I rx ry ⟨a1, b1, xs, _, e5, e4, h1, hb.sq, by rw [List.length_map, ← line_eq]; omega, fun p hp => w.list st hp (r1.append ?_)⟩
          have : ∀ l : List Int, RpA X.K M H (l.map V.int) (l.map PyData.int) := fun l => by
            induction l with
            | nil => exact .nil
            | cons z l ih => exact .cons (.int z) ih
          exact this ns
        · cases e
      | _ => cases e
  · exact main (pl (S' := S) h)
end
end Ev
end

section
set_option Elab.async false
set_option linter.all false
set_option autoImplicit false
set_option maxRecDepth 100000
set_option maxHeartbeats 4000000
namespace Ev
open PySem PySem.Spec PyProof.Rows L2
section
variable {X : Cx} {T : List (Addr × Str)} {cl : Nat → Option Addr} {E : XK}
theorem op_leI : OpR X (compareOp .LtE) (rI0 fun i j => .bl (decide (i ≤ j))) := op_le
theorem shaped2 {x y : PyData} {b : Bool} {k : Bool} (h : (if (SeqAt.shaped x && SeqAt.shaped y) = true then some k else none) = some b) : SeqAt.shaped x = true ∧ SeqAt.shaped y = true ∧ k = b := by
  split at h
  · rename_i hc
    rw [Bool.and_eq_true] at hc
    exact ⟨hc.1, hc.2, Option.some.inj h⟩
  · cases h
theorem map_not {o : Option Bool} {b : Bool} (h : o.map (!·) = some b) : ∃ k, o = some k ∧ (!k) = b := by
  cases o with
  | none => cases h
  | some k => exact ⟨k, rfl, Option.some.inj h⟩
theorem eqD_in {x y : PyData} {b : Bool} (h : eqD x y = some b) : SeqAt.shaped x = true ∧ SeqAt.shaped y = true ∧ PyData.eqv x y = b := shaped2 h
theorem none_iff {K : W.Frag} {M : Ms} {H : Hp} {x : V} {p : PyData} (h : Rs K M H x p) : decide (x = .non) = isNone p := by
  cases p with
  | none => rw [h.none]; rfl
  | list ds =>
    obtain ⟨a, xs, e, _⟩ := h
    rw [e]
    rfl
  | bool b => rw [h.bool]; rfl
  | int b => rw [h.int]; rfl
  | str b => rw [h.str]; rfl
  | tuple ds =>
    obtain ⟨a, xs, e, _⟩ := h.tup
    rw [e]
    rfl
  | dict kvs => cases h
/-- the comparisons -/
theorem cmp_ok (o : CmpOp) (hu : X.A.units + 65 < cLine) : OpR X (compareOp o) (rOp X.K T cl E (fun x y S => R.of S ((cmpU o x y S).map fun b => U.d (.bool b)))) := by
  intro pins s σ H x y v u Q I rx ry ⟨M, S, a, b, ra, rb, st, h⟩
  obtain ⟨k, e, w⟩ := out_bool h
  obtain ⟨p, q, e1, e2, e3⟩ := bind2 e
  have rp := rs_of ra st e1
  have rq := rs_of rb st e2
  have fin : Q (.bl k) H := w.here st (.bl k)
  have h64 : X.A.units + 64 < cLine := by omega
  cases o with
  | Eq =>
    obtain ⟨s1, s2, rfl⟩ := eqD_in e3
    exact op_eqD h64 pins s σ H x y v u Q I rx ry ⟨p, q, rp.dp, rq.dp, s1, s2, fin⟩
  | NotEq =>
    obtain ⟨k', e4, rfl⟩ := map_not e3
    obtain ⟨s1, s2, rfl⟩ := eqD_in e4
    exact op_neD h64 pins s σ H x y v u Q I rx ry ⟨p, q, rp.dp, rq.dp, s1, s2, fin⟩
  | In =>
    have e3 : inD p q = some k := e3
    cases q with
    | list ys =>
      obtain ⟨s1, s2, rfl⟩ := shaped2 e3
      exact op_inD hu pins s σ H x y v u Q I rx ry ⟨p, ys, rp.dp, rq.dp, s1, s2, fin⟩
    | tuple ys =>
      obtain ⟨s1, s2, rfl⟩ := shaped2 e3
      exact op_inT hu pins s σ H x y v u Q I rx ry ⟨p, ys, rp.dp, rq.dp, s1, s2, fin⟩
    | str z =>
      cases p with
      | str z1 =>
        cases e3
        exact op_in_str pins s σ H x y v u Q I rx ry ⟨z1, z, rp.str, rq.str, fin⟩
      | _ => cases e3
    | _ => cases e3
  | NotIn =>
    obtain ⟨k', e4, rfl⟩ := map_not e3
    cases q with
    | list ys =>
      obtain ⟨s1, s2, rfl⟩ := shaped2 e4
      exact op_notInD hu pins s σ H x y v u Q I rx ry ⟨p, ys, rp.dp, rq.dp, s1, s2, fin⟩
    | tuple ys =>
      obtain ⟨s1, s2, rfl⟩ := shaped2 e4
      exact op_notInT hu pins s σ H x y v u Q I rx ry ⟨p, ys, rp.dp, rq.dp, s1, s2, fin⟩
    | str z =>
      cases p with
      | str z1 =>
        cases e4
        exact op_notIn_str pins s σ H x y v u Q I rx ry ⟨z1, z, rp.str, rq.str, fin⟩
      | _ => cases e4
    | _ => cases e4
  | Lt =>
    have e3 : ltD p q = some k := e3
    unfold ltD at e3
    split at e3
    · cases e3
      exact op_lt pins s σ H x y v u Q I rx ry ⟨_, _, rp.int, rq.int, fin⟩
    · cases e3
      exact op_lt_str pins s σ H x y v u Q I rx ry ⟨_, _, rp.str, rq.str, fin⟩
    · split at e3
      · rename_i hc
        simp only [Bool.and_eq_true] at hc
        cases e3
        exact op_ltD h64 pins s σ H x y v u Q I rx ry ⟨_, _, rp.dp, rq.dp, hc.1.2, hc.1.1, (fun z => by cases z), fin⟩
      · cases e3
    · cases e3
  | Gt =>
    have e3 : gtD p q = some k := e3
    unfold gtD at e3
    split at e3
    · cases e3
      exact op_gt pins s σ H x y v u Q I rx ry ⟨_, _, rp.int, rq.int, fin⟩
    · cases e3
  | LtE =>
    have e3 : leD p q = some k := e3
    unfold leD at e3
    split at e3
    · cases e3
      exact op_leI pins s σ H x y v u Q I rx ry ⟨_, _, rp.int, rq.int, fin⟩
    · cases e3
  | GtE =>
    have e3 : geD p q = some k := e3
    unfold geD at e3
    split at e3
    · cases e3
      exact op_ge pins s σ H x y v u Q I rx ry ⟨_, _, rp.int, rq.int, fin⟩
    · cases e3
  | Is =>
    have e3 : isD p q = some k := e3
    cases q with
    | none =>
      cases e3
      exact op_isN pins s σ H x y v u Q I rx ry ⟨rq.none, by rw [none_iff rp]; exact fin⟩
    | bool b =>
      cases p with
      | bool a =>
        cases e3
        exact op_isBl pins s σ H x y v u Q I rx ry ⟨_, _, rp.bool, rq.bool, fin⟩
      | _ => cases e3
    | _ => cases e3
  | IsNot =>
    obtain ⟨k', e4, rfl⟩ := map_not e3
    cases q with
    | none =>
      cases e4
      exact op_notN pins s σ H x y v u Q I rx ry ⟨rq.none, by rw [none_iff rp]; exact fin⟩
    | bool b =>
      cases p with
      | bool a =>
        cases e4
        exact op_notBl pins s σ H x y v u Q I rx ry ⟨_, _, rp.bool, rq.bool, fin⟩
      | _ => cases e4
    | _ => cases e4
theorem atI_map {α β : Type} {R : α → β → Prop} {xs : List α} {ds : List β} {i : Int} {d : β} (hl : xs.length = ds.length) (g : ∀ (j : Nat) d, ds[j]? = some d → ∃ v, xs[j]? = some v ∧ R v d) (h : atI ds i = some d) : ∃ v, atI xs i = some v ∧ R v d := by
  unfold atI at h ⊢
  rw [hl]
  cases e : ixN ds.length i with
  | none => rw [e] at h; cases h
  | some j =>
    rw [e] at h
    exact g j d h
def fIdx (x y : U) (S : Store) : R U := R.of S (((deref S x).bind fun p => (deref S y).bind fun q => idxD p q).map .d)
theorem idx_ok : IxR X (rOp X.K T cl E fIdx) := by
  intro value slice pins s σ H x y v u Q I rx ry ⟨M, S, a, b, ra, rb, st, h⟩ hs
  obtain ⟨r, e, w⟩ := out_data h
  obtain ⟨p, q, e1, e2, e3⟩ := bind2 e
  have rp := rs_of ra st e1
  have rq := rs_of rb st e2
  unfold idxD at e3
  split at e3
  · obtain ⟨a1, xs, h1, h2, h3⟩ := rp
    obtain ⟨z, h4, h5⟩ := atI_map (R := Rp X.K M H) h3.length (fun j d hd => h3.get hd) e3
    exact ix_list value slice pins s σ H x y v u Q I rx ry ⟨a1, xs, _, z, h1, rq.int, SqL.of h2, h4, w.here st h5⟩ hs
  · obtain ⟨a1, xs, h1, h2, h3⟩ := rp.tup
    obtain ⟨z, h4, h5⟩ := atI_map (R := Rp X.K M H) h3.length (fun j d hd => h3.get hd) e3
    exact ix_tup value slice pins s σ H x y v u Q I rx ry ⟨a1, xs, _, z, h1, rq.int, h2.sq, h4, w.here st h5⟩ hs
  · split at e3
    · rename_i z i hz
      cases e4 : atI z.cps.toList i with
      | none => rw [e4] at e3; cases e3
      | some c =>
        rw [e4] at e3
        cases e3
        exact ix_str value slice pins s σ H x y v u Q I rx ry ⟨z, i, c, rp.str, rq.int, by rw [← line_eq]; exact hz, e4, w.here st (.str _)⟩ hs
    · cases e3
  · cases e3
/-- slices -/
def rSlc (K : W.Frag) (T : List (Addr × Str)) : V → Option Int → Option Int → Hp → VK → Prop := fun x lo hi H Q => ∃ M S u p r, RU K M H x u ∧ StOk K T M S H ∧ deref S u = some p ∧ slcD p lo hi = some r ∧ Wish K T M S H r Q
theorem cut_all {α : Type} {xs : List α} {lo hi : Option Int} (h : HT.sIx xs.length 0 lo = 0 ∧ HT.sIx xs.length xs.length hi = xs.length) : cutD xs lo hi = xs := by
  unfold cutD
  rw [h.1, h.2]
  simp
theorem slc_ok : SlR X (rSlc X.K T) := by
  intro pins s σ H x v vl vu lo hi sl Q I rx hs pl pu ⟨M, S, u, p, r, ru, st, e1, e2, w⟩
  have rp := rs_of ru st e1
  unfold slcD at e2
  split at e2
  · cases e2
    obtain ⟨a1, xs, h1, h2, h3⟩ := rp
    refine sl_list pins s σ H x v vl vu lo hi sl Q I rx hs pl pu ⟨a1, xs, h1, SqL.of h2, fun q hq => w.list st hq ?_⟩
    unfold cutV cutD
    rw [h3.length]
    exact (h3.drop _).take _
  · cases e2
    obtain ⟨a1, xs, h1, h2, h3⟩ := rp.tup
    refine sl_tupA pins s σ H x v vl vu lo hi sl Q I rx hs pl pu ⟨a1, xs, h1, h2.sq, fun hw => ?_, fun _ q hq => w.tuple st hq ?_⟩
    · rw [cut_all (by rw [← h3.length]; exact hw)] at w
      subst h1
      exact w.here st (.tup h2 h3)
    · unfold cutV cutD
      rw [h3.length]
      exact (h3.drop _).take _
  · split at e2
    · rename_i z hz
      cases e2
      exact sl_str pins s σ H x v vl vu lo hi sl Q I rx hs pl pu ⟨z, rp.str, by rw [← line_eq]; exact hz, w.here st (.str _)⟩
    · cases e2
  · cases e2
/-- truth -/
def rTru (K : W.Frag) (T : List (Addr × Str)) : V → Hp → (Bool → Hp → Prop) → Prop := fun x H Q => ∃ M S u p b, RU K M H x u ∧ StOk K T M S H ∧ deref S u = some p ∧ truD p = some b ∧ Q b H
theorem emp_eq {K : W.Frag} {M : Ms} {H : Hp} {xs : List V} {ds : List PyData} (h : RpA K M H xs ds) : xs.isEmpty = ds.isEmpty := by cases h <;> rfl
theorem truV_of {K : W.Frag} {T : List (Addr × Str)} {M : Ms} {S : Store} {H : Hp} {x : V} {u : U} {p : PyData} {b : Bool} (ru : RU K M H x u) (st : StOk K T M S H) (e1 : deref S u = some p) (e2 : truD p = some b) : TruV K x H b := by
  have rp := rs_of ru st e1
  unfold truD at e2
  split at e2
  · cases e2; rw [rp.none]; exact rfl
  · cases e2; rw [rp.bool]; exact rfl
  · cases e2; rw [rp.int]; exact rfl
  · cases e2
    obtain ⟨a1, xs, h1, h2, h3⟩ := rp
    rw [h1, ← emp_eq h3]
    exact .inl ⟨xs, SqL.of h2, rfl⟩
  · cases e2
    obtain ⟨a1, xs, h1, h2, h3⟩ := rp.tup
    rw [h1, ← emp_eq h3]
    exact .inr (.inl ⟨xs, h2.sq, rfl⟩)
  · cases e2
end
end Ev
end

section
set_option Elab.async false
set_option linter.all false
set_option autoImplicit false
set_option maxRecDepth 100000
set_option maxHeartbeats 4000000
namespace Ev
open PySem PySem.Spec PyProof.Rows L2
/-- the types that isinstance is asked of -/
abbrev askT : List String := ["int", "bool", "str", "tuple", "list"]
theorem kit_all : (askT.all fun T => ["NoneType", "bool", "int", "str", "list", "tuple"].all fun n => decide (kitB n T = some (n == T || (T == "int" && n == "bool")))) = true := by decide +kernel
section
variable {X : Cx} {T : List (Addr × Str)} {cl : Nat → Option Addr} {E : XK}
/-- a built-in of one argument, by the little language's -/
def rB (K : W.Frag) (T : List (Addr × Str)) (b : Blt) : List V → Hp → VK → Prop := fun xs H Q => ∃ M S x u p r, xs = [x] ∧ RU K M H x u ∧ StOk K T M S H ∧ deref S u = some p ∧ bltD b p = some r ∧ Wish K T M S H r Q
theorem bools_of {K : W.Frag} {M : Ms} {H : Hp} : ∀ {xs : List V} {ds : List PyData} {bs : List Bool}, RpA K M H xs ds → boolsD ds = some bs → xs = bs.map V.bl
  | _, _, _, .nil, e => by cases e; rfl
  | _, _, bs, .cons (d := d) h r, e => by
    cases d with
    | bool b =>
      unfold boolsD at e
      rename_i us vs
      cases e1 : boolsD vs with
      | none => rw [e1] at e; cases e
      | some bs' =>
        rw [e1] at e
        cases e
        cases h
        rw [bools_of r e1]
        rfl
    | _ => cases e
theorem ints_of {K : W.Frag} {M : Ms} {H : Hp} : ∀ {xs : List V} {ds : List PyData} {bs : List Int}, RpA K M H xs ds → intsD ds = some bs → xs = bs.map V.int
  | _, _, _, .nil, e => by cases e; rfl
  | _, _, bs, .cons (d := d) h r, e => by
    cases d with
    | int b =>
      unfold intsD at e
      rename_i us vs
      cases e1 : intsD vs with
      | none => rw [e1] at e; cases e
      | some bs' =>
        rw [e1] at e
        cases e
        cases h
        rw [ints_of r e1]
        rfl
    | _ => cases e
theorem strs_of {K : W.Frag} {M : Ms} {H : Hp} : ∀ {xs : List V} {ds : List PyData} {bs : List Str}, RpA K M H xs ds → strsD ds = some bs → xs = bs.map V.str
  | _, _, _, .nil, e => by cases e; rfl
  | _, _, bs, .cons (d := d) h r, e => by
    cases d with
    | str b =>
      unfold strsD at e
      rename_i us vs
      cases e1 : strsD vs with
      | none => rw [e1] at e; cases e
      | some bs' =>
        rw [e1] at e
        cases e
        cases h
        rw [strs_of r e1]
        rfl
    | _ => cases e
theorem map_some {α β : Type} {o : Option α} {f : α → β} {r : β} (h : o.map f = some r) : ∃ a, o = some a ∧ f a = r := by
  cases o with
  | none => cases h
  | some a => exact ⟨a, rfl, Option.some.inj h⟩
theorem blt_len : CallR X (.builtin "len") (rB X.K T .len) := by
  intro pins s σ H xs us Q I r ⟨M, S, x, u, p, d, ex, ru, st, e1, e2, w⟩
  subst ex
  have rp := rs_of ru st e1
  unfold bltD at e2
  cases p with
  | list ds =>
    cases e2
    obtain ⟨a, ys, rfl, h2, h3⟩ := rp
    exact call_len_seq pins s σ H _ us Q I r ⟨a, ys, rfl, .inl (SqL.of h2), by rw [h3.length]; exact w.here st (.int _)⟩
  | tuple ds =>
    cases e2
    obtain ⟨a, ys, rfl, h2, h3⟩ := rp.tup
    exact call_len_seq pins s σ H _ us Q I r ⟨a, ys, rfl, .inr h2.sq, by rw [h3.length]; exact w.here st (.int _)⟩
  | str z =>
    have e2 : (if z.length ≤ line then some (PyData.int z.length) else none) = some d := e2
    split at e2
    · rename_i hz
      cases e2
      rw [rp.str] at r
      exact call_len_str pins s σ H _ us Q I r ⟨z, rfl, by rw [← line_eq]; exact hz, w.here st (.int _)⟩
    · cases e2
  | _ => cases e2
theorem blt_all (hc : X.calm = true) : CallR X (.builtin "all") (rB X.K T .all) := by
  intro pins s σ H xs us Q I r ⟨M, S, x, u, p, d, ex, ru, st, e1, e2, w⟩
  subst ex
  have rp := rs_of ru st e1
  unfold bltD at e2
  cases p with
  | list ds =>
    obtain ⟨bs, e3, rfl⟩ := map_some (show (boolsD ds).map (fun bs => PyData.bool (bs.all id)) = some d from e2)
    obtain ⟨a, ys, rfl, h2, h3⟩ := rp
    have := bools_of h3 e3
    subst this
    exact cr_all hc pins s σ H _ us Q I r ⟨a, bs, rfl, SqL.of h2, w.here st (.bl _)⟩
  | _ => cases e2
theorem blt_sum (hc : X.calm = true) : CallR X (.builtin "sum") (rB X.K T .sum) := by
  intro pins s σ H xs us Q I r ⟨M, S, x, u, p, d, ex, ru, st, e1, e2, w⟩
  subst ex
  have rp := rs_of ru st e1
  unfold bltD at e2
  cases p with
  | list ds =>
    obtain ⟨bs, e3, rfl⟩ := map_some (show (intsD ds).map (fun bs => PyData.int bs.sum) = some d from e2)
    obtain ⟨a, ys, rfl, h2, h3⟩ := rp
    have := ints_of h3 e3
    subst this
    exact cr_sum hc pins s σ H _ us Q I r ⟨a, bs, rfl, SqL.of h2, w.here st (.int _)⟩
  | _ => cases e2
theorem blt_int : CallR X (.type "int") (rB X.K T .int) := by
  intro pins s σ H xs us Q I r ⟨M, S, x, u, p, d, ex, ru, st, e1, e2, w⟩
  subst ex
  have rp := rs_of ru st e1
  unfold bltD at e2
  cases p with
  | int i =>
    cases e2
    exact call_int1 pins s σ H _ us Q I r (.inl ⟨i, by rw [rp.int], w.here st (.int _)⟩)
  | bool b =>
    cases e2
    exact call_int1 pins s σ H _ us Q I r (.inr ⟨b, by rw [rp.bool], w.here st (.int _)⟩)
  | _ => cases e2
theorem blt_bool : CallR X (.type "bool") (rB X.K T .bool) := by
  intro pins s σ H xs us Q I r ⟨M, S, x, u, p, d, ex, ru, st, e1, e2, w⟩
  subst ex
  have rp := rs_of ru st e1
  unfold bltD at e2
  cases p with
  | bool b =>
    cases e2
    exact call_bool1 pins s σ H _ us Q I r (.inr ⟨b, by rw [rp.bool], w.here st (.bl _)⟩)
  | _ => cases e2
theorem blt_abs : CallR X (.builtin "abs") (rB X.K T .abs) := by
  intro pins s σ H xs us Q I r ⟨M, S, x, u, p, d, ex, ru, st, e1, e2, w⟩
  subst ex
  have rp := rs_of ru st e1
  unfold bltD at e2
  cases p with
  | int i =>
    cases e2
    exact call_abs pins s σ H _ us Q I r ⟨i, by rw [rp.int], w.here st (.int _)⟩
  | _ => cases e2
theorem blt_tuple : CallR X (.type "tuple") (rB X.K T .tuple) := by
  intro pins s σ H xs us Q I r ⟨M, S, x, u, p, d, ex, ru, st, e1, e2, w⟩
  subst ex
  have rp := rs_of ru st e1
  obtain ⟨ds, e3, rfl⟩ := map_some (show (seqD p).map PyData.tuple = some d from e2)
  cases p with
  | list ds =>
    cases e3
    obtain ⟨a, ys, rfl, h2, h3⟩ := rp
    exact call_tuple_of pins s σ H _ us Q I r ⟨a, ys, rfl, .inl ⟨SqL.of h2, fun l hl => w.tuple st hl h3⟩⟩
  | tuple ds =>
    cases e3
    obtain ⟨a, ys, rfl, h2, h3⟩ := rp.tup
    exact call_tuple_of pins s σ H _ us Q I r ⟨a, ys, rfl, .inr ⟨h2.sq, w.here st (.tup h2 h3)⟩⟩
  | _ => cases e3
theorem blt_list : CallR X (.type "list") (rB X.K T .list) := by
  intro pins s σ H xs us Q I r ⟨M, S, x, u, p, d, ex, ru, st, e1, e2, w⟩
  subst ex
  have rp := rs_of ru st e1
  obtain ⟨ds, e3, rfl⟩ := map_some (show (seqD p).map PyData.list = some d from e2)
  cases p with
  | list ds =>
    cases e3
    obtain ⟨a, ys, rfl, h2, h3⟩ := rp
    exact call_list_of pins s σ H _ us Q I r ⟨a, ys, rfl, .inl (SqL.of h2), fun l hl => w.list st hl h3⟩
  | tuple ds =>
    cases e3
    obtain ⟨a, ys, rfl, h2, h3⟩ := rp.tup
    exact call_list_of pins s σ H _ us Q I r ⟨a, ys, rfl, .inr h2.sq, fun l hl => w.list st hl h3⟩
  | _ => cases e3
theorem sortOk_of {xs : List PyData} (h : sortOk xs = true) : xs.length ≤ line ∧ PySem.W.AllAlike xs ∧ (∀ d, d ∈ xs → SeqAt.shaped d = true) ∧ PySem.W.Sortable xs := by
  unfold sortOk at h
  simp only [Bool.and_eq_true, Bool.or_eq_true, decide_eq_true_eq, List.all_eq_true] at h
  obtain ⟨⟨⟨h1, h2⟩, h3⟩, h4⟩ := h
  refine ⟨h1, h2, h3, ?_⟩
  rcases h4 with h4 | h4
  · refine .inl fun d hd => ?_
    have q := h4 d hd
    split at q
    · exact ⟨_, _, rfl⟩
    · cases q
  · refine .inr fun d hd => ?_
    have q := h4 d hd
    refine ⟨fun e => ?_, fun ys e => ?_⟩
    · subst e; cases q
    · subst e; cases q
theorem blt_sorted (hu : X.A.units + 70 < cLine) : CallR X (.builtin "sorted") (rB X.K T .sorted) := by
  intro pins s σ H xs us Q I r ⟨M, S, x, u, p, d, ex, ru, st, e1, e2, w⟩
  subst ex
  have rp := rs_of ru st e1
  unfold bltD at e2
  cases p with
  | list ds =>
    have e2 : (if sortOk ds = true then some (PyData.list (sortD ds)) else none) = some d := e2
    split at e2
    · rename_i hk
      cases e2
      obtain ⟨h1, h2, h3, h4⟩ := sortOk_of hk
      obtain ⟨a, ys, rfl, hl, ha⟩ := rp
      obtain ⟨v, rfl, rv⟩ := r.one
      cases rv
      obtain ⟨its, rvs, pl, hz⟩ := I.list (SqL.of hl)
      have each : ∀ {ys : List V} {ds : List PyData} {its : List Value}, RpA X.K M H ys ds → Vals ys its → PySem.W.EachIs (fun (v : Value) (d : PyData) => ∃ x, RelV x v ∧ Rp X.K M H x d) its ds := fun {ys ds its} h => by
        intro hv
        induction hv generalizing ds with
        | nil => cases h; exact .nil
        | cons r _ ih =>
          cases h with
          | cons h1 h2 => exact .cons ⟨_, r, h1⟩ (ih h2)
      have back : ∀ {ds : List PyData} {its : List Value}, PySem.W.EachIs (fun (v : Value) (d : PyData) => ∃ x, RelV x v ∧ Rp X.K M H x d) its ds → ∃ ys, RpA X.K M H ys ds ∧ Vals ys its := fun {ds its} h => by
        induction h with
        | nil => exact ⟨[], .nil, .nil⟩
        | cons q _ ih =>
          obtain ⟨x, h1, h2⟩ := q
          obtain ⟨ys, h3, h4⟩ := ih
          exact ⟨x :: ys, .cons h2 h3, .cons h1 h4⟩
      have e := each ha rvs
      have er : PySem.W.EachIs (fun (v : Value) (d : PyData) => ∃ as, Reads s.heap v (id d) as) its ds := e.mono fun v d ⟨x, h1, h2⟩ => Dp.reads I d x v h2.dp h1
      refine PySem.W.sorted_data (enc := id) pl.isList e er (by rw [List.map_id]; exact h2) (by rw [List.map_id]; exact h4) (by rw [← line_eq]; exact h1) (fun b hb => by have := SeqAt.depth_of_shaped (h3 b hb); show X.A.units + 2 + b.depth < cLine; omega) fun out ho eo => ?_
      obtain ⟨zs, rz, vz⟩ := back eo
      obtain ⟨c, hc⟩ := sortedAll_at s.heap its out.toArray
      have hq : H (s.heap.objs.size + 1) = none := I.hok.fresh (Nat.le_succ _)
      have hlen : zs.length ≤ sizeLine := by rw [vz.length, ho, ← line_eq]; exact h1
      have J : Inv X pins σ (upd H (s.heap.objs.size + 1) (.lst zs)) { s with heap := sortedAll s.heap its out.toArray } := I.laid (t' := s.toks) (a := s.heap.objs.size + 1) (o := .lst zs) (fun b o q => sortedAll_old q) (Nat.le_succ _) ⟨hlen, out, c, vz, hc⟩
      exact ⟨.ref (s.heap.objs.size + 1), _, J, rfl, w.list st hq rz⟩
    · cases e2
  | _ => cases e2
theorem tyX_of {K : W.Frag} {M : Ms} {H : Hp} {x : V} {p : PyData} (h : Rs K M H x p) : TyX K H x (.type (tyN p)) ∧ tyN p ∈ ["NoneType", "bool", "int", "str", "list", "tuple"] := by
  cases p with
  | none => rw [h.none]; exact ⟨.base .non, by simp [tyN]⟩
  | bool b => rw [h.bool]; exact ⟨.base (.bl b), by simp [tyN]⟩
  | int b => rw [h.int]; exact ⟨.base (.int b), by simp [tyN]⟩
  | str b => rw [h.str]; exact ⟨.base (.str b), by simp [tyN]⟩
  | list ds =>
    obtain ⟨a, ys, rfl, h2, h3⟩ := h
    exact ⟨.base (.lst h2), by simp [tyN]⟩
  | tuple ds =>
    obtain ⟨a, ys, rfl, h2, h3⟩ := h.tup
    rcases h2 with ⟨_, h2⟩ | ⟨o, its, n, h4, h5, _⟩
    · exact ⟨.base (.tup h2), by simp [tyN]⟩
    · exact ⟨.kTuple h4 h5, by simp [tyN]⟩
  | dict kvs => cases h
theorem blt_isi {N : String} (hN : N ∈ askT) : CallR X (.builtin "isinstance") (fun xs H Q => ∃ M S x u p r, xs = [x, .ty N] ∧ RU X.K M H x u ∧ StOk X.K T M S H ∧ deref S u = some p ∧ bltD (.isi N) p = some r ∧ Wish X.K T M S H r Q) := by
  intro pins s σ H xs us Q I r ⟨M, S, x, u, p, d, ex, ru, st, e1, e2, w⟩
  subst ex
  have rp := rs_of ru st e1
  cases e2
  obtain ⟨h1, h2⟩ := tyX_of rp
  have hk := kit_all
  rw [List.all_eq_true] at hk
  have hk := List.all_eq_true.mp (hk N hN) _ h2
  exact call_isi pins s σ H _ us Q I r ⟨x, .ty N, _, _, _, rfl, .ty N, h1, kit_ty (of_decide_eq_true hk), w.here st (.bl _)⟩
/-- a method, by the little language's -/
def rM (K : W.Frag) (T : List (Addr × Str)) (m : Mth) : V → List V → Hp → VK → Prop := fun x xs H Q => ∃ M S u us p ps r, RU K M H x u ∧ RUs K M H xs us ∧ StOk K T M S H ∧ deref S u = some p ∧ derefs S us = some ps ∧ mthD m p ps = some r ∧ Wish K T M S H r Q
/-- the arguments read -/
inductive RsA (K : W.Frag) (M : Ms) (H : Hp) : List V → List PyData → Prop
  | nil : RsA K M H [] []
  | cons {v : V} {vs : List V} {d : PyData} {ds : List PyData} : Rs K M H v d → RsA K M H vs ds → RsA K M H (v :: vs) (d :: ds)
theorem rsA_of {K : W.Frag} {M : Ms} {S : Store} {H : Hp} (st : StOk K T M S H) : ∀ {vs : List V} {us : List U} {ps : List PyData}, RUs K M H vs us → derefs S us = some ps → RsA K M H vs ps
  | _, _, _, .nil, e => by cases e; exact .nil
  | _, _, _, .cons (u := u) (us := us) h r, e => by
    unfold derefs at e
    cases e1 : deref S u with
    | none => rw [e1] at e; cases e
    | some p =>
      rw [e1] at e
      cases e2 : derefs S us with
      | none => rw [e2] at e; cases e
      | some ps =>
        rw [e2] at e
        cases e
        exact .cons (rs_of h st e1) (rsA_of st r e2)
/-- one argument -/
theorem rM_one {K : W.Frag} {T : List (Addr × Str)} {m : Mth} {x : V} {xs : List V} {H : Hp} {Q : VK} (h : rM K T m x xs H Q) : ∃ M S y p q r, xs = [y] ∧ Rs K M H x p ∧ Rs K M H y q ∧ StOk K T M S H ∧ mthD m p [q] = some r ∧ Wish K T M S H r Q := by
  obtain ⟨M, S, u, ws, p, ps, r, ru, rus, st, e1, e2, e3, w⟩ := h
  have rp := rs_of ru st e1
  have ra := rsA_of st rus e2
  cases ra with
  | nil => cases e3
  | cons h1 t =>
    cases t with
    | nil => exact ⟨M, S, _, p, _, r, rfl, rp, h1, st, e3, w⟩
    | cons _ _ => cases e3
theorem mth_join : MtR X "str.join" (rM X.K T .join) := by
  intro pins s σ H x xs v us Q I rx rxs h
  obtain ⟨M, S, y, p, q, r, rfl, rp, rq, st, e3, w⟩ := rM_one h
  have e3 : joinD p q = some r := e3
  unfold joinD at e3
  cases p with
  | str z =>
    cases e4 : strsOf q with
    | none => rw [e4] at e3; cases e3
    | some ss =>
      rw [e4] at e3
      have e3 : (if joinFit z ss = true then some (PyData.str (Txt.join z ss)) else none) = some r := e3
      split at e3
      · rename_i hf
        cases e3
        have hf : (ss.map (·.length)).sum + ss.length * z.length ≤ 16777216 := of_decide_eq_true hf
        cases q with
        | list ys =>
          obtain ⟨a, zs, rfl, h2, h3⟩ := rq
          have := strs_of h3 e4
          subst this
          exact mt_join pins s σ H _ _ v us Q I rx rxs ⟨z, a, ss, rp.str, rfl, .inl (SqL.of h2), hf, w.here st (.str _)⟩
        | tuple ys =>
          obtain ⟨a, zs, rfl, h2, h3⟩ := rq.tup
          have := strs_of h3 e4
          subst this
          exact mt_join pins s σ H _ _ v us Q I rx rxs ⟨z, a, ss, rp.str, rfl, .inr h2.sq, hf, w.here st (.str _)⟩
        | _ => cases e4
      · cases e3
  | _ => cases e3
theorem rpA_strs {K : W.Frag} {M : Ms} {H : Hp} : ∀ l : List Str, RpA K M H (l.map V.str) (l.map PyData.str)
  | [] => .nil
  | z :: l => .cons (.str z) (rpA_strs l)
theorem mth_strip : MtR X "str.strip" (rM X.K T .strip) := by
  intro pins s σ H x xs v us Q I rx rxs h
  obtain ⟨M, S, y, p, q, r, rfl, rp, rq, st, e3, w⟩ := rM_one h
  have e3 : stripD p q = some r := e3
  unfold stripD at e3
  split at e3
  · split at e3
    · rename_i hz
      cases e3
      exact mt_stripChars pins s σ H _ _ v us Q I rx rxs ⟨_, _, rp.str, by rw [rq.str], by rw [← line_eq]; exact hz, w.here st (.str _)⟩
    · cases e3
  · cases e3
theorem mth_split : MtR X "str.split" (rM X.K T .split) := by
  intro pins s σ H x xs v us Q I rx rxs h
  obtain ⟨M, S, y, p, q, r, rfl, rp, rq, st, e3, w⟩ := rM_one h
  have e3 : splitD p q = some r := e3
  unfold splitD at e3
  split at e3
  · split at e3
    · rename_i hz
      cases e3
      exact mt_split pins s σ H _ _ v us Q I rx rxs ⟨_, _, rp.str, by rw [rq.str], hz.1, by rw [← line_eq]; exact hz.2, fun l hl => w.list st hl (rpA_strs _)⟩
    · cases e3
  · cases e3
end
end Ev
end

section
set_option Elab.async false
set_option linter.all false
set_option autoImplicit false
set_option maxRecDepth 100000
set_option maxHeartbeats 4000000
/-! # From the program's syntax to the little language -/
namespace Ev
open PySem
structure Cfg where
  fnIx : Str → Option Nat
  clIx : Str → Option Nat
  clTx : Str → Option Nat
  con : Str → Option PyData
  /-- the defs that call what they get, and tell the error -/
  errs : Str → Bool
  /-- the names whose lists are changed in place -/
  bx : List Str
  /-- there are lambdas; what is handed back is a list that is changed in place -/
  lam : Bool
  keep : Bool
  /-- how many parameters a def has -/
  np : Nat → Option Nat
def ixOf (N : List Str) (x : Str) : Option Nat :=
  match N.findIdx? (fun y => decide (y = x)) with
  | some i => if N[i]? = some x then some i else none
  | none => none
def visB (sc : Scope) (x : Str) : Bool :=
  match sc.names.lookup x with
  | some .local => true
  | some .cell => true
  | some .free => true
  | _ => false
def locB (sc : Scope) (x : Str) : Bool :=
  match sc.names.lookup x with
  | some .local => true
  | some .cell => true
  | _ => false
def glB (sc : Scope) (x : Str) : Bool := decide (sc.names.lookup x = some .globalImplicit)
def odd (x : Str) : Bool := (x == ("__debug__" : Str)) || (x == ("__classdict__" : Str)) || (x == ("__name__" : Str))
def starred : Expr → Bool
  | .Starred _ _ => true
  | _ => false
/-- f() without arguments: never the receiver of a method -/
def bareCall : Expr → Bool
  | .Call _ [] _ _ => true
  | _ => false
def isSet : Expr → Bool
  | .Set _ _ _ => true
  | _ => false
def isSlice : Expr → Bool
  | .Slice _ _ _ _ => true
  | _ => false
def isComp : Expr → Bool
  | .ListComp _ _ _ _ => true
  | .SetComp _ _ _ _ => true
  | .DictComp _ _ _ _ _ => true
  | _ => false
def cL (f : Expr → Option X) : List Expr → Option Xs
  | [] => some .nil
  | e :: r => if starred e = true then none else (f e).bind fun x => (cL f r).map fun xs => .cons x xs
def cO (f : Expr → Option X) : Option Expr → Option Xs
  | none => some .nil
  | some e => (f e).map fun x => .cons x .nil
def bltOf (x : Str) : Option Blt :=
  if x = "len" then some .len else if x = "all" then some .all else if x = "sum" then some .sum else if x = "int" then some .int else
  if x = "bool" then some .bool else if x = "abs" then some .abs else if x = "tuple" then some .tuple else if x = "list" then some .list else if x = "sorted" then some .sorted else none
def mthOf (x : Str) : Option Mth :=
  if x = "join" then some .join else if x = "split" then some .split else if x = "strip" then some .strip else none
def tyOf (x : Str) : Option String :=
  if x = "int" then some "int" else if x = "bool" then some "bool" else if x = "str" then some "str" else if x = "tuple" then some "tuple" else if x = "list" then some "list" else none
/-- the slots of a comprehension's own names -/
def ownOf (N : List Str) (scope : Scope) : List (Str × Nat) :=
  scope.names.filterMap fun y => match y.2 with
    | .local => (ixOf N y.1).map fun i => (y.1, i)
    | .cell => (ixOf N y.1).map fun i => (y.1, i)
    | _ => none
/-- which names a place may store -/
abbrev Fb := Str → Bool
def fbDef : Fb := fun _ => true
def fbBlk (scope sc' : Scope) : Fb := fun x => decide (scope.names.lookup x = some .cell) || decide (sc'.names.lookup x = some .local)
mutual
/-- a target -/
def cT (N : List Str) (sc : Scope) (fb : Fb) : Nat → Expr → Option Tg
  | 0, _ => none
  | n + 1, e => match e with
    | .Name x _ => if (locB sc x && fb x) = true then (ixOf N x).map .nm else none
    | .Tuple es _ _ => cTs N sc fb n es
    | _ => none
def cTs (N : List Str) (sc : Scope) (fb : Fb) : Nat → List Expr → Option Tg
  | 0, _ => none
  | _ + 1, [] => some .nil
  | n + 1, e :: r => if starred e = true then none else (cT N sc fb n e).bind fun a => (cTs N sc fb n r).map fun b => .cons a b
end
/-- the slots of a target -/
def Tg.slots : Tg → List Nat
  | .nm i => [i]
  | .nil => []
  | .cons a r => a.slots ++ r.slots
def isTup : Expr → Bool
  | .Tuple _ _ _ => true
  | _ => false
mutual
def cE (g : Cfg) (N : List Str) : Nat → Scope → Fb → Expr → Option X
  | 0, _, _, _ => none
  | n + 1, sc, fb, e => match e with
    | .Constant (.int i) _ _ => some (.con (.int i))
    | .Constant (.bool b) _ _ => some (.con (.bool b))
    | .Constant .none _ _ => some (.con .none)
    | .Constant (.str z) _ _ => some (.con (.str z))
    | .Name x _ => if odd x = true then none else if visB sc x = true then (ixOf N x).map .loc else if glB sc x = true then (g.con x).map .con else none
    | .BinOp a op b _ => (cE g N n sc fb a).bind fun x => (cE g N n sc fb b).map fun y => .bin op x y
    | .UnaryOp .USub a _ => (cE g N n sc fb a).map .neg
    | .UnaryOp .Not a _ => (cE g N n sc fb a).map .not
    | .Compare a [op] [b] _ => if behindInMarks op b = true then none else (cE g N n sc fb a).bind fun x => (cE g N n sc fb b).map fun y => .cmp op x y
    | .Compare a [o, p] [b, c] _ => if lastMarks [o, p] [b, c] = true then none else (cE g N n sc fb a).bind fun x => (cE g N n sc fb b).bind fun y => (cE g N n sc fb c).map fun z => .chn o p x y z
    | .BoolOp .And [a] _ => cE g N n sc fb a
    | .BoolOp .And (a :: b :: r) pos => (cE g N n sc fb a).bind fun x => (cE g N n sc fb (.BoolOp .And (b :: r) pos)).map fun y => .and x y
    | .BoolOp .Or [a] _ => cE g N n sc fb a
    | .BoolOp .Or (a :: b :: r) pos => (cE g N n sc fb a).bind fun x => (cE g N n sc fb (.BoolOp .Or (b :: r) pos)).map fun y => .or x y
    | .IfExp c a b _ => (cE g N n sc fb c).bind fun z => (cE g N n sc fb a).bind fun x => (cE g N n sc fb b).map fun y => .ife z x y
    | .List es _ => (cL (cE g N n sc fb) es).map .lst
    | .Tuple es _ _ => (cL (cE g N n sc fb) es).map .tup
    | .Subscript a (.Slice none none (some (.UnaryOp .USub (.Constant (.int 1) _ _) _)) _) _ => (cE g N n sc fb a).map .rev
    | .Subscript a (.Slice lo hi none _) _ => (cE g N n sc fb a).bind fun x => (cO (cE g N n sc fb) lo).bind fun l => (cO (cE g N n sc fb) hi).map fun h => .slc x l h
    | .Subscript a i _ => if isSlice i = true then none else (cE g N n sc fb a).bind fun x => (cE g N n sc fb i).map fun y => .idx x y
    | .ListComp elt [⟨tg, it, ifs, k⟩] scope _ => if (L2.blkC N sc scope (ownOf N scope) && decide (k = 0) && !isSet it && decide (ifs.length ≤ 1)) = true then
        (cI g N n sc fb (isTup tg) it).bind fun i => (cT N (L2.relS scope sc) (fbBlk scope (L2.relS scope sc)) n tg).bind fun t =>
        if (t.slots.all fun i => decide (i ∈ (ownOf N scope).map (·.2))) = false then none else (cL (cE g N n (L2.relS scope sc) (fbBlk scope (L2.relS scope sc))) ifs).bind fun c => (cE g N n (L2.relS scope sc) (fbBlk scope (L2.relS scope sc)) elt).map fun e =>
          .lc ((ownOf N scope).map (·.2)) t i c e else none
    | .Call (.Name f _) [.Lambda params body scope _] [] _ => if (g.errs f && g.lam && glB sc f && !odd f && LamX.lamSB sc scope) = true then (match params with
        | ⟨[], [], none, [], [], none, []⟩ => (cE g N n scope (fun _ => false) body).map .err
        | _ => none) else none
    | .Call (.Name f _) as [] _ => if (odd f || !glB sc f) = true then none else match g.fnIx f with
      | some i => if g.errs f = true then none else (cL (cE g N n sc fb) as).map fun xs => .call i xs
      | none => match as with
        | [a] => if starred a = true then none else (bltOf f).bind fun b => (cE g N n sc fb a).map fun x => .blt b x
        | [a, .Name t _] => if (decide (f = "isinstance") && glB sc t && !starred a) = true then (tyOf t).bind fun T => (cE g N n sc fb a).map fun x => .blt (.isi T) x else none
        | _ => none
    | .Call (.Attribute o m apos) [a] [] pos => if (starred a || bareCall o || !(apos.endLine == pos.line)) = true then none else
        (mthOf m).bind fun k => (cE g N n sc fb o).bind fun x => (cE g N n sc fb a).map fun y => .mth k x (.cons y .nil)
    | _ => none
/-- what is walked -/
def cI (g : Cfg) (N : List Str) : Nat → Scope → Fb → Bool → Expr → Option It
  | 0, _, _, _, _ => none
  | n + 1, sc, fb, tup, e => match e with
    | .Call (.Name f _) [a] [] _ =>
      if (decide (f = "range") && glB sc f && !starred a) = true then (cE g N n sc fb a).map fun x => .rng (.cons x .nil)
      else if (decide (f = "enumerate") && glB sc f && !starred a && tup) = true then (cE g N n sc fb a).map .enm
      else (cE g N n sc fb e).map .val
    | .Call (.Name f _) [a, b] [] _ =>
      if (decide (f = "range") && glB sc f && !starred a && !starred b) = true then (cE g N n sc fb a).bind fun x => (cE g N n sc fb b).map fun y => .rng (.cons x (.cons y .nil))
      else if (decide (f = "zip") && glB sc f && !starred a && !starred b && tup) = true then (cE g N n sc fb a).bind fun x => (cE g N n sc fb b).map fun y => .zip x y
      else (cE g N n sc fb e).map .val
    | .Call (.Name f _) [a, b, d] [] _ =>
      if (decide (f = "range") && glB sc f && !starred a && !starred b && !starred d) = true then (cE g N n sc fb a).bind fun x => (cE g N n sc fb b).bind fun y => (cE g N n sc fb d).map fun z => .rng (.cons x (.cons y (.cons z .nil)))
      else (cE g N n sc fb e).map .val
    | _ => (cE g N n sc fb e).map .val
end
end Ev
end

section
set_option Elab.async false
set_option linter.all false
set_option autoImplicit false
set_option maxRecDepth 100000
set_option maxHeartbeats 4000000
/-! # A lambda handed to a def: what it raises has no context -/
namespace Ev
open PySem PySem.Spec PyProof.Rows L2 LamX
theorem takesN0 {X : Cx} : L2N.Takes X (fun _ _ _ _ => False) := fun _ _ x => by
  obtain ⟨_, _, _, _, _, _, _, _, _, _, _, _, _, _, _, _, z⟩ := x
  exact z.elim
/-- the context of the lambda's body -/
abbrev lamN (X : Cx) (A : Around) (outer : List Env) (s : Shared) (H : Hp) (E : XK) (scope : Scope) (f c' : Addr) : Cx :=
  (LamX.lamCx X A outer s H E scope f c').wish fun e s' => wpAny (model X.prog X.w) (A.deeper (lamEnv X scope s.heap.objs.size f c')) (leaving (lamEnv X scope s.heap.objs.size f c') e) (fun _ s'' => L2N.CX X.prog X.w outer H s E e s'') (fun e' s'' => L2N.CX X.prog X.w outer H s E e' s'') s'
section
variable {X : Cx}
/-- the def that got it, in its own words -/
abbrev gotN (X : Cx) (Ng : List Str) (x : Str) (sg : Scope) (g : Addr) (cdg : Value) (s : Shared) (H : Hp) : Cx := cxOf C8.CX0 X.prog X.w X.K X.mg X.base Ng x sg g cdg X.A X.stack s H C8.E0
/-- a() there -/
theorem pe_actN {pins : List (Addr × Obj)} {σ : L2.St} {H : Hp} {s : Shared} {Ng : List Str} {qg : Str} {sg : Scope} {g f c' : Addr} {cdg pm ctv : Value} {params : Arguments} {body : Expr} {scope : Scope} {k : Nat} {a : Str} {pn : List (Addr × Obj)} {xe : Value → Shared → Prop} {W : WX} {E : XK} {tb : TE} {p1 p2 : Pos}
    (I : Inv X pins σ H s) (L : LamS X.env.scope scope) (hf : s.heap.get? f = some (PySem.W.kla_obj "<lambda>" (X.env.qual ++ "<lambda>") params body scope (cloFrom X.env.cells scope.names []) pm c' ctv)) (hfn : H f = none) (hfr : f ∉ frs X.stack)
    (hbind : bindArgs (PySem.W.kla_fn "<lambda>" (X.env.qual ++ "<lambda>") params body scope (cloFrom X.env.cells scope.names []) pm (.ref c') ctv) ⟨[], []⟩ = pure [])
    (tk : L2N.Takes ((gotN X Ng qg sg g cdg s H).tr pn xe) W) (hW : ∀ cls d σ' H', E cls d H' → W cls d σ' H') (hr : Room (k + 1) (X.A.deeper (envOfC qg sg s.heap.objs.size g cdg)))
    (hbody : ∀ (A : Around) (outer : List Env) (s : Shared) (H : Hp), Room k (A.deeper (lamEnv X scope s.heap.objs.size f c')) → PE (lamN X A outer s H E scope f c') body tb)
    (hN : Ng[0]? = some a) (hv : Vis sg a) (hd : (a == ("__debug__" : Str)) = false) (hcd : (a == ("__classdict__" : Str)) = false) :
    PE ((gotN X Ng qg sg g cdg s H).tr pn xe) (.Call (.Name a p1) [] [] p2) (fun σZ HZ Q => σZ[0]? = some (some (.ref f)) ∧ HZ c' = some (CodeO c' (X.env.qual ++ "<lambda>")) ∧ tb σ HZ Q) := by
  refine ⟨fun pinsZ sZ σZ HZ Q IZ ⟨hs, hc, ht⟩ => ?_⟩
  refine wpAny_Call_Name_kw (thn ((pe_var (pos := p1) (i := 0) hN hv hd hcd).run pinsZ sZ σZ HZ (fun v H1 => v = .ref f ∧ H1 = HZ) IZ ⟨.ref f, hs, rfl, rfl⟩) fun u s1 ⟨v, H1, I1, r1, ev, eH⟩ => ?_)
  subst ev
  rw [eH] at I1
  cases (show u = Value.ref f from r1)
  have of1 := I1.base.keep f _ hf hfn hfr (fun z => nomatch (show f ∈ ([] : List Addr) from z))
  refine PySem.W.callWith_F0 ⟨_, _, _, _, of1⟩ ?_
  have un : Un (frs X.stack) [] H HZ s.heap s1.heap := I1.base
  obtain ⟨⟨oc, vs, t, hoc, hdc, hvc⟩, _, _⟩ := I1.hok c' _ hc
  have hx : Passes (L2N.CX X.prog X.w) ((gotN X Ng qg sg g cdg s H).tr pn xe) E := L2N.passes_call tk hW
  have rc : codeAny (model X.prog X.w) (X.A.deeper (envOfC qg sg s.heap.objs.size g cdg)) (.call (.ref f) ⟨[], []⟩) (CR (L2N.CX X.prog X.w) (envOfC qg sg s.heap.objs.size g cdg :: X.stack) X.prog X.w HZ s1 Q E) s1 := by
    refine PySem.W.kla_callFunE hr.depth of1 rfl L.co L.gen rfl ⟨c', oc, vs, t, rfl, hoc, hdc, hvc⟩ ?_
    rw [hbind]
    refine wpAny_pure (wpAny_newFunctionEnv (fun y hy => (L.own y hy).2) (fun y hy => absurd hy (by simp)) (fun h₁ hns hsb => ⟨I1.nolimit.fresh _ hsb, ?_⟩) L.kind)
    show codeAny _ _ (.expr body (lamEnv X scope s1.heap.objs.size f c')) _ _
    have J := (lam_start2 (E := E) (f := f) (c' := c') (tk := s1.toks + ([] : List (Str × Value)).length) I L I1.env0 hr.hd un hns fun b o e => hsb.extBut b o (Nat.ne_of_lt (Heap.lt_size e)) (Heap.get?_push_of_some _ e)).wish
      (fun e s' => wpAny (model X.prog X.w) ((X.A.deeper (envOfC qg sg s.heap.objs.size g cdg)).deeper (lamEnv X scope s1.heap.objs.size f c')) (leaving (lamEnv X scope s1.heap.objs.size f c') e) (fun _ s'' => L2N.CX X.prog X.w (envOfC qg sg s.heap.objs.size g cdg :: X.stack) HZ s1 E e s'') (fun e' s'' => L2N.CX X.prog X.w (envOfC qg sg s.heap.objs.size g cdg :: X.stack) HZ s1 E e' s'') s')
    refine PySem.W.kla_codeExpr (wpAny_mono ((hbody _ _ s1 HZ (hr.deeper _)).run [] _ _ HZ Q J ht) (fun v s' ⟨w', H', J', rv, q⟩ => ?_) fun e s' hq => hq)
    exact ⟨w', H', J'.os, J'.bare, J'.base, J'.hok, rv, q⟩
  refine wpAny_call (codeAny_mono rc fun r s' hq => ?_)
  cases r with
  | error e => exact hx pinsZ σZ HZ s1 e s' I1 hq
  | ok fl =>
    cases fl with
    | ret u => exact I1.after hq
    | next => exact False.elim hq
    | brk => exact False.elim hq
    | cont => exact False.elim hq
/-- the def that calls what it got; TT: what it makes of the lambda's reading -/
def GivesN (X : Cx) (Ng : List Str) (x : Str) (sg : Scope) (g : Addr) (cdg : Value) (bg : List Stmt) (a : Str) (q : Str) (TT : (XK → Hp → VK → Prop) → Hp → VK → Prop) : Prop :=
  ∀ (f c' : Addr) (s : Shared) (H : Hp) (Q : VK) (tl : XK → Hp → VK → Prop),
    (∀ (W : WX) (pn : List (Addr × Obj)) (xe : Value → Shared → Prop) (E : XK) (p1 p2 : Pos), L2N.Takes ((gotN X Ng x sg g cdg s H).tr pn xe) W → (∀ cls d σ' H', E cls d H' → W cls d σ' H') →
      PE ((gotN X Ng x sg g cdg s H).tr pn xe) (.Call (.Name a p1) [] [] p2) (fun σZ HZ Q => σZ[0]? = some (some (.ref f)) ∧ HZ c' = some (CodeO c' q) ∧ tl E HZ Q)) →
    H c' = some (CodeO c' q) → TT tl H Q → ∃ t, PSs (gotN X Ng x sg g cdg s H).nox bg t ∧ t { nx := fun _ H' => Q .non H', rt := Q } (L2.start Ng [.ref f]) H
/-- x(lambda: body) -/
theorem pe_lamN {T : List (Addr × Str)} {TT : (XK → Hp → VK → Prop) → Hp → VK → Prop} {x a : Str} {g c P : Addr} {k : Nat} {pg : Arguments} {bg : List Stmt} {sg : Scope} {dV kV doc pm cdv ct oc : Value} {an od : Option Addr} {osl : Array (Option Value)} {Ng : List Str}
    {params : Arguments} {body : Expr} {scope : Scope} {t : XK → TE} {p lpos pos : Pos} (hg : Gl X x) (hm : X.mg x = some (.ref g)) (hk : PySem.W.keepIn X.K (.ref g) = true)
    (lk : X.K.lookup g = some ⟨oc, od, .func (PySem.W.fnOf x x pg bg sg dV kV doc pm an cdv ct), osl⟩) (hcg : PySem.W.codeIn X.K cdv x = true) (hb : L2.Binds X.K (PySem.W.fnOf x x pg bg sg dV kV doc pm an cdv ct) [a] []) (Sg : FnScope Ng [a] sg) (hNg : Ng[0]? = some a) (hva : Vis sg a)
    (hG : GivesN X Ng x sg g cdv bg a (X.env.qual ++ "<lambda>") TT)
    (TB : TabB X.base X.mg c P) (hcode : X.env.code = .ref c) (hmT : (P, X.env.qual ++ "<lambda>") ∈ T) (hu : ∀ p ∈ T, p.1 = P → p.2 = X.env.qual ++ "<lambda>") (hr : Room (k + 2) X.A) (L : LamS X.env.scope scope) (hdef : defaultsOf params X.env = ([], []))
    (hbind : ∀ (q : Str) (cl : List (Str × Addr)) (pm cv ctv : Value), bindArgs (PySem.W.kla_fn "<lambda>" q params body scope cl pm cv ctv) ⟨[], []⟩ = pure [])
    (hbody : ∀ (A : Around) (outer : List Env) (s : Shared) (H : Hp) (E : XK) (f c' : Addr), Room k (A.deeper (lamEnv X scope s.heap.objs.size f c')) → PE (lamN X A outer s H E scope f c') body (t E))
    (hdb : (x == ("__debug__" : Str)) = false) (hd : (a == ("__debug__" : Str)) = false) (hcd : (a == ("__classdict__" : Str)) = false) :
    PE X (.Call (.Name x p) [.Lambda params body scope lpos] [] pos) (tLam T TT t) := by
  refine ⟨fun pins s σ H Q I ⟨hT, h⟩ => ?_⟩
  refine wpAny_Call_Name_kw (ld_glob I hg hm (PySem.W.callWith_K (h₀ := X.base) I.ok.mod.kin hk ?_ (by rfl) (by rfl)) hdb)
  show wpAny _ _ (spliced ((false, eval (.Lambda params body scope lpos) X.env) :: backTo pos (starEach [] X.env))) _ _ s
  refine Calls.spliced_cons (lam_make2 I TB hcode hmT hu hT hdef (L.has I.ok) fun f c' pm' ctv H1 s' I1 eN T1 hf hfn hfr hco => Calls.spliced_nil ⟨I1.kIn, ?_⟩)
  have rc : codeAny (model X.prog X.w) X.A (.call (.ref g) ⟨[.ref f], []⟩) (CR C8.CX0 X.stack X.prog X.w H1 s' Q C8.E0) s' := by
    refine run_ofS (N := Ng) (ps := [a]) (us := [.ref f]) (vs := [.ref f]) lk hcg Sg hr I1.env0 (hb s' [.ref f] I1.kIn rfl) (.cons rfl .nil) rfl fun hr' => ?_
    obtain ⟨t', ht', hq'⟩ := hG f c' s' H1 Q (fun E H' Q' => t E σ H' Q') (fun W pn xe E p1 p2 tk hW => pe_actN I1 L hf hfn hfr (hbind _ _ _ _ _) tk hW hr' (fun A outer s H hr2 => hbody A outer s H E f c' hr2) hNg hva hd hcd) hco (h H1 eN T1)
    exact ⟨t', ht'.nox, hq'⟩
  refine wpAny_call (codeAny_mono rc fun r s2 hq => ?_)
  cases r with
  | error e => exact (show False from hq).elim
  | ok fl =>
    cases fl with
    | ret u => exact I1.after hq
    | next => exact False.elim hq
    | brk => exact False.elim hq
    | cont => exact False.elim hq
end
end Ev
end

section
set_option Elab.async false
set_option linter.all false
set_option autoImplicit false
set_option maxRecDepth 100000
set_option maxHeartbeats 4000000
/-! # An own exception whose maker calls the one above it, and keeps what it got -/
namespace Ev
open PySem PySem.Spec PyProof.Rows L2
/-- what is known of the maker fI of the class C: its text, its cell, its code -/
structure TmDef (P : Program) (K : W.Frag) (mg : Str → Option Value) (C fI : Addr) (f : Str) : Prop where
  oex : OexC K C
  sup : W.ks_superIn K C C "__init__" = some (some (.builtin "ValueError.__init__"))
  sub : W.subIn K (.ref C) (.type "ValueError") = some true
  mro : W.mroIn K C (.ref C) = some true
  opq : W.nsIn K cStatics "thirdparty.any" = some none
  noS : mg "super" = none
  top : (P.main.scope.names.lookup ("super" : Str)).isSome = false
  fld : W.findIn K (.ref C) f = some none
  txt : ∃ (cda cc : Addr) (nm qual m file : Str) (ar1 ar2 : Arg) (scope : Scope) (dV kV doc pm ct oc ccl cl : Value) (an od cdd cld : Option Addr) (osl ccs csl : Array (Option Value)) (vs : Array Value) (tf : Tok) (j : Nat) (p0 p1 p2 p3 p4 p5 p6 p7 p8 p9 : Pos),
    K.lookup fI = some ⟨oc, od, .func (W.ksFn nm qual ⟨[], [ar1, ar2], none, [], [], none, []⟩ [.Expr (.Call (.Attribute (.Call (.Name "super" p0) [] [] p1) "__init__" p2) [.Constant (.str m) j p3] [] p4) p5, .Assign [.Attribute (.Name ar1.arg p6) f p7] (.Name ar2.arg p8) p9] scope dV kV doc pm an (.ref cda) ct cc), osl⟩ ∧
    W.codeIn K (.ref cda) qual = true ∧ K.lookup cda = some ⟨ccl, cdd, .fields vs, ccs⟩ ∧ vs[2]? = some (.str file tf) ∧ ((P.main.file : Str) == file) = true ∧ K.lookup cc = some ⟨cl, cld, .cell (some (.ref C)), csl⟩ ∧
    scope.names.lookup ("super" : Str) = some .globalImplicit ∧ scope.names.lookup ("__class__" : Str) = some .free ∧ scope.names.lookup ar1.arg = some .local ∧ scope.names.lookup ar2.arg = some .local ∧ scope.kind = .function ∧ scope.isCoroutine = false ∧ scope.isGenerator = false ∧
    (∀ x ∈ scope.names, x.2 ≠ .cell) ∧ (ar1.arg == ("__debug__" : Str)) = false ∧ (ar2.arg == ("__debug__" : Str)) = false ∧ ar2.arg ≠ ar1.arg ∧ (p2.endLine == p4.line) = true ∧ (∀ (s : Shared) (a v : Value), BindsTo s (W.ksFn nm qual ⟨[], [ar1, ar2], none, [], [], none, []⟩ [.Expr (.Call (.Attribute (.Call (.Name "super" p0) [] [] p1) "__init__" p2) [.Constant (.str m) j p3] [] p4) p5, .Assign [.Attribute (.Name ar1.arg p6) f p7] (.Name ar2.arg p8) p9] scope dV kV doc pm an (.ref cda) ct cc) ⟨[a, v], []⟩ [(ar1.arg, a), (ar2.arg, v)])
theorem excO_inst {h : Heap} {a C t1 : Addr} (ho : h.get? a = some (PySem.HandSPX.excO C t1)) : W.InstAt h a (PySem.HandSPX.excO C t1) C none := ⟨ho, rfl, rfl, trivial⟩
theorem tm_init {P : Program} {w : World} {K : W.Frag} {mg : Str → Option Value} {base hp : Heap} {A : Around} {R : Result → Shared → Prop} {g : Array GenState} {d : Drawn} {t : Nat} {os : OsState}
    {fI C a t1 : Addr} {v : Value} {f : Str} (Md : Mod K mg base) (bk : ∀ b o, base.get? b = some o → hp.get? b = some o) (D : TmDef P K mg C fI f) (hroom : A.depth < recursionLimit) (ho : hp.get? a = some (PySem.HandSPX.excO C t1)) (ha0 : base.get? a = none)
    (hq : ∀ h' tk' dx t2, (∀ b o, b ≠ a → hp.get? b = some o → h'.get? b = some o) → hp.objs.size ≤ dx → dx ≠ a → h'.get? a = some { cls := .ref C, dict := some dx, data := .fields #[.ref t2, .none, .none, .none, .bool false, .none] } →
      h'.Ns1 dx (fun y => if y = f then some v else none) → R (.ok (.ret .none)) ⟨h', g, d, tk', os⟩) :
    codeAny (model P w) A (.call (.ref fI) ⟨[.ref a, v], []⟩) R ⟨hp, g, d, t, os⟩ := by
  obtain ⟨cda, cc, nm, qual, m, file, ar1, ar2, scope, dV, kV, doc, pm, ct, oc, ccl, cl, an, od, cdd, cld, osl, ccs, csl, vs, tf, j, p0, p1, p2, p3, p4, p5, p6, p7, p8, p9, hf, hcd, hcode, hvs, hfile, hcell, hks, hkc, hka, hkb, hk, hco, hgen, hnc, hd1, hd2, hne, hline, hbind⟩ := D.txt
  obtain ⟨sk, sn0, sg0, sc0, sm0⟩ := scope
  dsimp only at hks hkc hka hkb hk hco hgen hnc
  subst hk hco hgen
  have X : K.In hp := Md.kin.keeps bk
  refine ks_codeAny_call_defAt (binds := [(ar1.arg, .ref a), (ar2.arg, v)]) hroom (X _ _ hf) rfl (Md.nolimit.keeps bk) (W.codeRec_of X hcd) rfl (hbind _ _ _) hnc (fun y hy => ?_) (fun h₀ hns k0 => ?_) rfl rfl rfl
  · simp only [List.mem_cons, List.not_mem_nil, or_false] at hy
    rcases hy with rfl | rfl
    · exact hka
    · exact hkb
  have F1 : K.In h₀ := X.keeps k0
  have hk' : (callEnv (W.ksFn nm qual ⟨[], [ar1, ar2], none, [], [], none, []⟩ [.Expr (.Call (.Attribute (.Call (.Name "super" p0) [] [] p1) "__init__" p2) [.Constant (.str m) j p3] [] p4) p5, .Assign [.Attribute (.Name ar1.arg p6) f p7] (.Name ar2.arg p8) p9] ⟨.function, sn0, false, false, sm0⟩ dV kV doc pm an (.ref cda) ct cc) hp.objs.size fI) = W.ksEnv qual ⟨.function, sn0, false, false, sm0⟩ hp.objs.size fI (.ref cda) cc := rfl
  rw [hk']
  obtain ⟨mb, hb1, hb2⟩ := Md.blt
  have k1 : ∀ b o, base.get? b = some o → h₀.get? b = some o := fun b o e => k0 b o (bk b o e)
  have I0 := excO_inst (k0 a _ ho)
  obtain ⟨nmC, qC, N, bs, bm, sn, sub, ab, col, dd, c0, c1, c2, c3, c5, hC, hbm⟩ := D.oex.cls
  have hsz : hp.objs.size ≤ h₀.objs.size := by
    obtain ⟨oL, _, _, hL, _⟩ := hns
    exact Nat.le_of_lt (Heap.lt_size hL)
  refine ks_wpAt_execs_cons (ks_wpAt_Expr_any (ks_wpAt_MethodCall (pl := do return (← importBound (.Call (.Name "super" p0) [] [] p1) (W.ksEnv qual ⟨.function, sn0, false, false, sm0⟩ hp.objs.size fI (.ref cda) cc)).getD true) ?_ (by
    refine (arm_eval_Call _ _ _ _ _ _ _).trans ?_
    unfold methodCall methodCallPos
    rw [hline]
    rfl)))
  refine ks_wpAt_super_base (env := W.ksEnv qual ⟨.function, sn0, false, false, sm0⟩ hp.objs.size fI (.ref cda) cc) hks hkc rfl rfl (F1 _ _ hf) rfl (ar := ar1) rfl rfl (F1 _ _ hcode) rfl hvs hfile D.top ?_
  refine W.ks_loadName_global rfl hks (Calls.loadGlobal_builtin (env := W.ksEnv qual ⟨.function, sn0, false, false, sm0⟩ hp.objs.size fI (.ref cda) cc) (Md.glob.keeps k1) D.noS (hb1.keeps k1) ((hb2 _ (by decide)).trans (show bootBuiltins "super" = some (.type "super") by first | boot_by_name | rfl | kernel_rfl)) ⟨rfl, ?_⟩)
  refine wpAny_loadName_free rfl hkc rfl ⟨_, F1 _ _ hcell, rfl⟩ ?_
  have hself : ([(ar1.arg, Value.ref a), (ar2.arg, v)] : List (Str × Value)).reverse.lookup ar1.arg = some (.ref a) := by
    have e1 : (ar1.arg == ar2.arg) = false := by
      rw [beq_eq_false_iff_ne]
      exact Ne.symm hne
    simp [List.lookup, e1]
  have hlim : ([(ar1.arg, Value.ref a), (ar2.arg, v)] : List (Str × Value)).reverse.lookup ar2.arg = some v := by
    simp [List.lookup]
  refine wpAny_loadName_local rfl hka hns hself ?_
  have hC0 := F1 _ _ hC
  refine ks_wpAny_isType_cls hC0 rfl ⟨rfl, ?_⟩
  refine ks_wpAny_call_super hC0 rfl (k0 a _ ho) rfl (fun c e => by cases e) (W.looks_mroIn F1 D.mro) (fun h2 hs2 k2 => ?_)
  have F2 : K.In h2 := F1.keeps k2
  have I2 := excO_inst (k2 a _ (k0 a _ ho))
  obtain ⟨cd, hcl⟩ : ∃ cd, W.clsIn K C = some cd := by
    have h := D.sup
    unfold W.ks_superIn at h
    cases hc : W.clsIn K C with
    | none => rw [hc] at h; cases h
    | some cd => exact ⟨cd, rfl⟩
  have hsup := D.sup
  unfold W.ks_superIn at hsup
  rw [hcl, Option.bind_some] at hsup
  refine W.kxs_getMethod W.kxs_ValueError hs2 (W.looks_opaque F2 D.opq) (l₀ := cd.mro) (fun A Q E s k q => wpAny_bind ((W.looks_clsIn F2 hcl) A _ E s k (wpAny_pure q))) rfl F2 hsup (I2.type.andThen (W.looks_subIn F2 D.sub)) (W.ks_ne F2 I2 hcl) (by decide) ?_
  refine W.kxs_callWith (i := "ValueError.__init__") (x := a) rfl (Calls.evalArgs_plain (PyProof.Rows.spliced_more (pos := p4) (rest := []) (Calls.Constant_str (PyProof.Rows.spliced_none ⟨?_, ?_⟩))))
  · exact Heap.get?_push_at rfl rfl
  have k3 : ∀ b o, h2.get? b = some o → (h2.push (W.kxs_mw "ValueError.__init__" a)).get? b = some o := fun b o e => Heap.get?_push_of_some _ e
  have hu : (h2.push (W.kxs_mw "ValueError.__init__" a)).get? h2.objs.size = some (W.kxs_mw "ValueError.__init__" a) := Heap.get?_push_at rfl rfl
  have z3 : hp.objs.size ≤ (h2.push (W.kxs_mw "ValueError.__init__" a)).objs.size := by
    obtain ⟨oL, _, _, hL, _⟩ := hns
    exact Nat.le_of_lt (Heap.lt_size (k3 _ _ (k2 _ _ hL)))
  generalize h2.push (W.kxs_mw "ValueError.__init__" a) = h3 at *
  have kk3 : ∀ b o, hp.get? b = some o → h3.get? b = some o := fun b o e => k3 b o (k2 b o (k0 b o e))
  have F3 : K.In h3 := X.keeps kk3
  have ho3 := kk3 a _ ho
  have hns3 := hns.keeps fun b o e => k3 b o (k2 b o e)
  have hLa : hp.objs.size ≠ a := fun e => by
    have := Heap.lt_size ho
    rw [← e] at this
    exact absurd this (Nat.lt_irrefl _)
  -- the call of what the super object has handed over
  refine wpAny_call (codeAny_of_tree ?_)
  show wpAny _ _ (callAny (.ref h2.objs.size) ⟨_, []⟩) _ _ _
  simp only [callAny]
  refine wpAny_bind (wpAny_load hu ?_)
  simp only [W.kxs_mw, show (Value.type "method-wrapper" == Value.type "method" || Value.type "method-wrapper" == Value.type "builtin_function_or_method" || Value.type "method-wrapper" == Value.type "method-wrapper") = true by decide, if_true]
  refine W.KFB.if_so (by decide) ?_
  refine wpAny_bind (W.check_bound_init PySem.F.excBase_ValueError.toExcCallFacts (F3 _ _ hC) ho3 rfl ?_)
  refine wpAny_bind (wpAny_pure (wpAny_pure ?_))
  refine ⟨plainId_quiet PySem.F.excBase_ValueError.init.plain _, codeAny_builtin PySem.F.excBase_ValueError.initEntry ?_⟩
  refine W.exc_init_tree (cls := .ref C) (t0 := t1) (dv := none) (c2 := .none) (c3 := .none) (b4 := .bool false) ho3 (by show 1 ≤ sizeLine; rw [sizeLine_eq]; omega) (fun h4 k4 e4 _ => ?_)
  have ho4 : h4.get? a = some (PySem.HandSPX.excO C h3.objs.size) := e4
  have F4 : K.In h4 := fun b o e => k4 b o (fun z => by
    have := Md.kin b o e
    rw [z, ha0] at this
    cases this) (F3 b o e)
  have hns4 := hns3.at fun o y => k4 _ o hLa y
  have z4 : hp.objs.size ≤ h4.objs.size := by
    obtain ⟨oL, _, _, hL, _⟩ := hns4
    exact Nat.le_of_lt (Heap.lt_size hL)
  show PySem.wpAt _ _ _ (execs _ _) _ _ _
  refine ks_wpAt_execs_cons (ks_wpAt_Assign_Attr ?_)
  refine wpAt_of_wpAny (PySem.ESX.ldL hns4 hlim ?_ rfl hkb hd2)
  refine PySem.ESX.ldL hns4 hself ?_ rfl hka hd1
  have hcl' : W.clsIn K C = some { name := nmC, bases := bs, mro := .ref C :: bm, ns := N, qualname := qC, hasDict := true, slotNames := sn, subclasses := sub, abstract := ab, collection := col, hasDel := false } := by unfold W.clsIn; rw [hC] <;> rfl
  refine W.set_plain F4 (ox := PySem.HandSPX.excO C h3.objs.size) (od := none) (excO_inst ho4) D.oex.sa ?_
  refine PySem.HandSPX.exc_osa F4 ho4 hcl' (show PySem.HandSPX.refsVE (.ref C :: bm) = true from hbm) rfl D.fld (fun h' tk' dx k dn dne hx hn => ?_)
  show PySem.wpAt _ _ _ (execs [] _) _ _ _
  refine wpAt_of_wpAny (wpAny_pure ?_)
  exact hq h' tk' dx _ (fun b o hb e => k b o hb (k4 b o hb (kk3 b o e))) (Nat.le_trans z4 dn) dne hx hn
/-- C(e): the class's own maker keeps what it gets under f -/
def tTm (C : Addr) (f : Str) (te : TE) : L2.St → Hp → XK → Prop := fun σ H Q => tCons te tNil σ H fun vs H1 => ∃ v, vs = [v] ∧ ∀ d, H1 d = none → Q (.ref C) (some d) (upd H1 d (.xd [(f, v)]))
theorem pmk_tm {X : Cx} {x f : Str} {C fI : Addr} {k : Nat} {e : Expr} {te : TE} {p pos : Pos} (D : TmDef X.prog X.K X.mg C fI f) (iC : W.findIn X.K (.ref C) "__init__" = some (some (.ref fI))) (tI : W.typeIn X.K (.ref fI) = some (.type "function"))
    (hr : Room k X.A) (hg : Gl X x) (hm : X.mg x = some (.ref C)) (he : PE X e te) (hdb : (x == ("__debug__" : Str)) = false) (hst : starEach [e] X.env = (false, eval e X.env) :: starEach [] X.env) : L2N.PMk X (.Call (.Name x p) [e] [] pos) (tTm C f te) := by
  intro pins s σ H Q I h
  have T := D.oex
  obtain ⟨nm, q, N, bs, bm, sn, sub, ab, col, dd, k0, k1, k2, k3, k5, hC, hbm⟩ := T.cls
  refine wpAny_Call_Name_kw (ld_glob I hg hm ?_ hdb)
  have ha : PA X [e] (tCons te tNil) := pa_cons he pa_nil hst
  refine W.callWith_K (h₀ := X.base) I.ok.mod.kin T.kC (thn (ha.run pos pins s σ H (fun vs H1 => ∃ v, vs = [v] ∧ ∀ d, H1 d = none → Q (.ref C) (some d) (upd H1 d (.xd [(f, v)]))) I ?_) fun us s1 ⟨vs, H1, I1, r1, v, ev, q1⟩ => ⟨I1.kIn, ?_⟩) hst rfl
  · exact h
  subst ev
  cases r1 with
  | @cons _ u _ ur ru rn =>
    cases rn
    show wpAny _ _ (call (.ref C) [u]) _ _ _
    obtain ⟨hp, g, dr, tk, os⟩ := s1
    have hsz : hp.objs.size ≤ hp.objs.size + 1 := Nat.le_succ _
    have hn : H1 (hp.objs.size + 1) = none := I1.hok.fresh hsz
    have kk : ∀ b o, hp.get? b = some o → ((hp.push (W.kdv_tup [u])).push (PySem.HandSPX.excO C hp.objs.size)).get? b = some o := fun b o e => Heap.get?_push_of_some _ (Heap.get?_push_of_some _ e)
    have hget : ((hp.push (W.kdv_tup [u])).push (PySem.HandSPX.excO C hp.objs.size)).get? (hp.objs.size + 1) = some (PySem.HandSPX.excO C hp.objs.size) := by heap_get
    have I2 : Inv X pins σ (upd H1 (hp.objs.size + 1) (exo (hp.objs.size + 1) C none)) ⟨(hp.push (W.kdv_tup [u])).push (PySem.HandSPX.excO C hp.objs.size), g, dr, tk, os⟩ :=
      I1.laid (t' := tk) (a := hp.objs.size + 1) (o := exo (hp.objs.size + 1) C none) (h' := (hp.push (W.kdv_tup [u])).push (PySem.HandSPX.excO C hp.objs.size)) kk hsz (exo_ok hget)
    have ha0 : X.base.get? (hp.objs.size + 1) = none := by
      cases z : X.base.get? (hp.objs.size + 1) with
      | none => rfl
      | some o =>
        exact absurd (Heap.lt_size (I1.bk _ _ z)) (Nat.not_lt.mpr (Nat.le_succ _))
    refine wpAny_call (PySem.HandSPX.call_own F.excBase_ValueError (fun Y => PySem.HandSPX.refsVE_contains Y bm hbm) (I1.kIn _ _ hC) (W.looks_findIn I1.kIn iC) (fun self => W.bind_fn I1.kIn self tI) (by show 1 ≤ sizeLine; rw [sizeLine_eq]; omega)
      (tm_init I1.mod (fun b o e => kk b o (I1.bk b o e)) D (by rw [make_depth]; have := hr.dp; omega) hget ha0 fun h' tk' dx t2 k dn dne hx hns => ?_))
    refine ⟨rfl, ?_⟩
    generalize (hp.push (W.kdv_tup [u])).push (PySem.HandSPX.excO C hp.objs.size) = hp2 at *
    have e1 : upd H1 (hp.objs.size + 1) (exo (hp.objs.size + 1) C none) (hp.objs.size + 1) = some (exo (hp.objs.size + 1) C none) := upd_same
    have hnd : upd H1 (hp.objs.size + 1) (exo (hp.objs.size + 1) C none) dx = none := I2.hok.fresh dn
    have nd : ∀ {b : Addr} {o : Obj}, hp2.get? b = some o → b ≠ dx := fun {b o} q => Nat.ne_of_lt (Nat.lt_of_lt_of_le (Heap.lt_size q) dn)
    have na : ∀ {b : Addr}, upd H1 (hp.objs.size + 1) (exo (hp.objs.size + 1) C none) b = none → b ≠ hp.objs.size + 1 := fun {b} n z => by
      rw [z, e1] at n
      cases n
    let a : Addr := hp.objs.size + 1
    let Ha : Hp := upd H1 a (exo a C none)
    let H2 : Hp := upd (upd Ha dx (exd dx [(f, v)])) a (exo a C (some dx))
    have un : Un (frs X.stack) [] Ha H2 hp2 h' := {
      keep := fun b o q n _ _ => k b o (na n) q
      slot := fun b o q n _ _ => ⟨o.slots, k b o (na n) q⟩
      free := fun b o q n _ => by
        show upd (upd Ha dx (exd dx [(f, v)])) a (exo a C (some dx)) b = none
        rw [upd_ne (na n), upd_ne (nd q)]
        exact n
      there := fun b o q _ => by
        by_cases hb : b = a
        · exact ⟨_, by rw [hb]; exact hx⟩
        · exact ⟨o, k b o hb q⟩
      tups := fun b xs q => by
        show upd (upd Ha dx (exd dx [(f, v)])) a (exo a C (some dx)) b = _
        rw [upd_ne (at_ne e1 q exo_tup), upd_ne (ne_of_none q hnd)]
        exact q
      frzs := fun b o w q => by
        show upd (upd Ha dx (exd dx [(f, v)])) a (exo a C (some dx)) b = _
        rw [upd_ne (at_ne e1 q exo_frz), upd_ne (ne_of_none q hnd)]
        exact q
      tbls := fun b ps q => ⟨#[], by
        show upd (upd Ha dx (exd dx [(f, v)])) a (exo a C (some dx)) b = _
        rw [upd_ne (at_ne e1 q exo_tbl), upd_ne (ne_of_none q hnd), q]
        simp⟩ }
    have ed0 : ObjOk X.prog X.w H2 h' dx (exd dx [(f, v)]) := exd_ok hns (relO_put (fs := []) ru fun g => True.intro)
    have hok : HOk X.prog X.w H2 h' := fun b o q => by
      have q : upd (upd Ha dx (exd dx [(f, v)])) a (exo a C (some dx)) b = some o := q
      by_cases hb : b = a
      · rw [hb, upd_same] at q
        cases q
        rw [hb]
        exact exo_ok hx
      · rw [upd_ne hb] at q
        by_cases hd : b = dx
        · rw [hd, upd_same] at q
          cases q
          rw [hd]
          exact ed0
        · rw [upd_ne hd] at q
          exact (I2.hok b o q).stay (fun c w hc z => k c w (by
              rcases hc with hc | hc
              · rw [hc]
                exact hb
              · exact at_ne e1 hc exo_own) z)
            (fun c hc => by
              show upd (upd Ha dx (exd dx [(f, v)])) a (exo a C (some dx)) c = _
              rw [upd_ne (at_ne e1 hc exo_own), upd_ne (ne_of_none hc hnd)]
              exact hc) (fun c xs hc => by
              show upd (upd Ha dx (exd dx [(f, v)])) a (exo a C (some dx)) c = _
              rw [upd_ne (at_ne e1 hc exo_tup), upd_ne (ne_of_none hc hnd)]
              exact hc)
    have ea2 : H2 a = some (exo a C (some dx)) := upd_same
    have ed2 : H2 dx = some (exd dx [(f, v)]) := by
      show upd (upd Ha dx (exd dx [(f, v)])) a (exo a C (some dx)) dx = _
      rw [upd_ne dne, upd_same]
    have hd1 : H1 dx = none := by
      have z := hnd
      rw [upd_ne dne] at z
      exact z
    obtain ⟨t0, G, J, kG, ge, hoe, nA⟩ := mk_end0 (d2 := dr) (t2 := tk') I1 hsz kk un hok rfl I1.bare ea2 ed2 hd1
    have eH : upd (del H2 a) dx (.xd [(f, v)]) = upd H1 dx (.xd [(f, v)]) := by
      funext b
      by_cases hb : b = dx
      · rw [hb, upd_same, upd_same]
      · rw [upd_ne hb, upd_ne hb]
        by_cases ha : b = a
        · rw [ha, del_same, hn]
        · rw [del_ne ha]
          show upd (upd Ha dx (exd dx [(f, v)])) a (exo a C (some dx)) b = _
          rw [upd_ne ha, upd_ne hb]
          exact upd_ne ha
    rw [eH] at J nA
    exact ⟨a, _, _, ⟨G, g, dr, tk', os⟩, _, .ref C, some dx, rfl, J, kG, ge, hoe, ⟨rfl, rfl, fun vs hv => by cases hv; rfl⟩, rfl, rfl, nA, rfl, I1.bare, raises_own T.exC T.tyC, q1 dx hd1⟩
end Ev
end

section
set_option Elab.async false
set_option linter.all false
set_option autoImplicit false
set_option maxRecDepth 100000
set_option maxHeartbeats 4000000
/-! # What the syntax does is what the little language says: expressions -/
namespace Ev
open PySem PySem.Spec PyProof.Rows L2
theorem pe_imp {X : Cx} {e : Expr} {t t' : TE} (h : PE X e t) (i : ∀ σ H Q, t' σ H Q → t σ H Q) : PE X e t' := ⟨fun pins s σ H Q I q => h.run pins s σ H Q I (i σ H Q q)⟩
theorem pt_imp {X : Cx} {e : Expr} {t t' : TT} (h : PT X e t) (i : ∀ σ H Q, t' σ H Q → t σ H Q) : PT X e t' := ⟨fun pins s σ H Q I q => h.run pins s σ H Q I (i σ H Q q)⟩
theorem pw_imp {X : Cx} {e : Expr} {t t' : TT} (h : PW X e t) (i : ∀ σ H Q, t' σ H Q → t σ H Q) : PW X e t' := ⟨fun wh pins s σ H Q I q => h.run wh pins s σ H Q I (i σ H Q q)⟩
theorem pa_imp {X : Cx} {e : List Expr} {t t' : TA} (h : PA X e t) (i : ∀ σ H Q, t' σ H Q → t σ H Q) : PA X e t' := ⟨fun pos pins s σ H Q I q => h.run pos pins s σ H Q I (i σ H Q q)⟩
section
variable (K : W.Frag) (T : List (Addr × Str)) (cl : Nat → Option Addr) (E : XK) (c : Cn)
def eqB : Ms → Hp → Bool → Bool → Prop := fun _ _ b b' => b = b'
def tX (ir : X) : TE := fun σ H Q => ∃ ρ M S, EnvOk K ρ σ M H ∧ StOk K T M S H ∧ Out K T cl E M H (evX c ir ρ S) (RU K) Q
def tXs (ir : Xs) : TA := fun σ H Q => ∃ ρ M S, EnvOk K ρ σ M H ∧ StOk K T M S H ∧ Out K T cl E M H (evXs c ir ρ S) (RUs K) Q
def tTr (ir : X) : TT := fun σ H Q => ∃ ρ M S, EnvOk K ρ σ M H ∧ StOk K T M S H ∧ Out K T cl E M H (truR (evX c ir ρ S)) eqB Q
/-- what a def promises: what the little language says of the call -/
def spC (cf : CF) (f np : Nat) : Sp := fun vs H Q E => ∃ M S us, RUs K M H vs us ∧ StOk K T M S H ∧ us.length = np ∧ Out K T cl E M H (cf f us S) (RU K) Q
end
/-- the builtins whose names the program leaves as they are -/
abbrev bltNames : List Str := ["len", "all", "sum", "int", "bool", "abs", "tuple", "list", "isinstance", "str", "range", "enumerate", "zip", "sorted", "set", "max", "min"]
/-- the code object of the code that makes lambdas -/
def LamAt (T : List (Addr × Str)) (X : Cx) : Prop := ∃ cA P, LamX.TabB X.base X.mg cA P ∧ X.env.code = .ref cA ∧ (P, X.env.qual ++ "<lambda>") ∈ T ∧ ∀ p ∈ T, p.1 = P → p.2 = X.env.qual ++ "<lambda>"
/-- told: the error's names, or an empty text -/
def TTerr (K : W.Frag) (T : List (Addr × Str)) (cl : Nat → Option Addr) (nm : Nat → Option Str) : (XK → Hp → VK → Prop) → Hp → VK → Prop := fun tl H Q =>
  tl (fun cls d H' => ∃ M S C i z, Dic d H' ∧ StOk K T M S H' ∧ cls = .ref C ∧ cl i = some C ∧ nm i = some z ∧ ∀ M' H'', Gr M H' M' H'' → StOk K T M' S H'' → Q (.str z) H'') H fun _ H' => Q (.str ⟨#[]⟩) H'
/-- the def that calls what it gets, and tells the error -/
def ErrDef (T : List (Addr × Str)) (cl : Nat → Option Addr) (nm : Nat → Option Str) (P : Program) (w : World) (K : W.Frag) (mg : Str → Option Value) (base : Heap) (x : Str) : Prop :=
  ∃ (g : Addr) (pg : Arguments) (bg : List Stmt) (sg : Scope) (dV kV doc pm cdv ct oc : Value) (an od : Option Addr) (osl : Array (Option Value)) (Ng : List Str) (a : Str),
    mg x = some (.ref g) ∧ W.keepIn K (.ref g) = true ∧ K.lookup g = some ⟨oc, od, .func (W.fnOf x x pg bg sg dV kV doc pm an cdv ct), osl⟩ ∧ W.codeIn K cdv x = true ∧ Binds K (W.fnOf x x pg bg sg dV kV doc pm an cdv ct) [a] [] ∧ FnScope Ng [a] sg ∧
    Ng[0]? = some a ∧ Vis sg a ∧ odd a = false ∧ ∀ (X : Cx), X.prog = P → X.w = w → X.K = K → X.mg = mg → X.base = base → Room 2 X.A → ∀ q, GivesN X Ng x sg g cdv bg a q (TTerr K T cl nm)
/-- where one stands -/
structure Good (g : Cfg) (T : List (Addr × Str)) (cl : Nat → Option Addr) (c : Cn) (k l : Nat) (X : Cx) (N : List Str) (sc : Scope) (fb : Fb) : Prop where
  names : X.N = N
  nd : N.Nodup
  scope : X.env.scope = sc
  calm : X.calm = true
  room : Room k X.A
  fbk : ∀ x, fb x = true → X.fn x = true ∨ X.env.scope.names.lookup x = some .local
  fns : ∀ x f, g.fnIx x = some f → ∃ a fd ps n, g.np f = some n ∧ ps.length = n ∧ X.mg x = some (.ref a) ∧ W.keepIn X.K (.ref a) = true ∧ Binds X.K fd ps [] ∧
    FnOk X.prog X.w X.K X.mg X.base (L2N.CX X.prog X.w) k a fd ps (spC X.K T cl c.call f n) ∧ ∀ lf, c.low = some lf → FnOk X.prog X.w X.K X.mg X.base (L2N.CX X.prog X.w) l a fd ps (spC X.K T cl lf f n)
  low : ∀ lf, c.low = some lf → l + 2 ≤ k ∧ (g.lam = true → LamAt T X)
  clss : ∀ x i, g.clIx x = some i → ∃ C, cl i = some C ∧ X.mg x = some (.ref C) ∧ W.keepIn X.K (.ref C) = true ∧ W.excIn X.K C [.type "ValueError", .type "Exception", .type "BaseException", .type "object"] "ValueError.__new__" = true ∧ W.subIn X.K (.ref C) (.type "BaseException") = some true ∧ W.typeIn X.K (.ref C) = some (.type "type")
  clst : ∀ x i, g.clTx x = some i → ∃ C f fI, cl i = some C ∧ X.mg x = some (.ref C) ∧ TmDef X.prog X.K X.mg C fI f ∧ W.findIn X.K (.ref C) "__init__" = some (some (.ref fI)) ∧ W.typeIn X.K (.ref fI) = some (.type "function")
  nms : ∀ i z, c.nm i = some z → ∃ C, cl i = some C
  errs : ∀ x, g.errs x = true → ErrDef T cl c.nm X.prog X.w X.K X.mg X.base x
  ar : ∀ (f : Nat) n us S, g.np f = some n → us.length ≠ n → c.call f us S = .bad
  arL : ∀ lf, c.low = some lf → ∀ (f : Nat) n us S, g.np f = some n → us.length ≠ n → lf f us S = .bad
  blts : ∀ x, x ∈ bltNames → X.mg x = none
  cons : ∀ x p, g.con x = some p → ∃ u v, X.mg x = some u ∧ RelV v u ∧ ∀ M H, Rp X.K M H v p
section
variable {K : W.Frag} {T : List (Addr × Str)} {cl : Nat → Option Addr} {E : XK} {c : Cn} {X : Cx} {M : Ms} {H : Hp} {S : Store} {ρ : Rho} {σ : L2.St}
theorem tX_b {α β : Type} {ir : Ev.X} {f : U → Store → R α} {rel : Ms → Hp → β → α → Prop} {Q : β → Hp → Prop} (en : EnvOk K ρ σ M H) (st : StOk K T M S H) (h : Out K T cl E M H ((evX c ir ρ S).bind f) rel Q) {R : VK}
    (q : ∀ v M1 H1 S1 u, Gr M H M1 H1 → EnvOk K ρ σ M1 H1 → StOk K T M1 S1 H1 → RU K M1 H1 v u → Out K T cl E M1 H1 (f u S1) rel Q → R v H1) : tX K T cl E c ir σ H R :=
  ⟨ρ, M, S, en, st, Out.mono (Out.bind h) fun v H1 ⟨M1, S1, u, g1, st1, r1, h1⟩ => q v M1 H1 S1 u g1 (en.mono g1) st1 r1 h1⟩
theorem tXs_b {α β : Type} {ir : Xs} {f : List U → Store → R α} {rel : Ms → Hp → β → α → Prop} {Q : β → Hp → Prop} (en : EnvOk K ρ σ M H) (st : StOk K T M S H) (h : Out K T cl E M H ((evXs c ir ρ S).bind f) rel Q) {R : List V → Hp → Prop}
    (q : ∀ v M1 H1 S1 u, Gr M H M1 H1 → EnvOk K ρ σ M1 H1 → StOk K T M1 S1 H1 → RUs K M1 H1 v u → Out K T cl E M1 H1 (f u S1) rel Q → R v H1) : tXs K T cl E c ir σ H R :=
  ⟨ρ, M, S, en, st, Out.mono (Out.bind h) fun v H1 ⟨M1, S1, u, g1, st1, r1, h1⟩ => q v M1 H1 S1 u g1 (en.mono g1) st1 r1 h1⟩
theorem tTr_b {α β : Type} {ir : Ev.X} {f : Bool → Store → R α} {rel : Ms → Hp → β → α → Prop} {Q : β → Hp → Prop} (en : EnvOk K ρ σ M H) (st : StOk K T M S H) (h : Out K T cl E M H ((truR (evX c ir ρ S)).bind f) rel Q) {R : Bool → Hp → Prop}
    (q : ∀ b M1 H1 S1, Gr M H M1 H1 → EnvOk K ρ σ M1 H1 → StOk K T M1 S1 H1 → Out K T cl E M1 H1 (f b S1) rel Q → R b H1) : tTr K T cl E c ir σ H R :=
  ⟨ρ, M, S, en, st, Out.mono (Out.bind (rel := eqB) h) fun b H1 ⟨M1, S1, b', g1, st1, r1, h1⟩ => q b M1 H1 S1 g1 (en.mono g1) st1 (by cases (show b = b' from r1); exact h1)⟩
/-- an answer that is there -/
theorem out_here {α β : Type} {a : α} {b : β} {rel : Ms → Hp → β → α → Prop} {Q : β → Hp → Prop} (st : StOk K T M S H) (h : Out K T cl E M H (.ok a S) rel Q) (r : rel M H b a) : Q b H := h b M H (Gr.refl _ _) st r
theorem ix_of {N : List Str} {x : Str} {i : Nat} (h : ixOf N x = some i) : N[i]? = some x := by
  unfold ixOf at h
  split at h
  · split at h
    · rename_i hc
      cases h
      exact hc
    · cases h
  · cases h
theorem vis_of {sc : Scope} {x : Str} (h : visB sc x = true) : Vis sc x := by
  unfold visB at h
  unfold Vis
  split at h
  · exact .inl (by assumption)
  · exact .inr (.inl (by assumption))
  · exact .inr (.inr (by assumption))
  · cases h
theorem loc_of {sc : Scope} {x : Str} (h : locB sc x = true) : L2.Loc sc x := by
  unfold locB at h
  unfold L2.Loc
  split at h
  · exact .inl (by assumption)
  · exact .inr (by assumption)
  · cases h
theorem gl_of {x : Str} {sc : Scope} (hs : X.env.scope = sc) (h : glB sc x = true) : Gl X x := by
  unfold glB at h
  unfold Gl Env.kindOf
  rw [hs]
  exact of_decide_eq_true h
theorem odd_of {x : Str} (h : odd x = false) : (x == ("__debug__" : Str)) = false ∧ (x == ("__classdict__" : Str)) = false ∧ x ≠ "__name__" := by
  unfold odd at h
  simp only [Bool.or_eq_false_iff] at h
  exact ⟨h.1.1, h.1.2, by simpa using h.2⟩
/-! ### one construct at a time -/
theorem px_loc {N : List Str} {sc : Scope} {x : Str} {i : Nat} {pos : Pos} (hN : X.N = N) (hs : X.env.scope = sc) (ho : odd x = false) (hv : visB sc x = true) (hi : ixOf N x = some i) : PE X (.Name x pos) (tX X.K T cl E c (.loc i)) :=
  pe_imp (pe_var (i := i) (by rw [hN]; exact ix_of hi) (by rw [hs]; exact vis_of hv) (odd_of ho).1 (odd_of ho).2.1) fun σ H Q ⟨ρ, M, S, en, st, h⟩ => by
    unfold evX at h
    split at h
    · rename_i u e
      obtain ⟨v, e1, r⟩ := en.at_ i u e
      exact ⟨v, e1, out_here st h r⟩
    · exact h.elim
theorem px_con {e : Expr} {v : V} {p : PyData} (h : PE X e (tC v)) (r : ∀ M H, Rp X.K M H v p) : PE X e (tX X.K T cl E c (.con p)) :=
  pe_imp h fun σ H Q ⟨ρ, M, S, en, st, h⟩ => by
    unfold evX at h
    exact out_here st h (r M H)
theorem px_bin {a b : Expr} {op : Operator} {pos : Pos} {x y : Ev.X} (ha : PE X a (tX X.K T cl E c x)) (hb : PE X b (tX X.K T cl E c y)) : PE X (.BinOp a op b pos) (tX X.K T cl E c (.bin op x y)) :=
  pe_imp (pe_op (bin_ok (T := T) (cl := cl) (E := E) op) ha hb) fun σ H Q ⟨ρ, M, S, en, st, h⟩ => by
    unfold evX at h
    exact tX_b en st h fun v M1 H1 S1 u g1 en1 st1 r1 h1 => tX_b en1 st1 h1 fun w M2 H2 S2 u2 g2 _ st2 r2 h2 => ⟨M2, S2, u, u2, r1.mono g2, r2, st2, h2⟩
theorem px_neg {a : Expr} {pos : Pos} {x : Ev.X} (ha : PE X a (tX X.K T cl E c x)) : PE X (.UnaryOp .USub a pos) (tX X.K T cl E c (.neg x)) :=
  pe_imp (pe_un un_neg ha) fun σ H Q ⟨ρ, M, S, en, st, h⟩ => by
    unfold evX at h
    refine tX_b en st h fun v M1 H1 S1 u g1 en1 st1 r1 h1 => ?_
    split at h1
    · cases r1
      exact ⟨_, rfl, out_here st1 h1 (Rp.int _)⟩
    · exact h1.elim
theorem out_tru {u : U} {v : V} {Q : Bool → Hp → Prop} (st : StOk K T M S H) (r : RU K M H v u) (h : Out K T cl E M H (R.of S ((deref S u).bind truD)) eqB Q) : ∃ k, TruV K v H k ∧ Q k H := by
  cases e1 : deref S u with
  | none => rw [e1] at h; exact h.elim
  | some p =>
    rw [e1] at h
    have h : Out K T cl E M H (R.of S (truD p)) eqB Q := h
    cases e2 : truD p with
    | none => rw [e2] at h; exact h.elim
    | some b =>
      rw [e2] at h
      exact ⟨b, truV_of r st e1 e2, out_here (a := b) st h rfl⟩
/-- an expression that is no and, or, not, if, comparison is tested by its truth -/
theorem pt_plain {a : Expr} {x : Ev.X} (ha : PE X a (tX X.K T cl E c x)) (he : ∀ whole, isTrue a X.env whole = (do let v ← whole; standAt a.pos; holding [v] (truthy v))) : PT X a (tTr X.K T cl E c x) :=
  pt_imp (pt_truth ha he) fun σ H Q ⟨ρ, M, S, en, st, h⟩ => tX_b en st h fun v M1 H1 S1 u g1 en1 st1 r1 h1 => out_tru st1 r1 h1
theorem bind_assoc {α β γ : Type} (r : R α) (f : α → Store → R β) (g : β → Store → R γ) : (r.bind f).bind g = r.bind fun a S => (f a S).bind g := by cases r <;> rfl
theorem of_bind {α β γ : Type} {o : Option α} {f : α → Store → R β} {rel : Ms → Hp → γ → β → Prop} {Q : γ → Hp → Prop} (h : Out K T cl E M H ((R.of S o).bind f) rel Q) : ∃ a, o = some a ∧ Out K T cl E M H (f a S) rel Q := by
  cases o with
  | none => exact h.elim
  | some a => exact ⟨a, rfl, h⟩
theorem bindO {α β : Type} {o : Option α} {f : α → Option β} {b : β} (h : o.bind f = some b) : ∃ a, o = some a ∧ f a = some b := by
  cases o with
  | none => cases h
  | some a => exact ⟨a, rfl, h⟩
theorem px_not {a : Expr} {pos : Pos} {x : Ev.X} (ha : PE X a (tX X.K T cl E c x)) : PE X (.UnaryOp .Not a pos) (tX X.K T cl E c (.not x)) :=
  pe_imp (pe_notT ha) fun σ H Q ⟨ρ, M, S, en, st, h⟩ => by
    unfold evX truR at h
    rw [bind_assoc] at h
    refine tX_b en st h fun v M1 H1 S1 u g1 en1 st1 r1 h1 => ?_
    obtain ⟨b, e, h2⟩ := of_bind h1
    obtain ⟨p, e1, e2⟩ := bindO e
    exact ⟨b, truV_of r1 st1 e1 e2, out_here st1 h2 (Rp.bl _)⟩
theorem pt_not' {a : Expr} {pos : Pos} {x : Ev.X} (ha : PT X a (tTr X.K T cl E c x)) : PT X (.UnaryOp .Not a pos) (tTr X.K T cl E c (.not x)) :=
  pt_imp (pt_not ha) fun σ H Q ⟨ρ, M, S, en, st, h⟩ => by
    unfold truR evX at h
    rw [bind_assoc] at h
    exact tTr_b en st h fun b M1 H1 S1 g1 en1 st1 h1 => out_here (b := !b) (a := !b) st1 h1 rfl
theorem px_cmp {a b : Expr} {op : CmpOp} {pos : Pos} {x y : Ev.X} (hu : X.A.units + 65 < cLine) (hm : behindInMarks op b = false) (ha : PE X a (tX X.K T cl E c x)) (hb : PE X b (tX X.K T cl E c y)) : PE X (.Compare a [op] [b] pos) (tX X.K T cl E c (.cmp op x y)) :=
  pe_imp (pe_cmpR (cmp_ok (T := T) (cl := cl) (E := E) op hu) ha hb hm) fun σ H Q ⟨ρ, M, S, en, st, h⟩ => by
    unfold evX at h
    exact tX_b en st h fun v M1 H1 S1 u g1 en1 st1 r1 h1 => tX_b en1 st1 h1 fun w M2 H2 S2 u2 g2 _ st2 r2 h2 => ⟨M2, S2, u, u2, r1.mono g2, r2, st2, h2⟩
/-- a truth value's truth -/
theorem out_trb {o : Option Bool} {Q : Bool → Hp → Prop} (h : Out K T cl E M H ((R.of S (o.map fun b => U.d (.bool b))).bind fun u S1 => R.of S1 ((deref S1 u).bind truD)) eqB Q) : Out K T cl E M H (R.of S (o.map fun b => U.d (.bool b))) (RU K) fun v H' => ∃ k, v = .bl k ∧ Q k H' := by
  cases o with
  | none => exact h.elim
  | some b =>
    intro v M' H' g s r
    cases (show Rp K M' H' v (.bool b) from r)
    exact ⟨b, rfl, h b M' H' g s rfl⟩
theorem pt_cmp' {a b : Expr} {op : CmpOp} {pos : Pos} {x y : Ev.X} (hu : X.A.units + 65 < cLine) (hm : behindInMarks op b = false) (ha : PE X a (tX X.K T cl E c x)) (hb : PE X b (tX X.K T cl E c y)) : PT X (.Compare a [op] [b] pos) (tTr X.K T cl E c (.cmp op x y)) :=
  pt_imp (pt_cmpR (cmp_ok (T := T) (cl := cl) (E := E) op hu) ha hb hm) fun σ H Q ⟨ρ, M, S, en, st, h⟩ => by
    unfold truR evX at h
    simp only [bind_assoc] at h
    exact tX_b en st h fun v M1 H1 S1 u g1 en1 st1 r1 h1 => tX_b en1 st1 h1 fun w M2 H2 S2 u2 g2 _ st2 r2 h2 => ⟨M2, S2, u, u2, r1.mono g2, r2, st2, out_trb h2⟩
/-- a chain: r's answer is asked, then the second comparison -/
theorem px_chn {a b d : Expr} {o p : CmpOp} {pos : Pos} {x y z : Ev.X} (hu : X.A.units + 65 < cLine) (hm : lastMarks [o, p] [b, d] = false) (ha : PE X a (tX X.K T cl E c x)) (hb : PE X b (tX X.K T cl E c y)) (hd : PE X d (tX X.K T cl E c z)) :
    PE X (.Compare a [o, p] [b, d] pos) (tX X.K T cl E c (.chn o p x y z)) :=
  pe_imp (pe_chain (cmp_ok (T := T) (cl := cl) (E := E) o hu) (cmp_ok (T := T) (cl := cl) (E := E) p hu) ha hb hd hm) fun σ H Q ⟨ρ, M, S, en, st, h⟩ => by
    unfold evX at h
    refine tX_b en st h fun v M1 H1 S1 u g1 en1 st1 r1 h1 => tX_b en1 st1 h1 fun w M2 H2 S2 u2 g2 en2 st2 r2 h2 => ⟨M2, S2, u, u2, r1.mono g2, r2, st2, ?_⟩
    obtain ⟨k, e, h3⟩ := of_bind h2
    dsimp only
    rw [e]
    intro v3 M3 H3 g3 st3 r3
    cases (show Rp X.K M3 H3 v3 (.bool k) from r3)
    refine ⟨k, rfl, ?_⟩
    cases k with
    | false => exact out_here st3 (Out.later h3 g3) (Rp.bl _)
    | true => exact tX_b (en2.mono g3) st3 (Out.later h3 g3) fun v4 M4 H4 S4 u4 g4 en4 st4 r4 h4 => ⟨M4, S4, u2, u4, (r2.mono g3).mono g4, r4, st4, h4⟩
theorem pt_chn' {a b d : Expr} {o p : CmpOp} {pos : Pos} {x y z : Ev.X} (hu : X.A.units + 65 < cLine) (hm : lastMarks [o, p] [b, d] = false) (ha : PE X a (tX X.K T cl E c x)) (hb : PE X b (tX X.K T cl E c y)) (hd : PE X d (tX X.K T cl E c z)) :
    PT X (.Compare a [o, p] [b, d] pos) (tTr X.K T cl E c (.chn o p x y z)) :=
  pt_imp (pt_chain (cmp_ok (T := T) (cl := cl) (E := E) o hu) (cmp_ok (T := T) (cl := cl) (E := E) p hu) ha hb hd hm) fun σ H Q ⟨ρ, M, S, en, st, h⟩ => by
    unfold truR evX at h
    simp only [bind_assoc] at h
    refine tX_b en st h fun v M1 H1 S1 u g1 en1 st1 r1 h1 => tX_b en1 st1 h1 fun w M2 H2 S2 u2 g2 en2 st2 r2 h2 => ⟨M2, S2, u, u2, r1.mono g2, r2, st2, ?_⟩
    obtain ⟨k, e, h3⟩ := of_bind h2
    dsimp only
    rw [e]
    intro v3 M3 H3 g3 st3 r3
    cases (show Rp X.K M3 H3 v3 (.bool k) from r3)
    refine ⟨k, rfl, ?_⟩
    cases k with
    | false => exact ⟨false, rfl, out_here (a := false) st3 (Out.later h3 g3) rfl⟩
    | true =>
      rw [if_pos rfl, bind_assoc] at h3
      exact tX_b (en2.mono g3) st3 (Out.later h3 g3) fun v4 M4 H4 S4 u4 g4 en4 st4 r4 h4 => ⟨M4, S4, u2, u4, (r2.mono g3).mono g4, r4, st4, out_trb h4⟩
end
end Ev
end

section
set_option Elab.async false
set_option linter.all false
set_option autoImplicit false
set_option maxRecDepth 100000
set_option maxHeartbeats 4000000
namespace Ev
open PySem PySem.Spec PyProof.Rows L2
section
variable {K : W.Frag} {T : List (Addr × Str)} {cl : Nat → Option Addr} {E : XK} {c : Cn} {X : Cx} {M : Ms} {H : Hp} {S : Store} {ρ : Rho} {σ : L2.St}
theorem asB_some {u : U} {b : Bool} (h : asB u = some b) : u = .d (.bool b) := by
  unfold asB at h
  split at h
  · cases h; rfl
  · cases h
/-- a truth value as a value -/
theorem out_asB {u : U} {v : V} {α β : Type} {f : Bool → Store → R α} {rel : Ms → Hp → β → α → Prop} {Q : β → Hp → Prop} (r : RU K M H v u) (h : Out K T cl E M H ((R.of S (asB u)).bind f) rel Q) : ∃ b, v = .bl b ∧ Out K T cl E M H (f b S) rel Q := by
  obtain ⟨b, e, h1⟩ := of_bind h
  have e' := asB_some e
  subst e'
  cases (show Rp K M H v (.bool b) from r)
  exact ⟨b, rfl, h1⟩
theorem px_and {a b : Expr} {rest : List Expr} {pos : Pos} {x y : Ev.X} (ha : PE X a (tX X.K T cl E c x)) (hb : PE X (.BoolOp .And (b :: rest) pos) (tX X.K T cl E c y)) : PE X (.BoolOp .And (a :: b :: rest) pos) (tX X.K T cl E c (.and x y)) :=
  pe_imp (pe_and ha hb) fun σ H Q ⟨ρ, M, S, en, st, h⟩ => by
    unfold evX boolR at h
    rw [bind_assoc] at h
    refine tX_b en st h fun v M1 H1 S1 u g1 en1 st1 r1 h1 => ?_
    obtain ⟨k, e, h2⟩ := out_asB r1 h1
    refine ⟨k, e, ?_⟩
    cases k with
    | false => exact out_here st1 h2 (Rp.bl _)
    | true => exact ⟨ρ, M1, S1, en1, st1, h2⟩
theorem px_or {a b : Expr} {rest : List Expr} {pos : Pos} {x y : Ev.X} (ha : PE X a (tX X.K T cl E c x)) (hb : PE X (.BoolOp .Or (b :: rest) pos) (tX X.K T cl E c y)) : PE X (.BoolOp .Or (a :: b :: rest) pos) (tX X.K T cl E c (.or x y)) :=
  pe_imp (pe_or ha hb) fun σ H Q ⟨ρ, M, S, en, st, h⟩ => by
    unfold evX boolR at h
    rw [bind_assoc] at h
    refine tX_b en st h fun v M1 H1 S1 u g1 en1 st1 r1 h1 => ?_
    obtain ⟨k, e, h2⟩ := out_asB r1 h1
    refine ⟨k, e, ?_⟩
    cases k with
    | true => exact out_here st1 h2 (Rp.bl _)
    | false => exact ⟨ρ, M1, S1, en1, st1, h2⟩
/-- a truth value that is asked for its truth -/
theorem bool_tru {x : Ev.X} {α β : Type} {f : Bool → Store → R α} {rel : Ms → Hp → β → α → Prop} {Q : β → Hp → Prop} (h : Out K T cl E M H ((boolR (evX c x ρ S)).bind f) rel Q) : Out K T cl E M H ((truR (evX c x ρ S)).bind f) rel Q := by
  cases e : evX c x ρ S with
  | ok u S1 =>
    rw [e] at h
    have h : Out K T cl E M H ((R.of S1 (asB u)).bind f) rel Q := h
    obtain ⟨b, e1, h1⟩ := of_bind h
    have e' := asB_some e1
    subst e'
    exact h1
  | exc k S1 => rw [e] at h; exact h
  | bad => rw [e] at h; exact h
theorem pw_and' {a b : Expr} {rest : List Expr} {pos : Pos} {x y : Ev.X} (ha : PT X a (tTr X.K T cl E c x)) (hb : PW X (.BoolOp .And (b :: rest) pos) (tTr X.K T cl E c y)) : PW X (.BoolOp .And (a :: b :: rest) pos) (tTr X.K T cl E c (.and x y)) :=
  pw_imp (pw_and ha hb) fun σ H Q ⟨ρ, M, S, en, st, h⟩ => by
    unfold truR evX at h
    rw [bind_assoc] at h
    refine tTr_b en st (bool_tru h) fun k M1 H1 S1 g1 en1 st1 h1 => ?_
    cases k with
    | false => exact out_here (a := false) st1 h1 rfl
    | true => exact ⟨ρ, M1, S1, en1, st1, h1⟩
theorem pw_or' {a b : Expr} {rest : List Expr} {pos : Pos} {x y : Ev.X} (ha : PT X a (tTr X.K T cl E c x)) (hb : PW X (.BoolOp .Or (b :: rest) pos) (tTr X.K T cl E c y)) : PW X (.BoolOp .Or (a :: b :: rest) pos) (tTr X.K T cl E c (.or x y)) :=
  pw_imp (pw_or ha hb) fun σ H Q ⟨ρ, M, S, en, st, h⟩ => by
    unfold truR evX at h
    rw [bind_assoc] at h
    refine tTr_b en st (bool_tru h) fun k M1 H1 S1 g1 en1 st1 h1 => ?_
    cases k with
    | true => exact out_here (a := true) st1 h1 rfl
    | false => exact ⟨ρ, M1, S1, en1, st1, h1⟩
theorem px_ife {d a b : Expr} {pos : Pos} {z x y : Ev.X} (hc : PT X d (tTr X.K T cl E c z)) (ha : PE X a (tX X.K T cl E c x)) (hb : PE X b (tX X.K T cl E c y)) : PE X (.IfExp d a b pos) (tX X.K T cl E c (.ife z x y)) :=
  pe_imp (pe_ifExp hc ha hb) fun σ H Q ⟨ρ, M, S, en, st, h⟩ => by
    unfold evX at h
    refine tTr_b en st h fun k M1 H1 S1 g1 en1 st1 h1 => ?_
    cases k with
    | true => exact ⟨ρ, M1, S1, en1, st1, h1⟩
    | false => exact ⟨ρ, M1, S1, en1, st1, h1⟩
/-- a if t else b as a test -/
theorem pt_ife' {d a b : Expr} {pos : Pos} {z x y : Ev.X} (hc : PT X d (tTr X.K T cl E c z)) (ha : PT X a (tTr X.K T cl E c x)) (hb : PT X b (tTr X.K T cl E c y)) : PT X (.IfExp d a b pos) (tTr X.K T cl E c (.ife z x y)) := by
  refine ⟨fun pins s σ H Q I ⟨ρ, M, S, en, st, h⟩ => ?_⟩
  unfold truR evX at h
  rw [bind_assoc] at h
  rw [PySem.isTrue]
  refine wpAny_bind (thn (hc.run pins s σ H (fun k H1 => if k = true then tTr X.K T cl E c x σ H1 Q else tTr X.K T cl E c y σ H1 Q) I (tTr_b en st h fun k M1 H1 S1 g1 en1 st1 h1 => ?_)) fun k s1 ⟨H1, I1, q1⟩ => ?_)
  · cases k with
    | true => exact ⟨ρ, M1, S1, en1, st1, h1⟩
    | false => exact ⟨ρ, M1, S1, en1, st1, h1⟩
  · cases k with
    | true => exact ha.run pins s1 σ H1 Q I1 q1
    | false => exact hb.run pins s1 σ H1 Q I1 q1
/-! ### arguments, displays, calls -/
theorem star_of {e : Expr} {es : List Expr} {env : Env} (h : starred e = false) : starEach (e :: es) env = (false, eval e env) :: starEach es env := by
  cases e <;> first | rfl | cases h
theorem pax_nil : PA X [] (tXs X.K T cl E c .nil) := pa_imp pa_nil fun σ H Q ⟨ρ, M, S, en, st, h⟩ => by
  unfold evXs at h
  exact out_here st h .nil
theorem pax_cons {e : Expr} {es : List Expr} {x : Ev.X} {xs : Xs} (hs : starred e = false) (ha : PE X e (tX X.K T cl E c x)) (hr : PA X es (tXs X.K T cl E c xs)) : PA X (e :: es) (tXs X.K T cl E c (.cons x xs)) :=
  pa_imp (pa_cons ha hr (star_of hs)) fun σ H Q ⟨ρ, M, S, en, st, h⟩ => by
    unfold evXs at h
    exact tX_b en st h fun v M1 H1 S1 u g1 en1 st1 r1 h1 => tXs_b en1 st1 h1 fun w M2 H2 S2 us g2 _ st2 r2 h2 => out_here st2 h2 (.cons (r1.mono g2) r2)
/-- no star among the arguments -/
def plain (es : List Expr) : Bool := es.all fun e => !starred e
theorem back_plain {es : List Expr} {pos : Pos} {env : Env} (h : plain es = true) : (backTo pos (starEach es env)).any (·.1) = false := by
  induction es with
  | nil => rfl
  | cons e r ih =>
    unfold plain at h
    rw [List.all_cons, Bool.and_eq_true] at h
    rw [star_of (by simpa using h.1)]
    show (false || (backTo pos (starEach r env)).any (·.1)) = false
    rw [ih h.2]
    rfl
theorem cL_plain {f : Expr → Option Ev.X} : ∀ {es : List Expr} {xs : Xs}, cL f es = some xs → plain es = true
  | [], _, _ => rfl
  | e :: r, xs, h => by
    unfold cL at h
    split at h
    · cases h
    · rename_i hs
      obtain ⟨x, _, h⟩ := bindO h
      obtain ⟨ys, h2, _⟩ := map_some h
      show (!starred e && plain r) = true
      rw [cL_plain h2]
      simp [hs]
theorem datas_of {us : List U} {vs : List V} {ps : List PyData} (h : RUs K M H vs us) (e : datas S us = some ps) : RpA K M H vs ps := by
  induction h generalizing ps with
  | nil => cases e; exact .nil
  | cons hu hr ih =>
    rename_i v vs u us
    cases u with
    | d p =>
      unfold datas at e
      obtain ⟨qs, e1, rfl⟩ := map_some e
      exact .cons hu (ih e1)
    | ref i => cases e
    | scr ns => cases e
    | obj a => cases e
theorem px_lst {es : List Expr} {pos : Pos} {xs : Xs} (ha : PA X es (tXs X.K T cl E c xs)) : PE X (.List es pos) (tX X.K T cl E c (.lst xs)) :=
  pe_imp (pe_lst ha) fun σ H Q ⟨ρ, M, S, en, st, h⟩ => by
    unfold evX at h
    refine tXs_b en st h fun v M1 H1 S1 us g1 en1 st1 r1 h1 => ?_
    cases e : datas S1 us with
    | none => rw [e] at h1; exact h1.elim
    | some ps =>
      rw [e] at h1
      have h1 : Out X.K T cl E M1 H1 (R.of S1 (if ps.length ≤ line then some (U.d (.list ps)) else none)) (RU X.K) Q := h1
      have rp := datas_of r1 e
      split at h1
      · rename_i hl
        exact ⟨by rw [rp.length, ← line_eq]; exact hl, fun p hp => Wish.list (ds := ps) h1 st1 hp rp⟩
      · exact h1.elim
theorem px_tup {es : List Expr} {k : Nat} {pos : Pos} {xs : Xs} (ha : PA X es (tXs X.K T cl E c xs)) : PE X (.Tuple es k pos) (tX X.K T cl E c (.tup xs)) :=
  pe_imp (pe_tup ha) fun σ H Q ⟨ρ, M, S, en, st, h⟩ => by
    unfold evX at h
    refine tXs_b en st h fun v M1 H1 S1 us g1 en1 st1 r1 h1 => ?_
    cases e : datas S1 us with
    | none => rw [e] at h1; exact h1.elim
    | some ps =>
      rw [e] at h1
      have h1 : Out X.K T cl E M1 H1 (R.of S1 (if ps.length ≤ line then some (U.d (.tuple ps)) else none)) (RU X.K) Q := h1
      have rp := datas_of r1 e
      split at h1
      · rename_i hl
        exact ⟨by rw [rp.length, ← line_eq]; exact hl, fun p hp => Wish.tuple (ds := ps) h1 st1 hp rp⟩
      · exact h1.elim
theorem px_box {es : List Expr} {pos : Pos} {xs : Xs} (ha : PA X es (tXs X.K T cl E c xs)) : PE X (.List es pos) (tX X.K T cl E c (.box xs)) :=
  pe_imp (pe_lst ha) fun σ H Q ⟨ρ, M, S, en, st, h⟩ => by
    unfold evX at h
    refine tXs_b en st h fun v M1 H1 S1 us g1 en1 st1 r1 h1 => ?_
    split at h1
    · rename_i ps e
      have rp := datas_of r1 e
      split at h1
      · rename_i hl
        refine ⟨by rw [rp.length, ← line_eq]; exact hl, fun p hp => ?_⟩
        exact h1 (.ref p) (M1.add p) _ (gr_box st1 hp) (st_box st1 hp rp) ⟨p, by show (M1.b ++ [p])[S1.length]? = _; rw [← st1.len, List.getElem?_append_right (Nat.le_refl _)]; simp, rfl⟩
      · exact h1.elim
    · exact h1.elim
theorem px_idx {a b : Expr} {pos : Pos} {x y : Ev.X} (hs : isSlice b = false) (ha : PE X a (tX X.K T cl E c x)) (hb : PE X b (tX X.K T cl E c y)) : PE X (.Subscript a b pos) (tX X.K T cl E c (.idx x y)) :=
  pe_imp (pe_ix (idx_ok (T := T) (cl := cl) (E := E)) ha hb (fun _ _ => by cases b <;> first | rfl | cases hs)) fun σ H Q ⟨ρ, M, S, en, st, h⟩ => by
    unfold evX at h
    exact tX_b en st h fun v M1 H1 S1 u g1 en1 st1 r1 h1 => tX_b en1 st1 h1 fun w M2 H2 S2 u2 g2 _ st2 r2 h2 => ⟨M2, S2, u, u2, r1.mono g2, r2, st2, h2⟩
/-- a slice's part -/
def tPt (K : W.Frag) (T : List (Addr × Str)) (cl : Nat → Option Addr) (E : XK) (c : Cn) (ir : Xs) : TO := fun σ H Q => ∃ ρ M S, EnvOk K ρ σ M H ∧ StOk K T M S H ∧ Out K T cl E M H ((evXs c ir ρ S).bind fun us S1 => R.of S1 (optI us)) (fun _ _ (o o' : Option Int) => o = o') Q
theorem po_imp {e : Option Expr} {t t' : TO} (h : PO X e t) (i : ∀ σ H Q, t' σ H Q → t σ H Q) : PO X e t' := ⟨fun pins s σ H Q I q => h.run pins s σ H Q I (i σ H Q q)⟩
theorem pox_none : PO X none (tPt X.K T cl E c .nil) := po_imp po_none fun σ H Q ⟨ρ, M, S, en, st, h⟩ => by
  unfold evXs at h
  exact out_here (a := (none : Option Int)) st h rfl
theorem pox_some {e : Expr} {x : Ev.X} (ha : PE X e (tX X.K T cl E c x)) : PO X (some e) (tPt X.K T cl E c (.cons x .nil)) := po_imp (po_some ha) fun σ H Q ⟨ρ, M, S, en, st, h⟩ => by
  unfold evXs evXs at h
  rw [bind_assoc] at h
  refine tX_b en st h fun v M1 H1 S1 u g1 en1 st1 r1 h1 => ?_
  have h1 : Out X.K T cl E M1 H1 (R.of S1 (optI [u])) (fun _ _ (o o' : Option Int) => o = o') Q := h1
  unfold optI at h1
  split at h1
  · rename_i e; cases e
  · rename_i i e
    cases e
    cases (show Rp X.K M1 H1 v (.int i) from r1)
    exact ⟨i, rfl, out_here (a := some i) st1 h1 rfl⟩
  · exact h1.elim
theorem px_slc {a : Expr} {lo hi : Option Expr} {pos p2 : Pos} {x : Ev.X} {l h : Xs} (ha : PE X a (tX X.K T cl E c x)) (hl : PO X lo (tPt X.K T cl E c l)) (hh : PO X hi (tPt X.K T cl E c h)) : PE X (.Subscript a (.Slice lo hi none p2) pos) (tX X.K T cl E c (.slc x l h)) :=
  pe_imp (pe_slice (slc_ok (T := T)) ha hl hh) fun σ H Q ⟨ρ, M, S, en, st, q⟩ => by
    unfold evX at q
    refine tX_b en st q fun v M1 H1 S1 u g1 en1 st1 r1 q1 => ?_
    refine ⟨ρ, M1, S1, en1, st1, Out.mono (Out.bind (rel := fun _ _ (o o' : Option Int) => o = o') q1) fun o H2 ⟨M2, S2, o', g2, st2, e2, q2⟩ => ?_⟩
    cases (show o = o' from e2)
    refine ⟨ρ, M2, S2, en1.mono g2, st2, Out.mono (Out.bind (rel := fun _ _ (o o' : Option Int) => o = o') q2) fun o3 H3 ⟨M3, S3, o4, g3, st3, e3, q3⟩ => ?_⟩
    cases (show o3 = o4 from e3)
    obtain ⟨r, e4, w⟩ := out_data q3
    obtain ⟨p, e5, e6⟩ := bindO e4
    exact ⟨M3, S3, u, p, r, (r1.mono g2).mono g3, st3, e5, e6, w⟩
/-- a list, backwards (a text, a tuple: below) -/
theorem px_rev {e : Expr} {k : Nat} {p1 p2 p3 pos : Pos} {x : Ev.X} (he : PE X e (tX X.K T cl E c x)) : PE X (.Subscript e (.Slice none none (some (.UnaryOp .USub (.Constant (.int 1) k p1) p2)) p3) pos) (tX X.K T cl E c (.rev x)) :=
  pe_imp (pe_revL he) fun σ H Q ⟨ρ, M, S, en, st, h⟩ => by
    unfold evX at h
    refine tX_b en st h fun v M1 H1 S1 u g1 en1 st1 r1 h1 => ?_
    obtain ⟨r, e4, w⟩ := out_data h1
    obtain ⟨p, e5, e6⟩ := bindO e4
    have rp := rs_of r1 st1 e5
    cases p with
    | list ds =>
      cases e6
      obtain ⟨a, xs, e1, h2, h3⟩ := rp
      exact ⟨a, xs, e1, SqL.of h2, fun q hq => w.list st1 hq h3.rev⟩
    | _ => cases e6
/-! ### calls -/
theorem px_call {g : Cfg} {k l : Nat} {N : List Str} {sc : Scope} {fb : Fb} (G : Good g T cl c k l X N sc fb) (tk : L2N.Takes X fun d a _ H => E d a H) {f : Str} {i : Nat} {es : List Expr} {xs : Xs} {p pos : Pos} (ho : odd f = false) (hg : glB sc f = true) (hi : g.fnIx f = some i)
    (hp : plain es = true) (hn : es = [] → xs = .nil) (ha : PA X es (tXs X.K T cl E c xs)) : PE X (.Call (.Name f p) es [] pos) (tX X.K T cl E c (.call i xs)) := by
  obtain ⟨a, fd, ps, fn, e1, e2, e3, e4, e5, F, _⟩ := G.fns f i hi
  have hx : Passes (L2N.CX X.prog X.w) X E := L2N.passes_call tk fun _ _ _ _ z => z
  have fin : ∀ {M1 : Ms} {S1 : Store} {H1 : Hp} {v : List V} {us : List U} {Q : VK}, StOk X.K T M1 S1 H1 → RUs X.K M1 H1 v us → Out X.K T cl E M1 H1 (c.call i us S1) (RU X.K) Q → spC X.K T cl c.call i fn (v ++ []) H1 Q E := fun {M1 S1 H1 v us Q} st1 r1 h1 => by
    rw [List.append_nil]
    refine ⟨M1, S1, us, r1, st1, ?_, h1⟩
    by_cases hl : us.length = fn
    · exact hl
    · rw [G.ar i fn us S1 e1 hl] at h1
      exact h1.elim
  cases es with
  | nil =>
    have e := hn rfl
    subst e
    exact pe_imp (pe_call0 F G.room (gl_of G.scope hg) e3 e4 e5 .nil hx (odd_of ho).1) fun σ H Q ⟨ρ, M, S, en, st, h⟩ => fin (v := []) st .nil h
  | cons e r =>
    have hp' : starred e = false ∧ plain r = true := by
      unfold plain at hp
      rw [List.all_cons, Bool.and_eq_true] at hp
      exact ⟨by simpa using hp.1, hp.2⟩
    refine pe_imp (pe_call F G.room (gl_of G.scope hg) e3 e4 e5 .nil hx ha (odd_of ho).1 (star_of hp'.1) (back_plain hp'.2)) fun σ H Q ⟨ρ, M, S, en, st, h⟩ => ?_
    unfold evX at h
    exact tXs_b en st h fun v M1 H1 S1 us g1 en1 st1 r1 h1 => fin st1 r1 h1
/-- a built-in of one argument -/
theorem fin_blt {b : Blt} {x : Ev.X} {σ : L2.St} {H : Hp} {Q : VK} (h : tX K T cl E c (.blt b x) σ H Q) : tCons (tX K T cl E c x) tNil σ H fun vs H1 => rB K T b vs H1 Q := by
  obtain ⟨ρ, M, S, en, st, h⟩ := h
  unfold evX at h
  refine tX_b en st h fun v M1 H1 S1 u g1 en1 st1 r1 h1 => ?_
  obtain ⟨r, e, w⟩ := out_data h1
  obtain ⟨p, e1, e2⟩ := bindO e
  exact ⟨M1, S1, v, u, p, r, rfl, r1, st1, e1, e2, w⟩
theorem px_bltB {b : Blt} {f : Str} {id : String} {a : Expr} {x : Ev.X} {p pos : Pos} {sc : Scope} (hsc : X.env.scope = sc) (hc : CallR X (.builtin id) (rB X.K T b)) (ho : odd f = false) (hg : glB sc f = true) (hm : X.mg f = none) (hv : bootBuiltins f = some (.builtin id)) (hs : starred a = false) (ha : PE X a (tX X.K T cl E c x)) :
    PE X (.Call (.Name f p) [a] [] pos) (tX X.K T cl E c (.blt b x)) :=
  pe_imp (pe_callB hc (gl_of hsc hg) hm hv (pa_cons ha pa_nil (star_of hs)) (odd_of ho).2.2 (odd_of ho).1 (star_of hs) rfl) fun σ H Q h => fin_blt h
theorem px_bltT {b : Blt} {f : Str} {id : String} {a : Expr} {x : Ev.X} {p pos : Pos} {sc : Scope} (hsc : X.env.scope = sc) (hc : CallR X (.type id) (rB X.K T b)) (ho : odd f = false) (hg : glB sc f = true) (hm : X.mg f = none) (hv : bootBuiltins f = some (.type id)) (hs : starred a = false) (ha : PE X a (tX X.K T cl E c x)) :
    PE X (.Call (.Name f p) [a] [] pos) (tX X.K T cl E c (.blt b x)) :=
  pe_imp (pe_callTy hc (gl_of hsc hg) hm hv (pa_cons ha pa_nil (star_of hs)) (odd_of ho).2.2 (odd_of ho).1 (star_of hs) rfl) fun σ H Q h => fin_blt h
theorem blt_names : ∀ {f : Str} {b : Blt}, bltOf f = some b → f ∈ bltNames := fun {f b} h => by
  unfold bltOf at h
  repeat (split at h; (rename_i e; subst e; simp))
  cases h
theorem px_blt {g : Cfg} {k l : Nat} {N : List Str} {sc : Scope} {fb : Fb} (G : Good g T cl c k l X N sc fb) {b : Blt} {f : Str} {a : Expr} {x : Ev.X} {p pos : Pos} (ho : odd f = false) (hg : glB sc f = true) (hb : bltOf f = some b) (hs : starred a = false) (ha : PE X a (tX X.K T cl E c x)) :
    PE X (.Call (.Name f p) [a] [] pos) (tX X.K T cl E c (.blt b x)) := by
  have hm := G.blts f (blt_names hb)
  unfold bltOf at hb
  split at hb
  · rename_i e; subst e; cases hb; exact px_bltB G.scope blt_len ho hg hm (by decide +kernel) hs ha
  split at hb
  · rename_i e; subst e; cases hb; exact px_bltB G.scope (blt_all G.calm) ho hg hm (by decide +kernel) hs ha
  split at hb
  · rename_i e; subst e; cases hb; exact px_bltB G.scope (blt_sum G.calm) ho hg hm (by decide +kernel) hs ha
  split at hb
  · rename_i e; subst e; cases hb; exact px_bltT G.scope blt_int ho hg hm (by decide +kernel) hs ha
  split at hb
  · rename_i e; subst e; cases hb; exact px_bltT G.scope blt_bool ho hg hm (by decide +kernel) hs ha
  split at hb
  · rename_i e; subst e; cases hb; exact px_bltB G.scope blt_abs ho hg hm (by decide +kernel) hs ha
  split at hb
  · rename_i e; subst e; cases hb; exact px_bltT G.scope blt_tuple ho hg hm (by decide +kernel) hs ha
  split at hb
  · rename_i e; subst e; cases hb; exact px_bltT G.scope blt_list ho hg hm (by decide +kernel) hs ha
  split at hb
  · rename_i e; subst e; cases hb; exact px_bltB G.scope (blt_sorted (by have := G.room.un; omega)) ho hg hm (by decide +kernel) hs ha
  cases hb
theorem px_isi {g : Cfg} {k l : Nat} {N : List Str} {sc : Scope} {fb : Fb} (G : Good g T cl c k l X N sc fb) {t : Str} {D : String} {a : Expr} {x : Ev.X} {p q pos : Pos} (hg : glB sc "isinstance" = true) (hgt : glB sc t = true) (ht : tyOf t = some D) (hs : starred a = false) (ha : PE X a (tX X.K T cl E c x)) :
    PE X (.Call (.Name "isinstance" p) [a, .Name t q] [] pos) (tX X.K T cl E c (.blt (.isi D) x)) := by
  have hD : D ∈ askT ∧ bootBuiltins t = some (.type D) ∧ t ∈ bltNames ∧ t ≠ "__name__" ∧ (t == ("__debug__" : Str)) = false := by
    unfold tyOf at ht
    split at ht
    · rename_i e; subst e; cases ht; exact ⟨by decide, by decide +kernel, by simp, by decide +kernel, by decide +kernel⟩
    split at ht
    · rename_i e; subst e; cases ht; exact ⟨by decide, by decide +kernel, by simp, by decide +kernel, by decide +kernel⟩
    split at ht
    · rename_i e; subst e; cases ht; exact ⟨by decide, by decide +kernel, by simp, by decide +kernel, by decide +kernel⟩
    split at ht
    · rename_i e; subst e; cases ht; exact ⟨by decide, by decide +kernel, by simp, by decide +kernel, by decide +kernel⟩
    split at ht
    · rename_i e; subst e; cases ht; exact ⟨by decide, by decide +kernel, by simp, by decide +kernel, by decide +kernel⟩
    cases ht
  refine pe_imp (pe_callB (blt_isi (T := T) hD.1) (gl_of G.scope hg) (G.blts _ (by simp)) (by decide +kernel) (pa_cons ha (pa_cons (pe_bltn (v := .ty D) (gl_of G.scope hgt) (G.blts t hD.2.2.1) hD.2.1 rfl hD.2.2.2.1 hD.2.2.2.2) pa_nil) (star_of hs)) (by decide +kernel) (by decide +kernel) (star_of hs) rfl) fun σ H Q ⟨ρ, M, S, en, st, h⟩ => ?_
  unfold evX at h
  refine tX_b en st h fun v M1 H1 S1 u g1 en1 st1 r1 h1 => ?_
  obtain ⟨r, e, w⟩ := out_data h1
  obtain ⟨p, e1, e2⟩ := bindO e
  exact ⟨M1, S1, v, u, p, r, rfl, r1, st1, e1, e2, w⟩
end
end Ev
end

section
set_option Elab.async false
set_option linter.all false
set_option autoImplicit false
set_option maxRecDepth 100000
set_option maxHeartbeats 4000000
/-! # Methods of texts, what is walked, targets, comprehensions -/
namespace Ev
open PySem PySem.Spec PyProof.Rows L2
section
variable {K : W.Frag} {T : List (Addr × Str)} {cl : Nat → Option Addr} {E : XK} {c : Cn} {X : Cx} {M : Ms} {H : Hp} {S : Store} {ρ : Rho} {σ : L2.St}
theorem fin_mth {m : Mth} {x y : Ev.X} {σ : L2.St} {H : Hp} {Q : VK} (h : tX K T cl E c (.mth m x (.cons y .nil)) σ H Q) : tM1 (rM K T m) (tX K T cl E c x) (tX K T cl E c y) σ H Q := by
  obtain ⟨ρ, M, S, en, st, h⟩ := h
  unfold evX at h
  refine tX_b en st h fun v M1 H1 S1 u g1 en1 st1 r1 h1 => ?_
  split at h1
  · rename_i z
    refine ⟨⟨z, (show Rp K M1 H1 v (.str z) from r1).rs.str⟩, ?_⟩
    unfold evXs at h1
    rw [bind_assoc] at h1
    refine tX_b en1 st1 h1 fun w M2 H2 S2 u2 g2 _ st2 r2 h2 => ?_
    rw [bind_assoc] at h2
    unfold evXs at h2
    have h2 : Out K T cl E M2 H2 (R.of S2 (((derefs S2 [u2]).bind fun ps => mthD m (.str z) ps).map U.d)) (RU K) Q := h2
    obtain ⟨r, e, w2⟩ := out_data h2
    obtain ⟨ps, e1, e2⟩ := bindO e
    exact ⟨M2, S2, .d (.str z), [u2], .str z, ps, r, r1.mono g2, .cons r2 .nil, st2, rfl, e1, e2, w2⟩
  · exact h1.elim
theorem px_mth {k : Mth} {m : Str} {o a : Expr} {x y : Ev.X} {apos pos : Pos} (hm : mthOf m = some k) (hs : starred a = false) (hb : bareCall o = false) (hl : (apos.endLine == pos.line) = true) (ho : PE X o (tX X.K T cl E c x)) (ha : PE X a (tX X.K T cl E c y)) :
    PE X (.Call (.Attribute o m apos) [a] [] pos) (tX X.K T cl E c (.mth k x (.cons y .nil))) := by
  have hbase : attributeBase o m X.env (eval o X.env) = eval o X.env := by
    unfold attributeBase
    split
    · cases hb
    · rfl
  unfold mthOf at hm
  split at hm
  · rename_i e
    subst e; cases hm
    exact pe_imp (pe_m1 F.slot_str_join F.type_str_join (mth_join (T := T)) ho ha (star_of hs) hbase hl) fun σ H Q h => fin_mth h
  split at hm
  · rename_i e
    subst e; cases hm
    exact pe_imp (pe_m1 F.slot_str_split F.type_str_split (mth_split (T := T)) ho ha (star_of hs) hbase hl) fun σ H Q h => fin_mth h
  split at hm
  · rename_i e
    subst e; cases hm
    exact pe_imp (pe_m1 F.slot_str_strip F.type_str_strip (mth_strip (T := T)) ho ha (star_of hs) hbase hl) fun σ H Q h => fin_mth h
  cases hm
/-! ### targets -/
/-- a target, by the little language's -/
def tTg (K : W.Frag) (T : List (Addr × Str)) (t : Tg) : TG := fun v σ H Q => ∃ ρ M S u ρ', EnvOk K ρ σ M H ∧ StOk K T M S H ∧ RU K M H v u ∧ bindT t u ρ = some ρ' ∧ ∀ σ', EnvOk K ρ' σ' M H → Q σ' H
/-- the items of a tuple of targets -/
def tTgs (K : W.Frag) (T : List (Addr × Str)) (t : Tg) : TGs := fun vs σ H Q => ∃ ρ M S ds ρ', EnvOk K ρ σ M H ∧ StOk K T M S H ∧ RpA K M H vs ds ∧ bindT t (.d (.tuple ds)) ρ = some ρ' ∧ ∀ σ', EnvOk K ρ' σ' M H → Q σ' H
/-- how many items a tuple of targets takes -/
def Tg.len : Tg → Nat
  | .nm _ => 0
  | .nil => 0
  | .cons _ r => r.len + 1
def Tg.isList : Tg → Bool
  | .nm _ => false
  | .nil => true
  | .cons _ r => r.isList
theorem bindT_len : ∀ {t : Tg} {ds : List PyData} {ρ ρ' : Rho}, t.isList = true → bindT t (.d (.tuple ds)) ρ = some ρ' → ds.length = t.len
  | .nm _, _, _, _, h, _ => by cases h
  | .nil, [], _, _, _, _ => rfl
  | .nil, _ :: _, _, _, _, h => by cases h
  | .cons a r, [], _, _, _, h => by cases h
  | .cons a r, d :: ds, ρ, ρ', h, e => by
    unfold bindT at e
    obtain ⟨ρ1, e1, e2⟩ := bindO e
    show ds.length + 1 = r.len + 1
    rw [bindT_len (t := r) h e2]
theorem pg_imp {e : Expr} {t t' : TG} (h : PG X e t) (i : ∀ v σ H Q, t' v σ H Q → t v σ H Q) : PG X e t' := ⟨fun pins s σ H v u Q I r q => h.run pins s σ H v u Q I r (i v σ H Q q)⟩
theorem pgs_imp {e : List Expr} {t t' : TGs} (h : PGs X e t) (i : ∀ v σ H Q, t' v σ H Q → t v σ H Q) : PGs X e t' := ⟨fun pins s σ H v u Q I r q => h.run pins s σ H v u Q I r (i v σ H Q q)⟩
theorem pgx_name {N : List Str} {sc : Scope} {fb : Fb} {x : Str} {i : Nat} {pos : Pos} (hN : X.N = N) (nd : N.Nodup) (hs : X.env.scope = sc) (hf : ∀ x, fb x = true → X.fn x = true ∨ X.env.scope.names.lookup x = some .local) (hl : locB sc x = true) (hb : fb x = true) (hi : ixOf N x = some i) : PG X (.Name x pos) (tTg X.K T (.nm i)) :=
  pg_imp (pg_name (i := i) (by rw [hN]; exact nd) (by rw [hN]; exact ix_of hi) (by rw [hs]; exact loc_of hl) (hf x hb)) fun v σ H Q ⟨ρ, M, S, u, ρ', en, st, r, e, q⟩ => by
    cases e
    exact q _ (en.set r)
/-- no star among the targets -/
theorem each_of {e : Expr} {es : List Expr} {env : Env} (h : starred e = false) : assignEach (e :: es) env = (false, assign e env) :: assignEach es env := by
  cases e <;> first | rfl | cases h
theorem pgsx_nil : PGs X [] (tTgs X.K T .nil) := pgs_imp pgs_nil fun v σ H Q ⟨ρ, M, S, ds, ρ', en, st, r, e, q⟩ => by
  cases ds with
  | nil =>
    cases e
    cases r
    exact ⟨rfl, q _ en⟩
  | cons d ds => cases e
theorem pgsx_cons {e : Expr} {es : List Expr} {a r : Tg} (hs : starred e = false) (h1 : PG X e (tTg X.K T a)) (h2 : PGs X es (tTgs X.K T r)) : PGs X (e :: es) (tTgs X.K T (.cons a r)) :=
  pgs_imp (pgs_cons h1 h2 (by rw [each_of hs]; rfl)) fun v σ H Q ⟨ρ, M, S, ds, ρ', en, st, ra, e, q⟩ => by
    cases ra with
    | nil => cases e
    | cons r1 r2 =>
      unfold bindT at e
      obtain ⟨ρ1, e1, e2⟩ := bindO e
      exact ⟨_, _, rfl, ρ, M, S, .d _, ρ1, en, st, r1, e1, fun σ1 en1 => ⟨ρ1, M, S, _, ρ', en1, st, r2, e2, q⟩⟩
theorem each_len {es : List Expr} {env : Env} : (assignEach es env).length = es.length := by
  induction es with
  | nil => rfl
  | cons e r ih => cases e <;> (show (assignEach r env).length + 1 = _; rw [ih]; rfl)
theorem each_plain {es : List Expr} {env : Env} (h : plain es = true) : (assignEach es env).findIdx? (·.1) = none := by
  rw [List.findIdx?_eq_none_iff]
  induction es with
  | nil => intro x hx; cases hx
  | cons e r ih =>
    unfold plain at h
    rw [List.all_cons, Bool.and_eq_true] at h
    rw [each_of (by simpa using h.1)]
    intro x hx
    rcases List.mem_cons.mp hx with hx | hx
    · rw [hx]
    · exact ih h.2 x hx
theorem pgx_tup {es : List Expr} {k : Nat} {pos : Pos} {t : Tg} (hc : X.calm = true) (hl : t.isList = true) (hn : t.len = es.length) (hp : plain es = true) (h : PGs X es (tTgs X.K T t)) : PG X (.Tuple es k pos) (tTg X.K T t) :=
  pg_imp (pg_tup (n := es.length) hc h each_len (each_plain hp)) fun v σ H Q ⟨ρ, M, S, u, ρ', en, st, r, e, q⟩ => by
    have hu : ∃ ds, u = .d (.tuple ds) := by
      cases t with
      | nm i => cases hl
      | nil =>
        unfold bindT at e
        split at e
        · exact ⟨_, rfl⟩
        · cases e
      | cons a b =>
        unfold bindT at e
        split at e
        · exact ⟨_, rfl⟩
        · cases e
    obtain ⟨ds, rfl⟩ := hu
    obtain ⟨a, xs, e1, t1, r1⟩ := (show Rp X.K M H v (.tuple ds) from r).rs.tup
    exact ⟨a, xs, e1, t1.sq, by rw [r1.length, bindT_len hl e, hn], ρ, M, S, ds, ρ', en, st, r1, e, q⟩
/-- targets, by the compiler -/
theorem tg_ok {N : List Str} {sc : Scope} {fb : Fb} (hN : X.N = N) (nd : N.Nodup) (hc : X.calm = true) (hs : X.env.scope = sc) (hf : ∀ x, fb x = true → X.fn x = true ∨ X.env.scope.names.lookup x = some .local) :
    ∀ n, (∀ e t, cT N sc fb n e = some t → PG X e (tTg X.K T t)) ∧ ∀ es t, cTs N sc fb n es = some t → PGs X es (tTgs X.K T t) ∧ t.isList = true ∧ t.len = es.length ∧ plain es = true := by
  intro n
  induction n with
  | zero => exact ⟨fun e t h => (by unfold cT at h; cases h), fun e t h => (by unfold cTs at h; cases h)⟩
  | succ n ih =>
    refine ⟨fun e t h => ?_, fun es t h => ?_⟩
    · unfold cT at h
      split at h
      · split at h
        · rename_i hx
          rw [Bool.and_eq_true] at hx
          obtain ⟨i, hi, rfl⟩ := map_some h
          exact pgx_name hN nd hs hf hx.1 hx.2 hi
        · cases h
      · obtain ⟨h1, h2, h3, h4⟩ := ih.2 _ _ h
        exact pgx_tup hc h2 h3 h4 h1
      · cases h
    · cases es with
      | nil =>
        unfold cTs at h
        cases h
        exact ⟨pgsx_nil, rfl, rfl, rfl⟩
      | cons e r =>
        unfold cTs at h
        split at h
        · cases h
        · rename_i hst
          obtain ⟨a, h1, h⟩ := bindO h
          obtain ⟨b, h2, rfl⟩ := map_some h
          obtain ⟨i1, i2, i3, i4⟩ := ih.2 _ _ h2
          refine ⟨pgsx_cons (by simpa using hst) (ih.1 _ _ h1) i1, i2, congrArg (· + 1) i3, ?_⟩
          show (!starred e && plain r) = true
          rw [i4]
          simp [hst]
/-! ### what is walked -/
/-- the items come, wherever one stands by then -/
def Feed (K : W.Frag) (M : Ms) (H : Hp) (J : L2.It) : Src → Prop
  | .fix us => ∀ M' H', Gr M H M' H' → ∀ i, (us[i]? = none → J.stop i H') ∧ ∀ u, us[i]? = some u → J.go i H' ∧ ∀ x H'', J.yld i H' x H'' → ∀ T S, StOk K T M' S H' → Gr M' H' M' H'' ∧ StOk K T M' S H'' ∧ RU K M' H'' x u
  | .live b => ∃ a, M.b[b]? = some a ∧ J = Itl K a
def tIt (K : W.Frag) (T : List (Addr × Str)) (cl : Nat → Option Addr) (E : XK) (c : Cn) (it : Ev.It) : TI := fun σ H R => ∃ ρ M S, EnvOk K ρ σ M H ∧ StOk K T M S H ∧ Out K T cl E M H (evIt c it ρ S) (fun M H J s => Feed K M H J s) R
theorem pi_imp {tg iter : Expr} {w w' : TI} (h : PI X tg iter w) (i : ∀ σ H R, w' σ H R → w σ H R) : PI X tg iter w' := ⟨fun pins s σ H R I q => h.run pins s σ H R I (i σ H R q)⟩
def iAny (K : W.Frag) (tl : TE) : TI := fun σ H R => tl σ H fun x H1 => (∃ a xs, x = .ref a ∧ SqL K H1 a xs ∧ R (Itl K a) H1) ∨ (∃ a xs, x = .ref a ∧ SqT K H1 a xs ∧ R (Itt K a) H1) ∨ ∃ z, x = .str z ∧ R (Its z) H1
theorem pi_any {tg l : Expr} {tl : TE} (hl : PE X l tl) : PI X tg l (iAny X.K tl) := by
  refine ⟨fun pins s σ H R I h => ?_⟩
  refine thn (hl.run pins s σ H _ I h) fun v s1 ⟨x, H1, I1, r1, q1⟩ => ?_
  rcases q1 with ⟨a, xs, e, hq, q⟩ | ⟨a, xs, e, hq, q⟩ | ⟨z, e, q⟩
  · subst e
    cases r1
    obtain ⟨its, rv, p, hz⟩ := I1.list hq
    refine wpAny_pyIter_list p.isList ?_
    exact pi_one (tk := s1.toks) I1 _ (turn_list a _) ⟨_, Heap.get?_push_size _ rfl, rfl, rfl⟩ q
  · subst e
    cases r1
    obtain ⟨its, rv, p, hz⟩ := I1.tuple hq
    refine wpAny_pyIter_tuple (show s1.heap.IsTuple a its.toArray from p) ?_
    exact pi_one (tk := s1.toks) I1 _ (turn_tuple a _) ⟨_, Heap.get?_push_size _ rfl, rfl, rfl⟩ q
  · subst e
    obtain ⟨t, rfl⟩ := r1
    cases ha : z.cps.all (· < 128)
    · exact wpAny_pyIter_wide ha (pi_one (tk := s1.toks) I1 _ (turn_str _ z t "str_iterator" (.inr rfl)) ⟨_, Heap.get?_push_size _ rfl, rfl, rfl⟩ q)
    · exact wpAny_pyIter_ascii ha (pi_one (tk := s1.toks) I1 _ (turn_str _ z t "str_ascii_iterator" (.inl rfl)) ⟨_, Heap.get?_push_size _ rfl, rfl, rfl⟩ q)
theorem feed_list {a : Addr} {xs : List V} {ds : List PyData} (n : a ∉ M) (h : H a = some (.lst xs)) (r : RpA K M H xs ds) : Feed K M H (Itl K a) (.fix (ds.map .d)) := by
  intro M' H' g i
  obtain ⟨n', h'⟩ := g.at_ h n fun ps z => by cases z
  have r' := r.mono g
  refine ⟨fun e => ⟨xs, SqL.of h', ?_⟩, fun u e => ?_⟩
  · rw [List.getElem?_eq_none_iff, List.length_map] at e
    rw [r.length]; exact e
  · rw [List.getElem?_map] at e
    obtain ⟨d, e1, rfl⟩ := map_some e
    obtain ⟨v, e2, r2⟩ := r'.get e1
    refine ⟨⟨xs, v, SqL.of h', e2⟩, fun x H'' ⟨eH, hx⟩ T S st => ?_⟩
    subst eH
    have := hx xs (SqL.of h')
    rw [e2] at this
    cases this
    exact ⟨Gr.refl _ _, st, r2⟩
theorem feed_tup {a : Addr} {xs : List V} {ds : List PyData} (t : TupAt K M H a xs) (r : RpA K M H xs ds) : Feed K M H (Itt K a) (.fix (ds.map .d)) := by
  intro M' H' g i
  have t' := t.mono g
  have r' := r.mono g
  refine ⟨fun e => ⟨xs, t'.sq, ?_⟩, fun u e => ?_⟩
  · rw [List.getElem?_eq_none_iff, List.length_map] at e
    rw [r.length]; exact e
  · rw [List.getElem?_map] at e
    obtain ⟨d, e1, rfl⟩ := map_some e
    obtain ⟨v, e2, r2⟩ := r'.get e1
    refine ⟨⟨xs, v, t'.sq, e2⟩, fun x H'' ⟨eH, hx⟩ T S st => ?_⟩
    subst eH
    have := hx xs t'.sq
    rw [e2] at this
    cases this
    exact ⟨Gr.refl _ _, st, r2⟩
theorem feed_str {z : Str} : Feed K M H (Its z) (.fix (strItems z)) := by
  intro M' H' g i
  unfold strItems
  refine ⟨fun e => ?_, fun u e => ?_⟩
  · rw [List.getElem?_eq_none_iff, List.length_map, Array.length_toList] at e
    exact e
  · rw [List.getElem?_map, Array.getElem?_toList] at e
    obtain ⟨d, e1, rfl⟩ := map_some e
    refine ⟨(Array.getElem?_eq_some_iff.mp e1).1, fun x H'' ⟨eH, c, hx, ex⟩ T S st => ?_⟩
    subst eH
    rw [e1] at hx
    cases hx
    exact ⟨Gr.refl _ _, st, by rw [ex]; exact Rp.str _⟩
theorem feed_rng {lo : Int} {n : Nat} : Feed K M H (Itr lo n) (.fix (rngItems lo n)) := by
  intro M' H' g i
  unfold rngItems
  refine ⟨fun e => ?_, fun u e => ?_⟩
  · rw [List.getElem?_eq_none_iff, List.length_map, List.length_range] at e
    exact e
  · rw [List.getElem?_map] at e
    obtain ⟨d, e1, rfl⟩ := map_some e
    obtain ⟨h1, h2⟩ := List.getElem?_eq_some_iff.mp e1
    rw [List.getElem_range] at h2
    subst h2
    rw [List.length_range] at h1
    refine ⟨h1, fun x H'' ⟨eH, ex⟩ T S st => ?_⟩
    subst eH
    exact ⟨Gr.refl _ _, st, by rw [ex]; exact Rp.int _⟩
theorem feed_rngC {lo : Int} {n : Nat} : Feed K M H (Itc lo (-1) n) (.fix ((List.range n).map fun k => U.d (.int (lo - (k : Nat))))) := by
  intro M' H' g i
  refine ⟨fun e => ?_, fun u e => ?_⟩
  · rw [List.getElem?_eq_none_iff, List.length_map, List.length_range] at e
    exact e
  · rw [List.getElem?_map] at e
    obtain ⟨d, e1, rfl⟩ := map_some e
    obtain ⟨h1, h2⟩ := List.getElem?_eq_some_iff.mp e1
    rw [List.getElem_range] at h2
    subst h2
    rw [List.length_range] at h1
    refine ⟨h1, fun x H'' ⟨eH, ex⟩ T S st => ?_⟩
    subst eH
    refine ⟨Gr.refl _ _, st, ?_⟩
    have : lo + (i : Int) * -1 = lo - (i : Int) := by omega
    rw [ex, this]
    exact Rp.int _
end
end Ev
end

section
set_option Elab.async false
set_option linter.all false
set_option autoImplicit false
set_option maxRecDepth 100000
set_option maxHeartbeats 4000000
/-! # What is walked, comprehensions -/
namespace Ev
open PySem PySem.Spec PyProof.Rows L2
section
variable {K : W.Frag} {T : List (Addr × Str)} {cl : Nat → Option Addr} {E : XK} {c : Cn} {X : Cx} {M : Ms} {H : Hp} {S : Store} {ρ : Rho} {σ : L2.St}
theorem pix_val {tg e : Expr} {x : Ev.X} (he : PE X e (tX X.K T cl E c x)) : PI X tg e (tIt X.K T cl E c (.val x)) :=
  pi_imp (pi_any he) fun σ H R ⟨ρ, M, S, en, st, h⟩ => by
    unfold evIt at h
    refine tX_b en st h fun v M1 H1 S1 u g1 en1 st1 r1 h1 => ?_
    obtain ⟨src, e, h2⟩ : ∃ src, srcU S1 u = some src ∧ ∀ J, Feed X.K M1 H1 J src → R J H1 := by
      cases e : srcU S1 u with
      | none => rw [e] at h1; exact h1.elim
      | some src =>
        rw [e] at h1
        exact ⟨src, rfl, fun J f => h1 J M1 H1 (Gr.refl _ _) st1 f⟩
    unfold srcU at e
    split at e
    · cases e
      cases (show Rp X.K M1 H1 v _ from r1) with
      | lst n hl ra => exact .inl ⟨_, _, rfl, SqL.of hl, h2 _ (feed_list n hl ra)⟩
    · cases e
      obtain ⟨a, xs, e1, t1, ra⟩ := (show Rp X.K M1 H1 v _ from r1).rs.tup
      exact .inr (.inl ⟨_, _, e1, t1.sq, h2 _ (feed_tup t1 ra)⟩)
    · cases e
      have e1 := (show Rp X.K M1 H1 v _ from r1).rs.str
      exact .inr (.inr ⟨_, e1, h2 _ feed_str⟩)
    · rename_i i
      split at e
      · rename_i ds e2
        cases e
        obtain ⟨a, e3, e4⟩ := r1
        obtain ⟨xs, e5, _⟩ := st1.lst e3 e2
        exact .inl ⟨_, _, e4, SqL.of e5, h2 _ ⟨a, e3, rfl⟩⟩
      · cases e
    · cases e
theorem small_of {i : Int} (h : smallR i = true) : -(2 ^ 62) ≤ i ∧ i < 2 ^ 62 := by
  unfold smallR at h
  rw [Bool.and_eq_true, decide_eq_true_eq, decide_eq_true_eq] at h
  exact h
def Xs.len : Xs → Nat
  | .nil => 0
  | .cons _ r => r.len + 1
theorem evXs_chk (g : Cn) : ∀ (xs : Xs) (ρ : Rho) (S : Store), evXs g xs ρ S = (evXs g xs ρ S).bind fun us S1 => if us.length = xs.len then .ok us S1 else .bad
  | .nil, ρ, S => by unfold evXs; rfl
  | .cons a r, ρ, S => by
    have ih := evXs_chk g r
    unfold evXs
    cases evX g a ρ S with
    | ok x S1 =>
      show ((evXs g r ρ S1).bind fun xs S2 => R.ok (x :: xs) S2) = ((evXs g r ρ S1).bind fun xs S2 => R.ok (x :: xs) S2).bind _
      rw [bind_assoc, ih ρ S1]
      cases evXs g r ρ S1 with
      | ok xs S2 =>
        show (if xs.length = r.len then R.ok xs S2 else R.bad).bind _ = (if xs.length = r.len then R.ok xs S2 else R.bad).bind _
        split
        · rename_i e
          show R.ok (x :: xs) S2 = if (x :: xs).length = r.len + 1 then R.ok (x :: xs) S2 else R.bad
          rw [if_pos (by rw [List.length_cons, e])]
        · rfl
      | exc _ _ => rfl
      | bad => rfl
    | exc _ _ => rfl
    | bad => rfl
/-- arguments, counted -/
theorem tXs_n {α β : Type} {ir : Xs} {f : List U → Store → R α} {rel : Ms → Hp → β → α → Prop} {Q : β → Hp → Prop} (en : EnvOk K ρ σ M H) (st : StOk K T M S H) (h : Out K T cl E M H ((evXs c ir ρ S).bind f) rel Q) {G : List V → Hp → Prop}
    (q : ∀ v M1 H1 S1 u, Gr M H M1 H1 → EnvOk K ρ σ M1 H1 → StOk K T M1 S1 H1 → RUs K M1 H1 v u → u.length = ir.len → Out K T cl E M1 H1 (f u S1) rel Q → G v H1) : tXs K T cl E c ir σ H G := by
  rw [evXs_chk, bind_assoc] at h
  refine tXs_b en st h fun v M1 H1 S1 u g1 en1 st1 r1 h1 => ?_
  by_cases e : u.length = ir.len
  · rw [if_pos e] at h1
    exact q v M1 H1 S1 u g1 en1 st1 r1 e h1
  · rw [if_neg e] at h1
    exact h1.elim
theorem datas_len {S : Store} : ∀ {us : List U} {ps : List PyData}, datas S us = some ps → ps.length = us.length
  | [], _, e => by cases e; rfl
  | .d p :: r, _, e => by
    unfold datas at e
    obtain ⟨qs, e1, rfl⟩ := map_some e
    show qs.length + 1 = r.length + 1
    rw [datas_len e1]
  | .ref _ :: _, _, e => by cases e
  | .scr _ :: _, _, e => by cases e
  | .obj _ :: _, _, e => by cases e
/-- the ints of a range -/
theorem fin_rng {xs : Xs} {σ : L2.St} {H : Hp} {G : L2.It → Hp → Prop} {G2 : List V → Hp → Prop} (h : tIt K T cl E c (.rng xs) σ H G)
    (q : ∀ M1 H1 vs (ps : List PyData) us, RpA K M1 H1 vs ps → ps.length = xs.len → rngD ps = some us → (∀ J, Feed K M1 H1 J (.fix us) → G J H1) → G2 vs H1) : tXs K T cl E c xs σ H G2 := by
  obtain ⟨ρ, M, S, en, st, h⟩ := h
  unfold evIt at h
  refine tXs_n en st h fun v M1 H1 S1 us g1 en1 st1 r1 hl h1 => ?_
  cases e : datas S1 us with
  | none => rw [e] at h1; exact h1.elim
  | some ps =>
    rw [e] at h1
    have h1 : Out K T cl E M1 H1 (R.of S1 ((rngD ps).map Src.fix)) (fun M H J s => Feed K M H J s) G := h1
    cases e2 : rngD ps with
    | none => rw [e2] at h1; exact h1.elim
    | some is =>
      rw [e2] at h1
      exact q M1 H1 v ps is (datas_of r1 e) (by rw [datas_len e, hl]) e2 fun J f => h1 J M1 H1 (Gr.refl _ _) st1 f
theorem rng1 {p : PyData} {us : List U} (h : rngD [p] = some us) : ∃ j, p = .int j ∧ (-(2 ^ 62) ≤ j ∧ j < 2 ^ 62) ∧ us = rngItems 0 j.toNat := by
  unfold rngD at h
  split at h
  · rename_i j e
    cases e
    split at h
    · rename_i hs
      cases h
      exact ⟨j, rfl, small_of hs, rfl⟩
    · cases h
  · rename_i e; cases e
  · rename_i e; cases e
  · cases h
theorem rng2 {p q : PyData} {us : List U} (h : rngD [p, q] = some us) : ∃ i j, p = .int i ∧ q = .int j ∧ (-(2 ^ 62) ≤ i ∧ i < 2 ^ 62) ∧ (-(2 ^ 62) ≤ j ∧ j < 2 ^ 62) ∧ us = rngItems i (j - i).toNat := by
  unfold rngD at h
  split at h
  · rename_i e; cases e
  · rename_i i j e
    cases e
    split at h
    · rename_i hs
      rw [Bool.and_eq_true] at hs
      cases h
      exact ⟨i, j, rfl, rfl, small_of hs.1, small_of hs.2, rfl⟩
    · cases h
  · rename_i e; cases e
  · cases h
theorem rng3 {p q r : PyData} {us : List U} (h : rngD [p, q, r] = some us) : ∃ i j, p = .int i ∧ q = .int j ∧ r = .int (-1) ∧ (-(2 ^ 62) ≤ i ∧ i < 2 ^ 62) ∧ (-(2 ^ 62) ≤ j ∧ j < 2 ^ 62) ∧ us = (List.range (i - j).toNat).map fun k => .d (.int (i - (k : Nat))) := by
  unfold rngD at h
  split at h
  · rename_i e; cases e
  · rename_i e; cases e
  · rename_i i j k e
    cases e
    split at h
    · rename_i hs
      rw [Bool.and_eq_true] at hs
      cases h
      obtain ⟨rfl, h1, h2⟩ := hs
      exact ⟨i, j, rfl, rfl, rfl, small_of h1, small_of h2, rfl⟩
    · cases h
  · cases h
theorem pix_rng1 {tg a : Expr} {p pos : Pos} {x : Ev.X} (hg : Gl X "range") (hm : X.mg "range" = none) (hs : starred a = false) (ha : PA X [a] (tXs X.K T cl E c (.cons x .nil))) :
    PI X tg (.Call (.Name "range" p) [a] [] pos) (tIt X.K T cl E c (.rng (.cons x .nil))) :=
  pi_imp (pi_range1 hg hm ha (star_of hs)) fun σ H G h => fin_rng h fun M1 H1 vs ps us r1 hl e q => by
    match ps, hl with
    | [p], _ =>
      obtain ⟨j, rfl, hj, rfl⟩ := rng1 e
      cases r1 with
      | cons r rr =>
        cases rr
        cases r
        exact ⟨j, rfl, hj.1, hj.2, q _ feed_rng⟩
theorem pix_rng2 {tg a b : Expr} {p pos : Pos} {x y : Ev.X} (hg : Gl X "range") (hm : X.mg "range" = none) (hs : starred a = false) (hs2 : starred b = false) (ha : PA X [a, b] (tXs X.K T cl E c (.cons x (.cons y .nil)))) :
    PI X tg (.Call (.Name "range" p) [a, b] [] pos) (tIt X.K T cl E c (.rng (.cons x (.cons y .nil)))) :=
  pi_imp (pi_range2 hg hm ha (by rw [star_of hs, star_of hs2]; rfl) (star_of hs2)) fun σ H G h => fin_rng h fun M1 H1 vs ps us r1 hl e q => by
    match ps, hl with
    | [p, p'], _ =>
      obtain ⟨i, j, rfl, rfl, hi, hj, rfl⟩ := rng2 e
      cases r1 with
      | cons r rr =>
        cases rr with
        | cons r' rr =>
          cases rr
          cases r
          cases r'
          exact ⟨i, j, rfl, ⟨hi.1, hi.2, hj.1, hj.2⟩, q _ feed_rng⟩
theorem pix_rng3 {tg a b d : Expr} {p pos : Pos} {x y z : Ev.X} (hg : Gl X "range") (hm : X.mg "range" = none) (hs : starred a = false) (hs2 : starred b = false) (hs3 : starred d = false) (ha : PA X [a, b, d] (tXs X.K T cl E c (.cons x (.cons y (.cons z .nil))))) :
    PI X tg (.Call (.Name "range" p) [a, b, d] [] pos) (tIt X.K T cl E c (.rng (.cons x (.cons y (.cons z .nil))))) :=
  pi_imp (pi_range3 hg hm ha (star_of hs) (by rw [star_of hs2, star_of hs3]; rfl)) fun σ H G h => fin_rng h fun M1 H1 vs ps us r1 hl e q => by
    match ps, hl with
    | [p, p', p''], _ =>
      obtain ⟨i, j, rfl, rfl, rfl, hi, hj, rfl⟩ := rng3 e
      cases r1 with
      | cons r rr =>
        cases rr with
        | cons r' rr =>
          cases rr with
          | cons r'' rr =>
            cases rr
            cases r
            cases r'
            cases r''
            exact ⟨i, j, -1, _, rfl, RgC.neg hi.1 hi.2 hj.1 hj.2, q _ feed_rngC⟩
theorem gr_tup {p : Addr} {xs : List V} (s : StOk K T M S H) (h : H p = none) : Gr M H M (upd H p (.tup xs)) := gr_new s h
/-- enumerate(list) -/
theorem feed_enm {a : Addr} {xs : List V} {ds : List PyData} (n : a ∉ M) (h : H a = some (.lst xs)) (r : RpA K M H xs ds) : Feed K M H (Ite K a) (.fix (enmItems 0 ds)) := by
  have key : ∀ (ds : List PyData) (k i : Nat), (enmItems k ds)[i]? = (ds[i]?).map fun d => U.d (.tuple [.int ((k + i : Nat) : Int), d]) := fun ds => by
    induction ds with
    | nil => intro k i; simp [enmItems]
    | cons d ds ih =>
      intro k i
      cases i with
      | zero => simp [enmItems]
      | succ i =>
        show (enmItems (k + 1) ds)[i]? = _
        rw [ih, List.getElem?_cons_succ]
        congr 1
        funext d
        have : k + 1 + i = k + (i + 1) := by omega
        rw [this]
  intro M' H' g i
  obtain ⟨n', h'⟩ := g.at_ h n fun ps z => by cases z
  have r' := r.mono g
  rw [key ds 0 i, Nat.zero_add]
  refine ⟨fun e => ⟨xs, SqL.of h', ?_⟩, fun u e => ?_⟩
  · rw [Option.map_eq_none_iff, List.getElem?_eq_none_iff] at e
    rw [r.length]; exact e
  · obtain ⟨d, e1, rfl⟩ := map_some e
    obtain ⟨v, e2, r2⟩ := r'.get e1
    refine ⟨⟨xs, v, SqL.of h', e2⟩, fun x H'' ⟨t, y, ex, ht, eH, hx⟩ T S st => ?_⟩
    subst eH ex
    have := hx xs (SqL.of h')
    rw [e2] at this
    cases this
    exact ⟨gr_new st ht, st_new st ht, .tup (.inl ⟨st.free ht, upd_same⟩) (.cons (.int _) (.cons (r2.mono (gr_new st ht)) .nil))⟩
theorem pix_enm {a : Expr} {tes : List Expr} {tk : Nat} {p pos tpos : Pos} {x : Ev.X} (hg : Gl X "enumerate") (hm : X.mg "enumerate" = none) (hs : starred a = false) (ha : PE X a (tX X.K T cl E c x)) :
    PI X (.Tuple tes tk tpos) (.Call (.Name "enumerate" p) [a] [] pos) (tIt X.K T cl E c (.enm x)) :=
  pi_imp (pi_enum hg hm (pa_cons ha pa_nil (star_of hs)) (star_of hs)) fun σ H G ⟨ρ, M, S, en, st, h⟩ => by
    unfold evIt at h
    refine tX_b en st h fun v M1 H1 S1 u g1 en1 st1 r1 h1 => ?_
    split at h1
    · rename_i ds
      cases (show Rp X.K M1 H1 v _ from r1) with
      | lst n hl ra => exact ⟨_, _, rfl, SqL.of hl, h1 _ M1 H1 (Gr.refl _ _) st1 (feed_enm n hl ra)⟩
    · exact h1.elim
theorem zip_at : ∀ (xs ys : List PyData) (i : Nat), (zipItems xs ys)[i]? = (xs[i]?).bind fun x => (ys[i]?).map fun y => U.d (.tuple [x, y])
  | [], ys, i => by unfold zipItems; simp
  | x :: xs, [], i => by unfold zipItems; cases i <;> simp
  | x :: xs, y :: ys, 0 => by unfold zipItems; simp
  | x :: xs, y :: ys, i + 1 => by
    unfold zipItems
    rw [List.getElem?_cons_succ, zip_at xs ys i]
    simp
theorem feed_zip {a b : Addr} {xs ys : List V} {ds es : List PyData} {J : L2.It}
    (hJ : ∀ M' H', Gr M H M' H' → ∀ i, ((xs.length ≤ i ∨ ys.length ≤ i) → J.stop i H') ∧ ∀ x y, xs[i]? = some x → ys[i]? = some y → J.go i H' ∧ ∀ v H'', J.yld i H' v H'' → ∃ t, v = .ref t ∧ H' t = none ∧ H'' = upd H' t (.tup [x, y]))
    (r : RpA K M H xs ds) (q : RpA K M H ys es) : Feed K M H J (.fix (zipItems ds es)) := by
  intro M' H' g i
  have r' := r.mono g
  have q' := q.mono g
  obtain ⟨j1, j2⟩ := hJ M' H' g i
  rw [zip_at]
  refine ⟨fun e => j1 ?_, fun u e => ?_⟩
  · cases e1 : ds[i]? with
    | none => exact .inl (by rw [r.length]; exact List.getElem?_eq_none_iff.mp e1)
    | some d =>
      rw [e1] at e
      cases e2 : es[i]? with
      | none => exact .inr (by rw [q.length]; exact List.getElem?_eq_none_iff.mp e2)
      | some d' => rw [e2] at e; cases e
  · obtain ⟨d, e1, e⟩ := bindO e
    obtain ⟨d', e2, rfl⟩ := map_some e
    obtain ⟨v, e3, r2⟩ := r'.get e1
    obtain ⟨v', e4, q2⟩ := q'.get e2
    obtain ⟨j3, j4⟩ := j2 v v' e3 e4
    refine ⟨j3, fun x H'' y T S st => ?_⟩
    obtain ⟨t, rfl, ht, rfl⟩ := j4 x H'' y
    exact ⟨gr_new st ht, st_new st ht, .tup (.inl ⟨st.free ht, upd_same⟩) (.cons (r2.mono (gr_new st ht)) (.cons (q2.mono (gr_new st ht)) .nil))⟩
theorem pix_zip {a b : Expr} {tes : List Expr} {tk : Nat} {p pos tpos : Pos} {x y : Ev.X} (hg : Gl X "zip") (hm : X.mg "zip" = none) (hs : starred a = false) (hs2 : starred b = false) (ha : PE X a (tX X.K T cl E c x)) (hb : PE X b (tX X.K T cl E c y)) :
    PI X (.Tuple tes tk tpos) (.Call (.Name "zip" p) [a, b] [] pos) (tIt X.K T cl E c (.zip x y)) :=
  pi_imp (RZ.pi_zipA hg hm (pa_cons ha (pa_cons hb pa_nil (star_of hs2)) (star_of hs)) (star_of hs) (by rw [star_of hs2]; rfl)) fun σ H G ⟨ρ, M, S, en, st, h⟩ => by
    unfold evIt at h
    refine tX_b en st h fun v M1 H1 S1 u g1 en1 st1 r1 h1 => tX_b en1 st1 h1 fun w M2 H2 S2 u2 g2 _ st2 r2 h2 => ?_
    have r1 := r1.mono g2
    split at h2
    · cases (show Rp X.K M2 H2 v _ from r1) with
      | lst n hl ra =>
        cases (show Rp X.K M2 H2 w _ from r2) with
        | lst n' hl' ra' =>
          refine ⟨_, _, _, _, rfl, .inl ⟨SqL.of hl, SqL.of hl', h2 _ M2 H2 (Gr.refl _ _) st2 (feed_zip (a := 0) (b := 0) (fun M' H' g i => ?_) ra ra')⟩⟩
          obtain ⟨_, h3⟩ := g.at_ hl n fun ps z => by cases z
          obtain ⟨_, h4⟩ := g.at_ hl' n' fun ps z => by cases z
          refine ⟨fun z => ⟨_, _, SqL.of h3, SqL.of h4, z⟩, fun x y ex ey => ⟨⟨_, _, x, y, SqL.of h3, SqL.of h4, ex, ey⟩, fun v H'' ⟨t, x', y', e1, e2, e3, e4, e5⟩ => ?_⟩⟩
          have e4 := e4 _ (SqL.of h3)
          have e5 := e5 _ (SqL.of h4)
          rw [ex] at e4
          rw [ey] at e5
          cases e4
          cases e5
          exact ⟨t, e1, e2, e3⟩
    · obtain ⟨a1, xs1, rfl, t1, ra⟩ := (show Rp X.K M2 H2 v _ from r1).rs.tup
      obtain ⟨a2, xs2, rfl, t2, ra'⟩ := (show Rp X.K M2 H2 w _ from r2).rs.tup
      refine ⟨_, _, _, _, rfl, .inr ⟨t1.sq, t2.sq, h2 _ M2 H2 (Gr.refl _ _) st2 (feed_zip (a := 0) (b := 0) (fun M' H' g i => ?_) ra ra')⟩⟩
      have h3 := (t1.mono g).sq
      have h4 := (t2.mono g).sq
      refine ⟨fun z => ⟨_, _, h3, h4, z⟩, fun x y ex ey => ⟨⟨_, _, x, y, h3, h4, ex, ey⟩, fun v H'' ⟨t, x', y', e1, e2, e3, e4, e5⟩ => ?_⟩⟩
      have e4 := e4 _ h3
      have e5 := e5 _ h4
      rw [ex] at e4
      rw [ey] at e5
      cases e4
      cases e5
      exact ⟨t, e1, e2, e3⟩
    · exact h2.elim
end
end Ev
end

section
set_option Elab.async false
set_option linter.all false
set_option autoImplicit false
set_option maxRecDepth 100000
set_option maxHeartbeats 4000000
/-! # Comprehensions -/
namespace Ev
open PySem PySem.Spec PyProof.Rows L2
/-- nobody takes an exception -/
abbrev noE : XK := fun _ _ _ => False
theorem wipe_at {σ : L2.St} : ∀ {vs : List Nat} {i : Nat}, i ∈ vs → i < σ.length → (L2.wipe σ vs)[i]? = some none
  | v :: vs, i, h, hl => by
    unfold L2.wipe
    by_cases e : v = i
    · subst e
      rw [List.getElem?_set_self (by rw [L2.wipe_length]; exact hl)]
    · rw [List.getElem?_set_ne e]
      exact wipe_at ((List.mem_cons.mp h).resolve_left fun z => e z.symm) hl
theorem wipe_out {σ : L2.St} : ∀ {vs : List Nat} {i : Nat}, i ∉ vs → (L2.wipe σ vs)[i]? = σ[i]?
  | [], _, _ => rfl
  | v :: vs, i, h => by
    unfold L2.wipe
    rw [List.getElem?_set_ne (fun e => h (by rw [e]; exact List.mem_cons_self))]
    exact wipe_out fun z => h (List.mem_cons_of_mem _ z)
theorem wipe_ext {σ τ : L2.St} {vs : List Nat} (hl : σ.length = τ.length) (h : ∀ i, i ∉ vs → σ[i]? = τ[i]?) : L2.wipe σ vs = L2.wipe τ vs := by
  apply List.ext_getElem?
  intro i
  by_cases hi : i ∈ vs
  · by_cases h2 : i < σ.length
    · rw [wipe_at hi h2, wipe_at hi (by rw [← hl]; exact h2)]
    · rw [List.getElem?_eq_none (by rw [L2.wipe_length]; omega), List.getElem?_eq_none (by rw [L2.wipe_length]; omega)]
  · rw [wipe_out hi, wipe_out hi, h i hi]
section
variable {K : W.Frag} {T : List (Addr × Str)} {cl : Nat → Option Addr} {E : XK} {c : Cn} {X : Cx} {M : Ms} {H : Hp} {S : Store} {ρ : Rho} {σ : L2.St}
/-- a target, and that it leaves the other slots alone -/
def tTw (K : W.Frag) (T : List (Addr × Str)) (t : Tg) : TG := fun v σ H Q => ∃ ρ M S u ρ', EnvOk K ρ σ M H ∧ StOk K T M S H ∧ RU K M H v u ∧ bindT t u ρ = some ρ' ∧ ∀ σ', EnvOk K ρ' σ' M H → σ'.length = σ.length → (∀ i, i ∉ t.slots → σ'[i]? = σ[i]?) → Q σ' H
def tTws (K : W.Frag) (T : List (Addr × Str)) (t : Tg) : TGs := fun vs σ H Q => ∃ ρ M S ds ρ', EnvOk K ρ σ M H ∧ StOk K T M S H ∧ RpA K M H vs ds ∧ bindT t (.d (.tuple ds)) ρ = some ρ' ∧ ∀ σ', EnvOk K ρ' σ' M H → σ'.length = σ.length → (∀ i, i ∉ t.slots → σ'[i]? = σ[i]?) → Q σ' H
theorem pgw_name {N : List Str} {sc : Scope} {fb : Fb} {x : Str} {i : Nat} {pos : Pos} (hN : X.N = N) (nd : N.Nodup) (hs : X.env.scope = sc) (hf : ∀ x, fb x = true → X.fn x = true ∨ X.env.scope.names.lookup x = some .local) (hl : locB sc x = true) (hb : fb x = true) (hi : ixOf N x = some i) : PG X (.Name x pos) (tTw X.K T (.nm i)) :=
  pg_imp (pg_name (i := i) (by rw [hN]; exact nd) (by rw [hN]; exact ix_of hi) (by rw [hs]; exact loc_of hl) (hf x hb)) fun v σ H Q ⟨ρ, M, S, u, ρ', en, st, r, e, q⟩ => by
    cases e
    refine q _ (en.set r) (by simp) fun j hj => ?_
    rw [List.getElem?_set_ne]
    rintro rfl
    exact hj (by simp [Tg.slots])
theorem pgsw_nil : PGs X [] (tTws X.K T .nil) := pgs_imp pgs_nil fun v σ H Q ⟨ρ, M, S, ds, ρ', en, st, r, e, q⟩ => by
  cases ds with
  | nil =>
    cases e
    cases r
    exact ⟨rfl, q _ en rfl fun _ _ => rfl⟩
  | cons d ds => cases e
theorem pgsw_cons {e : Expr} {es : List Expr} {a r : Tg} (hs : starred e = false) (h1 : PG X e (tTw X.K T a)) (h2 : PGs X es (tTws X.K T r)) : PGs X (e :: es) (tTws X.K T (.cons a r)) :=
  pgs_imp (pgs_cons h1 h2 (by rw [each_of hs]; rfl)) fun v σ H Q ⟨ρ, M, S, ds, ρ', en, st, ra, e, q⟩ => by
    cases ra with
    | nil => cases e
    | cons r1 r2 =>
      unfold bindT at e
      obtain ⟨ρ1, e1, e2⟩ := bindO e
      refine ⟨_, _, rfl, ρ, M, S, .d _, ρ1, en, st, r1, e1, fun σ1 en1 l1 w1 => ⟨ρ1, M, S, _, ρ', en1, st, r2, e2, fun σ2 en2 l2 w2 => q σ2 en2 (by rw [l2, l1]) fun i hi => ?_⟩⟩
      have hi : i ∉ a.slots ++ r.slots := hi
      rw [List.mem_append, not_or] at hi
      rw [w2 i hi.2, w1 i hi.1]
theorem pgw_tup {es : List Expr} {k : Nat} {pos : Pos} {t : Tg} (hc : X.calm = true) (hl : t.isList = true) (hn : t.len = es.length) (hp : plain es = true) (h : PGs X es (tTws X.K T t)) : PG X (.Tuple es k pos) (tTw X.K T t) :=
  pg_imp (pg_tup (n := es.length) hc h each_len (each_plain hp)) fun v σ H Q ⟨ρ, M, S, u, ρ', en, st, r, e, q⟩ => by
    have hu : ∃ ds, u = .d (.tuple ds) := by
      cases t with
      | nm i => cases hl
      | nil =>
        unfold bindT at e
        split at e
        · exact ⟨_, rfl⟩
        · cases e
      | cons a b =>
        unfold bindT at e
        split at e
        · exact ⟨_, rfl⟩
        · cases e
    obtain ⟨ds, rfl⟩ := hu
    obtain ⟨a, xs, e1, t1, r1⟩ := (show Rp X.K M H v (.tuple ds) from r).rs.tup
    exact ⟨a, xs, e1, t1.sq, by rw [r1.length, bindT_len hl e, hn], ρ, M, S, ds, ρ', en, st, r1, e, q⟩
theorem tgw_ok {N : List Str} {sc : Scope} {fb : Fb} (hN : X.N = N) (nd : N.Nodup) (hc : X.calm = true) (hs : X.env.scope = sc) (hf : ∀ x, fb x = true → X.fn x = true ∨ X.env.scope.names.lookup x = some .local) :
    ∀ n, (∀ e t, cT N sc fb n e = some t → PG X e (tTw X.K T t)) ∧ ∀ es t, cTs N sc fb n es = some t → PGs X es (tTws X.K T t) ∧ t.isList = true ∧ t.len = es.length ∧ plain es = true := by
  intro n
  induction n with
  | zero => exact ⟨fun e t h => (by unfold cT at h; cases h), fun e t h => (by unfold cTs at h; cases h)⟩
  | succ n ih =>
    refine ⟨fun e t h => ?_, fun es t h => ?_⟩
    · unfold cT at h
      split at h
      · split at h
        · rename_i hx
          rw [Bool.and_eq_true] at hx
          obtain ⟨i, hi, rfl⟩ := map_some h
          exact pgw_name hN nd hs hf hx.1 hx.2 hi
        · cases h
      · obtain ⟨h1, h2, h3, h4⟩ := ih.2 _ _ h
        exact pgw_tup hc h2 h3 h4 h1
      · cases h
    · cases es with
      | nil =>
        unfold cTs at h
        cases h
        exact ⟨pgsw_nil, rfl, rfl, rfl⟩
      | cons e r =>
        unfold cTs at h
        split at h
        · cases h
        · rename_i hst
          obtain ⟨a, h1, h⟩ := bindO h
          obtain ⟨b, h2, rfl⟩ := map_some h
          obtain ⟨i1, i2, i3, i4⟩ := ih.2 _ _ h2
          refine ⟨pgsw_cons (by simpa using hst) (ih.1 _ _ h1) i1, i2, congrArg (· + 1) i3, ?_⟩
          show (!starred e && plain r) = true
          rw [i4]
          simp [hst]
/-! ### the comprehension -/
/-- its tests -/
def tCs (K : W.Frag) (T : List (Addr × Str)) (cl : Nat → Option Addr) (E : XK) (c : Cn) (xs : Xs) : TT := fun σ H Q => ∃ ρ M S, EnvOk K ρ σ M H ∧ StOk K T M S H ∧ Out K T cl E M H (evC c xs ρ S) eqB Q
theorem pts_imp {es : List Expr} {t t' : TT} (h : PTs X es t) (i : ∀ σ H Q, t' σ H Q → t σ H Q) : PTs X es t' := ⟨fun pins s σ H Q I q => h.run pins s σ H Q I (i σ H Q q)⟩
theorem ptsx_nil : PTs X [] (tCs X.K T cl E c .nil) := pts_imp pts_nil fun σ H Q ⟨ρ, M, S, en, st, h⟩ => by
  unfold evC at h
  exact out_here (a := true) st h rfl
theorem ptsx_one {e : Expr} {x : Ev.X} {r : Xs} (h : PT X e (tTr X.K T cl E c x)) : PTs X [e] (tCs X.K T cl E c (.cons x r)) := pts_imp (pts_one h) fun σ H Q ⟨ρ, M, S, en, st, h⟩ => by
  unfold evC at h
  exact ⟨ρ, M, S, en, st, h⟩
theorem out_noexc {α β : Type} {r : R α} {rel : Ms → Hp → β → α → Prop} {Q : β → Hp → Prop} (h : Out K T cl E M H (noexc r) rel Q) : Out K T cl noE M H r rel Q := by
  cases r with
  | ok a S => exact h
  | exc k S => exact h.elim
  | bad => exact h.elim
theorem out_noexcE {α β : Type} {r : R α} {rel : Ms → Hp → β → α → Prop} {Q : β → Hp → Prop} (h : Out K T cl E M H (noexc r) rel Q) : Out K T cl E M H r rel Q := by
  cases r with
  | ok a S => exact h
  | exc k S => exact h.elim
  | bad => exact h.elim
theorem out_noexcE_bind {α α' β : Type} {r : R α} {f : α → Store → R α'} {rel : Ms → Hp → β → α' → Prop} {Q : β → Hp → Prop} (h : Out K T cl E M H ((noexc r).bind f) rel Q) : Out K T cl E M H (r.bind f) rel Q := by
  cases r with
  | ok a S => exact h
  | exc k S => exact h.elim
  | bad => exact h.elim
theorem noexc_bind {α β : Type} (r : R α) (f : α → Store → R β) : noexc (r.bind f) = (noexc r).bind fun a S => noexc (f a S) := by cases r <;> rfl
/-- an evaluation behind another one, the end as from an earlier state -/
theorem Out.bindB {α α' β β' : Type} {M1 : Ms} {H1 : Hp} {r : R α} {f : α → Store → R α'} {rel : Ms → Hp → β → α → Prop} {rel' : Ms → Hp → β' → α' → Prop} {Q : β' → Hp → Prop}
    (h : Out K T cl E M1 H1 (r.bind f) rel' Q) (g : Gr M1 H1 M H) : Out K T cl E M H r rel fun b H2 => ∃ M2 S2 a, Gr M H M2 H2 ∧ StOk K T M2 S2 H2 ∧ rel M2 H2 b a ∧ Out K T cl E M1 H1 (f a S2) rel' Q := by
  cases r with
  | ok a S => exact fun b M2 H2 g2 s2 q => ⟨M2, S, a, g2, s2, q, h⟩
  | exc k S =>
    obtain ⟨C, hC, h⟩ := h
    exact ⟨C, hC, fun d M2 H2 hd g2 s2 => h d M2 H2 hd (g.trans g2) s2⟩
  | bad => exact h
/-! an object that nobody hands out is written -/
section
variable {D : Addr} {o : HO}
theorem TupAt.wrx {a : Addr} {xs : List V} (hD : D ∈ M) (h : TupAt K M H a xs) : TupAt K M (upd H D o) a xs := by
  rcases h with ⟨n, h⟩ | h
  · exact .inl ⟨n, by rw [upd_ne (fun z => n (by rw [z]; exact hD))]; exact h⟩
  · exact .inr h
mutual
theorem Rp.wrx (hD : D ∈ M) : ∀ {v : V} {d : PyData}, Rp K M H v d → Rp K M (upd H D o) v d
  | _, _, .non => .non
  | _, _, .bl b => .bl b
  | _, _, .int i => .int i
  | _, _, .str x => .str x
  | _, _, .lst n h r => .lst n (by rw [upd_ne (fun z => n (by rw [z]; exact hD))]; exact h) (RpA.wrx hD r)
  | _, _, .tup h r => .tup (h.wrx hD) (RpA.wrx hD r)
theorem RpA.wrx (hD : D ∈ M) : ∀ {vs : List V} {ds : List PyData}, RpA K M H vs ds → RpA K M (upd H D o) vs ds
  | _, _, .nil => .nil
  | _, _, .cons h r => .cons (Rp.wrx hD h) (RpA.wrx hD r)
end
theorem RU.wrx {v : V} {u : U} (hD : D ∈ M) (h : RU K M H v u) : RU K M (upd H D o) v u := by
  cases u with
  | d p => exact Rp.wrx hD h
  | ref i => exact h
  | obj a => exact h
  | scr ns =>
    obtain ⟨a, e, q⟩ := h
    refine ⟨a, e, q.imp (fun z => ⟨z.1, ?_⟩) id⟩
    have : a ≠ D := fun y => z.1 (by rw [y]; exact hD)
    rcases z.2 with y | ⟨ob, y⟩
    · exact .inl (by rw [upd_ne this]; exact y)
    · exact .inr ⟨ob, by rw [upd_ne this]; exact y⟩
theorem EnvOk.wrx (hD : D ∈ M) (e : EnvOk K ρ σ M H) : EnvOk K ρ σ M (upd H D o) := ⟨e.len, fun i u h => let ⟨v, h1, h2⟩ := e.at_ i u h; ⟨v, h1, h2.wrx hD⟩⟩
theorem StOk.wrx {xs ys : List V} (hD : D ∈ M.x) (he : H D = some (.lst xs)) (s : StOk K T M S H) : StOk K T M S (upd H D (.lst ys)) where
  len := s.len
  nd := s.nd
  box := fun i a b e1 e2 => by
    have hb := s.box i a b e1 e2
    have n : a ≠ D := fun z => (s.xt D hD).1 (by rw [← z]; exact List.mem_of_getElem? e1)
    cases b with
    | lst ds =>
      obtain ⟨zs, h1, h2⟩ := hb
      exact ⟨zs, by rw [upd_ne n]; exact h1, h2.wrx (.inr hD)⟩
    | dct _ => exact hb
    | ins _ _ => exact hb
  xt := fun a ha => ⟨(s.xt a ha).1, by
    by_cases z : a = D
    · subst z
      exact ⟨_, upd_same, fun ps z => by cases z⟩
    · rw [upd_ne z]
      exact (s.xt a ha).2⟩
  tab := tab_wr s.tab he (fun ps z => by cases z) fun q => lst_code
theorem gr_wrx {M1 : Ms} {H1 : Hp} (hD : H1 D = none) (ht : ∀ ps, o ≠ .tbl ps) (g : Gr M1 H1 M H) : Gr M1 H1 M (upd H D o) where
  pre := g.pre
  ext := g.ext
  keep := fun a u e n t => by rw [upd_ne (ne_of_none e hD)]; exact g.keep a u e n t
  new := g.new
  newb := g.newb
  dom := fun a z => g.dom a (upd_dom (.inl ht) z)
end
/-- the state of the loop: what has been made, what comes -/
def LcAt (K : W.Frag) (T : List (Addr × Str)) (cl : Nat → Option Addr) (c : Cn) (t : Tg) (tests : Xs) (e : Ev.X) (us : List U) (M1 : Ms) (H1 : Hp) (ρ : Rho) (σ : L2.St) (D : Addr) (Q : VK) (i n : Nat) (H : Hp) : Prop :=
  n = us.length - i ∧ i ≤ us.length ∧ ∃ M S acc ds, Gr M1 H1 M H ∧ D ∈ M.x ∧ StOk K T M S H ∧ EnvOk K ρ σ M H ∧ H D = some (.lst acc) ∧ RpA K M H acc ds ∧ acc.length ≤ i ∧
    Out K T cl noE M1 H1 ((compL t (fun ρ S => evC c tests ρ S) (fun ρ S => dataR (evX c e ρ S)) ρ (us.drop i) S).bind fun ys S2 => .ok (.d (.list (ds ++ ys))) S2) (RU K) Q
/-- .. over a list of the store -/
def LcAtB (K : W.Frag) (T : List (Addr × Str)) (cl : Nat → Option Addr) (c : Cn) (t : Tg) (tests : Xs) (e : Ev.X) (b : Nat) (M1 : Ms) (H1 : Hp) (ρ : Rho) (σ : L2.St) (D : Addr) (Q : VK) (i n : Nat) (H : Hp) : Prop :=
  i + n = 100000 ∧ ∃ M S acc ds, Gr M1 H1 M H ∧ D ∈ M.x ∧ StOk K T M S H ∧ EnvOk K ρ σ M H ∧ H D = some (.lst acc) ∧ RpA K M H acc ds ∧ acc.length ≤ i ∧
    Out K T cl noE M1 H1 ((compB t (fun ρ S => evC c tests ρ S) (fun ρ S => dataR (evX c e ρ S)) ρ b n i S).bind fun ys S2 => .ok (.d (.list (ds ++ ys))) S2) (RU K) Q
theorem BoxOk.less {M' : Ms} {a : Addr} {b : Box} (l : ∀ a, a ∈ M' → a ∈ M) (h : BoxOk K M H a b) : BoxOk K M' H a b := by
  cases b with
  | lst ds => obtain ⟨xs, e, r⟩ := h; exact ⟨xs, e, r.less l⟩
  | dct _ => exact h
  | ins _ _ => exact h
theorem lc_conv {own : List Nat} {it : Ev.It} {t : Tg} {tests : Xs} {e : Ev.X} (hsl : ∀ i, i ∈ t.slots → i ∈ own) {σ : L2.St} {H : Hp} {Q : VK} (h : tX K T cl E c (.lc own t it tests e) σ H Q) :
    tLc (tIt K T cl E c it) (tTw K T t) (tCs K T cl noE c tests) (tX K T cl noE c e) own σ H Q := by
  obtain ⟨ρ, M, S, en, st, h⟩ := h
  unfold evX at h
  refine ⟨ρ, M, S, en, st, Out.mono (Out.bind (rel := fun M H J s => Feed K M H J s) (out_noexcE_bind h)) fun J H1 ⟨M1, S1, src, g1, st1, fd, h1⟩ => ?_⟩
  intro D hD
  have en1 := (en.mono g1).wipe own
  cases src with
  | live b =>
    obtain ⟨a, ha, rfl⟩ := fd
    have h1 : Out K T cl E M1 H1 ((noexc (compB t (fun ρ S => evC c tests ρ S) (fun ρ S => dataR (evX c e ρ S)) (wipe ρ own) b 100000 0 S1)).bind fun ys S2 => .ok (U.d (.list ys)) S2) (RU K) Q := h1
    have h2 : Out K T cl noE M1 H1 ((compB t (fun ρ S => evC c tests ρ S) (fun ρ S => dataR (evX c e ρ S)) (wipe ρ own) b 100000 0 S1).bind fun ys S2 => .ok (U.d (.list ([] ++ ys))) S2) (RU K) Q := by
      cases e1 : compB t (fun ρ S => evC c tests ρ S) (fun ρ S => dataR (evX c e ρ S)) (wipe ρ own) b 100000 0 S1 with
      | ok ys S2 => rw [e1] at h1; exact h1
      | exc k S2 => rw [e1] at h1; exact h1.elim
      | bad => rw [e1] at h1; exact h1.elim
    refine ⟨fun i m H => LcAtB K T cl c t tests e b M1 H1 (wipe ρ own) (L2.wipe σ own) D Q i m H, ⟨100000, rfl, M1.hide D, S1, [], [], gr_hide st1 hD, List.mem_cons_self, st_hide st1 hD, en1.mono (gr_hide st1 hD), upd_same, .nil, Nat.le_refl _, h2⟩, ?_⟩
    rintro i m H ⟨him, M2, S2, acc, ds, g2, hDx, st2, en2, hacc, ra, hal, ho⟩
    cases m with
    | zero => unfold compB at ho; exact ho.elim
    | succ m =>
      unfold compB at ho
      cases eb : S2[b]? with
      | none => rw [eb] at ho; exact ho.elim
      | some bx =>
        rw [eb] at ho
        cases bx with
        | dct _ => exact ho.elim
        | ins _ _ => exact ho.elim
        | lst vs =>
          have e3 := g2.get ha
          obtain ⟨xs, e4, r4⟩ := st2.lst e3 eb
          cases ei : vs[i]? with
          | none =>
            dsimp only at ho
            rw [ei] at ho
            left
            refine ⟨⟨xs, SqL.of e4, by rw [r4.length]; exact List.getElem?_eq_none_iff.mp ei⟩, ?_⟩
            have ho : Out K T cl noE M1 H1 (.ok (U.d (.list (ds ++ []))) S2) (RU K) Q := ho
            rw [List.append_nil] at ho
            have less : ∀ a, a ∈ (⟨M2.b, M1.x⟩ : Ms) → a ∈ M2 := fun a z => z.imp id (g2.ext a)
            refine ho (.ref D) ⟨M2.b, M1.x⟩ H ⟨g2.pre, fun _ z => z, g2.keep, fun a z => ?_, g2.newb, g2.dom⟩ ⟨st2.len, st2.nd, fun j a b e1 e2 => (st2.box j a b e1 e2).less less, fun a ha => st2.xt a (g2.ext a ha), st2.tab⟩ (.lst ?_ hacc (ra.less less))
            · rcases z with z | z
              · exact (g2.newb a z).imp .inl id
              · exact .inl (.inr z)
            · rintro (z | z)
              · exact (st2.xt D hDx).1 z
              · obtain ⟨o, eo, _⟩ := (st1.xt D z).2
                rw [hD] at eo
                cases eo
          | some u =>
            dsimp only at ho
            rw [ei] at ho
            right
            obtain ⟨v, e5, r5⟩ := r4.get ei
            refine ⟨⟨xs, v, SqL.of e4, e5⟩, fun H' => LcAtB K T cl c t tests e b M1 H1 (wipe ρ own) (L2.wipe σ own) D Q (i + 1) m H', fun H' w => ⟨m, by omega, w⟩, fun x H' ⟨eH, hx⟩ => ?_⟩
            subst eH
            have hx := hx xs (SqL.of e4)
            rw [e5] at hx
            cases hx
            dsimp only at ho
            split at ho
            · exact ho.elim
            · rename_i ρ1 eb
              refine ⟨_, M2, S2, .d u, ρ1, en2, st2, r5, eb, fun σ1 en4 hl1 hw1 => ⟨?_, ?_⟩⟩
              · rw [L2.wipe_length] at hl1
                refine wipe_ext hl1 fun j hj => ?_
                rw [hw1 j fun z => hj (hsl j z), wipe_out hj]
              · rw [bind_assoc] at ho
                refine ⟨ρ1, M2, S2, en4, st2, Out.mono (Out.bindB (rel := eqB) ho g2) fun b H3 ⟨M3, S3, b', g4, st4, eb', ho3⟩ => ?_⟩
                cases (show b = b' from eb')
                have acc4 := g4.keep D _ hacc (st2.xt D hDx).1 fun ps z => by cases z
                have hDx3 : D ∈ M3.x := g4.ext D hDx
                cases b with
                | false =>
                  rw [if_neg (by decide)]
                  rw [if_neg (by decide)] at ho3
                  exact ⟨by omega, M3, S3, acc, ds, g2.trans g4, hDx3, st4, en2.mono g4, acc4, ra.mono g4, by omega, ho3⟩
                | true =>
                  rw [if_pos rfl]
                  rw [if_pos rfl, bind_assoc] at ho3
                  unfold dataR at ho3
                  rw [bind_assoc] at ho3
                  refine ⟨ρ1, M3, S3, en4.mono g4, st4, Out.mono (Out.bindB (rel := RU K) ho3 (g2.trans g4)) fun y H4 ⟨M4, S4, w, g5, st5, ry, ho4⟩ => ?_⟩
                  have acc5 := g5.keep D _ acc4 (st4.xt D hDx3).1 fun ps z => by cases z
                  have hDx4 : D ∈ M4.x := g5.ext D hDx3
                  refine ⟨acc, acc5, by rw [sizeLine_eq]; omega, by omega, M4, S4, acc ++ [y], ?_⟩
                  cases w with
                  | d p =>
                    refine ⟨ds ++ [p], gr_wrx hD (fun ps z => by cases z) ((g2.trans g4).trans g5), hDx4, st5.wrx hDx4 acc5, ((en2.mono g4).mono g5).wrx (.inr hDx4), upd_same, (((ra.mono g4).mono g5).append (.cons ry .nil)).wrx (.inr hDx4), by rw [List.length_append]; simp; omega, ?_⟩
                    have ho4 : Out K T cl noE M1 H1 (((compB t (fun ρ S => evC c tests ρ S) (fun ρ S => dataR (evX c e ρ S)) (wipe ρ own) _ m (i + 1) S4).bind fun ys S3 => R.ok (p :: ys) S3).bind fun ys S2 => .ok (.d (.list (ds ++ ys))) S2) (RU K) Q := ho4
                    rw [bind_assoc] at ho4
                    simp only [List.append_assoc, List.singleton_append]
                    exact ho4
                  | ref j => exact ho4.elim
                  | scr ns => exact ho4.elim
                  | obj a => exact ho4.elim
  | fix us =>
    have h1 : Out K T cl E M1 H1 (if us.length ≤ line then (noexc (compL t (fun ρ S => evC c tests ρ S) (fun ρ S => dataR (evX c e ρ S)) (wipe ρ own) us S1)).bind fun ys S2 => .ok (U.d (.list ys)) S2 else .bad) (RU K) Q := h1
    split at h1
    case isFalse => exact h1.elim
    rename_i hlen
    rw [line_eq] at hlen
    have h2 : Out K T cl noE M1 H1 ((compL t (fun ρ S => evC c tests ρ S) (fun ρ S => dataR (evX c e ρ S)) (wipe ρ own) us S1).bind fun ys S2 => .ok (U.d (.list ([] ++ ys))) S2) (RU K) Q := by
      cases e1 : compL t (fun ρ S => evC c tests ρ S) (fun ρ S => dataR (evX c e ρ S)) (wipe ρ own) us S1 with
      | ok ys S2 => rw [e1] at h1; exact h1
      | exc k S2 => rw [e1] at h1; exact h1.elim
      | bad => rw [e1] at h1; exact h1.elim
    refine ⟨fun i m H => LcAt K T cl c t tests e us M1 H1 (wipe ρ own) (L2.wipe σ own) D Q i m H, ⟨us.length, rfl, Nat.zero_le _, M1.hide D, S1, [], [], gr_hide st1 hD, List.mem_cons_self, st_hide st1 hD, en1.mono (gr_hide st1 hD), upd_same, .nil, Nat.le_refl _, h2⟩, ?_⟩
    rintro i m H ⟨rfl, hi, M2, S2, acc, ds, g2, hDx, st2, en2, hacc, ra, hal, ho⟩
    obtain ⟨f1, f2⟩ := fd M2 H g2 i
    by_cases hlt : i < us.length
    · right
      have hu : us[i]? = some us[i] := by simp [hlt]
      generalize us[i] = u at hu
      obtain ⟨f3, f4⟩ := f2 u hu
      refine ⟨f3, fun H' => LcAt K T cl c t tests e us M1 H1 (wipe ρ own) (L2.wipe σ own) D Q (i + 1) (us.length - (i + 1)) H', fun H' w => ⟨_, by omega, w⟩, fun x H' hy => ?_⟩
      obtain ⟨g3, st3, rx⟩ := f4 x H' hy T S2 st2
      have hd : us.drop i = u :: us.drop (i + 1) := by
        rw [List.drop_eq_getElem_cons hlt]
        have := hu
        simp [hlt] at this
        rw [this]
      rw [hd] at ho
      unfold compL at ho
      have en3 := en2.mono g3
      have g13 := g2.trans g3
      have nb : ∀ {Mx : Ms}, Gr M2 H' Mx H' → True := fun _ => trivial
      have acc3 := g3.keep D _ hacc (st2.xt D hDx).1 fun ps z => by cases z
      split at ho
      · exact ho.elim
      · rename_i ρ1 eb
        refine ⟨_, M2, S2, u, ρ1, en3, st3, rx, eb, fun σ1 en4 hl1 hw1 => ⟨?_, ?_⟩⟩
        · rw [L2.wipe_length] at hl1
          refine wipe_ext hl1 fun j hj => ?_
          rw [hw1 j fun z => hj (hsl j z), wipe_out hj]
        · rw [bind_assoc] at ho
          refine ⟨ρ1, M2, S2, en4, st3, Out.mono (Out.bindB (rel := eqB) ho g13) fun b H3 ⟨M3, S3, b', g4, st4, eb', ho3⟩ => ?_⟩
          cases (show b = b' from eb')
          have acc4 := g4.keep D _ acc3 (st3.xt D hDx).1 fun ps z => by cases z
          have hDx3 : D ∈ M3.x := g4.ext D hDx
          cases b with
          | false =>
            rw [if_neg (by decide)]
            rw [if_neg (by decide)] at ho3
            exact ⟨rfl, hlt, M3, S3, acc, ds, g13.trans g4, hDx3, st4, en3.mono g4, acc4, (ra.mono g3).mono g4, by omega, ho3⟩
          | true =>
            rw [if_pos rfl]
            rw [if_pos rfl, bind_assoc] at ho3
            unfold dataR at ho3
            rw [bind_assoc] at ho3
            refine ⟨ρ1, M3, S3, en4.mono g4, st4, Out.mono (Out.bindB (rel := RU K) ho3 (g13.trans g4)) fun y H4 ⟨M4, S4, w, g5, st5, ry, ho4⟩ => ?_⟩
            have acc5 := g5.keep D _ acc4 (st4.xt D hDx3).1 fun ps z => by cases z
            have hDx4 : D ∈ M4.x := g5.ext D hDx3
            refine ⟨acc, acc5, by omega, rfl, hlt, M4, S4, acc ++ [y], ?_⟩
            cases w with
            | d p =>
              refine ⟨ds ++ [p], gr_wrx hD (fun ps z => by cases z) ((g13.trans g4).trans g5), hDx4, st5.wrx hDx4 acc5, ((en3.mono g4).mono g5).wrx (.inr hDx4), upd_same, ((((ra.mono g3).mono g4).mono g5).append (.cons ry .nil)).wrx (.inr hDx4), by rw [List.length_append]; simp; omega, ?_⟩
              have ho4 : Out K T cl noE M1 H1 (((compL t (fun ρ S => evC c tests ρ S) (fun ρ S => dataR (evX c e ρ S)) (wipe ρ own) (us.drop (i + 1)) S4).bind fun ys S3 => R.ok (p :: ys) S3).bind fun ys S2 => .ok (.d (.list (ds ++ ys))) S2) (RU K) Q := ho4
              rw [bind_assoc] at ho4
              simp only [List.append_assoc, List.singleton_append]
              exact ho4
            | ref j => exact ho4.elim
            | scr ns => exact ho4.elim
            | obj a => exact ho4.elim
    · left
      have ei : i = us.length := by omega
      have e0 : us[i]? = none := by rw [ei]; simp
      refine ⟨f1 e0, ?_⟩
      have hd : us.drop i = [] := by rw [ei]; simp
      rw [hd] at ho
      unfold compL at ho
      have ho : Out K T cl noE M1 H1 (.ok (U.d (.list (ds ++ []))) S2) (RU K) Q := ho
      rw [List.append_nil] at ho
      have less : ∀ a, a ∈ (⟨M2.b, M1.x⟩ : Ms) → a ∈ M2 := fun a z => z.imp id (g2.ext a)
      refine ho (.ref D) ⟨M2.b, M1.x⟩ H ⟨g2.pre, fun _ z => z, g2.keep, fun a z => ?_, g2.newb, g2.dom⟩ ⟨st2.len, st2.nd, fun j a b e1 e2 => (st2.box j a b e1 e2).less less, fun a ha => st2.xt a (g2.ext a ha), st2.tab⟩ (.lst ?_ hacc (ra.less less))
      · rcases z with z | z
        · exact (g2.newb a z).imp .inl id
        · exact .inl (.inr z)
      · rintro (z | z)
        · exact (st2.xt D hDx).1 z
        · obtain ⟨o, eo, _⟩ := (st1.xt D z).2
          rw [hD] at eo
          cases eo
theorem px_lc {elt tg iter : Expr} {ifs : List Expr} {scope : Scope} {own : List (Str × Nat)} {pos : Pos} {it : Ev.It} {t : Tg} {tests : Xs} {e : Ev.X} (hc : X.calm = true) (hN : X.N.Nodup) (hi : PI X tg iter (tIt X.K T cl E c it)) (ok : BlkOk X.N X.env.scope scope own)
    (hg : ∀ (s : Shared) (H : Hp) (C : Addr) (cl : List (Str × Addr)) (fp : List Addr), PG (X.blk s H scope (compEnvC scope cl C X.env) fp) tg (tTw X.K T t))
    (ht : ∀ (s : Shared) (H : Hp) (C : Addr) (cl' : List (Str × Addr)) (fp : List Addr), PTs (X.blk s H scope (compEnvC scope cl' C X.env) fp) ifs (tCs X.K T cl noE c tests))
    (he : ∀ (s : Shared) (H : Hp) (C : Addr) (cl' : List (Str × Addr)) (fp : List Addr), PE (X.blk s H scope (compEnvC scope cl' C X.env) fp) elt (tX X.K T cl noE c e)) (hs : ∀ x, foldedSetIterable iter X.env x = pure x) (hsl : ∀ i, i ∈ t.slots → i ∈ own.map (·.2)) :
    PE X (.ListComp elt [⟨tg, iter, ifs, 0⟩] scope pos) (tX X.K T cl E c (.lc (own.map (·.2)) t it tests e)) :=
  pe_imp (pe_lc hc hN hi ok hg ht he hs) fun σ H Q h => lc_conv hsl h
end
end Ev
end

section
set_option Elab.async false
set_option linter.all false
set_option autoImplicit false
set_option maxRecDepth 100000
set_option maxHeartbeats 4000000
/-! # A lambda handed to the def that tells the error; all expressions -/
namespace Ev
open PySem PySem.Spec PyProof.Rows L2
section
variable {T : List (Addr × Str)} {cl : Nat → Option Addr} {E : XK} {c : Cn} {X : Cx} {g : Cfg} {N : List Str} {sc : Scope} {fb : Fb} {k l : Nat}
/-- in a comprehension's block -/
theorem Good.blk (G : Good g T cl c k l X N sc fb) (s : Shared) (H : Hp) (scope : Scope) (C : Addr) (cells : List (Str × Addr)) (fp : List Addr) : Good g T cl c k l (X.blk s H scope (compEnvC scope cells C X.env) fp) N (relS scope sc) (fbBlk scope (relS scope sc)) where
  names := G.names
  nd := G.nd
  scope := by rw [← G.scope]; rfl
  calm := G.calm
  room := G.room
  fbk := fun x h => by
    unfold fbBlk at h
    rw [Bool.or_eq_true, decide_eq_true_eq, decide_eq_true_eq] at h
    refine h.imp (fun z => ?_) fun z => ?_
    · show (scope.names.lookup x == some .cell) = true
      rw [z]
      decide
    · rw [← G.scope] at z
      exact z
  fns := G.fns
  low := fun lf e => ⟨(G.low lf e).1, fun hl => (G.low lf e).2 hl⟩
  clss := G.clss
  clst := G.clst
  nms := G.nms
  errs := G.errs
  ar := G.ar
  arL := G.arL
  blts := G.blts
  cons := G.cons
theorem takes_no {X : Cx} : L2N.Takes X (fun d a _ H => noE d a H) := takesN0
/-- in a lambda's body -/
theorem Good.lam (G : Good g T cl c k l X N sc fb) {lf : CF} (hl : c.low = some lf) (A : Around) (outer : List Env) (s : Shared) (H : Hp) (E : XK) (scope : Scope) (f c' : Addr) (hr : Room l (A.deeper (LamX.lamEnv X scope s.heap.objs.size f c'))) :
    Good g T cl ⟨lf, none, c.nm⟩ l l (lamN X A outer s H E scope f c') N scope (fun _ => false) where
  names := G.names
  nd := G.nd
  scope := rfl
  calm := rfl
  room := hr
  fbk := fun x h => by cases h
  fns := fun x f h => by
    obtain ⟨a, fd, ps, fn, e1, e2, e3, e4, e5, F, F2⟩ := G.fns x f h
    exact ⟨a, fd, ps, fn, e1, e2, e3, e4, e5, F2 lf hl, fun lf' z => by cases z⟩
  low := fun lf' z => by cases z
  clss := G.clss
  clst := G.clst
  nms := G.nms
  errs := G.errs
  ar := G.arL lf hl
  arL := fun lf' z => by cases z
  blts := G.blts
  cons := G.cons
theorem takes_lam {A : Around} {outer : List Env} {s : Shared} {H : Hp} {scope : Scope} {f c' : Addr} : L2N.Takes (lamN X A outer s H E scope f c') (fun d a _ H => E d a H) := L2N.takes_of rfl rfl rfl rfl
/-- x(lambda: body) -/
theorem px_err {x : Str} {body : Expr} {scope : Scope} {p lpos pos : Pos} {ir : Ev.X} (G : Good g T cl c k l X N sc fb) (hx : g.errs x = true) (hlm : g.lam = true) (hg : glB sc x = true) (ho : odd x = false) (hL : LamX.lamSB sc scope = true)
    (hb : ∀ lf, c.low = some lf → ∀ (A : Around) (outer : List Env) (s : Shared) (H : Hp) (E : XK) (f c' : Addr), Room l (A.deeper (LamX.lamEnv X scope s.heap.objs.size f c')) → PE (lamN X A outer s H E scope f c') body (tX X.K T cl E ⟨lf, none, c.nm⟩ ir)) :
    PE X (.Call (.Name x p) [.Lambda ⟨[], [], none, [], [], none, []⟩ body scope lpos] [] pos) (tX X.K T cl E c (.err ir)) := by
  cases hl : c.low with
  | none =>
    refine ⟨fun pins s σ H Q I ⟨ρ, M, S, en, st, h⟩ => ?_⟩
    unfold evX at h
    rw [hl] at h
    exact h.elim
  | some lf =>
    obtain ⟨gA, pg, bg, sg, dV, kV, doc, pm, cdv, ct, oc, an, od, osl, Ng, a, e1, e2, e3, e4, e5, e6, e7, e8, e9, e10⟩ := G.errs x hx
    obtain ⟨hlk, hlam⟩ := G.low lf hl
    obtain ⟨cA, P, t1, t2, t3, t4⟩ := hlam hlm
    have hr : Room (l + 2) X.A := G.room.mono hlk
    refine pe_imp (pe_lamN (T := T) (TT := TTerr X.K T cl c.nm) (t := fun E' => tX X.K T cl E' ⟨lf, none, c.nm⟩ ir) (k := l) (gl_of G.scope hg) e1 e2 e3 e4 e5 e6 e7 e8
      (e10 X rfl rfl rfl rfl rfl (hr.mono (by omega)) _) t1 t2 t3 t4 hr (LamX.lamS_by (by rw [G.scope]; exact hL)) rfl (fun q cl pm cv ctv => rfl) (hb lf hl) (odd_of ho).1 (odd_of e9).1 (odd_of e9).2.1) fun σ H Q ⟨ρ, M, S, en, st, h⟩ => ?_
    refine ⟨st.tab, fun H1 hx1 ht1 => ?_⟩
    have g1 : Gr M H M H1 := gr_ext hx1
    have st1 := st_ext st hx1 ht1
    refine ⟨ρ, M, S, en.mono g1, st1, ?_⟩
    unfold evX at h
    rw [hl] at h
    have h := Out.later h g1
    dsimp only at h
    cases e : evX ⟨lf, none, c.nm⟩ ir ρ S with
    | ok u S1 =>
      rw [e] at h
      exact fun v M2 H2 g2 st2 r2 => h (.str ⟨#[]⟩) M2 H2 g2 st2 (Rp.str _)
    | exc i S1 =>
      rw [e] at h
      dsimp only at h
      cases ez : c.nm i with
      | none => rw [ez] at h; exact h.elim
      | some z =>
        rw [ez] at h
        obtain ⟨C, ec⟩ := G.nms i z ez
        exact ⟨C, ec, fun d M2 H2 hd g2 st2 => ⟨M2, S1, C, i, z, hd, st2, rfl, ec, ez, fun M3 H3 g3 st3 => h (.str z) M3 H3 (g2.trans g3) st3 (Rp.str _)⟩⟩
    | bad =>
      rw [e] at h
      exact h.elim
end
end Ev
end

section
set_option Elab.async false
set_option linter.all false
set_option autoImplicit false
set_option maxRecDepth 100000
set_option maxHeartbeats 4000000
/-! # All expressions -/
namespace Ev
open PySem PySem.Spec PyProof.Rows L2
def isBoolE : Expr → Bool
  | .BoolOp _ _ _ => true
  | _ => false
section
variable {T : List (Addr × Str)} {cl : Nat → Option Addr} {E : XK} {c : Cn} {X : Cx} {g : Cfg} {N : List Str} {sc : Scope} {fb : Fb} {k l : Nat}
/-- what the compiler's answer promises -/
def EOk (T : List (Addr × Str)) (cl : Nat → Option Addr) (E : XK) (c : Cn) (X : Cx) (e : Expr) (ir : Ev.X) : Prop :=
  PE X e (tX X.K T cl E c ir) ∧ PT X e (tTr X.K T cl E c ir) ∧ (isBoolE e = true → PW X e (tTr X.K T cl E c ir)) ∧
    (isComp e = true → ∀ (i : Nat) (y : Str) (py spos : Pos), X.N[i]? = some y → X.env.scope.names.lookup y = some .local → swapsWith e (some (.Name y py)) spos.line X.env = pure true → PS X (.Assign [.Name y py] e spos) (tAsg (tX X.K T cl E c ir) (gName i)))
theorem ps_imp {st : Stmt} {t t' : TS} (h : PS X st t) (i : ∀ D σ H, t' D σ H → t D σ H) : PS X st t' := ⟨fun pins s σ H D I q => h.run pins s σ H D I (i D σ H q)⟩
theorem eok_plain {e : Expr} {ir : Ev.X} (hb : isBoolE e = false) (hc : isComp e = false) (he : ∀ whole, isTrue e X.env whole = (do let v ← whole; standAt e.pos; holding [v] (truthy v))) (h : PE X e (tX X.K T cl E c ir)) : EOk T cl E c X e ir :=
  ⟨h, pt_plain h he, fun z => (by rw [hb] at z; cases z), fun z => by rw [hc] at z; cases z⟩
theorem cL_ok {f : Expr → Option Ev.X} (h : ∀ e ir, f e = some ir → PE X e (tX X.K T cl E c ir)) : ∀ {es : List Expr} {xs : Xs}, cL f es = some xs → PA X es (tXs X.K T cl E c xs)
  | [], xs, e => by unfold cL at e; cases e; exact pax_nil
  | a :: r, xs, e => by
    unfold cL at e
    split at e
    · cases e
    · rename_i hs
      obtain ⟨x, e1, e⟩ := bindO e
      obtain ⟨ys, e2, rfl⟩ := map_some e
      exact pax_cons (by simpa using hs) (h _ _ e1) (cL_ok h e2)
theorem cL_nil {f : Expr → Option Ev.X} {xs : Xs} (h : cL f [] = some xs) : xs = .nil := by unfold cL at h; cases h; rfl
theorem cO_ok {f : Expr → Option Ev.X} (h : ∀ e ir, f e = some ir → PE X e (tX X.K T cl E c ir)) : ∀ {o : Option Expr} {xs : Xs}, cO f o = some xs → PO X o (tPt X.K T cl E c xs)
  | none, xs, e => by unfold cO at e; cases e; exact pox_none
  | some a, xs, e => by
    unfold cO at e
    obtain ⟨x, e1, rfl⟩ := map_some e
    exact pox_some (h _ _ e1)
theorem fold_ok {e : Expr} (h : isSet e = false) : ∀ x, foldedSetIterable e X.env x = pure x := fun x => by
  cases e <;> first | rfl | cases h
theorem own_ix {scope : Scope} : True := trivial
theorem isi_name {f : Str} (h : decide (f = "isinstance") = true) : f = "isinstance" := of_decide_eq_true h
theorem cE_ok (T : List (Addr × Str)) (cl : Nat → Option Addr) (g : Cfg) (N : List Str) : ∀ n, (∀ {c : Cn} {k l : Nat} {X : Cx} {sc : Scope} {fb : Fb} {E : XK}, Good g T cl c k l X N sc fb → L2N.Takes X (fun d a _ H => E d a H) → ∀ e ir, cE g N n sc fb e = some ir → EOk T cl E c X e ir) ∧
    (∀ {c : Cn} {k l : Nat} {X : Cx} {sc : Scope} {fb : Fb} {E : XK}, Good g T cl c k l X N sc fb → L2N.Takes X (fun d a _ H => E d a H) → ∀ tg e ir, cI g N n sc fb (isTup tg) e = some ir → PI X tg e (tIt X.K T cl E c ir)) := by
  intro n
  induction n with
  | zero => exact ⟨fun _ _ e ir h => (by unfold cE at h; cases h), fun _ _ tg e ir h => (by unfold cI at h; cases h)⟩
  | succ n ih =>
    obtain ⟨ihE, ihI⟩ := ih
    refine ⟨fun {c k l X sc fb E} G tk e ir h => ?_, fun {c k l X sc fb E} G tk tg e ir h => ?_⟩
    · have hu : X.A.units + 65 < cLine := by have := G.room.un; omega
      have ie : ∀ e ir, cE g N n sc fb e = some ir → PE X e (tX X.K T cl E c ir) := fun e ir h => (ihE G tk e ir h).1
      unfold cE at h
      split at h
      · cases h; exact eok_plain rfl rfl (fun _ => rfl) (px_con pe_int fun _ _ => .int _)
      · cases h; exact eok_plain rfl rfl (fun _ => rfl) (px_con pe_bl fun _ _ => .bl _)
      · cases h; exact eok_plain rfl rfl (fun _ => rfl) (px_con pe_non fun _ _ => .non)
      · cases h; exact eok_plain rfl rfl (fun _ => rfl) (px_con pe_str fun _ _ => .str _)
      · split at h
        · cases h
        · rename_i ho
          have ho := by simpa using ho
          split at h
          · rename_i hv
            obtain ⟨i, hi, rfl⟩ := map_some h
            exact eok_plain rfl rfl (fun _ => rfl) (px_loc G.names G.scope ho hv hi)
          · split at h
            · rename_i hg
              obtain ⟨p, hp, rfl⟩ := map_some h
              obtain ⟨u, v, e1, e2, e3⟩ := G.cons _ _ hp
              exact eok_plain rfl rfl (fun _ => rfl) (px_con (pe_glob (gl_of G.scope hg) e1 e2 (odd_of ho).1) e3)
            · cases h
      · obtain ⟨x, h1, h⟩ := bindO h
        obtain ⟨y, h2, rfl⟩ := map_some h
        exact eok_plain rfl rfl (fun _ => rfl) (px_bin (ie _ _ h1) (ie _ _ h2))
      · obtain ⟨x, h1, rfl⟩ := map_some h
        exact eok_plain rfl rfl (fun _ => rfl) (px_neg (ie _ _ h1))
      · obtain ⟨x, h1, rfl⟩ := map_some h
        exact ⟨px_not (ie _ _ h1), pt_not' (ihE G tk _ _ h1).2.1, fun z => (by cases z), fun z => by cases z⟩
      · split at h
        · cases h
        · rename_i hm
          obtain ⟨x, h1, h⟩ := bindO h
          obtain ⟨y, h2, rfl⟩ := map_some h
          have hm := by simpa using hm
          exact ⟨px_cmp hu hm (ie _ _ h1) (ie _ _ h2), pt_cmp' hu hm (ie _ _ h1) (ie _ _ h2), fun z => (by cases z), fun z => by cases z⟩
      · split at h
        · cases h
        · rename_i hm
          obtain ⟨x, h1, h⟩ := bindO h
          obtain ⟨y, h2, h⟩ := bindO h
          obtain ⟨z, h3, rfl⟩ := map_some h
          have hm := by simpa using hm
          exact ⟨px_chn hu hm (ie _ _ h1) (ie _ _ h2) (ie _ _ h3), pt_chn' hu hm (ie _ _ h1) (ie _ _ h2) (ie _ _ h3), fun z => (by cases z), fun z => by cases z⟩
      · have q := ihE G tk _ _ h
        exact ⟨pe_one q.1, (pw_and1 q.2.1).pt, fun _ => pw_and1 q.2.1, fun z => by cases z⟩
      · obtain ⟨x, h1, h⟩ := bindO h
        obtain ⟨y, h2, rfl⟩ := map_some h
        have qa := ihE G tk _ _ h1
        have qb := ihE G tk _ _ h2
        have w := pw_and' qa.2.1 (qb.2.2.1 rfl)
        exact ⟨px_and qa.1 qb.1, w.pt, fun _ => w, fun z => by cases z⟩
      · have q := ihE G tk _ _ h
        exact ⟨pe_one q.1, (pw_or1 q.2.1).pt, fun _ => pw_or1 q.2.1, fun z => by cases z⟩
      · obtain ⟨x, h1, h⟩ := bindO h
        obtain ⟨y, h2, rfl⟩ := map_some h
        have qa := ihE G tk _ _ h1
        have qb := ihE G tk _ _ h2
        have w := pw_or' qa.2.1 (qb.2.2.1 rfl)
        exact ⟨px_or qa.1 qb.1, w.pt, fun _ => w, fun z => by cases z⟩
      · obtain ⟨x, h1, h⟩ := bindO h
        obtain ⟨y, h2, h⟩ := bindO h
        obtain ⟨z, h3, rfl⟩ := map_some h
        have q1 := ihE G tk _ _ h1
        have q2 := ihE G tk _ _ h2
        have q3 := ihE G tk _ _ h3
        exact ⟨px_ife q1.2.1 q2.1 q3.1, pt_ife' q1.2.1 q2.2.1 q3.2.1, fun z => (by cases z), fun z => by cases z⟩
      · obtain ⟨xs, h1, rfl⟩ := map_some h
        exact eok_plain rfl rfl (fun _ => rfl) (px_lst (cL_ok ie h1))
      · obtain ⟨xs, h1, rfl⟩ := map_some h
        exact eok_plain rfl rfl (fun _ => rfl) (px_tup (cL_ok ie h1))
      · obtain ⟨x, h1, rfl⟩ := map_some h
        exact eok_plain rfl rfl (fun _ => rfl) (px_rev (ie _ _ h1))
      · obtain ⟨x, h1, h⟩ := bindO h
        obtain ⟨y, h2, h⟩ := bindO h
        obtain ⟨z, h3, rfl⟩ := map_some h
        exact eok_plain rfl rfl (fun _ => rfl) (px_slc (ie _ _ h1) (cO_ok ie h2) (cO_ok ie h3))
      · split at h
        · cases h
        · rename_i hs
          obtain ⟨x, h1, h⟩ := bindO h
          obtain ⟨y, h2, rfl⟩ := map_some h
          exact eok_plain rfl rfl (fun _ => rfl) (px_idx (by simpa using hs) (ie _ _ h1) (ie _ _ h2))
      · -- a comprehension
        split at h
        · rename_i elt tg it ifs kk scope pos hc
          simp only [Bool.and_eq_true, decide_eq_true_eq, Bool.not_eq_true'] at hc
          obtain ⟨⟨⟨hc1, hc2⟩, hc3⟩, hc4⟩ := hc
          subst hc2
          obtain ⟨i, h1, h⟩ := bindO h
          obtain ⟨t, h2, h⟩ := bindO h
          split at h
          · cases h
          · rename_i hsl
            have hsl := by simpa using hsl
            obtain ⟨cs, h3, h⟩ := bindO h
            obtain ⟨x, h4, rfl⟩ := map_some h
            have hcalm := G.calm
            have Gb := fun s H C cells fp => G.blk s H scope C cells fp
            have pG : ∀ (s : Shared) (H : Hp) (C : Addr) (cells : List (Str × Addr)) (fp : List Addr), PG (X.blk s H scope (compEnvC scope cells C X.env) fp) tg (tTw X.K T t) := fun s H C cells fp =>
              (tgw_ok (Gb s H C cells fp).names G.nd hcalm (Gb s H C cells fp).scope (Gb s H C cells fp).fbk n).1 _ _ h2
            have pT : ∀ (s : Shared) (H : Hp) (C : Addr) (cells : List (Str × Addr)) (fp : List Addr), PTs (X.blk s H scope (compEnvC scope cells C X.env) fp) ifs (tCs X.K T cl noE c cs) := fun s H C cells fp => by
              cases ifs with
              | nil =>
                cases cL_nil h3
                exact ptsx_nil
              | cons a r =>
                cases r with
                | cons b r => simp at hc4
                | nil =>
                  unfold cL at h3
                  split at h3
                  · cases h3
                  · obtain ⟨z, h5, h3⟩ := bindO h3
                    obtain ⟨ys, h6, rfl⟩ := map_some h3
                    exact ptsx_one (ihE (Gb s H C cells fp) takes_no _ _ h5).2.1
            have pX : ∀ (s : Shared) (H : Hp) (C : Addr) (cells : List (Str × Addr)) (fp : List Addr), PE (X.blk s H scope (compEnvC scope cells C X.env) fp) elt (tX X.K T cl noE c x) := fun s H C cells fp => (ihE (Gb s H C cells fp) takes_no _ _ h4).1
            have hN : X.N.Nodup := by rw [G.names]; exact G.nd
            have hB : BlkOk X.N X.env.scope scope (ownOf N scope) := blkOk_by (by rw [G.names, G.scope]; exact hc1)
            have hsl : ∀ i, i ∈ t.slots → i ∈ (ownOf N scope).map (·.2) := fun j hj => by
              have := hsl j hj
              simpa using this
            have main := px_lc (pos := pos) (E := E) (c := c) hcalm hN (ihI G tk tg it i h1) hB pG pT pX (fold_ok hc3) hsl
            exact ⟨main, pt_plain main fun _ => rfl, fun z => (by cases z), fun _ j y py spos hj hl hsw =>
              ps_imp (ps_setLc hcalm hN hj hl hsw (ihI G tk tg it i h1) hB pG pT pX (fold_ok hc3)) fun D σ H q => lc_conv hsl q⟩
        · cases h
      · -- a lambda handed over
        split at h
        · rename_i hc
          simp only [Bool.and_eq_true, Bool.not_eq_true'] at hc
          obtain ⟨⟨⟨⟨h1, h2⟩, h3⟩, h4⟩, h5⟩ := hc
          split at h
          · obtain ⟨x, h6, rfl⟩ := map_some h
            exact eok_plain rfl rfl (fun _ => rfl) (px_err G h1 h2 h3 h4 h5 fun lf hl A outer s H E f c' hr => (ihE (G.lam hl A outer s H E _ f c' hr) takes_lam _ _ h6).1)
          · cases h
        · cases h
      · -- a call
        split at h
        · cases h
        · rename_i hc
          simp only [Bool.or_eq_true, Bool.not_eq_true', not_or, Bool.not_eq_true, Bool.not_eq_false] at hc
          obtain ⟨h1, h2⟩ := hc
          split at h
          · rename_i i hi
            split at h
            · cases h
            · obtain ⟨xs, h3, rfl⟩ := map_some h
              exact eok_plain rfl rfl (fun _ => rfl) (px_call G tk h1 h2 hi (cL_plain h3) (fun e => by subst e; exact cL_nil h3) (cL_ok ie h3))
          · split at h
            · split at h
              · cases h
              · rename_i hs
                obtain ⟨b, h3, h⟩ := bindO h
                obtain ⟨x, h4, rfl⟩ := map_some h
                exact eok_plain rfl rfl (fun _ => rfl) (px_blt G h1 h2 h3 (by simpa using hs) (ie _ _ h4))
            · split at h
              · rename_i hc
                simp only [Bool.and_eq_true, Bool.not_eq_true', decide_eq_true_eq] at hc
                obtain ⟨⟨h3, h4⟩, h5⟩ := hc
                subst h3
                obtain ⟨D, h6, h⟩ := bindO h
                obtain ⟨x, h7, rfl⟩ := map_some h
                exact eok_plain rfl rfl (fun _ => rfl) (px_isi G h2 h4 h6 h5 (ie _ _ h7))
              · cases h
            · cases h
      · split at h
        · cases h
        · rename_i hc
          simp only [Bool.or_eq_true, Bool.not_eq_true', not_or, Bool.not_eq_true, Bool.not_eq_false] at hc
          obtain ⟨⟨h1, h2⟩, h3⟩ := hc
          obtain ⟨m, h4, h⟩ := bindO h
          obtain ⟨x, h5, h⟩ := bindO h
          obtain ⟨y, h6, rfl⟩ := map_some h
          exact eok_plain rfl rfl (fun _ => rfl) (px_mth h4 h1 h2 h3 (ie _ _ h5) (ie _ _ h6))
      · cases h
    · have ie : ∀ e ir, cE g N n sc fb e = some ir → PE X e (tX X.K T cl E c ir) := fun e ir h => (ihE G tk e ir h).1
      have val : ∀ {e ir}, (cE g N n sc fb e).map Ev.It.val = some ir → PI X tg e (tIt X.K T cl E c ir) := fun {e ir} h => by
        obtain ⟨x, h1, rfl⟩ := map_some h
        exact pix_val (ie _ _ h1)
      have hr : X.mg "range" = none := G.blts _ (by simp)
      unfold cI at h
      split at h
      · split at h
        · rename_i hc
          simp only [Bool.and_eq_true, Bool.not_eq_true', decide_eq_true_eq] at hc
          obtain ⟨⟨h1, h2⟩, h3⟩ := hc
          subst h1
          obtain ⟨x, h4, rfl⟩ := map_some h
          exact pix_rng1 (gl_of G.scope h2) hr h3 (pax_cons h3 (ie _ _ h4) pax_nil)
        · split at h
          · rename_i hc
            simp only [Bool.and_eq_true, Bool.not_eq_true', decide_eq_true_eq] at hc
            obtain ⟨⟨⟨h1, h2⟩, h3⟩, h4⟩ := hc
            subst h1
            obtain ⟨x, h5, rfl⟩ := map_some h
            unfold isTup at h4
            split at h4
            · exact pix_enm (gl_of G.scope h2) (G.blts _ (by simp)) h3 (ie _ _ h5)
            · cases h4
          · exact val h
      · split at h
        · rename_i hc
          simp only [Bool.and_eq_true, Bool.not_eq_true', decide_eq_true_eq] at hc
          obtain ⟨⟨⟨h1, h2⟩, h3⟩, h4⟩ := hc
          subst h1
          obtain ⟨x, h5, h⟩ := bindO h
          obtain ⟨y, h6, rfl⟩ := map_some h
          exact pix_rng2 (gl_of G.scope h2) hr h3 h4 (pax_cons h3 (ie _ _ h5) (pax_cons h4 (ie _ _ h6) pax_nil))
        · split at h
          · rename_i hc
            simp only [Bool.and_eq_true, Bool.not_eq_true', decide_eq_true_eq] at hc
            obtain ⟨⟨⟨⟨h1, h2⟩, h3⟩, h4⟩, h5⟩ := hc
            subst h1
            obtain ⟨x, h6, h⟩ := bindO h
            obtain ⟨y, h7, rfl⟩ := map_some h
            unfold isTup at h5
            split at h5
            · exact pix_zip (gl_of G.scope h2) (G.blts _ (by simp)) h3 h4 (ie _ _ h6) (ie _ _ h7)
            · cases h5
          · exact val h
      · split at h
        · rename_i hc
          simp only [Bool.and_eq_true, Bool.not_eq_true', decide_eq_true_eq] at hc
          obtain ⟨⟨⟨⟨h1, h2⟩, h3⟩, h4⟩, h5⟩ := hc
          subst h1
          obtain ⟨x, h6, h⟩ := bindO h
          obtain ⟨y, h7, h⟩ := bindO h
          obtain ⟨z, h8, rfl⟩ := map_some h
          exact pix_rng3 (gl_of G.scope h2) hr h3 h4 h5 (pax_cons h3 (ie _ _ h6) (pax_cons h4 (ie _ _ h7) (pax_cons h5 (ie _ _ h8) pax_nil)))
        · exact val h
      · exact val h
end
end Ev
end

section
set_option Elab.async false
set_option linter.all false
set_option autoImplicit false
set_option maxRecDepth 100000
set_option maxHeartbeats 4000000
/-! # Statements: the compiler -/
namespace Ev
open PySem
def scF (sc : Scope) : Bool := decide (sc.kind = .function)
def locL (sc : Scope) (x : Str) : Bool := decide (sc.names.lookup x = some .local)
def anyStar (vs : List Expr) : Bool := vs.any fun | .Starred .. => true | _ => false
def swNames (sc : Scope) (ts : List Expr) : List Str := ts.filterMap fun
  | .Name id pos => if (sc.names.lookup id == some .local && pos.line == (ts.head?.map (·.pos.line)).getD 0) = true then some id else none
  | _ => none
def sw (a b c d e : Bool) (names : List Str) : Option (Option (List Str)) :=
  if a = true then some none else if b = true then some none else if c = true then some none else if d = true then some none else if e = true then none else some (some names)
/-- a pair of names that is stored from the right; none: not told -/
def swapB (sc : Scope) (ts vs : List Expr) : Option (Option (List Str)) :=
  sw (!(ts.length == 2 || ts.length == 3) || vs.length != ts.length || (if sc.kind.isAnnotationScope then ScopeKind.function else sc.kind) != .function) (anyStar vs)
    ((swNames sc ts).length != ts.length || (swNames sc ts).eraseDups.length != (swNames sc ts).length) (vs.all (foldedForSure 8)) (vs.all (constantsAlone 8)) (swNames sc ts)
theorem swap_eq (env : Env) (ts vs : List Expr) (k k2 : Nat) (tp p2 : Pos) : swappedStores [.Tuple ts k tp] (.Tuple vs k2 p2) env =
    if (!(ts.length == 2 || ts.length == 3) || vs.length != ts.length || (if env.scope.kind.isAnnotationScope then ScopeKind.function else env.scope.kind) != .function) = true then pure none
    else if anyStar vs = true then pure none
    else if ((swNames env.scope ts).length != ts.length || (swNames env.scope ts).eraseDups.length != (swNames env.scope ts).length) = true then pure none
    else if vs.all (foldedForSure 8) = true then pure none
    else if vs.all (constantsAlone 8) = true then (do unsupported "assign.tuple-of-constant-expressions:order-of-the-stores"; return some (swNames env.scope ts))
    else pure (some (swNames env.scope ts)) := rfl
theorem swap_of {env : Env} {ts vs : List Expr} {k k2 : Nat} {tp p2 : Pos} {r : Option (List Str)} (h : swapB env.scope ts vs = some r) : swappedStores [.Tuple ts k tp] (.Tuple vs k2 p2) env = pure r := by
  rw [swap_eq]
  unfold swapB at h
  generalize (!(ts.length == 2 || ts.length == 3) || vs.length != ts.length || (if env.scope.kind.isAnnotationScope then ScopeKind.function else env.scope.kind) != .function) = a at h ⊢
  generalize anyStar vs = b at h ⊢
  generalize swNames env.scope ts = ns at h ⊢
  generalize (ns.length != ts.length || ns.eraseDups.length != ns.length) = c at h ⊢
  generalize vs.all (foldedForSure 8) = d at h ⊢
  generalize vs.all (constantsAlone 8) = e at h ⊢
  unfold sw at h
  cases a <;> cases b <;> cases c <;> cases d <;> cases e <;> first | (cases h; rfl) | cases h
def isTupE : Expr → Bool
  | .Tuple _ _ _ => true
  | _ => false
/-- a list that is changed in place, made where its name stands -/
def cV (g : Cfg) (N : List Str) (n : Nat) (sc : Scope) (bx : Bool) (e : Expr) : Option X :=
  if bx = true then match e with
    | .List es _ => (cL (cE g N n sc fbDef) es).map .box
    | _ => cE g N n sc fbDef e
  else cE g N n sc fbDef e
mutual
def cS (g : Cfg) (N : List Str) (sc : Scope) : Nat → Stmt → Option St
  | 0, _ => none
  | n + 1, s => match s with
    | .Assign [.Name x _] e _ => if (locB sc x && !isComp e) = true then (ixOf N x).bind fun i => (cV g N n sc (decide (x ∈ g.bx)) e).map fun y => .set i y
        else if (locB sc x) = true then (ixOf N x).bind fun i => (cE g N n sc fbDef e).map fun y => .set i y else none
    | .Assign [.Tuple ts k tp] (.Tuple vs k2 p2) _ => match swapB sc ts vs with
        | none => none
        | some none => (cE g N n sc fbDef (.Tuple vs k2 p2)).bind fun y => (cT N sc fbDef n (.Tuple ts k tp)).map fun t => .sett t y
        | some (some names) => match ts, vs with
          | [.Name x _, .Name y _], [a, b] => if (locL sc x && locL sc y && !starred a && !starred b && decide (names = [x, y])) = true then
              (ixOf N x).bind fun i => (ixOf N y).bind fun j => if i = j then none else (cV g N n sc (decide (x ∈ g.bx)) a).bind fun u => (cV g N n sc (decide (y ∈ g.bx)) b).map fun v => .par [i, j] (.cons u (.cons v .nil)) else none
          | [.Name x _, .Name y _, .Name z _], [a, b, d] => if (locL sc x && locL sc y && locL sc z && !starred a && !starred b && !starred d && decide (names = [x, y, z])) = true then
              (ixOf N x).bind fun i => (ixOf N y).bind fun j => (ixOf N z).bind fun l => if i = j ∨ i = l ∨ j = l then none else
              (cV g N n sc (decide (x ∈ g.bx)) a).bind fun u => (cV g N n sc (decide (y ∈ g.bx)) b).bind fun v => (cV g N n sc (decide (z ∈ g.bx)) d).map fun w => .par [i, j, l] (.cons u (.cons v (.cons w .nil))) else none
          | _, _ => none
    | .Assign [.Tuple ts k tp] e _ => if isTupE e = true then none else (cE g N n sc fbDef e).bind fun y => (cT N sc fbDef n (.Tuple ts k tp)).map fun t => .sett t y
    | .Assign [.Subscript (.Name x _) k _] e _ => if (visB sc x && !odd x && !isSlice k) = true then (ixOf N x).bind fun i => (cE g N n sc fbDef k).bind fun q => (cE g N n sc fbDef e).map fun y => .seti i q y else none
    | .Expr (.Call (.Attribute (.Name x _) m apos) [a] [] cpos) _ => if (decide (m = "append") && visB sc x && !odd x && !starred a && (apos.endLine == cpos.line)) = true then
        (ixOf N x).bind fun i => (cE g N n sc fbDef a).map fun y => .app i y else none
    | .Expr e _ => if isComp e = true then none else (cE g N n sc fbDef e).map .exp
    | .Return none _ => some .retN
    | .Return (some e) _ => (cV g N n sc g.keep e).map .ret
    | .If c a b _ => (cE g N n sc fbDef c).bind fun z => (cSs g N sc n a).bind fun x => (cSs g N sc n b).map fun y => .iff z x y
    | .For tg it b [] _ => if isSet it = true then none else (cI g N n sc fbDef (isTup tg) it).bind fun i => (cT N sc fbDef n tg).bind fun t => (cSs g N sc n b).map fun y => .forr t i y
    | .While c b [] _ => (cE g N n sc fbDef c).bind fun z => (cSs g N sc n b).map fun y => .whil z y
    | .Raise (some (.Call (.Name x _) [.Constant (.str _) _ _] [] _)) none _ => if (glB sc x && !odd x) = true then (g.clIx x).map fun i => .rais i .nil else none
    | .Raise (some (.Call (.Name x _) [e] [] _)) none _ => if (glB sc x && !odd x && !starred e) = true then (g.clTx x).bind fun i => (cE g N n sc fbDef e).map fun y => .rais i (.cons y .nil) else none
    | .Pass _ => some .pass
    | _ => none
def cSs (g : Cfg) (N : List Str) (sc : Scope) : Nat → List Stmt → Option Sts
  | 0, _ => none
  | _ + 1, [] => some .nil
  | n + 1, s :: r => (cS g N sc n s).bind fun a => (cSs g N sc n r).map fun b => .cons a b
end
end Ev
end

section
set_option Elab.async false
set_option linter.all false
set_option autoImplicit false
set_option maxRecDepth 100000
set_option maxHeartbeats 4000000
/-! # Statements -/
namespace Ev
open PySem PySem.Spec PyProof.Rows L2
/-- how a statement's end stands -/
def relF (K : W.Frag) : Ms → Hp → (L2.St ⊕ V) → F → Prop
  | M, H, .inl σ, .nx ρ => EnvOk K ρ σ M H
  | M, H, .inr v, .rt u => RU K M H v u
  | _, _, _, _ => False
def endF (D : Ends) : (L2.St ⊕ V) → Hp → Prop
  | .inl σ, H => D.nx σ H
  | .inr v, H => D.rt v H
def tS (K : W.Frag) (T : List (Addr × Str)) (cl : Nat → Option Addr) (E : XK) (c : Cn) (ir : Ev.St) : TS := fun D σ H => ∃ ρ M S, EnvOk K ρ σ M H ∧ StOk K T M S H ∧ Out K T cl E M H (evS c ir ρ S) (relF K) (endF D)
def tSs (K : W.Frag) (T : List (Addr × Str)) (cl : Nat → Option Addr) (E : XK) (c : Cn) (ir : Sts) : TS := fun D σ H => ∃ ρ M S, EnvOk K ρ σ M H ∧ StOk K T M S H ∧ Out K T cl E M H (evSs c ir ρ S) (relF K) (endF D)
section
variable {K : W.Frag} {T : List (Addr × Str)} {cl : Nat → Option Addr} {E : XK} {c : Cn} {X : Cx} {M : Ms} {H : Hp} {S : Store} {ρ : Rho} {σ : L2.St}
theorem pss_imp {st : List Stmt} {t t' : TS} (h : PSs X st t) (i : ∀ D σ H, t' D σ H → t D σ H) : PSs X st t' := ⟨fun pins s σ H D I q => h.run pins s σ H D I (i D σ H q)⟩
/-- the next statement -/
theorem end_nx {ρ' : Rho} {σ' : L2.St} {D : Ends} (st : StOk K T M S H) (h : Out K T cl E M H (.ok (.nx ρ') S) (relF K) (endF D)) (en : EnvOk K ρ' σ' M H) : D.nx σ' H := h (.inl σ') M H (Gr.refl _ _) st en
theorem end_rt {u : U} {v : V} {D : Ends} (st : StOk K T M S H) (h : Out K T cl E M H (.ok (.rt u) S) (relF K) (endF D)) (r : RU K M H v u) : D.rt v H := h (.inr v) M H (Gr.refl _ _) st r
/-- a statement behind another one -/
theorem seq_of {r : R F} {f : Rho → Store → R F} {D : Ends} (h : Out K T cl E M H (r.bind fun a S1 => match a with
      | .nx ρ1 => f ρ1 S1
      | .rt u => .ok (.rt u) S1) (relF K) (endF D)) {G : L2.St → Hp → Prop}
    (q : ∀ ρ1 σ1 M1 H1 S1, Gr M H M1 H1 → StOk K T M1 S1 H1 → EnvOk K ρ1 σ1 M1 H1 → Out K T cl E M1 H1 (f ρ1 S1) (relF K) (endF D) → G σ1 H1) {b k : L2.St → Hp → Prop} :
    Out K T cl E M H r (relF K) (endF { D with nx := G, bk := b, ct := k }) := by
  refine Out.mono (Out.bind (rel := relF K) h) fun x H1 ⟨M1, S1, a, g1, st1, r1, h1⟩ => ?_
  cases x with
  | inl σ1 =>
    cases a with
    | nx ρ1 => exact q ρ1 σ1 M1 H1 S1 g1 st1 r1 h1
    | rt u => exact r1.elim
  | inr v =>
    cases a with
    | nx ρ1 => exact r1.elim
    | rt u => exact (show Out K T cl E M1 H1 (.ok (.rt u) S1) (relF K) (endF D) from h1) (.inr v) M1 H1 (Gr.refl _ _) st1 r1
theorem ssx_nil : PSs X [] (tSs X.K T cl E c .nil) := pss_imp pss_nil fun D σ H ⟨ρ, M, S, en, st, h⟩ => by
  unfold evSs at h
  exact end_nx st h en
theorem ssx_cons {s : Stmt} {r : List Stmt} {a : Ev.St} {b : Sts} (h1 : PS X s (tS X.K T cl E c a)) (h2 : PSs X r (tSs X.K T cl E c b)) : PSs X (s :: r) (tSs X.K T cl E c (.cons a b)) :=
  pss_imp (pss_cons h1 h2) fun D σ H ⟨ρ, M, S, en, st, h⟩ => by
    unfold evSs at h
    exact ⟨ρ, M, S, en, st, seq_of h fun ρ1 σ1 M1 H1 S1 g1 st1 en1 h1 => ⟨ρ1, M1, S1, en1, st1, h1⟩⟩
/-! ### simple statements -/
theorem swp_no {e : Expr} {t : Option Expr} {l : Nat} {env : Env} (h : isComp e = false) : swapsWith e t l env = pure false := by
  cases e <;> first | rfl | cases h
theorem conv_set {i : Nat} {y : Ev.X} {D : Ends} {σ : L2.St} {H : Hp} (h : tS K T cl E c (.set i y) D σ H) : tAsg (tX K T cl E c y) (gName i) D σ H := by
  obtain ⟨ρ, M, S, en, st, h⟩ := h
  unfold evS at h
  exact tX_b en st h fun v M1 H1 S1 u g1 en1 st1 r1 h1 => end_nx st1 h1 (en1.set r1)
theorem sx_set {i : Nat} {x : Str} {e : Expr} {y : Ev.X} {pos pos' : Pos} (hN : X.N.Nodup) (hi : X.N[i]? = some x) (hx : L2.Loc X.env.scope x) (hf : X.fn x = true ∨ X.env.scope.names.lookup x = some .local) (hc : isComp e = false) (he : PE X e (tX X.K T cl E c y)) :
    PS X (.Assign [.Name x pos'] e pos) (tS X.K T cl E c (.set i y)) :=
  ps_imp (ps_set hN hi hx he (swp_no hc) hf) fun D σ H h => conv_set h
/-- a comprehension -/
theorem sx_setLc {i : Nat} {x : Str} {e : Expr} {y : Ev.X} {pos pos' : Pos} (hN : X.N.Nodup) (hi : X.N[i]? = some x) (hx : L2.Loc X.env.scope x) (hf : X.fn x = true ∨ X.env.scope.names.lookup x = some .local) (he : EOk T cl E c X e y) :
    PS X (.Assign [.Name x pos'] e pos) (tS X.K T cl E c (.set i y)) := by
  by_cases hc : isComp e = true
  · by_cases hsw : swapsWith e (some (.Name x pos')) pos.line X.env = pure true
    · by_cases hl : X.env.scope.names.lookup x = some .local
      · exact ps_imp (he.2.2.2 hc i x pos' pos hi hl hsw) fun D σ H h => conv_set h
      · refine ps_imp (ps_set hN hi hx he.1 ?_ hf) fun D σ H h => conv_set h
        have e1 : X.env.kindOf x = some .local ↔ X.env.scope.names.lookup x = some .local := Iff.rfl
        cases e <;> first | cases hc | skip
        all_goals
          show (pure (X.env.blockKind == .function && X.env.kindOf x == some .local && _ && _) : Sem Bool) = pure false
          rw [show (X.env.kindOf x == some NameKind.local) = false from by simpa using fun z => hl (e1.mp z)]
          simp
    · refine ps_imp (ps_set hN hi hx he.1 ?_ hf) fun D σ H h => conv_set h
      cases e <;> first | cases hc | skip
      all_goals
        have key : ∀ b : Bool, (pure b : Sem Bool) ≠ pure true → (pure b : Sem Bool) = pure false := fun b z => by
          cases b
          · rfl
          · exact absurd rfl z
        exact key _ hsw
  · exact sx_set hN hi hx hf (by simpa using hc) he.1
theorem swS_tup {e : Expr} {ts : List Expr} {k : Nat} {tp : Pos} {l : Nat} {env : Env} : swapsWithSole [.Tuple ts k tp] e l env = pure false := by
  cases e <;> rfl
theorem swS_sub {e a b : Expr} {tp : Pos} {l : Nat} {env : Env} : swapsWithSole [.Subscript a b tp] e l env = pure false := by
  cases e <;> rfl
theorem swp_plain {e : Expr} {ts : List Expr} {k : Nat} {tp : Pos} {env : Env} (h : isTupE e = false) : swappedStores [.Tuple ts k tp] e env = pure none := by
  cases e <;> first | rfl | cases h
theorem swp_sub {e a b : Expr} {tp : Pos} {env : Env} : swappedStores [.Subscript a b tp] e env = pure none := by
  cases e <;> rfl
theorem sx_sett {ts : List Expr} {k : Nat} {tp pos : Pos} {e : Expr} {t : Tg} {y : Ev.X} (hw : swappedStores [.Tuple ts k tp] e X.env = pure none) (he : PE X e (tX X.K T cl E c y)) (hg : PG X (.Tuple ts k tp) (tTw X.K T t)) :
    PS X (.Assign [.Tuple ts k tp] e pos) (tS X.K T cl E c (.sett t y)) :=
  ps_imp (ps_asg he hg swS_tup hw rfl) fun D σ H ⟨ρ, M, S, en, st, h⟩ => by
    unfold evS at h
    refine tX_b en st h fun v M1 H1 S1 u g1 en1 st1 r1 h1 => ?_
    cases e1 : bindT t u ρ with
    | none => rw [e1] at h1; exact h1.elim
    | some ρ' =>
      rw [e1] at h1
      exact ⟨ρ, M1, S1, u, ρ', en1, st1, r1, e1, fun σ' en' _ _ => end_nx st1 h1 en'⟩
theorem sx_par2 {x y : Str} {i j : Nat} {a b : Expr} {px py pt pos : Pos} {kt k2 : Nat} {pt2 : Pos} {u v : Ev.X} (hc : X.calm = true) (hN : X.N.Nodup) (hi : X.N[i]? = some x) (hj : X.N[j]? = some y) (hij : i ≠ j) (hx : X.env.scope.names.lookup x = some .local) (hy : X.env.scope.names.lookup y = some .local)
    (ha : PA X [a, b] (tXs X.K T cl E c (.cons u (.cons v .nil)))) (hw : swappedStores [.Tuple [.Name x px, .Name y py] kt pt] (.Tuple [a, b] k2 pt2) X.env = pure (some [x, y])) :
    PS X (.Assign [.Tuple [.Name x px, .Name y py] kt pt] (.Tuple [a, b] k2 pt2) pos) (tS X.K T cl E c (.par [i, j] (.cons u (.cons v .nil)))) :=
  ps_imp (ps_par hc hN hi hj hij hx hy ha hw swS_tup) fun D σ H ⟨ρ, M, S, en, st, h⟩ => by
    unfold evS at h
    refine tXs_n en st h fun vs M1 H1 S1 us g1 en1 st1 r1 hl h1 => ?_
    cases r1 with
    | nil => cases hl
    | cons r1 rr =>
      cases rr with
      | nil => cases hl
      | cons r2 rr =>
        cases rr with
        | nil => exact ⟨_, _, rfl, end_nx st1 h1 ((en1.set r1).set r2)⟩
        | cons r3 rr => cases hl
theorem sx_par3 {x y z : Str} {i j l : Nat} {a b d : Expr} {px py pz pt pos : Pos} {kt k2 : Nat} {pt2 : Pos} {u v w : Ev.X} (hc : X.calm = true) (hN : X.N.Nodup) (hi : X.N[i]? = some x) (hj : X.N[j]? = some y) (hl : X.N[l]? = some z) (hij : i ≠ j) (hil : i ≠ l) (hjl : j ≠ l)
    (hx : X.env.scope.names.lookup x = some .local) (hy : X.env.scope.names.lookup y = some .local) (hz : X.env.scope.names.lookup z = some .local)
    (ha : PA X [a, b, d] (tXs X.K T cl E c (.cons u (.cons v (.cons w .nil))))) (hw : swappedStores [.Tuple [.Name x px, .Name y py, .Name z pz] kt pt] (.Tuple [a, b, d] k2 pt2) X.env = pure (some [x, y, z])) :
    PS X (.Assign [.Tuple [.Name x px, .Name y py, .Name z pz] kt pt] (.Tuple [a, b, d] k2 pt2) pos) (tS X.K T cl E c (.par [i, j, l] (.cons u (.cons v (.cons w .nil))))) :=
  ps_imp (ps_par3 hc hN hi hj hl hij hil hjl hx hy hz ha hw swS_tup) fun D σ H ⟨ρ, M, S, en, st, h⟩ => by
    unfold evS at h
    refine tXs_n en st h fun vs M1 H1 S1 us g1 en1 st1 r1 hl h1 => ?_
    cases r1 with
    | nil => cases hl
    | cons r1 rr =>
      cases rr with
      | nil => cases hl
      | cons r2 rr =>
        cases rr with
        | nil => cases hl
        | cons r3 rr =>
          cases rr with
          | nil => exact ⟨_, _, _, rfl, end_nx st1 h1 (((en1.set r1).set r2).set r3)⟩
          | cons r4 rr => cases hl
/-- x[k] = e -/
theorem sx_seti {x : Str} {i : Nat} {k e : Expr} {px p pos : Pos} {q y : Ev.X} (hi : X.N[i]? = some x) (hv : Vis X.env.scope x) (ho : odd x = false) (hk : isSlice k = false) (he : PE X e (tX X.K T cl E c y)) (hq : PE X k (tX X.K T cl E c q)) :
    PS X (.Assign [.Subscript (.Name x px) k p] e pos) (tS X.K T cl E c (.seti i q y)) :=
  ps_imp (ps_asg he (pg_sub (pe_var (i := i) hi hv (odd_of ho).1 (odd_of ho).2.1) hq set_list (fun v => by cases k <;> first | rfl | cases hk)) swS_sub swp_sub rfl) fun D σ H ⟨ρ, M, S, en, st, h⟩ => by
    unfold evS at h
    split at h
    case h_2 => exact h.elim
    rename_i b hb
    refine tX_b en st h fun v M1 H1 S1 u g1 en1 st1 r1 h1 => ?_
    obtain ⟨w, e1, a, e2, rfl⟩ := en1.at_ i _ hb
    refine ⟨_, e1, tX_b en1 st1 h1 fun w M2 H2 S2 u2 g2 en2 st2 r2 h2 => ?_⟩
    unfold putL at h2
    split at h2
    case h_2 => exact h2.elim
    rename_i p j
    cases r2
    split at h2
    case h_2 => exact h2.elim
    rename_i ds eb
    split at h2
    case h_2 => exact h2.elim
    rename_i m em
    have e3 := g2.get e2
    obtain ⟨xs, e4, r4⟩ := st2.lst e3 eb
    have hm := List.mem_of_getElem? e3
    refine ⟨a, xs, j, m, rfl, rfl, e4, by rw [r4.length]; exact em, ?_⟩
    have gw : Gr M2 H2 M2 (upd H2 a (.lst (xs.set m v))) := gr_wr M2 hm fun ps z => by cases z
    have r5 : RpA X.K M2 H2 (xs.set m v) (ds.set m p) := RpA.set ((show Rp X.K M1 H1 v p from r1).mono g2) m r4
    exact h2 (.inl σ) M2 _ gw (st_put st2 e3 r5) (en2.mono gw)
/-- x.append(a) -/
theorem sx_app {x : Str} {i : Nat} {a : Expr} {px apos cpos pos : Pos} {y : Ev.X} (hi : X.N[i]? = some x) (hv : Vis X.env.scope x) (ho : odd x = false) (hs : starred a = false) (hl : (apos.endLine == cpos.line) = true) (ha : PE X a (tX X.K T cl E c y)) :
    PS X (.Expr (.Call (.Attribute (.Name x px) "append" apos) [a] [] cpos) pos) (tS X.K T cl E c (.app i y)) :=
  ps_imp (ps_expr (pe_bm PySem.F.plainAttrs_list PySem.F.slot_list_append PySem.F.type_list_append mt_append (pe_var (i := i) hi hv (odd_of ho).1 (odd_of ho).2.1) (pa_cons ha pa_nil (star_of hs)) rfl (by rw [star_of hs]; rfl) hl (star_of hs) rfl)) fun D σ H ⟨ρ, M, S, en, st, h⟩ => by
    unfold evS at h
    split at h
    case h_2 => exact h.elim
    rename_i b hb
    obtain ⟨w, e1, a, e2, rfl⟩ := en.at_ i _ hb
    obtain ⟨bx, e3, hbx⟩ := st.lt e2
    have hty : ∃ xs, H a = some (.lst xs) := by
      cases bx with
      | lst ds => obtain ⟨xs, h1, _⟩ := hbx; exact ⟨xs, h1⟩
      | dct _ => exact hbx.elim
      | ins _ _ => exact hbx.elim
    obtain ⟨xs0, hxs0⟩ := hty
    refine ⟨_, e1, ?_, tX_b en st h fun v M1 H1 S1 u g1 en1 st1 r1 h1 => ?_⟩
    · exact .inl ⟨rfl, xs0, SqL.of hxs0⟩
    · unfold appL at h1
      split at h1
      case h_2 => exact h1.elim
      rename_i p
      split at h1
      case h_2 => exact h1.elim
      rename_i ds eb
      split at h1
      case isFalse => exact h1.elim
      rename_i hlen
      have e4 := g1.get e2
      obtain ⟨xs, e5, r5⟩ := st1.lst e4 eb
      have hm := List.mem_of_getElem? e4
      refine ⟨a, xs, v, rfl, rfl, e5, by rw [r5.length, ← line_eq]; exact hlen, ?_⟩
      have gw : Gr M1 H1 M1 (upd H1 a (.lst (xs ++ [v]))) := gr_wr M1 hm fun ps z => by cases z
      exact h1 (.inl σ) M1 _ gw (st_put st1 e4 (r5.append (.cons r1 .nil))) (en1.mono gw)
theorem sx_exp {e : Expr} {y : Ev.X} {pos : Pos} (hc : isComp e = false) (he : PE X e (tX X.K T cl E c y)) : PS X (.Expr e pos) (tS X.K T cl E c (.exp y)) :=
  ps_imp (ps_expr he (swp_no hc)) fun D σ H ⟨ρ, M, S, en, st, h⟩ => by
    unfold evS at h
    exact tX_b en st h fun v M1 H1 S1 u g1 en1 st1 r1 h1 => end_nx st1 h1 en1
theorem sx_ret {e : Expr} {y : Ev.X} {pos : Pos} (he : PE X e (tX X.K T cl E c y)) : PS X (.Return (some e) pos) (tS X.K T cl E c (.ret y)) :=
  ps_imp (ps_ret he) fun D σ H ⟨ρ, M, S, en, st, h⟩ => by
    unfold evS at h
    exact tX_b en st h fun v M1 H1 S1 u g1 en1 st1 r1 h1 => end_rt st1 h1 r1
theorem sx_retN {pos : Pos} : PS X (.Return none pos) (tS X.K T cl E c .retN) :=
  ps_imp ps_retN fun D σ H ⟨ρ, M, S, en, st, h⟩ => by
    unfold evS at h
    exact end_rt (u := .d .none) st h Rp.non
theorem sx_pass {pos : Pos} : PS X (.Pass pos) (tS X.K T cl E c .pass) :=
  ps_imp ps_pass fun D σ H ⟨ρ, M, S, en, st, h⟩ => by
    unfold evS at h
    exact end_nx st h en
theorem sx_if {d : Expr} {a b : List Stmt} {pos : Pos} {z : Ev.X} {x y : Sts} (hd : PT X d (tTr X.K T cl E c z)) (ha : PSs X a (tSs X.K T cl E c x)) (hb : PSs X b (tSs X.K T cl E c y)) : PS X (.If d a b pos) (tS X.K T cl E c (.iff z x y)) :=
  ps_imp (ps_if hd ha hb) fun D σ H ⟨ρ, M, S, en, st, h⟩ => by
    unfold evS at h
    refine tTr_b en st h fun k M1 H1 S1 g1 en1 st1 h1 => ?_
    cases k with
    | true => exact ⟨ρ, M1, S1, en1, st1, h1⟩
    | false => exact ⟨ρ, M1, S1, en1, st1, h1⟩
theorem sx_raise {g : Cfg} {k l : Nat} {N : List Str} {sc : Scope} {fb : Fb} (G : Good g T cl c k l X N sc fb) (tk : L2N.Takes X fun d a _ H => E d a H) {x m : Str} {i j : Nat} {p p2 p3 pos : Pos} (hg : glB sc x = true) (ho : odd x = false) (hi : g.clIx x = some i) :
    PS X (.Raise (some (.Call (.Name x p) [.Constant (.str m) j p2] [] p3)) none pos) (tS X.K T cl E c (.rais i .nil)) := by
  obtain ⟨C, e1, e2, e3, e4, e5, e6⟩ := G.clss x i hi
  refine ps_imp (L2N.ps_raise G.calm tk (L2N.pmk_own PySem.F.excBase_ValueError e4 e2 e3 (raises_own e5 e6) (gl_of G.scope hg) (odd_of ho).1)) fun D σ H ⟨ρ, M, S, en, st, h⟩ => ?_
  unfold evS evXs at h
  obtain ⟨C', e7, h1⟩ : ∃ C', cl i = some C' ∧ ∀ d M' H', Dic d H' → Gr M H M' H' → StOk X.K T M' S H' → E (.ref C') d H' := h
  rw [e1] at e7
  cases e7
  exact h1 none M H dic_none (Gr.refl _ _) st
theorem sx_raiseT {g : Cfg} {k l : Nat} {N : List Str} {sc : Scope} {fb : Fb} (G : Good g T cl c k l X N sc fb) (tk : L2N.Takes X fun d a _ H => E d a H) {x : Str} {i : Nat} {e : Expr} {y : Ev.X} {p p3 pos : Pos} (hg : glB sc x = true) (ho : odd x = false) (hi : g.clTx x = some i)
    (he : PE X e (tX X.K T cl E c y)) (hs : starred e = false) : PS X (.Raise (some (.Call (.Name x p) [e] [] p3)) none pos) (tS X.K T cl E c (.rais i (.cons y .nil))) := by
  obtain ⟨C, f, fI, e1, e2, e3, e4, e5⟩ := G.clst x i hi
  refine ps_imp (L2N.ps_raise G.calm tk (pmk_tm e3 e4 e5 G.room (gl_of G.scope hg) e2 he (odd_of ho).1 (star_of hs))) fun D σ H ⟨ρ, M, S, en, st, h⟩ => ?_
  unfold evS evXs evXs at h
  rw [bind_assoc] at h
  refine tX_b en st h fun v M1 H1 S1 u g1 en1 st1 r1 h1 => ?_
  refine ⟨v, rfl, fun d hd => ?_⟩
  obtain ⟨C', e7, h2⟩ : ∃ C', cl i = some C' ∧ ∀ d M' H', Dic d H' → Gr M1 H1 M' H' → StOk X.K T M' S1 H' → E (.ref C') d H' := h1
  rw [e1] at e7
  cases e7
  exact h2 (some d) M1 _ (fun dd z => by cases z; exact ⟨_, upd_same⟩) (gr_new st1 hd) (st_new st1 hd)
/-! ### loops -/
theorem sx_while {d : Expr} {b : List Stmt} {pos : Pos} {z : Ev.X} {y : Sts} (hp : PassesOwn (model X.prog X.w) X.A X.env X.xe) (hd : PT X d (tTr X.K T cl E c z)) (hb : PSs X b (tSs X.K T cl E c y)) : PS X (.While d b [] pos) (tS X.K T cl E c (.whil z y)) :=
  ps_imp (ps_while hp hd hb) fun D σ H ⟨ρ, M, S, en, st, h⟩ => by
    unfold evS at h
    refine ⟨fun m σ H => ∃ ρ M S, EnvOk X.K ρ σ M H ∧ StOk X.K T M S H ∧ Out X.K T cl E M H (loopW (fun ρ S => truR (evX c z ρ S)) (fun ρ S => evSs c y ρ S) m ρ S) (relF X.K) (endF D), ⟨1000000, ρ, M, S, en, st, h⟩, ?_⟩
    rintro m σ H ⟨ρ, M, S, en, st, h⟩
    cases m with
    | zero => unfold loopW at h; exact h.elim
    | succ m =>
      unfold loopW at h
      refine tTr_b en st h fun k M1 H1 S1 g1 en1 st1 h1 => ?_
      cases k with
      | false =>
        rw [if_neg (by decide)]
        rw [if_neg (by decide)] at h1
        exact end_nx st1 h1 en1
      | true =>
        rw [if_pos rfl]
        rw [if_pos rfl] at h1
        refine ⟨fun σ' H' => ∃ ρ M S, EnvOk X.K ρ σ' M H' ∧ StOk X.K T M S H' ∧ Out X.K T cl E M H' (loopW (fun ρ S => truR (evX c z ρ S)) (fun ρ S => evSs c y ρ S) m ρ S) (relF X.K) (endF D), fun σ' H' q => ⟨m, by omega, q⟩, ρ, M1, S1, en1, st1, ?_⟩
        exact seq_of (f := fun ρ2 S2 => loopW (fun ρ S => truR (evX c z ρ S)) (fun ρ S => evSs c y ρ S) m ρ2 S2) h1 fun ρ1 σ1 M2 H2 S2 g2 st2 en2 h2 => ⟨ρ1, M2, S2, en2, st2, h2⟩
theorem sx_for {tg iter : Expr} {b : List Stmt} {pos : Pos} {it : Ev.It} {t : Tg} {y : Sts} (hp : PassesOwn (model X.prog X.w) X.A X.env X.xe) (hc : X.calm = true) (hi : PI X tg iter (tIt X.K T cl E c it)) (hg : PG X tg (tTw X.K T t)) (hb : PSs X b (tSs X.K T cl E c y)) (hs : ∀ x, foldedSetIterable iter X.env x = pure x) :
    PS X (.For tg iter b [] pos) (tS X.K T cl E c (.forr t it y)) :=
  ps_imp (ps_for hp hc hi hg hb hs) fun D σ H ⟨ρ, M, S, en, st, h⟩ => by
    unfold evS at h
    refine ⟨ρ, M, S, en, st, Out.mono (Out.bind (rel := fun M H J s => Feed X.K M H J s) h) fun J H1 ⟨M1, S1, src, g1, st1, fd, h1⟩ => ?_⟩
    have en1 := en.mono g1
    cases src with
    | fix us =>
      have h1 : Out X.K T cl E M1 H1 (loopL t (fun ρ S => evSs c y ρ S) us ρ S1) (relF X.K) (endF D) := h1
      refine ⟨fun i m σ H => m = us.length - i ∧ i ≤ us.length ∧ ∃ ρ M S, Gr M1 H1 M H ∧ EnvOk X.K ρ σ M H ∧ StOk X.K T M S H ∧ Out X.K T cl E M H (loopL t (fun ρ S => evSs c y ρ S) (us.drop i) ρ S) (relF X.K) (endF D), ⟨us.length, rfl, Nat.zero_le _, ρ, M1, S1, Gr.refl _ _, en1, st1, h1⟩, ?_⟩
      rintro i m σ H ⟨rfl, hi, ρ, M, S, g, en, st, h⟩
      obtain ⟨f1, f2⟩ := fd M H g i
      by_cases hlt : i < us.length
      · right
        have hu : us[i]? = some us[i] := by simp [hlt]
        have hd : us.drop i = us[i] :: us.drop (i + 1) := List.drop_eq_getElem_cons hlt
        rw [hd] at h
        generalize us[i] = u at hu h
        obtain ⟨f3, f4⟩ := f2 u hu
        refine ⟨f3, fun σ' H' => ∃ ρ M S, Gr M1 H1 M H' ∧ EnvOk X.K ρ σ' M H' ∧ StOk X.K T M S H' ∧ Out X.K T cl E M H' (loopL t (fun ρ S => evSs c y ρ S) (us.drop (i + 1)) ρ S) (relF X.K) (endF D), fun σ' H' q => ⟨_, by omega, rfl, hlt, q⟩, fun x H' hy => ?_⟩
        obtain ⟨g2, st2, rx⟩ := f4 x H' hy T S st
        have h := Out.later h g2
        unfold loopL at h
        split at h
        · exact h.elim
        · rename_i ρ1 eb
          refine ⟨ρ, M, S, u, ρ1, en.mono g2, st2, rx, eb, fun σ1 en3 _ _ => ⟨ρ1, M, S, en3, st2, ?_⟩⟩
          exact seq_of (f := fun ρ2 S2 => loopL t (fun ρ S => evSs c y ρ S) (us.drop (i + 1)) ρ2 S2) h fun ρ4 σ4 M4 H4 S4 g4 st4 en4 h4 => ⟨ρ4, M4, S4, (g.trans g2).trans g4, en4, st4, h4⟩
      · left
        have ei : i = us.length := by omega
        have hd : us.drop i = [] := by rw [ei]; simp
        rw [hd] at h
        unfold loopL at h
        exact ⟨f1 (by rw [ei]; simp), end_nx st h en⟩
    | live bi =>
      obtain ⟨a, ha, rfl⟩ := fd
      have h1 : Out X.K T cl E M1 H1 (loopB t (fun ρ S => evSs c y ρ S) bi 1000000 0 ρ S1) (relF X.K) (endF D) := h1
      refine ⟨fun i m σ H => ∃ ρ M S, Gr M1 H1 M H ∧ EnvOk X.K ρ σ M H ∧ StOk X.K T M S H ∧ Out X.K T cl E M H (loopB t (fun ρ S => evSs c y ρ S) bi m i ρ S) (relF X.K) (endF D), ⟨1000000, ρ, M1, S1, Gr.refl _ _, en1, st1, h1⟩, ?_⟩
      rintro i m σ H ⟨ρ, M, S, g, en, st, h⟩
      cases m with
      | zero => unfold loopB at h; exact h.elim
      | succ m =>
        unfold loopB at h
        split at h
        case h_2 => exact h.elim
        rename_i ds eb
        have e3 := g.get ha
        obtain ⟨xs, e4, r4⟩ := st.lst e3 eb
        split at h
        · rename_i ei
          left
          refine ⟨⟨xs, SqL.of e4, ?_⟩, end_nx st h en⟩
          rw [r4.length]
          exact List.getElem?_eq_none_iff.mp ei
        · rename_i d ei
          right
          obtain ⟨v, e5, r5⟩ := r4.get ei
          refine ⟨⟨xs, v, SqL.of e4, e5⟩, fun σ' H' => ∃ ρ M S, Gr M1 H1 M H' ∧ EnvOk X.K ρ σ' M H' ∧ StOk X.K T M S H' ∧ Out X.K T cl E M H' (loopB t (fun ρ S => evSs c y ρ S) bi m (i + 1) ρ S) (relF X.K) (endF D), fun σ' H' q => ⟨m, by omega, q⟩, fun x H' ⟨eH, hx⟩ => ?_⟩
          subst eH
          have := hx xs (SqL.of e4)
          rw [e5] at this
          cases this
          split at h
          · exact h.elim
          · rename_i ρ1 eb2
            refine ⟨ρ, M, S, .d d, ρ1, en, st, r5, eb2, fun σ1 en3 _ _ => ⟨ρ1, M, S, en3, st, ?_⟩⟩
            exact seq_of (f := fun ρ2 S2 => loopB t (fun ρ S => evSs c y ρ S) bi m (i + 1) ρ2 S2) h fun ρ4 σ4 M4 H4 S4 g4 st4 en4 h4 => ⟨ρ4, M4, S4, g.trans g4, en4, st4, h4⟩
end
end Ev
end

section
set_option Elab.async false
set_option linter.all false
set_option autoImplicit false
set_option maxRecDepth 100000
set_option maxHeartbeats 4000000
/-! # All statements -/
namespace Ev
open PySem PySem.Spec PyProof.Rows L2
section
variable {T : List (Addr × Str)} {cl : Nat → Option Addr} {E : XK} {c : Cn} {X : Cx} {g : Cfg} {N : List Str} {sc : Scope} {k l : Nat}
theorem cV_ok (G : Good g T cl c k l X N sc fbDef) (tk : L2N.Takes X fun d a _ H => E d a H) {n : Nat} {bx : Bool} {e : Expr} {y : Ev.X} (h : cV g N n sc bx e = some y) : PE X e (tX X.K T cl E c y) := by
  have ih := fun e y h => ((cE_ok T cl g N n).1 G tk e y h).1
  unfold cV at h
  split at h
  · split at h
    · obtain ⟨xs, h1, rfl⟩ := map_some h
      exact px_box (cL_ok ih h1)
    · exact ih _ _ h
  · exact ih _ _ h
theorem loc_local {x : Str} (h : locL sc x = true) : sc.names.lookup x = some .local := of_decide_eq_true h
theorem cS_ok (G : Good g T cl c k l X N sc fbDef) (tk : L2N.Takes X fun d a _ H => E d a H) (hp : PassesOwn (model X.prog X.w) X.A X.env X.xe) :
    ∀ n, (∀ s ir, cS g N sc n s = some ir → PS X s (tS X.K T cl E c ir)) ∧ ∀ ss ir, cSs g N sc n ss = some ir → PSs X ss (tSs X.K T cl E c ir) := by
  have hN : X.N.Nodup := by rw [G.names]; exact G.nd
  have ix : ∀ {x : Str} {i : Nat}, ixOf N x = some i → X.N[i]? = some x := fun h => by rw [G.names]; exact ix_of h
  have loc : ∀ {x : Str}, locB sc x = true → L2.Loc X.env.scope x := fun h => by rw [G.scope]; exact loc_of h
  have vis : ∀ {x : Str}, visB sc x = true → Vis X.env.scope x := fun h => by rw [G.scope]; exact vis_of h
  have lcl : ∀ {x : Str}, locL sc x = true → X.env.scope.names.lookup x = some .local := fun h => by rw [G.scope]; exact loc_local h
  intro n
  induction n with
  | zero => exact ⟨fun s ir h => (by unfold cS at h; cases h), fun s ir h => (by unfold cSs at h; cases h)⟩
  | succ n ih =>
    obtain ⟨ih1, ih2⟩ := ih
    have ieo := fun e y h => (cE_ok T cl g N n).1 G tk e y h
    have ie : ∀ e y, cE g N n sc fbDef e = some y → PE X e (tX X.K T cl E c y) := fun e y h => (ieo e y h).1
    have iI := fun tg e y h => (cE_ok T cl g N n).2 G tk tg e y h
    have iT : ∀ e t, cT N sc fbDef n e = some t → PG X e (tTw X.K T t) := (tgw_ok G.names G.nd G.calm G.scope G.fbk n).1
    refine ⟨fun s ir h => ?_, fun ss ir h => ?_⟩
    · unfold cS at h
      split at h
      · -- name = e
        split at h
        · rename_i hc
          simp only [Bool.and_eq_true, Bool.not_eq_true'] at hc
          obtain ⟨i, hi, h⟩ := bindO h
          obtain ⟨y, hy, rfl⟩ := map_some h
          exact sx_set hN (ix hi) (loc hc.1) (G.fbk _ rfl) hc.2 (cV_ok G tk hy)
        · split at h
          · rename_i hc
            obtain ⟨i, hi, h⟩ := bindO h
            obtain ⟨y, hy, rfl⟩ := map_some h
            exact sx_setLc hN (ix hi) (loc hc) (G.fbk _ rfl) (ieo _ _ hy)
          · cases h
      · -- names = values
        split at h
        · cases h
        · rename_i hs
          obtain ⟨y, hy, h⟩ := bindO h
          obtain ⟨t, ht, rfl⟩ := map_some h
          exact sx_sett (swap_of (by rw [G.scope]; exact hs)) (ie _ _ hy) (iT _ _ ht)
        · rename_i names hs
          have hsw := fun k k2 tp p2 => swap_of (env := X.env) (k := k) (k2 := k2) (tp := tp) (p2 := p2) (by rw [G.scope]; exact hs)
          split at h
          · split at h
            · rename_i hc
              simp only [Bool.and_eq_true, Bool.not_eq_true', decide_eq_true_eq] at hc
              obtain ⟨⟨⟨⟨h1, h2⟩, h3⟩, h4⟩, h5⟩ := hc
              subst h5
              obtain ⟨i, hi, h⟩ := bindO h
              obtain ⟨j, hj, h⟩ := bindO h
              split at h
              · cases h
              · rename_i hij
                obtain ⟨u, hu, h⟩ := bindO h
                obtain ⟨v, hv, rfl⟩ := map_some h
                exact sx_par2 G.calm hN (ix hi) (ix hj) hij (lcl h1) (lcl h2) (pax_cons h3 (cV_ok G tk hu) (pax_cons h4 (cV_ok G tk hv) pax_nil)) (hsw _ _ _ _)
            · cases h
          · split at h
            · rename_i hc
              simp only [Bool.and_eq_true, Bool.not_eq_true', decide_eq_true_eq] at hc
              obtain ⟨⟨⟨⟨⟨⟨h1, h2⟩, h3⟩, h4⟩, h5⟩, h6⟩, h7⟩ := hc
              subst h7
              obtain ⟨i, hi, h⟩ := bindO h
              obtain ⟨j, hj, h⟩ := bindO h
              obtain ⟨m, hm, h⟩ := bindO h
              split at h
              · cases h
              · rename_i hij
                obtain ⟨u, hu, h⟩ := bindO h
                obtain ⟨v, hv, h⟩ := bindO h
                obtain ⟨w, hw, rfl⟩ := map_some h
                exact sx_par3 G.calm hN (ix hi) (ix hj) (ix hm) (fun z => hij (.inl z)) (fun z => hij (.inr (.inl z))) (fun z => hij (.inr (.inr z))) (lcl h1) (lcl h2) (lcl h3)
                  (pax_cons h4 (cV_ok G tk hu) (pax_cons h5 (cV_ok G tk hv) (pax_cons h6 (cV_ok G tk hw) pax_nil))) (hsw _ _ _ _)
            · cases h
          · cases h
      · split at h
        · cases h
        · rename_i hc
          obtain ⟨y, hy, h⟩ := bindO h
          obtain ⟨t, ht, rfl⟩ := map_some h
          exact sx_sett (swp_plain (by simpa using hc)) (ie _ _ hy) (iT _ _ ht)
      · split at h
        · rename_i hc
          simp only [Bool.and_eq_true, Bool.not_eq_true'] at hc
          obtain ⟨i, hi, h⟩ := bindO h
          obtain ⟨q, hq, h⟩ := bindO h
          obtain ⟨y, hy, rfl⟩ := map_some h
          exact sx_seti (ix hi) (vis hc.1.1) hc.1.2 hc.2 (ie _ _ hy) (ie _ _ hq)
        · cases h
      · split at h
        · rename_i hc
          simp only [Bool.and_eq_true, Bool.not_eq_true', decide_eq_true_eq] at hc
          obtain ⟨⟨⟨⟨h1, h2⟩, h3⟩, h4⟩, h5⟩ := hc
          subst h1
          obtain ⟨i, hi, h⟩ := bindO h
          obtain ⟨y, hy, rfl⟩ := map_some h
          exact sx_app (ix hi) (vis h2) h3 h4 h5 (ie _ _ hy)
        · cases h
      · split at h
        · cases h
        · rename_i hc
          obtain ⟨y, hy, rfl⟩ := map_some h
          exact sx_exp (by simpa using hc) (ie _ _ hy)
      · cases h; exact sx_retN
      · obtain ⟨y, hy, rfl⟩ := map_some h
        exact sx_ret (cV_ok G tk hy)
      · obtain ⟨z, hz, h⟩ := bindO h
        obtain ⟨x, hx, h⟩ := bindO h
        obtain ⟨y, hy, rfl⟩ := map_some h
        exact sx_if (ieo _ _ hz).2.1 (ih2 _ _ hx) (ih2 _ _ hy)
      · split at h
        · cases h
        · rename_i hs
          obtain ⟨i, hi, h⟩ := bindO h
          obtain ⟨t, ht, h⟩ := bindO h
          obtain ⟨y, hy, rfl⟩ := map_some h
          exact sx_for hp G.calm (iI _ _ _ hi) (iT _ _ ht) (ih2 _ _ hy) (fold_ok (by simpa using hs))
      · obtain ⟨z, hz, h⟩ := bindO h
        obtain ⟨y, hy, rfl⟩ := map_some h
        exact sx_while hp (ieo _ _ hz).2.1 (ih2 _ _ hy)
      · split at h
        · rename_i hc
          simp only [Bool.and_eq_true, Bool.not_eq_true'] at hc
          obtain ⟨i, hi, rfl⟩ := map_some h
          exact sx_raise G tk hc.1 hc.2 hi
        · cases h
      · split at h
        · rename_i hc
          simp only [Bool.and_eq_true, Bool.not_eq_true'] at hc
          obtain ⟨i, hi, h⟩ := bindO h
          obtain ⟨y, hy, rfl⟩ := map_some h
          exact sx_raiseT G tk hc.1.1 hc.1.2 hi (ie _ _ hy) hc.2
        · cases h
      · cases h; exact sx_pass
      · cases h
    · cases ss with
      | nil =>
        unfold cSs at h
        cases h
        exact ssx_nil
      | cons s r =>
        unfold cSs at h
        obtain ⟨a, ha, h⟩ := bindO h
        obtain ⟨b, hb, rfl⟩ := map_some h
        exact ssx_cons (ih1 _ _ ha) (ih2 _ _ hb)
end
end Ev
end

section
set_option Elab.async false
set_option linter.all false
set_option autoImplicit false
set_option maxRecDepth 100000
set_option maxHeartbeats 4000000
/-! # Defs: what is called does what the little language says -/
namespace Ev
open PySem PySem.Spec PyProof.Rows L2
section
variable {K : W.Frag} {T : List (Addr × Str)} {cl : Nat → Option Addr} {E : XK} {M : Ms} {H : Hp} {S : Store}
/-- the boxes made meanwhile are forgotten -/
def Ms.cut (M' M : Ms) : Ms := ⟨M.b, M'.x⟩
theorem cut_less {M' : Ms} (hp : M.b <+: M'.b) : ∀ a, a ∈ M'.cut M → a ∈ M' := fun a z => by
  rcases z with z | z
  · exact .inl (hp.subset z)
  · exact .inr z
theorem gr_cut {M' : Ms} {H' : Hp} (g : Gr M H M' H') : Gr M H (M'.cut M) H' where
  pre := List.prefix_refl _
  ext := g.ext
  keep := g.keep
  new := fun a z => by
    rcases z with z | z
    · exact .inl (.inl z)
    · exact g.new a (.inr z)
  newb := fun a z => .inl z
  dom := g.dom
theorem st_cut {M' : Ms} {H' : Hp} {S' : Store} (st : StOk K T M S H) (g : Gr M H M' H') (s : StOk K T M' S' H') : StOk K T (M'.cut M) (S'.take S.length) H' where
  len := by
    show M.b.length = _
    rw [List.length_take, ← s.len, st.len]
    have := List.IsPrefix.length_le g.pre
    rw [st.len] at this
    omega
  nd := st.nd
  box := fun i a b e1 e2 => by
    have e1' : M.b[i]? = some a := e1
    have hi : i < S.length := by rw [← st.len]; exact (List.getElem?_eq_some_iff.mp e1').1
    rw [List.getElem?_take_of_lt hi] at e2
    exact (s.box i a b (g.get e1') e2).less (cut_less g.pre)
  xt := fun a ha => by
    obtain ⟨n, o⟩ := s.xt a ha
    exact ⟨fun z => n (g.pre.subset z), o⟩
  tab := s.tab
theorem rp_cut {M' : Ms} {H' : Hp} {v : V} {p : PyData} (hp : M.b <+: M'.b) (h : Rp K M' H' v p) : Rp K (M'.cut M) H' v p := h.less (cut_less hp)
/-- a def's end -/
theorem out_finish {keep : Bool} {r : R F} {Q : VK} (st : StOk K T M S H) (h : Out K T cl E M H (finish keep S.length r) (RU K) Q) : Out K T cl E M H r (relF K) (endF { nx := fun _ H' => Q .non H', rt := Q }) := by
  cases r with
  | bad => exact h
  | exc c S1 =>
    obtain ⟨C, e, h⟩ := h
    exact ⟨C, e, fun d M' H' hd g s => h d _ H' hd (gr_cut g) (st_cut st g s)⟩
  | ok f S1 =>
    cases f with
    | nx ρ' =>
      intro x M' H' g s q
      cases x with
      | inr v => exact q.elim
      | inl σ' => exact h .non _ H' (gr_cut g) (st_cut st g s) Rp.non
    | rt u =>
      intro x M' H' g s q
      cases x with
      | inl σ' => exact q.elim
      | inr v =>
        have q : RU K M' H' v u := q
        cases u with
        | d p =>
          have h : Out K T cl E M H (.ok (.d p) (if keep = true then S1 else S1.take S.length)) (RU K) Q := h
          cases keep with
          | true => exact h v M' H' g s q
          | false => exact h v _ H' (gr_cut g) (st_cut st g s) (rp_cut g.pre q)
        | scr ns => exact h.elim
        | obj a => exact h.elim
        | ref i =>
          cases keep with
          | true => exact h v M' H' g s q
          | false =>
            have h : Out K T cl E M H (if i < S.length then .ok (.ref i) (S1.take S.length) else match deref S1 (.ref i) with
              | some p => .ok (.d p) (S1.take S.length)
              | none => .bad) (RU K) Q := h
            obtain ⟨a, e1, rfl⟩ := q
            split at h
            · rename_i hi
              refine h (.ref a) _ H' (gr_cut g) (st_cut st g s) ⟨a, ?_, rfl⟩
              obtain ⟨b, hb⟩ : ∃ b, M.b[i]? = some b := ⟨M.b[i]'(by rw [st.len]; exact hi), by simp [st.len, hi]⟩
              have := g.get hb
              rw [e1] at this
              cases this
              exact hb
            · rename_i hi
              split at h
              · rename_i p ep
                refine h (.ref a) _ H' (gr_cut g) (st_cut st g s) ?_
                have rs := rs_of (K := K) (T := T) (M := M') (S := S1) (H := H') (v := .ref a) (u := .ref i) ⟨a, e1, rfl⟩ s ep
                have na : a ∉ M'.cut M := by
                  rintro (z | z)
                  · obtain ⟨j, hj⟩ := List.getElem?_of_mem z
                    have hl : j < S.length := by rw [← st.len]; exact (List.getElem?_eq_some_iff.mp hj).1
                    have := nd_ix s.nd e1 (g.get hj)
                    omega
                  · exact (s.xt a z).1 (List.mem_of_getElem? e1)
                cases p with
                | list ds =>
                  obtain ⟨a', xs, e2, h2, r2⟩ := rs
                  cases e2
                  exact .lst na h2 (r2.less (cut_less g.pre))
                | none => cases rs.none
                | bool b => cases rs.bool
                | int b => cases rs.int
                | str b => cases rs.str
                | tuple ds =>
                  obtain ⟨b, hb, hbx⟩ := s.lt e1
                  cases b with
                  | lst ds => simp only [deref, hb] at ep; cases ep
                  | dct _ => exact hbx.elim
                  | ins _ _ => exact hbx.elim
                | dict kvs => cases rs
              · exact h.elim
/-- a def's names, at its start -/
theorem env_start {nn : Nat} {N : List Str} {vs : List V} {us : List U} (hn : N.length = nn) (hl : us.length ≤ nn) (r : RUs K M H vs us) : EnvOk K (start nn us) (L2.start N vs) M H := by
  have e := r.length
  refine ⟨?_, fun i u h => ?_⟩
  · unfold start L2.start
    simp
    omega
  · unfold start at h
    unfold L2.start
    by_cases hi : i < us.length
    · rw [List.getElem?_append_left (by simpa using hi), List.getElem?_map] at h
      obtain ⟨u', e1, e2⟩ := map_some h
      cases e2
      have key : ∀ {vs : List V} {us : List U} {i : Nat} {u : U}, RUs K M H vs us → us[i]? = some u → ∃ v, vs[i]? = some v ∧ RU K M H v u := fun {vs us i u} r => by
        induction r generalizing i with
        | nil => intro h; simp at h
        | cons h1 _ ih =>
          intro h
          cases i with
          | zero => simp at h; subst h; exact ⟨_, rfl, h1⟩
          | succ i => simpa using ih (i := i) (by simpa using h)
      obtain ⟨v, e3, r3⟩ := key r e1
      refine ⟨v, ?_, r3⟩
      rw [List.getElem?_append_left (by simp; omega), List.getElem?_map, e3]
      rfl
    · rw [List.getElem?_append_right (by simpa using hi), List.getElem?_replicate] at h
      split at h <;> cases h
end
end Ev
end

section
set_option Elab.async false
set_option linter.all false
set_option autoImplicit false
set_option maxRecDepth 100000
set_option maxHeartbeats 4000000
/-! # All defs of a program's table -/
namespace Ev
open PySem PySem.Spec PyProof.Rows L2
/-- a def: its name, its text, all its names (the parameters first), its parameters; the names of lists that are changed in place; lambdas are made; a list is handed back that is changed in place -/
structure Row where
  nm : Str
  st : Stmt
  N : List Str
  ps : List Str
  bx : List Str
  lam : Bool
  keep : Bool
def Row.cfg (g : Cfg) (r : Row) : Cfg := { g with bx := r.bx, lam := r.lam, keep := r.keep }
def Row.ir (g : Cfg) (r : Row) : Option Fn := (cSs (r.cfg g) r.N (defScope r.st) 1000 (defBody r.st)).map fun b => ⟨r.ps.length, r.N.length, r.keep, b⟩
/-- how the arguments of a def bind -/
def Row.Bnd (r : Row) : Prop := ∀ (kV doc pm : Value) (an : Option Addr) (cdv ct : Value) (us : List Value), us.length = r.ps.length → bindArgs (W.fnOf r.nm r.nm (defArgs r.st) (defBody r.st) (defScope r.st) .none kV doc pm an cdv ct) ⟨us, []⟩ = pure (r.ps.zip us)
/-- what the program's top has laid -/
structure Lay (g : Cfg) (rows : List Row) (tab : Tab) (T : List (Addr × Str)) (cl : Nat → Option Addr) (P : Program) (w : World) (K : W.Frag) (mg : Str → Option Value) (base : Heap) : Prop where
  ir : ∀ (i : Nat) r, rows[i]? = some r → ∃ fn, tab.fns[i]? = some fn ∧ r.ir g = some fn
  sc : ∀ r, r ∈ rows → FnScope r.N r.ps (defScope r.st)
  bnd : ∀ r, r ∈ rows → r.Bnd
  fn : ∀ r, r ∈ rows → ∃ f fd, mg r.nm = some (.ref f) ∧ FunD K r.nm r.nm (defArgs r.st) (defBody r.st) (defScope r.st) [] [] f fd
  lam : ∀ r, r ∈ rows → r.lam = true → ∀ f fd, mg r.nm = some (.ref f) → FunD K r.nm r.nm (defArgs r.st) (defBody r.st) (defScope r.st) [] [] f fd → ∃ cA Pt, fd.code = .ref cA ∧ LamX.TabB base mg cA Pt ∧ (Pt, r.nm ++ ".<locals>." ++ "<lambda>") ∈ T ∧ ∀ p ∈ T, p.1 = Pt → p.2 = r.nm ++ ".<locals>." ++ "<lambda>"
  ix : ∀ x i, g.fnIx x = some i → ∃ r, rows[i]? = some r ∧ r.nm = x
  np : ∀ i, g.np i = (rows[i]?).map (·.ps.length)
  clss : ∀ x i, g.clIx x = some i → ∃ C, cl i = some C ∧ mg x = some (.ref C) ∧ W.keepIn K (.ref C) = true ∧ W.excIn K C [.type "ValueError", .type "Exception", .type "BaseException", .type "object"] "ValueError.__new__" = true ∧ W.subIn K (.ref C) (.type "BaseException") = some true ∧ W.typeIn K (.ref C) = some (.type "type")
  clst : ∀ x i, g.clTx x = some i → ∃ C f fI, cl i = some C ∧ mg x = some (.ref C) ∧ TmDef P K mg C fI f ∧ W.findIn K (.ref C) "__init__" = some (some (.ref fI)) ∧ W.typeIn K (.ref fI) = some (.type "function")
  nms : ∀ i z, tab.nm i = some z → ∃ C, cl i = some C
  errs : ∀ x, g.errs x = true → ErrDef T cl tab.nm P w K mg base x
  blts : ∀ x, x ∈ bltNames → mg x = none
  cons : ∀ x p, g.con x = some p → ∃ u v, mg x = some u ∧ RelV v u ∧ ∀ M H, Rp K M H v p
section
variable {g : Cfg} {rows : List Row} {tab : Tab} {T : List (Addr × Str)} {cl : Nat → Option Addr} {P : Program} {w : World} {K : W.Frag} {mg : Str → Option Value} {base : Heap}
/-- calls that come to nothing -/
theorem fn_bad {cf : CF} {i k n : Nat} {f : Addr} {fd : FuncData} {ps : List Str} (hl : ps.length = n) (h : ∀ us S, cf i us S = .bad) : FnOk P w K mg base (L2N.CX P w) k f fd ps (spC K T cl cf i n) :=
  ⟨fun vs H Q E ⟨M, S, us, _, _, _, q⟩ => (by rw [h] at q; exact q.elim), fun A outer s H args us vs Q E _ _ _ _ ⟨M, S, us', _, _, _, q⟩ => by rw [h] at q; exact q.elim⟩
/-- a table of calls of one depth keeps its word -/
def All (g : Cfg) (rows : List Row) (T : List (Addr × Str)) (cl : Nat → Option Addr) (P : Program) (w : World) (K : W.Frag) (mg : Str → Option Value) (base : Heap) (k : Nat) (cf : CF) : Prop :=
  ∀ (i : Nat) r, rows[i]? = some r → ∀ f fd, mg r.nm = some (.ref f) → FunD K r.nm r.nm (defArgs r.st) (defBody r.st) (defScope r.st) [] [] f fd → FnOk P w K mg base (L2N.CX P w) k f fd r.ps (spC K T cl cf i r.ps.length)
theorem all_bad {k : Nat} {cf : CF} (h : ∀ i us S, cf i us S = .bad) : All g rows T cl P w K mg base k cf := fun i r hr f fd _ _ => fn_bad rfl fun us S => h i us S
/-- a body that is walked in the context of its def -/
theorem good_of (L : Lay g rows tab T cl P w K mg base) {n : Nat} {c : Cn} {r : Row} (hr : r ∈ rows) {f : Addr} {fd : FuncData} (hf : mg r.nm = some (.ref f)) (F : FunD K r.nm r.nm (defArgs r.st) (defBody r.st) (defScope r.st) [] [] f fd)
    (hc : All g rows T cl P w K mg base (n + 2) c.call) (hl : ∀ lf, c.low = some lf → All g rows T cl P w K mg base n lf) (hnm : c.nm = tab.nm)
    (ar : ∀ (i m : Nat) us S, g.np i = some m → us.length ≠ m → c.call i us S = .bad) (arL : ∀ lf, c.low = some lf → ∀ (i m : Nat) us S, g.np i = some m → us.length ≠ m → lf i us S = .bad)
    {A : Around} {outer : List Env} {s : Shared} {H : Hp} {E : XK} {cdv : Value} (hcd : fd.code = cdv) (hR : Room (n + 2) (A.deeper (envOfC r.nm (defScope r.st) s.heap.objs.size f cdv))) :
    Good (r.cfg g) T cl c (n + 2) n (cxOf (L2N.CX P w) P w K mg base r.N r.nm (defScope r.st) f cdv A outer s H E) r.N (defScope r.st) fbDef where
  names := rfl
  nd := (L.sc r hr).nd
  scope := rfl
  calm := rfl
  room := hR
  fbk := fun _ _ => .inl rfl
  fns := fun x i hi => by
    obtain ⟨r', h1, h2⟩ := L.ix x i hi
    have hm := List.mem_of_getElem? h1
    obtain ⟨f', fd', h3, F'⟩ := L.fn r' hm
    refine ⟨f', fd', r'.ps, r'.ps.length, ?_, rfl, by rw [← h2]; exact h3, F'.kp, F'.bindsN (L.bnd r' hm), hc i r' h1 f' fd' h3 F', fun lf e => hl lf e i r' h1 f' fd' h3 F'⟩
    show g.np i = _
    rw [L.np, h1]
    rfl
  low := fun lf e => ⟨Nat.le_refl _, fun z => by
    obtain ⟨cA, Pt, h1, h2, h3, h4⟩ := L.lam r hr z f fd hf F
    refine ⟨cA, Pt, h2, ?_, h3, h4⟩
    show cdv = _
    rw [← hcd, h1]⟩
  clss := L.clss
  clst := L.clst
  nms := by rw [hnm]; exact L.nms
  errs := by rw [hnm]; exact L.errs
  ar := ar
  arL := arL
  blts := L.blts
  cons := L.cons
theorem runF_ar {c : Cn} (L : Lay g rows tab T cl P w K mg base) (i m : Nat) (us : List U) (S : Store) (h : g.np i = some m) (hl : us.length ≠ m) : runF tab c i us S = .bad := by
  rw [L.np] at h
  obtain ⟨r, e1, rfl⟩ := map_some h
  obtain ⟨fn, e2, e3⟩ := L.ir i r e1
  unfold Row.ir at e3
  obtain ⟨b, _, rfl⟩ := map_some e3
  unfold runF
  rw [e2]
  exact if_neg hl
/-- one depth more -/
theorem all_run (L : Lay g rows tab T cl P w K mg base) {n : Nat} {c : Cn} (hc : All g rows T cl P w K mg base (n + 2) c.call) (hl : ∀ lf, c.low = some lf → All g rows T cl P w K mg base n lf) (hnm : c.nm = tab.nm)
    (ar : ∀ (i m : Nat) us S, g.np i = some m → us.length ≠ m → c.call i us S = .bad) (arL : ∀ lf, c.low = some lf → ∀ (i m : Nat) us S, g.np i = some m → us.length ≠ m → lf i us S = .bad) : All g rows T cl P w K mg base (n + 3) (runF tab c) := by
  intro i r hi f fd hf F
  have hr := List.mem_of_getElem? hi
  obtain ⟨fn, e2, e3⟩ := L.ir i r hi
  have S := L.sc r hr
  obtain ⟨oc, od, dV, kV, doc, pm, an, cdv, ct, osl, efd, lk, hcd, _, _⟩ := F.ex
  have hcode : fd.code = cdv := by rw [efd]
  subst efd
  unfold Row.ir at e3
  obtain ⟨b, e4, e5⟩ := map_some e3
  have hpl : r.ps.length ≤ r.N.length := by
    have := congrArg List.length S.pre
    rw [List.length_take] at this
    omega
  refine fn_of lk hcd S (fun vs H Q E ⟨M, S', us, ru, _, hl', _⟩ => by rw [ru.length, hl']) fun A outer s H vs Q E hR ⟨M, S', us, ru, st, hl', q⟩ => ?_
  have G := good_of L (c := c) hr hf F hc hl hnm ar arL (A := A) (outer := outer) (s := s) (H := H) (E := E) hcode hR
  refine ⟨_, (cS_ok G (L2N.takes_of rfl rfl rfl rfl) (passes_of rfl) 1000).2 _ _ e4, start r.N.length us, M, S', env_start rfl (by omega) ru, st, out_finish (keep := r.keep) st ?_⟩
  unfold runF at q
  rw [e2, ← e5] at q
  dsimp only at q
  rw [if_pos hl'] at q
  exact q
theorem all_ok (L : Lay g rows tab T cl P w K mg base) : ∀ n, (All g rows T cl P w K mg base (n + 2) (callP tab n).a ∧ All g rows T cl P w K mg base (n + 1) (callP tab n).b ∧ All g rows T cl P w K mg base n (callP tab n).c) ∧
    (∀ (i m : Nat) us S, g.np i = some m → us.length ≠ m → (callP tab n).a i us S = .bad) ∧ (∀ (i m : Nat) us S, g.np i = some m → us.length ≠ m → (callP tab n).b i us S = .bad) ∧ ∀ (i m : Nat) us S, g.np i = some m → us.length ≠ m → (callP tab n).c i us S = .bad := by
  intro n
  induction n with
  | zero => exact ⟨⟨all_bad fun _ _ _ => rfl, all_bad fun _ _ _ => rfl, all_bad fun _ _ _ => rfl⟩, fun _ _ _ _ _ _ => rfl, fun _ _ _ _ _ _ => rfl, fun _ _ _ _ _ _ => rfl⟩
  | succ n ih =>
    obtain ⟨⟨h1, h2, h3⟩, a1, a2, a3⟩ := ih
    have low : ∀ lf, (cnN tab n).low = some lf → lf = (callP tab n).c := fun lf e => by cases e; rfl
    exact ⟨⟨all_run L (c := cnN tab n) h1 (fun lf e => by rw [low lf e]; exact h3) rfl a1 (fun lf e => by rw [low lf e]; exact a3), h1, h2⟩, fun i m us S h hl => runF_ar L i m us S h hl, a1, a2⟩
/-- the law's def -/
theorem law_ok (L : Lay g rows tab T cl P w K mg base) {i n : Nat} {r : Row} (hi : rows[i]? = some r) {f : Addr} {fd : FuncData} (hf : mg r.nm = some (.ref f)) (F : FunD K r.nm r.nm (defArgs r.st) (defBody r.st) (defScope r.st) [] [] f fd) :
    FnOk P w K mg base (L2N.CX P w) (n + 2) f fd r.ps (spC K T cl (callN tab n) i r.ps.length) := (all_ok L n).1.1 i r hi f fd hf F
end
end Ev
end

section
set_option Elab.async false
set_option linter.all false
set_option autoImplicit false
set_option maxRecDepth 100000
set_option maxHeartbeats 4000000
/-! # What is to be asked of the class with a maker; a hook that sees the statics too -/
namespace Ev
open PySem PySem.Spec PyProof.Rows L2
theorem tm_binds {nm qual : Str} {n1 n2 : Option Expr} {q1 q2 : Pos} {body : List Stmt} {scope : Scope} {kV doc pm cdv ct : Value} {an : Option Addr} {cc : Addr} (a v : Value) :
    bindArgs (W.ksFn nm qual ⟨[], [⟨"self", n1, q1⟩, ⟨"limit", n2, q2⟩], none, [], [], none, []⟩ body scope .none kV doc pm an cdv ct cc) ⟨[a, v], []⟩ = pure [(("self" : Str), a), (("limit" : Str), v)] := by first | rfl | kernel_rfl
def eqVN : Value → Bool
  | .none => true
  | _ => false
def tmCode (file : Str) (K : W.Frag) (cda : Addr) : Bool := match K.lookup cda with
  | some ⟨_, _, .fields vs, _⟩ => (match (vs[2]? : Option Value) with
    | some (.str z _) => decide (z = file)
    | _ => false)
  | _ => false
def tmCell (K : W.Frag) (cc C : Addr) : Bool := match K.lookup cc with
  | some ⟨_, _, .cell (some (.ref D)), _⟩ => decide (D = C)
  | _ => false
def tmScope (sc : Scope) (x y : Str) : Bool :=
  decide (sc.names.lookup ("super" : Str) = some .globalImplicit) && decide (sc.names.lookup ("__class__" : Str) = some .free) && decide (sc.names.lookup x = some .local) && decide (sc.names.lookup y = some .local) && decide (sc.kind = .function) && !sc.isCoroutine && !sc.isGenerator &&
  (sc.names.all fun z => decide (z.2 ≠ .cell)) && !(x == ("__debug__" : Str)) && !(y == ("__debug__" : Str)) && decide (y ≠ x)
def tmBody (f x y : Str) : List Stmt → Bool
  | [.Expr (.Call (.Attribute (.Call (.Name s _) [] [] _) i p2) [.Constant (.str _) _ _] [] p4) _, .Assign [.Attribute (.Name x1 _) f1 _] (.Name y1 _) _] => decide (s = "super") && decide (i = "__init__") && decide (x1 = x) && decide (y1 = y) && decide (f1 = f) && (p2.endLine == p4.line)
  | _ => false
def tmFun (file : Str) (K : W.Frag) (C fI : Addr) (f : Str) : Bool := match K.lookup fI with
  | some ⟨_, _, .func fd, _⟩ => (match fd.params, fd.body, fd.closure, fd.code with
    | ⟨[], [a1, a2], none, [], [], none, []⟩, .stmts b, [(c, cc)], .ref cda => decide (c = "__class__") && decide (a1.arg = "self") && decide (a2.arg = "limit") && tmBody f a1.arg a2.arg b && tmScope fd.scope a1.arg a2.arg && W.codeIn K (.ref cda) fd.qualname && tmCode file K cda && tmCell K cc C && eqVN fd.defaults && decide (fd.globals = mainGlobals) && decide (fd.builtins = builtinsNs)
    | _, _, _, _ => false)
  | _ => false
def tmCls (K : W.Frag) (C : Addr) : Bool := match K.lookup C with
  | some ⟨.type t, _, .cls cd, sl⟩ => decide (t = "type") && (match cd.mro, sl.toList with
    | .ref D :: bm, [_, _, _, _, some (.builtin n), _] => decide (D = C) && decide (n = "ValueError.__new__") && cd.hasDict && !cd.hasDel && PySem.HandSPX.refsVE bm
    | _, _ => false)
  | _ => false
def tmB (file : Str) (K : W.Frag) (C fI : Addr) (f : Str) : Bool :=
  tmCls K C && decide (W.findIn K (.ref C) "__setattr__" = some (some (.builtin "object.__setattr__"))) && decide (W.subIn K (.ref C) (.type "BaseException") = some true) && decide (W.typeIn K (.ref C) = some (.type "type")) && W.keepIn K (.ref C) &&
  decide (W.ks_superIn K C C "__init__" = some (some (.builtin "ValueError.__init__"))) && decide (W.subIn K (.ref C) (.type "ValueError") = some true) && decide (W.mroIn K C (.ref C) = some true) && decide (W.nsIn K cStatics "thirdparty.any" = some none) && decide (W.findIn K (.ref C) f = some none) &&
  tmFun file K C fI f && decide (W.findIn K (.ref C) "__init__" = some (some (.ref fI))) && decide (W.typeIn K (.ref fI) = some (.type "function"))
theorem eqVN_ok {v : Value} (h : eqVN v = true) : v = .none := by cases v <;> first | rfl | cases h
theorem tmCls_ok {K : W.Frag} {C : Addr} (h : tmCls K C = true) : ∃ nm q N bs bm sn sub ab col dd k0 k1 k2 k3 k5, K.lookup C = some (excClassObj nm q C N bs bm true sn sub ab col dd k0 k1 k2 k3 k5 "ValueError.__new__") ∧ PySem.HandSPX.refsVE bm = true := by
  unfold tmCls at h
  split at h
  · rename_i t dd cd sl e
    rw [Bool.and_eq_true, decide_eq_true_eq] at h
    obtain ⟨rfl, h⟩ := h
    split at h
    · rename_i D bm k0 k1 k2 k3 n k5 hm hs
      simp only [Bool.and_eq_true, decide_eq_true_eq, Bool.not_eq_true'] at h
      obtain ⟨⟨⟨⟨rfl, rfl⟩, h1⟩, h2⟩, h3⟩ := h
      obtain ⟨nm, bs, mro, ns, qn, hd, sn, sub, ab, col, del⟩ := cd
      dsimp only at hm h1 h2
      subst hm h1 h2
      obtain ⟨l⟩ := sl
      have hs : l = [k0, k1, k2, k3, some (.builtin "ValueError.__new__"), k5] := hs
      subst hs
      exact ⟨nm, qn, ns, bs, bm, sn, sub, ab, col, dd, k0, k1, k2, k3, k5, e, h3⟩
    · cases h
  · cases h
theorem tmCode_ok {file : Str} {K : W.Frag} {a : Addr} (h : tmCode file K a = true) : ∃ cl d vs sl t, K.lookup a = some ⟨cl, d, .fields vs, sl⟩ ∧ vs[2]? = some (.str file t) := by
  unfold tmCode at h
  split at h
  · rename_i cl d vs sl e
    split at h
    · rename_i z t e2
      have h := of_decide_eq_true h
      subst h
      exact ⟨cl, d, vs, sl, t, e, e2⟩
    · cases h
  · cases h
theorem tmCell_ok {K : W.Frag} {a C : Addr} (h : tmCell K a C = true) : ∃ cl d sl, K.lookup a = some ⟨cl, d, .cell (some (.ref C)), sl⟩ := by
  unfold tmCell at h
  split at h
  · rename_i cl d D sl e
    have h := of_decide_eq_true h
    subst h
    exact ⟨cl, d, sl, e⟩
  · cases h
theorem tmBody_ok {f x y : Str} {b : List Stmt} (h : tmBody f x y b = true) : ∃ m j p0 p1 p2 p3 p4 p5 p6 p7 p8 p9, (p2.endLine == p4.line) = true ∧
    b = [.Expr (.Call (.Attribute (.Call (.Name "super" p0) [] [] p1) "__init__" p2) [.Constant (.str m) j p3] [] p4) p5, .Assign [.Attribute (.Name x p6) f p7] (.Name y p8) p9] := by
  unfold tmBody at h
  split at h
  · simp only [Bool.and_eq_true, decide_eq_true_eq] at h
    obtain ⟨⟨⟨⟨⟨rfl, rfl⟩, rfl⟩, rfl⟩, rfl⟩, h⟩ := h
    exact ⟨_, _, _, _, _, _, _, _, _, _, _, _, h, rfl⟩
  · cases h
theorem tmB_ok {file : Str} {P : Program} {K : W.Frag} {mg : Str → Option Value} {C fI : Addr} {f : Str} (h : tmB file K C fI f = true) (hfile : ((P.main.file : Str) == file) = true) (htop : (P.main.scope.names.lookup ("super" : Str)).isSome = false) (hmg : mg "super" = none) :
    TmDef P K mg C fI f ∧ W.findIn K (.ref C) "__init__" = some (some (.ref fI)) ∧ W.typeIn K (.ref fI) = some (.type "function") := by
  unfold tmB at h
  simp only [Bool.and_eq_true, decide_eq_true_eq] at h
  obtain ⟨⟨⟨⟨⟨⟨⟨⟨⟨⟨⟨⟨h1, h2⟩, h3⟩, h4⟩, h5⟩, h6⟩, h7⟩, h8⟩, h9⟩, h10⟩, h11⟩, h12⟩, h13⟩ := h
  refine ⟨⟨⟨tmCls_ok h1, h2, h3, h4, h5⟩, h6, h7, h8, h9, hmg, htop, h10, ?_⟩, h12, h13⟩
  unfold tmFun at h11
  split at h11
  · rename_i oc od fd osl e
    obtain ⟨nm, qual, params, fbody, scope, globals, closure, dV, kV, doc, pm, an, code, ct, builtins⟩ := fd
    dsimp only at h11
    split at h11
    · rename_i a1 a2 b c cc cda
      simp only [Bool.and_eq_true, decide_eq_true_eq] at h11
      obtain ⟨⟨⟨⟨⟨⟨⟨⟨⟨⟨h1, h2⟩, h3⟩, h4⟩, h5⟩, h6⟩, h7⟩, h8⟩, h9⟩, h10⟩, h11⟩ := h11
      obtain ⟨x1, n1, q1⟩ := a1
      obtain ⟨x2, n2, q2⟩ := a2
      dsimp only at h2 h3 h4 h5
      have h9 := eqVN_ok h9
      subst h1 h2 h3 h9 h10 h11
      obtain ⟨m, j, p0, p1, p2, p3, p4, p5, p6, p7, p8, p9, hl, rfl⟩ := tmBody_ok h4
      obtain ⟨ccl, cdd, vs, ccs, tf, c1, c2⟩ := tmCode_ok h7
      obtain ⟨cl, cld, csl, d1⟩ := tmCell_ok h8
      unfold tmScope at h5
      simp only [Bool.and_eq_true, decide_eq_true_eq, Bool.not_eq_true', List.all_eq_true] at h5
      obtain ⟨⟨⟨⟨⟨⟨⟨⟨⟨⟨s1, s2⟩, s3⟩, s4⟩, s5⟩, s6⟩, s7⟩, s8⟩, s9⟩, s10⟩, s11⟩ := h5
      refine ⟨cda, cc, nm, qual, m, file, ⟨"self", n1, q1⟩, ⟨"limit", n2, q2⟩, scope, .none, kV, doc, pm, ct, oc, ccl, cl, an, od, cdd, cld, osl, ccs, csl, vs, tf, j, p0, p1, p2, p3, p4, p5, p6, p7, p8, p9, e, h6, c1, c2, hfile, d1, s1, s2, s3, s4, s5, s6, s7, s8, s9, s10, s11, hl, fun s a v => BindsTo.of_eq (tm_binds a v)⟩
    · cases h11
  · cases h11
/-! ### a hook that sees the statics too -/
def asY (g : Addr → Option Obj) (n : Nat) : List Addr := cStatics :: He.asD g n
def obsY (n : Nat) (fa : List He.Fa) (fn : List He.DefD) (tf : List He.Defn) (ex : W.Frag → Bool) (g : Addr → Option Obj) : He.AlX := (He.obsT fa fn [] (He.frT g (asY g n)), ex (He.frT g (asY g n)) && He.tabsB g tf (He.frT g (asY g n)))
theorem saysY {K : W.Frag} {g : Addr → Option Obj} {as : List Addr} (hK : K = He.frT g as) {fa : List He.Fa} {fn : List He.DefD} {tf : List He.Defn} {ex : W.Frag → Bool} {w : World} {h : Heap} (hg : g = h.get?) (e : (He.obsT fa fn [] K, ex K && He.tabsB g tf K) = He.valX fn [] w) : He.SaysX fa fn [] tf ex w h K := by
  obtain ⟨e1, e2⟩ := Prod.mk.inj e
  rw [Bool.and_eq_true] at e2
  have tab : ∀ p, p ∈ tf → W.codeHdIn K (He.cT K p).1 (He.cT K p).2 = true ∧ ∃ o, h.get? (He.cT K p).2 = some o ∧ He.emptyTab o = true := fun p hp => by
    have q := List.all_eq_true.mp e2.2 p hp
    rw [Bool.and_eq_true, hg] at q
    cases z : h.get? (He.cT K p).2 with
    | none => rw [z] at q; cases q.2
    | some o => rw [z] at q; exact ⟨q.1, o, rfl, q.2⟩
  exact {
    t := e1
    more := e2.1
    hd := fun p hp => (tab p hp).1
    out := fun p hp => by
      obtain ⟨_, o, z1, z2⟩ := tab p hp
      have z3 := He.frT_none (as := as) (g := g) (by rw [hg]; exact z1) z2
      rw [← hK] at z3
      exact z3
    empty := fun p hp => by
      obtain ⟨_, o, z1, z2⟩ := tab p hp
      rw [z1, He.emptyTab_eq z2] }
def hookY (n : Nat) (fa : List He.Fa) (fn : List He.DefD) (tf : List He.Defn) (ex : W.Frag → Bool) : W.Hook where
  α := He.AlX
  obs := fun s => obsY n fa fn tf ex s.heap.get?
  val := fun w => He.valX fn [] w
  says := fun w h => ∃ K : W.Frag, K.In h ∧ He.SaysX fa fn [] tf ex w h K
  of := fun _ _ e => ⟨_, He.frT_in, saysY rfl rfl e⟩
  keeps := fun _ _ _ z k => by
    obtain ⟨K, i, c⟩ := z
    exact ⟨K, i.keeps k, ⟨c.t, c.more, c.hd, c.out, fun p hp => k _ _ (c.empty p hp)⟩⟩
theorem obsY_eq {n : Nat} {fa : List He.Fa} {fn : List He.DefD} {tf : List He.Defn} {ex : W.Frag → Bool} {g : Addr → Option Obj} {s : Shared} (h : ∀ a, g a = s.heap.get? a) : obsY n fa fn tf ex g = (hookY n fa fn tf ex).obs s := by
  rw [show g = s.heap.get? from funext h]
  rfl
end Ev
end

section
set_option Elab.async false
set_option linter.all false
set_option autoImplicit false
set_option maxRecDepth 100000
set_option maxHeartbeats 4000000
/-! # While an exception is handled: ends of iterators, tuples taken apart -/
namespace Ev
open PySem PySem.Spec PyProof.Rows L2 HotX
section
variable {prog : Program} {w : World} {A : Around} {E : Value → Shared → Prop} {s : Shared} {x1 : Addr}
theorem hot_keep {h h' : Heap} {it : Addr} (hot : HotAt A x1 h) (n : x1 ≠ it) (k : Heap.ExtBut it h h') : HotAt A x1 h' := by
  obtain ⟨hh, o, vs, e, d, c⟩ := hot
  exact ⟨hh, o, vs, k _ _ n e, d, c⟩
/-- a StopIteration is made and thrown -/
theorem stop_hot {α : Type} {Q : α → Shared → Prop} (hot : HotAt A x1 s.heap)
    (hE : ∀ h' e, (∀ b o, s.heap.get? b = some o → h'.get? b = some o) → (∃ o, h'.get? e = some o ∧ o.cls = .type "StopIteration") → E (.ref e) { s with heap := h' }) :
    wpAny (model prog w) A ((newExc (.type "StopIteration") [] : Sem Value) >>= fun e => (raiseNew e : Sem α)) Q E s := by
  obtain ⟨hh, o1, vs1, h1, d1, c1⟩ := hot
  refine wpAny_bind ?_
  simp only [newExc, newTuple]
  refine wpAny_bind (wpAny_newObj_type ?_ (by size_fits))
  refine wpAny_bind (m := firstArgMember _ _) (wpAny_of_eq (a := Value.none) (by first | rfl | (simp only [firstArgMember]; rfl)) ?_)
  refine wpAny_newObj_type ?_ (by size_fits)
  refine raiseNew_hot ⟨hh, o1, vs1, Heap.get?_push_of_some _ (Heap.get?_push_of_some _ h1), d1, c1⟩ (Nat.ne_of_lt (Heap.lt_size (Heap.get?_push_of_some _ h1))) (Heap.get?_push_size _ rfl) rfl (by first | (simp; done) | (simp; omega) | (simp only [Array.size_append]; simp; omega)) ?_
  refine hE _ _ (fun b o e => ?_) ⟨_, Heap.get?_update_self _ (Heap.get?_push_size _ rfl) rfl, rfl⟩
  rw [Heap.get?_update_other _ _ (Nat.ne_of_gt (Heap.lt_size (Heap.get?_push_of_some _ e)))]
  exact Heap.get?_push_of_some _ (Heap.get?_push_of_some _ e)
/-- the end of a tuple's iterator -/
theorem tupEnd_hot {it t : Addr} {i : Nat} {items : Array Value} {Q : Option Value → Shared → Prop} (hot : HotAt A x1 s.heap) (hn : x1 ≠ it) (hit : IsTupIter s.heap it t i) (ht : IsTup s.heap t items) (hx : items[i]? = none)
    (hQ : ∀ h', Heap.ExtBut it s.heap h' → Q none { s with heap := h' }) : wpAny (model prog w) A (pyNext (.ref it)) Q E s := by
  obtain ⟨o, ho, hc, hd⟩ := id hit
  obtain ⟨ol, hol, _, nl, hdl⟩ := ht
  unfold pyNext
  refine wpAny_bind (wpAny_attempt (wpAny_callSpecial?_slot (name := Str.ofString "__next__") hit.typeIs slot_tupleiter_next
    (wpAny_call_entry slot_tupleiter_next hit.typeIs entry_tupleiter_next ?_ (args_tupleiter_next _))))
  show wpAny _ _ (field (.ref it) 0 >>= _) _ _ s
  refine wpAny_bind (wpAny_field ho hd (x := .ref t) rfl ?_)
  show wpAny _ _ (if (Value.ref t == Value.none) = true then _ else _) _ _ s
  rw [if_neg (show ¬ ((Value.ref t == Value.none) = true) from Bool.false_ne_true)]
  show wpAny _ _ (field (.ref it) 1 >>= _) _ _ s
  refine wpAny_bind (wpAny_field ho hd (x := .int i 0) rfl ?_)
  show wpAny _ _ (seqItems? (.ref t) >>= _) _ _ s
  refine wpAny_bind (wpAny_seqItems hol hdl ?_)
  simp only [Int.toNat_natCast, hx]
  have sb := Heap.SameBut.update s.heap it (Obj.mapFields (·.setIfInBounds 0 .none))
  refine wpAny_bind (wpAny_rule (wpAny_bind (wpAny_setField ho hd (by simp) (stop_hot (hot_keep hot hn sb.extBut) fun h' e k he => ?_))))
  obtain ⟨oe, e1, e2⟩ := he
  refine wpAny_bind (wpAny_isInstance (T := "StopIteration") (b := true) ⟨oe, e1, e2⟩ isSubtype_stop ?_)
  exact wpAny_pure (hQ _ fun b u hb q => k _ _ (sb.extBut b u hb q))
theorem unpackItems_hot {t : Addr} {items : Array Value} {Q : List Value → Shared → Prop} (hot : HotAt A x1 s.heap) (ht : IsTup s.heap t items)
    (hQ : ∀ h', Heap.ExtBut s.heap.objs.size s.heap h' → Q items.toList { s with heap := h' }) : wpAny (model prog w) A (unpackItems (.ref t) items.size none) Q E s := by
  have hlt : t ≠ s.heap.objs.size := by obtain ⟨o, ho, _⟩ := ht; exact Nat.ne_of_lt (Heap.lt_size ho)
  have hx1 : x1 ≠ s.heap.objs.size := by obtain ⟨_, o, _, ho, _⟩ := hot; exact Nat.ne_of_lt (Heap.lt_size ho)
  unfold unpackItems
  refine wpAny_bind ?_
  unfold notIterableAtAll
  refine wpAny_bind (wpAny_specialOf ht.typeIs slot_tuple_iter.lookup ?_)
  refine wpAny_pure ?_
  simp only [Bool.false_eq_true, if_false]
  refine wpAny_bind (wpAny_holding (iter_tuple ht ?_))
  refine wpAny_bind (wpAny_holding (draw_tuple hlt items.size 0 _ _ ⟨_, Heap.get?_push_size _ rfl, rfl, rfl⟩ (ht.push _) (by omega) fun h₁ hit₁ hs₁ => ?_))
  have hall : List.take items.size (List.drop 0 items.toList) = items.toList := by
    rw [List.drop_zero]; exact List.take_of_length_le (by simp)
  rw [hall, if_neg (by simp)]
  have ht₁ : IsTup h₁ t items := (ht.push _).extBut hs₁.extBut hlt
  have k1 : Heap.ExtBut s.heap.objs.size s.heap h₁ := fun b o hb e => hs₁.extBut b o hb (Heap.get?_push_of_some _ e)
  refine wpAny_bind (wpAny_holding (tupEnd_hot (hot_keep hot hx1 k1) hx1 hit₁ ht₁ (by simp) fun h₂ he₂ => ?_))
  simp only [Option.isSome_none, Bool.false_eq_true, if_false]
  exact wpAny_pure (hQ h₂ fun b o hb e => he₂ b o hb (k1 b o hb e))
theorem assignTup_hot {env : Env} {elts : List Expr} {x0} {pos : Pos} {t : Addr} {items : Array Value} {Q : Unit → Shared → Prop} (hot : HotAt A x1 s.heap) (ht : IsTup s.heap t items)
    (hn : (assignEach elts env).length = items.size) (hstar : (assignEach elts env).findIdx? (·.1) = none)
    (h : ∀ h', Heap.ExtBut s.heap.objs.size s.heap h' → wpAny (model prog w) A (assignInOrder ((assignEach elts env).map (·.2)) items.toList) Q E { s with heap := h' }) :
    wpAny (model prog w) A (assign (.Tuple elts x0 pos) env (.ref t)) Q E s := by
  rw [assign_Tuple]
  refine wpAny_bind (wpAny_standAt ?_)
  unfold unpack
  rw [hn, hstar]
  exact wpAny_bind (wpAny_holding (unpackItems_hot hot ht h))
/-- the end of a list's iterator, within zip -/
theorem lstEnd_hot {it l : Addr} {i : Nat} {items : Array Value} {Q : Value → Shared → Prop} (hot : HotAt A x1 s.heap) (hn : x1 ≠ it) (hit : s.heap.IsListIter it l i) (hl : s.heap.IsList l items) (hx : items[i]? = none)
    (hE : ∀ h' e, Heap.ExtBut it s.heap h' → (∃ o, h'.get? e = some o ∧ o.cls = .type "StopIteration") → E (.ref e) { s with heap := h' }) :
    wpAny (model prog w) A (Builtin.SmallTypes.nextOf (.ref it)) Q E s := by
  obtain ⟨o, ho, hc, hd⟩ := id hit
  obtain ⟨ol, hol, _, nl, hdl⟩ := hl
  unfold Builtin.SmallTypes.nextOf
  refine wpAny_bind (wpAny_callSpecial?_slot (name := Str.ofString "__next__") hit.typeIs slot_listiter_next
    (wpAny_call_entry slot_listiter_next hit.typeIs entry_listiter_next ?_ (args_listiter_next _)))
  show wpAny _ _ (field (.ref it) 0 >>= _) _ _ s
  refine wpAny_bind (wpAny_field ho hd (x := .ref l) rfl ?_)
  show wpAny _ _ (if (Value.ref l == Value.none) = true then _ else _) _ _ s
  rw [if_neg (show ¬ ((Value.ref l == Value.none) = true) from Bool.false_ne_true)]
  show wpAny _ _ (field (.ref it) 1 >>= _) _ _ s
  refine wpAny_bind (wpAny_field ho hd (x := .int i 0) rfl ?_)
  show wpAny _ _ (seqItems? (.ref l) >>= _) _ _ s
  refine wpAny_bind (wpAny_seqItems hol hdl ?_)
  simp only [Int.toNat_natCast, hx]
  have sb := Heap.SameBut.update s.heap it (Obj.mapFields (·.setIfInBounds 0 .none))
  refine wpAny_bind (wpAny_rule (wpAny_bind (wpAny_setField ho hd (by simp) (stop_hot (hot_keep hot hn sb.extBut) fun h' e k he => ?_))))
  exact hE _ _ (fun b u hb q => k _ _ (sb.extBut b u hb q)) he
theorem zipEnd_hot {z TI TO i1 i2 l1 l2 : Addr} {k1 k2 : Nat} {xs ys : Array Value} {a b : Value} {Q : Option Value → Shared → Prop} (hot : HotAt A x1 s.heap) (n0 : x1 ≠ z) (n1 : x1 ≠ i1) (n2 : x1 ≠ i2) (nT : x1 ≠ TO) (D : ZipApart z TI TO i1 i2 l1 l2)
    (hz : IsZip s.heap z TI TO .none) (hTI : IsPair s.heap TI (.ref i1) (.ref i2)) (hTO : IsPair s.heap TO a b)
    (h1 : s.heap.IsListIter i1 l1 k1) (h2 : s.heap.IsListIter i2 l2 k2) (hl1 : s.heap.IsList l1 xs) (hl2 : s.heap.IsList l2 ys) (hend : xs[k1]? = none ∨ ys[k2]? = none)
    (hQ : ∀ h', (∀ c o, c ≠ z → c ≠ TO → c ≠ i1 → c ≠ i2 → s.heap.get? c = some o → h'.get? c = some o) → Q none { s with heap := h' }) : wpAny (model prog w) A (pyNext (.ref z)) Q E s := by
  have hT : s.TypeIs (.ref z) "zip" := ⟨_, hz, rfl⟩
  unfold pyNext
  have fin : ∀ h' e, (∀ c o, c ≠ z → c ≠ TO → c ≠ i1 → c ≠ i2 → s.heap.get? c = some o → h'.get? c = some o) → (∃ o, h'.get? e = some o ∧ o.cls = .type "StopIteration") →
      wpAny (model prog w) A (do if ← isInstance (.ref e) (.type "StopIteration") then pure none else throw (.ref e)) Q E { s with heap := h' } := fun h' e hk he => by
    obtain ⟨o, ho, hc⟩ := he
    exact wpAny_bind (wpAny_isInstance (T := "StopIteration") (b := true) ⟨o, ho, hc⟩ isSubtype_stop (wpAny_pure (hQ _ hk)))
  refine wpAny_bind (wpAny_attempt (wpAny_callSpecial?_slot (name := Str.ofString "__next__") hT F.slot_zip_next (wpAny_call_entry F.slot_zip_next hT F.entry_zip_next ?_ (F.args_zip_next_1 _))))
  show wpAny _ _ (field (.ref z) 2 >>= _) _ _ _
  refine wpAny_bind (wpAny_field hz rfl (x := .bool false) rfl ?_)
  show wpAny _ _ (field (.ref z) 3 >>= _) _ _ _
  refine wpAny_bind (wpAny_field hz rfl (x := .ref TI) rfl ?_)
  refine wpAny_bind (wpAny_seqItems hTI rfl ?_)
  show wpAny _ _ (Builtin.SmallTypes.ownedTupleIsFree (.ref z) >>= _) _ _ _
  refine wpAny_bind ?_
  unfold Builtin.SmallTypes.ownedTupleIsFree
  refine wpAny_bind (wpAny_field hz rfl (x := .none) rfl (wpAny_pure ?_))
  simp only [if_true]
  refine wpAny_bind (wpAny_rule ?_)
  refine wpAny_bind (wpAny_field hz rfl (x := .ref TO) rfl ?_)
  refine wpAny_bind (wpAny_setField_rec hz (by simp) fun h₁ hz₁ hs₁ => ?_)
  replace hz₁ : IsZip h₁ z TI TO .ellipsis := hz₁
  refine wpAny_bind ?_
  simp only [List.zipIdx_cons, List.zipIdx_nil, List.forIn_cons, List.forIn_nil]
  refine wpAny_bind (wpAny_bind (wpAny_onRaise ?_))
  show wpAny _ _ (Builtin.SmallTypes.nextOf (.ref i1) >>= _) _ _ _
  cases hx : xs[k1]? with
  | none =>
    refine wpAny_bind (lstEnd_hot (hot_keep hot n0 hs₁.extBut) n1 (h1.extBut hs₁.extBut D.i1z) (hl1.extBut hs₁.extBut D.l1z) hx fun h₂ e hs₂ he => ?_)
    obtain ⟨oe, hoe, hce⟩ := he
    have hz₂ : IsZip h₂ z TI TO .ellipsis := hs₂ _ _ D.i1z.symm hz₁
    have hez : e ≠ z := fun x => by subst x; rw [hz₂] at hoe; cases hoe; simp at hce
    exact wpAny_setField_rec hz₂ (by simp) fun h₃ _ hs₃ => fin h₃ e (fun c o c1 _ c3 _ x => hs₃.extBut _ _ c1 (hs₂ _ _ c3 (hs₁.extBut _ _ c1 x))) ⟨oe, hs₃.extBut _ _ hez hoe, hce⟩
  | some x =>
    have hy : ys[k2]? = none := by
      rcases hend with h | h
      · rw [hx] at h; cases h
      · exact h
    refine wpAny_bind (wpAny_nextOf_list_item (h1.extBut hs₁.extBut D.i1z) (hl1.extBut hs₁.extBut D.l1z) hx fun h₂ h1₂ hs₂ => wpAny_pure ?_)
    have hTO₂ : IsPair h₂ TO a b := hs₂.extBut _ _ D.TOi1 (hs₁.extBut _ _ D.TOz hTO)
    refine wpAny_bind (wpAny_seqItems hTO₂ rfl ?_)
    refine wpAny_bind (wpAny_updateSeq_pair hTO₂ fun h₃ hTO₃ hs₃ => ?_)
    refine wpAny_bind (wpAny_letGo (wpAny_pure ?_))
    refine wpAny_bind (wpAny_bind (wpAny_onRaise ?_))
    show wpAny _ _ (Builtin.SmallTypes.nextOf (.ref i2) >>= _) _ _ _
    refine wpAny_bind (lstEnd_hot (hot_keep (hot_keep (hot_keep hot n0 hs₁.extBut) n1 hs₂.extBut) nT hs₃.extBut) n2 (((h2.extBut hs₁.extBut D.i2z).extBut hs₂.extBut D.i12.symm).extBut hs₃.extBut D.TOi2.symm)
      (((hl2.extBut hs₁.extBut D.l2z).extBut hs₂.extBut D.l2i1).extBut hs₃.extBut D.l2TO) hy fun h₄ e hs₄ he => ?_)
    obtain ⟨oe, hoe, hce⟩ := he
    have hz₄ : IsZip h₄ z TI TO .ellipsis := hs₄ _ _ D.i2z.symm (hs₃.extBut _ _ D.TOz.symm (hs₂.extBut _ _ D.i1z.symm hz₁))
    have hez : e ≠ z := fun x => by subst x; rw [hz₄] at hoe; cases hoe; simp at hce
    exact wpAny_setField_rec hz₄ (by simp) fun h₅ _ hs₅ => fin h₅ e (fun c o c1 c2 c3 c4 x => hs₅.extBut _ _ c1 (hs₄ _ _ c4 (hs₃.extBut _ _ c2 (hs₂.extBut _ _ c3 (hs₁.extBut _ _ c1 x))))) ⟨oe, hs₅.extBut _ _ hez hoe, hce⟩
end
end Ev
end

section
set_option Elab.async false
set_option linter.all false
set_option autoImplicit false
set_option maxRecDepth 100000
set_option maxHeartbeats 4000000
/-! # While an exception is handled: a comprehension over zip -/
namespace Ev
open PySem PySem.Spec PyProof.Rows L2 HotX L2H
/-- the context of a comprehension's block there -/
abbrev bH (X : Cx) (s : Shared) (H : Hp) (scope : Scope) (cenv : Env) (fp : List Addr) : Cx := (X.blk s H scope cenv fp).tr X.pn fun _ _ => False
section
variable {X : Cx}
theorem hotB (hot : HotC X) {s : Shared} {H : Hp} {scope : Scope} {cenv : Env} {fp : List Addr} : HotC (bH X s H scope cenv fp) := hot
/-- two lists walked together -/
theorem zipTurn_hot {P : Program} {w : World} {K : W.Frag} {elts : List Expr} {kk : Nat} {tpos : Pos} {a b z TI TO i1 i2 : Addr} (D : ZipApart z TI TO i1 i2 a b) :
    TurnH P w K (.Tuple elts kk tpos) (Itz K a b) [z, TI, TO, i1, i2] z (fun i h => IsZip h z TI TO .none ∧ IsPair h TI (.ref i1) (.ref i2) ∧ (∃ x y, IsPair h TO x y) ∧ h.IsListIter i1 a i ∧ h.IsListIter i2 b i) where
  mem := (turn_zip (P := P) (w := w) (K := K) (elts := elts) (kk := kk) (tpos := tpos) D).mem
  obj := (turn_zip (P := P) (w := w) (K := K) (elts := elts) (kk := kk) (tpos := tpos) D).obj
  keep := (turn_zip (P := P) (w := w) (K := K) (elts := elts) (kk := kk) (tpos := tpos) D).keep
  self := (turn_zip (P := P) (w := w) (K := K) (elts := elts) (kk := kk) (tpos := tpos) D).self
  item := by
    intro X hP hw hK hc i pins s σ H E I hf st hg
    subst hP hw hK
    obtain ⟨hz, hTI, ⟨x0, y0, hTO⟩, h1, h2⟩ := st
    obtain ⟨xs, ys, x, y, hqx, hqy, hx, hy⟩ := hg
    obtain ⟨its, rv, p, _⟩ := I.list hqx
    obtain ⟨its2, rv2, p2, _⟩ := I.list hqy
    obtain ⟨u, hu, ru⟩ := rv.get hx
    obtain ⟨u2, hu2, ru2⟩ := rv2.get hy
    have hzl : z < s.heap.objs.size := Heap.lt_size hz
    refine wpAny_pyNext_zip_item D hz hTI hTO h1 h2 p.isList p2.isList (x := u) (y := u2) (by simpa using hu) (by simpa using hu2) fun h' z' TO' h1' h2' hT hsz hk => ?_
    refine ⟨_, rfl, wpAny_letOwnedTupleGo_zip (s := { s with heap := h' }) z' fun h'' z'' sb => ?_⟩
    have hT2 : h''.get? s.heap.objs.size = some { cls := .type "tuple", data := .seq #[u, u2] } := (sb.2 _ (Nat.ne_of_gt hzl)).trans hT
    have new : ObjOk X.prog X.w (upd H s.heap.objs.size (.tup [x, y])) h'' s.heap.objs.size (.tup [x, y]) :=
      ⟨by show 2 ≤ sizeLine; decide, [u, u2], .cons ru (.cons ru2 .nil), ⟨_, hT2, rfl, _, rfl⟩⟩
    have I1 : Inv X pins σ (upd H s.heap.objs.size (.tup [x, y])) { s with heap := h'' } :=
      I.turnedNew (t' := s.toks) (ch := [z, TI, TO, i1, i2]) (fun c o hb q => (sb.2 c (fun q' => hb (by simp [q']))).trans (hk c o (fun q' => hb (by simp [q'])) (fun q' => hb (by simp [q'])) (fun q' => hb (by simp [q'])) (fun q' => hb (by simp [q'])) q)) hf (Nat.le_refl _) new
    refine ⟨.ref s.heap.objs.size, _, I1, rfl, ⟨_, x, y, rfl, I.hok.fresh (Nat.le_refl _), rfl, fun l hl => by rw [I.list_inj hl hqx]; exact hx, fun l hl => by rw [I.list_inj hl hqy]; exact hy⟩, ⟨z'', ?_, ⟨u, u2, ?_⟩, ?_, ?_⟩, fun c hcm => ?_⟩
    · exact (sb.2 _ D.TIz).trans (hk _ _ D.TIz D.TITO D.TIi1 D.TIi2 hTI)
    · exact (sb.2 _ D.TOz).trans TO'
    · exact h1'.at fun o q => (sb.2 _ D.i1z).trans q
    · exact h2'.at fun o q => (sb.2 _ D.i2z).trans q
    · have hlt : c < s.heap.objs.size := by
        have e' : c = z ∨ c = TI ∨ c = TO ∨ c = i1 ∨ c = i2 := by simpa using hcm
        rcases e' with q | q | q | q | q
        · rw [q]; exact hzl
        · rw [q]; exact Heap.lt_size hTI
        · rw [q]; exact Heap.lt_size hTO
        · rw [q]; obtain ⟨_, e1, _⟩ := h1; exact Heap.lt_size e1
        · rw [q]; obtain ⟨_, e2, _⟩ := h2; exact Heap.lt_size e2
      rw [upd_ne (Nat.ne_of_lt hlt)]
      exact (hf c hcm).1
  done := by
    intro X hP hw hK hc i pins s σ H E I hf st hg
    subst hP hw hK
    obtain ⟨hz, hTI, ⟨x0, y0, hTO⟩, h1, h2⟩ := st
    obtain ⟨xs, ys, hqx, hqy, hend⟩ := hg
    obtain ⟨its, rv, p, _⟩ := I.list hqx
    obtain ⟨its2, rv2, p2, _⟩ := I.list hqy
    have l1 := rv.length
    have l2 := rv2.length
    have he : its.toArray[i]? = none ∨ its2.toArray[i]? = none := by
      rcases hend with q | q
      · exact .inl (by simp; omega)
      · exact .inr (by simp; omega)
    obtain ⟨q, ⟨hh, v1, e1, c1⟩, hq⟩ := hc
    have hpin := (I.pin q (List.mem_append_left _ hq)).1
    have hot : HotAt X.A q.1 s.heap := ⟨hh, q.2, v1, hpin, e1, c1⟩
    have ne : ∀ c, c ∈ [z, TI, TO, i1, i2] → q.1 ≠ c := fun c hc => (hf c hc).2.2.2.2.2 q (List.mem_append_left _ hq)
    refine zipEnd_hot hot (ne _ (by simp)) (ne _ (by simp)) (ne _ (by simp)) (ne _ (by simp)) D hz hTI hTO h1 h2 p.isList p2.isList he fun h' hk => ⟨rfl, I.turnedL (t' := s.toks) (ch := [z, TI, TO, i1, i2]) (fun c o hb q =>
      hk c o (fun q' => hb (by simp [q'])) (fun q' => hb (by simp [q'])) (fun q' => hb (by simp [q'])) (fun q' => hb (by simp [q'])) q) hf⟩
/-- zip(l, l') of two lists -/
theorem pi_zipH {e e2 : Expr} {ta : TA} {p pos tpos : Pos} {elts : List Expr} {kk : Nat} (hg : Gl X "zip") (hm : X.mg "zip" = none) (ha : PA X [e, e2] ta)
    (hs : starEach [e, e2] X.env = (false, eval e X.env) :: starEach [e2] X.env := by rfl) (hpl : (backTo pos (starEach [e2] X.env)).any (·.1) = false := by rfl) :
    PIH X (.Tuple elts kk tpos) (.Call (.Name "zip" p) [e, e2] [] pos) (iZip X.K ta) := by
  refine ⟨fun pins s σ H R I h => ?_⟩
  refine Call_ (ld_blt I hg hm PyProof.Rows.boot_zip (PyProof.Rows.callWith_type1 (thn (ha.run pos pins s σ H _ I h) fun us s1 ⟨vs, H1, I1, r1, q1⟩ => ?_) hs hpl))
  obtain ⟨a, b, xs, ys, ex, hqx, hqy, q⟩ := q1
  subst ex
  cases r1 with
  | cons r rr =>
    cases rr with
    | cons r' rr =>
      cases rr
      cases r
      cases r'
      obtain ⟨its, rv, p1, _⟩ := I1.list hqx
      obtain ⟨its2, rv2, p2, _⟩ := I1.list hqy
      refine call_zip_2 p1.isList p2.isList fun h' hz hTI hTO h1 h2 hsz hk => wpAny_pyIter_zip hz ?_
      have I2 : Inv X pins σ H1 { s1 with heap := h' } := I1.kept (t' := s1.toks) hk
      refine ⟨s1.heap.objs.size + 4, [s1.heap.objs.size + 4, s1.heap.objs.size + 2, s1.heap.objs.size + 3, s1.heap.objs.size, s1.heap.objs.size + 1], _, _, H1, rfl, I2, zipTurn_hot (W.ktu_apart s1.heap.objs.size a b p1.lt p2.lt), ⟨hz, hTI, ⟨_, _, hTO⟩, h1, h2⟩, fun c hcm => ?_, q⟩
      have hle : s1.heap.objs.size ≤ c := by
        have e' : c = s1.heap.objs.size + 4 ∨ c = s1.heap.objs.size + 2 ∨ c = s1.heap.objs.size + 3 ∨ c = s1.heap.objs.size ∨ c = s1.heap.objs.size + 1 := by simpa using hcm
        have key : ∀ n c : Nat, (c = n + 4 ∨ c = n + 2 ∨ c = n + 3 ∨ c = n ∨ c = n + 1) → n ≤ c := fun n c h => by omega
        exact key _ _ e'
      exact I1.fpOk hle (I1.hok.fresh hle)
/-- a tuple of targets -/
theorem pg_tupH {es : List Expr} {k : Nat} {pos : Pos} {t : TGs} {n : Nat} (hot : HotC X) (h : PGs X es t) (hn : (assignEach es X.env).length = n := by rfl) (hst : (assignEach es X.env).findIdx? (·.1) = none := by rfl) : PG X (.Tuple es k pos) (gTup X.K n t) := by
  refine ⟨fun pins s σ H v u Q I r hw => ?_⟩
  obtain ⟨a, xs, e1, hq, hl, hw⟩ := hw
  subst e1
  cases r
  obtain ⟨its, rv, ht, hz⟩ := I.tuple hq
  obtain ⟨x1, ha⟩ := hot.at I
  refine assignTup_hot ha ht (by simp [hn, ← hl, rv.length]) hst fun h' hx => ?_
  have I1 : Inv X pins σ H { s with heap := h' } := I.kept (t' := s.toks) fun b o e => hx b o (Nat.ne_of_lt (Heap.lt_size e)) e
  exact h.run pins _ σ H xs _ Q I1 (by simpa using rv) hw
theorem pe_lcH {elt tg iter : Expr} {ifs : List Expr} {scope : Scope} {own : List (Str × Nat)} {pos : Pos} {wi : TI} {g : TG} {tt : TT} {te : TE} (hot : HotC X) (hN : X.N.Nodup) (hi : PIH X tg iter wi) (ok : BlkOk X.N X.env.scope scope own)
    (hg : ∀ (s : Shared) (H : Hp) (C : Addr) (cl : List (Str × Addr)) (fp : List Addr), PG (bH X s H scope (compEnvC scope cl C X.env) fp) tg g) (ht : ∀ (s : Shared) (H : Hp) (C : Addr) (cl : List (Str × Addr)) (fp : List Addr), PTs (bH X s H scope (compEnvC scope cl C X.env) fp) ifs tt)
    (he : ∀ (s : Shared) (H : Hp) (C : Addr) (cl : List (Str × Addr)) (fp : List Addr), PE (bH X s H scope (compEnvC scope cl C X.env) fp) elt te) (hs : ∀ x, foldedSetIterable iter X.env x = pure x := by intro _; rfl) :
    PE X (.ListComp elt [⟨tg, iter, ifs, 0⟩] scope pos) (tLc wi g tt te (own.map (·.2))) := by
  refine ⟨fun pins s σ H Q I h => ?_⟩
  rw [eval_ListComp]
  have hfree : ∀ y ∈ scope.names, y.2 = .free → ∃ c, X.env.cells.lookup y.1 = some c := fun y hy e => by
    rcases ok.free y hy e with k | k
    · exact I.ok.has _ (.inl k)
    · exact I.ok.has _ (.inr k)
  refine wpAny_comprehension_free (use := none) rfl hs (closure_ok hfree) ok.kind (fun y hy e => by rw [ok.uniq y hy, e])
    (thn (hi.run pins s σ H _ I h) fun xv s1 hx => thn hx fun itv s2 h2 => ?_)
  obtain ⟨it, fp, tn, J, H2, e, I2, T, st2, f2, q⟩ := h2
  subst e
  refine wpAny_newObj_type (newEnv_comp ?_) (by show 0 ≤ sizeLine; decide)
  generalize hD : s2.heap.objs.size = D
  have hDn : H2 D = none := I2.hok.fresh (Nat.le_of_eq hD)
  obtain ⟨W, ⟨m0, w0⟩, turn⟩ := q D hDn
  generalize hs3 : ({ s2 with heap := s2.heap.push { cls := .type "list", data := .seq ([] : List Value).toArray } } : Shared) = s3
  have I3 : Inv X pins σ (upd H2 D (.lst [])) s3 := by
    rw [← hs3]
    refine I2.laid (t' := s2.toks) (fun b o e => Heap.get?_push_of_some _ e) (Nat.le_of_eq hD) ⟨Nat.zero_le _, [], 0, .nil, ?_⟩
    rw [← hD]
    exact Heap.get?_push_size _ rfl
  have h3 : s3.heap = s2.heap.push { cls := .type "list", data := .seq ([] : List Value).toArray } := by rw [← hs3]
  have f3 : ∀ b ∈ fp, FpOk X pins (upd H2 D (.lst [])) b ∧ b < s3.heap.objs.size := fun b hb => by
    obtain ⟨o, e, _⟩ := T.obj _ _ st2 b hb
    have hlt := Heap.lt_size e
    refine ⟨⟨?_, (f2 b hb).2⟩, by rw [h3, Heap.size_push]; exact Nat.lt_succ_of_lt hlt⟩
    rw [upd_ne (by rw [← hD]; exact Nat.ne_of_lt hlt)]
    exact (f2 b hb).1
  have st3 : tn 0 s3.heap := T.keep _ _ _ st2 fun b _ o e => by rw [h3]; exact Heap.get?_push_of_some _ e
  have I4 := block_start I3 ok hN f3
  have pg := hg s3 (upd H2 D (.lst [])) s3.heap.objs.size (cellsFrom (s3.heap.objs.size + 1) scope.names (cloFrom X.env.cells scope.names [])) fp
  have pt := ht s3 (upd H2 D (.lst [])) s3.heap.objs.size (cellsFrom (s3.heap.objs.size + 1) scope.names (cloFrom X.env.cells scope.names [])) fp
  have pe := he s3 (upd H2 D (.lst [])) s3.heap.objs.size (cellsFrom (s3.heap.objs.size + 1) scope.names (cloFrom X.env.cells scope.names [])) fp
  show codeAny _ _ (.compStart (.ListComp elt [⟨tg, iter, ifs, 0⟩] scope pos) 0 (.ref it) (.ref D) (compEnvC scope (cellsFrom (s3.heap.objs.size + 1) scope.names (cloFrom X.env.cells scope.names [])) s3.heap.objs.size X.env)) (compPost (model X.prog X.w) X.A X.xe none (EP X pins σ Q) (.ref D) s3.heap.objs.size) { s3 with heap := pushCells (s3.heap.push { cls := .type "dict", data := .dict #[] }) scope.names }
  have nfp : ∀ b ∈ fp, (upd H2 D (.lst [])) b = none := fun b hb => (f3 b hb).1.1
  generalize hce : compEnvC scope (cellsFrom (s3.heap.objs.size + 1) scope.names (cloFrom X.env.cells scope.names [])) s3.heap.objs.size X.env = ce at I4 pg pt pe ⊢
  have cL : ce.locals = s3.heap.objs.size := by subst hce; rfl
  generalize hH3 : upd H2 D (.lst []) = H3 at I3 I4 pg pt pe w0 nfp f3
  have kp4 : ∀ b o, s3.heap.get? b = some o → (pushCells (s3.heap.push { cls := .type "dict", data := .dict #[] }) scope.names).get? b = some o := fun b o e => pushCells_keeps _ _ _ _ (Heap.get?_push_of_some _ e)
  generalize hs4 : ({ s3 with heap := pushCells (s3.heap.push { cls := .type "dict", data := .dict #[] }) scope.names } : Shared) = s4 at I4 ⊢
  have kp5 : ∀ b o, s3.heap.get? b = some o → s4.heap.get? b = some o := fun b o e => by rw [← hs4]; exact kp4 b o e
  -- the handled exception stays where it is
  have I4 : Inv (bH X s3 H3 scope ce fp) [] (L2.wipe σ (own.map (·.2))) H3 s4 := (I4.pins_of (pins' := X.pn) fun p hp => by
    obtain ⟨e1, e2, e3, e4, e5⟩ := I3.pin p (List.mem_append_left _ hp)
    refine ⟨kp5 _ _ e1, e2, fun z => ?_, fun z => ?_, e5⟩
    · rw [show (X.blk s3 H3 scope ce fp).env.locals = s3.heap.objs.size from cL] at z
      exact Nat.ne_of_lt (Heap.lt_size e1) z
    · rcases List.mem_cons.mp (I3.stkSub _ z) with z | z
      · exact e3 z
      · exact e4 z).toTry _
  have st4 : tn 0 s4.heap := T.keep _ _ _ st3 fun b _ o e => kp5 _ _ e
  have stat : ∀ {σ' : L2.St} {H' : Hp} {s' : Shared}, Inv (bH X s3 H3 scope ce fp) [] σ' H' s' → (∀ b ∈ fp, H' b = none) → ∀ b ∈ fp, FpOk (bH X s3 H3 scope ce fp) [] H' b := fun {σ' H' s'} I' hn b hb =>
    ⟨hn b hb, (I'.ok.exf b hb).1, I'.ok.exfs b hb, .inl hb, fun x c e => (I'.ok.exf b hb).2 x c e, fun p hp => (f3 b hb).1.2.2.2.2.2 p (List.mem_append_left _ (by have hp' : p ∈ X.pn ++ ([] : List (Addr × Obj)) := hp; simpa using hp'))⟩
  have loop : codeAny (model X.prog X.w) X.A (.compLoop (.ListComp elt [⟨tg, iter, ifs, 0⟩] scope pos) 0 (.ref it) (.ref D) ce) (compPost (model X.prog X.w) X.A X.xe none (EP X pins σ Q) (.ref D) s3.heap.objs.size) s4 := by
    refine compLoop_any (fun n s' => ∃ i H', Inv (bH X s3 H3 scope ce fp) [] (L2.wipe σ (own.map (·.2))) H' s' ∧ tn i s'.heap ∧ (∀ b ∈ fp, H' b = none) ∧ W i n H') ?_ m0 ⟨0, H3, I4, st4, nfp, w0⟩
    rintro n s5 ⟨i, H5, I5, st5, n5, w5⟩
    rcases turn i n H5 w5 with ⟨stop, qq⟩ | ⟨go, Nx, hNx, step⟩
    · have td := T.done (bH X s3 H3 scope ce fp) rfl rfl rfl (hotB hot) i [] s5 _ H5 (fun _ _ => False) I5 (stat I5 n5) st5 stop
      refine thnF td fun r s6 ⟨hr, I6⟩ => ?_
      subst hr
      have I7 : Inv X pins σ H5 s6 := I3.call' (ch := fp) I6.os I6.base I6.hok I6.bare fun b hb => ⟨(f3 b hb).1.2.2.2.1, (f3 b hb).1.2.1, (f3 b hb).1.2.2.2.2.1, (f3 b hb).1.2.2.2.2.2⟩
      have nC : H5 s3.heap.objs.size = none := by
        have z : H5 ce.locals = none := I6.free
        rw [cL] at z
        exact z
      obtain ⟨m, hn, _⟩ := I6.loc
      have hn : s6.heap.Ns ce.locals m := hn
      rw [cL] at hn
      refine ⟨m, hn, fun h'' sb => ?_⟩
      obtain ⟨f0, f1, f2', f3', f4, f5⟩ := I3.fpOk (Nat.le_refl _) nC
      exact ⟨.ref D, H5, I7.turned (t' := s6.toks) (fun b o hb e => (sb.2 b hb).trans e) f0 f1 f3' f4 f5, rfl, qq⟩
    · have ti := T.item (bH X s3 H3 scope ce fp) rfl rfl rfl (hotB hot) i [] s5 _ H5 (fun _ _ => False) I5 (stat I5 n5) st5 go
      refine thnF ti fun r s6 ⟨u, hr, h6⟩ => ?_
      subst hr
      refine thnF h6 fun _ s7 ⟨x, H7, I7, r7, y7, st7, n7⟩ => ?_
      have I7' := I7.pinned (stat I7 n7) (T.obj _ _ st7)
      refine thnF (pg.run _ s7 _ H7 x u _ I7' r7 (step x H7 y7)) fun _ s8 ⟨σ8, H8, I8, hw8, q8⟩ => ?_
      refine thnF (pt.run _ s8 σ8 H8 _ I8 q8) fun b s9 ⟨H9, I9, q9⟩ => ?_
      have fin : ∀ {s' : Shared} {H' : Hp}, Inv (bH X s3 H3 scope ce fp) ([] ++ pinsAt fp s7.heap) σ8 H' s' → Nx H' → ∃ m, m < n ∧ ∃ i H', Inv (bH X s3 H3 scope ce fp) [] (L2.wipe σ (own.map (·.2))) H' s' ∧ tn i s'.heap ∧ (∀ b ∈ fp, H' b = none) ∧ W i m H' := fun {s' H'} I' nx => by
        obtain ⟨m', hm, w'⟩ := hNx H' nx
        have pin' : ∀ b ∈ fp, ∀ o, s7.heap.get? b = some o → s'.heap.get? b = some o ∧ H' b = none := fun b hb o e =>
          let z := I'.pin (b, o) (List.mem_append_right _ (List.mem_append_right _ (mem_pinsAt hb e)))
          ⟨z.1, z.2.1⟩
        have hl : (L2.wipe σ (own.map (·.2))).length = σ8.length := by rw [← hw8, L2.wipe_length]
        refine ⟨m', hm, i + 1, H', (I'.unpinned (pins := [])).weak hl (fun j v e => ?_), T.keep _ _ _ st7 fun b hb o e => (pin' b hb o e).1, fun b hb => ?_, w'⟩
        · rw [← hw8] at e
          exact (wipe_some e).1
        · obtain ⟨o, e, _⟩ := T.obj _ _ st7 b hb
          exact (pin' b hb o e).2
      cases b with
      | false =>
        simp only [Bool.false_eq_true, if_false] at q9 ⊢
        exact fin I9 q9
      | true =>
        simp only [if_true] at q9 ⊢
        refine thnF (pe.run _ s9 σ8 H9 _ I9 q9) fun z s10 ⟨yv, H10, I10, r10, acc, hD10, hz10, nx⟩ => ?_
        exact app_ok (X := bH X s3 H3 scope ce fp) I10 hD10 hz10 r10 fun s11 I11 => fin I11 nx
  exact codeAny_compStart_list loop (T.self X.A 0 _ _ _ st4 loop)
end
end Ev
end

section
set_option Elab.async false
set_option linter.all false
set_option autoImplicit false
set_option maxRecDepth 100000
set_option maxHeartbeats 4000000
/-! # The def that names an error, while the error is handled -/
namespace Ev
open PySem PySem.Spec PyProof.Rows L2 HotX L2H
/-- two names, by themselves in a tuple -/
def pairT (N : List Str) (sc : Scope) (fb : Fb) : Expr → Option Tg
  | .Tuple [.Name x _, .Name y _] _ _ => if (locB sc x && fb x && locB sc y && fb y) = true then (ixOf N x).bind fun i => (ixOf N y).map fun j => .cons (.nm i) (.cons (.nm j) .nil) else none
  | _ => none
def varH (N : List Str) (sc : Scope) : Expr → Option X
  | .Name x _ => if (visB sc x && !odd x) = true then (ixOf N x).map .loc else none
  | _ => none
/-- its expressions, but isinstance -/
def cH (N : List Str) : Nat → Scope → Expr → Option X
  | 0, _, _ => none
  | n + 1, sc, e => match e with
    | .Constant (.str z) _ _ => some (.con (.str z))
    | .Name x p => varH N sc (.Name x p)
    | .List es _ => (cL (cH N n sc) es).map .lst
    | .BinOp a .Add b _ => (cH N n sc a).bind fun x => (cH N n sc b).map fun y => .bin .Add x y
    | .Call (.Attribute o m apos) [a] [] pos => if (starred a || bareCall o || !(apos.endLine == pos.line)) = true then none else
        (mthOf m).bind fun k => (cH N n sc o).bind fun x => (cH N n sc a).map fun y => .mth k x (.cons y .nil)
    | .ListComp elt [⟨.Tuple ts tk tp, .Call (.Name f _) [a, b] [] _, [tst], k⟩] scope _ => if (L2.blkC N sc scope (ownOf N scope) && decide (k = 0) && decide (f = "zip") && glB sc f && !starred a && !starred b) = true then
        (cH N n sc a).bind fun x => (cH N n sc b).bind fun y => (pairT N (L2.relS scope sc) (fbBlk scope (L2.relS scope sc)) (.Tuple ts tk tp)).bind fun t =>
        if (t.slots.all fun i => decide (i ∈ (ownOf N scope).map (·.2))) = false then none else
        (varH N (L2.relS scope sc) tst).bind fun c => (varH N (L2.relS scope sc) elt).map fun e => .lc ((ownOf N scope).map (·.2)) t (.zipL x y) (.cons c .nil) e else none
    | _ => none
section
variable {T : List (Addr × Str)} {cl : Nat → Option Addr} {E : XK} {c : Cn} {X : Cx} {N : List Str} {sc : Scope} {a0 : Addr} {bit : Str → Option Bool}
theorem pgw_tupH {es : List Expr} {k : Nat} {pos : Pos} {t : Tg} (hc : HotC X) (hl : t.isList = true) (hn : t.len = es.length) (hp : plain es = true) (h : PGs X es (tTws X.K T t)) : PG X (.Tuple es k pos) (tTw X.K T t) :=
  pg_imp (pg_tupH (n := es.length) hc h each_len (each_plain hp)) fun v σ H Q ⟨ρ, M, S, u, ρ', en, st, r, e, q⟩ => by
    have hu : ∃ ds, u = .d (.tuple ds) := by
      cases t with
      | nm i => cases hl
      | nil =>
        unfold bindT at e
        split at e
        · exact ⟨_, rfl⟩
        · cases e
      | cons a b =>
        unfold bindT at e
        split at e
        · exact ⟨_, rfl⟩
        · cases e
    obtain ⟨ds, rfl⟩ := hu
    obtain ⟨a, xs, e1, t1, r1⟩ := (show Rp X.K M H v (.tuple ds) from r).rs.tup
    exact ⟨a, xs, e1, t1.sq, by rw [r1.length, bindT_len hl e, hn], ρ, M, S, ds, ρ', en, st, r1, e, q⟩
/-- what is asked of the place -/
structure HotG (a0 : Addr) (bit : Str → Option Bool) (X : Cx) (N : List Str) (sc : Scope) : Prop where
  hot : HotC X
  names : X.N = N
  nd : N.Nodup
  scope : X.env.scope = sc
  room : X.A.units + 65 < cLine
  isi : X.mg "isinstance" = none
  zip : X.mg "zip" = none
  bits : ∀ x b, bit x = some b → ∃ v, (∀ p, glB sc x = true → odd x = false → PE X (.Name x p) (tC v)) ∧ CallR X (.builtin "isinstance") (fun xs H Q => xs = [.ref a0, v] ∧ Q (.bl b) H)
theorem var_ok {N : List Str} {sc : Scope} (hN : X.N = N) (hs : X.env.scope = sc) {e : Expr} {ir : Ev.X} (h : varH N sc e = some ir) : PE X e (tX X.K T cl E c ir) ∧ ∀ whole, isTrue e X.env whole = (do let v ← whole; standAt e.pos; holding [v] (truthy v)) := by
  unfold varH at h
  split at h
  · split at h
    · rename_i hc
      simp only [Bool.and_eq_true, Bool.not_eq_true'] at hc
      obtain ⟨i, hi, rfl⟩ := map_some h
      exact ⟨px_loc hN hs hc.2 hc.1 hi, fun _ => rfl⟩
    · cases h
  · cases h
theorem cH_ok (G : HotG a0 bit X N sc) : ∀ n e ir, cH N n sc e = some ir → PE X e (tX X.K T cl E c ir) := by
  intro n
  induction n with
  | zero => intro e ir h; unfold cH at h; cases h
  | succ n ih =>
    intro e ir h
    unfold cH at h
    split at h
    · cases h; exact px_con pe_str fun _ _ => .str _
    · exact (var_ok G.names G.scope h).1
    · obtain ⟨xs, h1, rfl⟩ := map_some h
      exact px_lst (cL_ok ih h1)
    · obtain ⟨x, h1, h⟩ := bindO h
      obtain ⟨y, h2, rfl⟩ := map_some h
      exact px_bin (ih _ _ h1) (ih _ _ h2)
    · split at h
      · cases h
      · rename_i hc
        simp only [Bool.or_eq_true, Bool.not_eq_true', not_or, Bool.not_eq_true, Bool.not_eq_false] at hc
        obtain ⟨⟨h1, h2⟩, h3⟩ := hc
        obtain ⟨m, h4, h⟩ := bindO h
        obtain ⟨x, h5, h⟩ := bindO h
        obtain ⟨y, h6, rfl⟩ := map_some h
        exact px_mth h4 h1 h2 h3 (ih _ _ h5) (ih _ _ h6)
    · split at h
      · rename_i elt ts tk tp f fp a b cp tst k scope pos hc
        simp only [Bool.and_eq_true, Bool.not_eq_true', decide_eq_true_eq] at hc
        obtain ⟨⟨⟨⟨⟨h1, h2⟩, h3⟩, h4⟩, h5⟩, h6⟩ := hc
        subst h2 h3
        obtain ⟨x, hx, h⟩ := bindO h
        obtain ⟨y, hy, h⟩ := bindO h
        obtain ⟨t, ht, h⟩ := bindO h
        split at h
        · cases h
        · rename_i hsl
          have hsl := by simpa using hsl
          obtain ⟨d, hd, h⟩ := bindO h
          obtain ⟨e, he, rfl⟩ := map_some h
          have hsl : ∀ i, i ∈ t.slots → i ∈ (ownOf N scope).map (·.2) := fun j hj => by
            have := hsl j hj
            simpa using this
          have hBs : ∀ (s : Shared) (H : Hp) (C : Addr) (cells : List (Str × Addr)) (fp : List Addr), (bH X s H scope (compEnvC scope cells C X.env) fp).env.scope = relS scope sc := fun s H C cells fp => by rw [← G.scope]; rfl
          have hfb : ∀ (s : Shared) (H : Hp) (C : Addr) (cells : List (Str × Addr)) (fp : List Addr) (x : Str), fbBlk scope (relS scope sc) x = true → (bH X s H scope (compEnvC scope cells C X.env) fp).fn x = true ∨ (bH X s H scope (compEnvC scope cells C X.env) fp).env.scope.names.lookup x = some .local := fun s H C cells fp x h => by
            unfold fbBlk at h
            rw [Bool.or_eq_true, decide_eq_true_eq, decide_eq_true_eq] at h
            refine h.imp (fun z => ?_) fun z => ?_
            · show (scope.names.lookup x == some .cell) = true
              rw [z]
              decide
            · rw [hBs s H C cells fp]
              exact z
          have hB : BlkOk X.N X.env.scope scope (ownOf N scope) := blkOk_by (by rw [G.names, G.scope]; exact h1)
          -- what is walked
          have hI : PIH X (.Tuple ts tk tp) (.Call (.Name "zip" fp) [a, b] [] cp) (tIt X.K T cl E c (.zipL x y)) := by
            have base := pi_zipH (elts := ts) (kk := tk) (tpos := tp) (p := fp) (pos := cp) (gl_of G.scope h4) G.zip (pa_cons (ih _ _ hx) (pa_cons (ih _ _ hy) pa_nil (star_of h6)) (star_of h5)) (star_of h5) (by rw [star_of h6]; rfl)
            refine ⟨fun pins s σ H R I q => base.run pins s σ H R I ?_⟩
            obtain ⟨ρ, M, S, en, st, hq⟩ := q
            unfold evIt at hq
            refine tX_b en st hq fun v M1 H1 S1 u g1 en1 st1 r1 h1 => tX_b en1 st1 h1 fun w M2 H2 S2 u2 g2 _ st2 r2 h2 => ?_
            have r1 := r1.mono g2
            split at h2
            · cases (show Rp X.K M2 H2 v _ from r1) with
              | lst n hl ra =>
                cases (show Rp X.K M2 H2 w _ from r2) with
                | lst n' hl' ra' =>
                  refine ⟨_, _, _, _, rfl, SqL.of hl, SqL.of hl', h2 _ M2 H2 (Gr.refl _ _) st2 (feed_zip (a := 0) (b := 0) (fun M' H' g i => ?_) ra ra')⟩
                  obtain ⟨_, h3⟩ := g.at_ hl n fun ps z => by cases z
                  obtain ⟨_, h4⟩ := g.at_ hl' n' fun ps z => by cases z
                  refine ⟨fun z => ⟨_, _, SqL.of h3, SqL.of h4, z⟩, fun x y ex ey => ⟨⟨_, _, x, y, SqL.of h3, SqL.of h4, ex, ey⟩, fun v H'' ⟨t, x', y', e1, e2, e3, e4, e5⟩ => ?_⟩⟩
                  have e4 := e4 _ (SqL.of h3)
                  have e5 := e5 _ (SqL.of h4)
                  rw [ex] at e4
                  rw [ey] at e5
                  cases e4
                  cases e5
                  exact ⟨t, e1, e2, e3⟩
            · exact h2.elim
          refine pe_imp (pe_lcH G.hot (by rw [G.names]; exact G.nd) hI hB (g := tTw X.K T t) (tt := tCs X.K T cl noE c (.cons d .nil)) (te := tX X.K T cl noE c e) (fun s H C cells fp => ?_) (fun s H C cells fp => ?_) (fun s H C cells fp => ?_)) fun σ H Q q => lc_conv hsl q
          · unfold pairT at ht
            split at ht
            · rename_i heq
              cases heq
              split at ht
              · rename_i hc
                simp only [Bool.and_eq_true] at hc
                obtain ⟨⟨⟨l1, l2⟩, l3⟩, l4⟩ := hc
                obtain ⟨i, hi, ht⟩ := bindO ht
                obtain ⟨j, hj, rfl⟩ := map_some ht
                exact pgw_tupH (hotB G.hot) rfl rfl rfl (pgsw_cons rfl (pgw_name (X := bH X s H scope (compEnvC scope cells C X.env) fp) G.names G.nd (hBs s H C cells fp) (hfb s H C cells fp) l1 l2 hi) (pgsw_cons rfl (pgw_name (X := bH X s H scope (compEnvC scope cells C X.env) fp) G.names G.nd (hBs s H C cells fp) (hfb s H C cells fp) l3 l4 hj) pgsw_nil))
              · cases ht
            · cases ht
          · have q := var_ok (T := T) (cl := cl) (E := noE) (c := c) (X := bH X s H scope (compEnvC scope cells C X.env) fp) G.names (hBs s H C cells fp) hd
            exact ptsx_one (pt_plain q.1 q.2)
          · exact (var_ok (X := bH X s H scope (compEnvC scope cells C X.env) fp) G.names (hBs s H C cells fp) he).1
      · cases h
    · cases h
/-- isinstance(n, C), n the error -/
def bitOf (N : List Str) (bit : Str → Option Bool) (sc : Scope) : Expr → Option Bool
  | .Call (.Name f _) [.Name v _, .Name c _] [] _ => if (decide (f = "isinstance") && glB sc f && visB sc v && !odd v && glB sc c && !odd c && decide (ixOf N v = some 0)) = true then bit c else none
  | _ => none
def bitsOf (N : List Str) (bit : Str → Option Bool) (sc : Scope) : List Expr → Option (List Bool)
  | [] => some []
  | e :: r => (bitOf N bit sc e).bind fun b => (bitsOf N bit sc r).map fun bs => b :: bs
def conBs : List Bool → Xs
  | [] => .nil
  | b :: r => .cons (.con (.bool b)) (conBs r)
/-- an answer, the error standing in the first slot -/
def tJ (a0 : Addr) (t : TE) : TE := fun σ H Q => σ[0]? = some (some (.ref a0)) ∧ t σ H Q
theorem bit_ok (G : HotG a0 bit X N sc) {e : Expr} {b : Bool} (h : bitOf N bit sc e = some b) : PE X e (tJ a0 fun _ H Q => Q (.bl b) H) ∧ starred e = false := by
  unfold bitOf at h
  split at h
  · split at h
    · rename_i hc
      simp only [Bool.and_eq_true, Bool.not_eq_true', decide_eq_true_eq] at hc
      obtain ⟨⟨⟨⟨⟨⟨h1, h2⟩, h3⟩, h4⟩, h5⟩, h6⟩, h7⟩ := hc
      subst h1
      obtain ⟨v, hv, hr⟩ := G.bits _ _ h
      refine ⟨pe_imp (pe_callB hr (gl_of G.scope h2) G.isi (by decide +kernel) (pa_cons (pe_var (i := 0) (by rw [G.names]; exact ix_of h7) (by rw [G.scope]; exact vis_of h3) (odd_of h4).1 (odd_of h4).2.1) (pa_cons (hv _ h5 h6) pa_nil) (star_of rfl)) (by decide +kernel) (by decide +kernel) (star_of rfl) rfl) fun σ H Q ⟨hs, q⟩ => ⟨_, hs, rfl, q⟩, rfl⟩
    · cases h
  · cases h
theorem bits_ok (G : HotG a0 bit X N sc) : ∀ {es : List Expr} {bs : List Bool}, bitsOf N bit sc es = some bs → PA X es (fun σ H Q => σ[0]? = some (some (.ref a0)) ∧ Q (bs.map V.bl) H)
  | [], bs, h => by unfold bitsOf at h; cases h; exact pa_imp pa_nil fun σ H Q q => q.2
  | e :: r, bs, h => by
    unfold bitsOf at h
    obtain ⟨b, h1, h⟩ := bindO h
    obtain ⟨cs, h2, rfl⟩ := map_some h
    obtain ⟨p, hs⟩ := bit_ok G h1
    exact pa_imp (pa_cons p (bits_ok G h2) (star_of hs)) fun σ H Q q => ⟨q.1, q.1, q.2⟩
theorem ev_conBs (g : Cn) (ρ : Rho) (S : Store) : ∀ bs : List Bool, evXs g (conBs bs) ρ S = .ok (bs.map fun b => .d (.bool b)) S
  | [] => by unfold conBs evXs; rfl
  | b :: r => by
    unfold conBs evXs evX
    show ((evXs g (conBs r) ρ S).bind fun xs S2 => R.ok (U.d (.bool b) :: xs) S2) = _
    rw [ev_conBs g ρ S r]
    rfl
theorem datas_bs (S : Store) : ∀ bs : List Bool, datas S (bs.map fun b => U.d (.bool b)) = some (bs.map PyData.bool)
  | [] => rfl
  | b :: r => by
    show (datas S (r.map fun b => U.d (.bool b))).map _ = _
    rw [datas_bs S r]
    rfl
theorem rpA_bs {K : W.Frag} {M : Ms} {H : Hp} : ∀ bs : List Bool, RpA K M H (bs.map V.bl) (bs.map PyData.bool)
  | [] => .nil
  | b :: r => .cons (.bl b) (rpA_bs r)
theorem px_bits (G : HotG a0 bit X N sc) {es : List Expr} {bs : List Bool} {pos : Pos} (h : bitsOf N bit sc es = some bs) : PE X (.List es pos) (tJ a0 (tX X.K T cl E c (.lst (conBs bs)))) :=
  pe_imp (pe_lst (bits_ok G h)) fun σ H Q ⟨hs, ρ, M, S, en, st, h⟩ => by
    refine ⟨hs, ?_⟩
    unfold evX at h
    rw [ev_conBs] at h
    have h : Out X.K T cl E M H (R.of S ((datas S (bs.map fun b => U.d (.bool b))).bind fun ps => if ps.length ≤ line then some (U.d (.list ps)) else none)) (RU X.K) Q := h
    rw [datas_bs] at h
    have h : Out X.K T cl E M H (R.of S (if (bs.map PyData.bool).length ≤ line then some (U.d (.list (bs.map PyData.bool))) else none)) (RU X.K) Q := h
    split at h
    · rename_i hl
      rw [List.length_map] at hl
      exact ⟨by rw [List.length_map, ← line_eq]; exact hl, fun p hp => Wish.list (ds := bs.map PyData.bool) h st hp (rpA_bs bs)⟩
    · exact h.elim
theorem px_more (G : HotG a0 bit X N sc) {e : Expr} {es : List Expr} {bs : List Bool} {x : Ev.X} {pos p2 : Pos} (h : bitsOf N bit sc es = some bs) (he : PE X e (tX X.K T cl E c x)) : PE X (.BinOp e .Add (.List es p2) pos) (tJ a0 (tX X.K T cl E c (.bin .Add x (.lst (conBs bs))))) :=
  pe_imp (pe_op (bin_ok (T := T) (cl := cl) (E := E) .Add) he (px_bits (T := T) (cl := cl) (E := E) (c := c) G h)) fun σ H Q ⟨hs, ρ, M, S, en, st, h⟩ => by
    unfold evX at h
    exact tX_b en st h fun v M1 H1 S1 u g1 en1 st1 r1 h1 => ⟨hs, tX_b en1 st1 h1 fun w M2 H2 S2 u2 g2 _ st2 r2 h2 => ⟨M2, S2, u, u2, r1.mono g2, r2, st2, h2⟩⟩
end
end Ev
end

section
set_option Elab.async false
set_option linter.all false
set_option autoImplicit false
set_option maxRecDepth 100000
set_option maxHeartbeats 4000000
/-! # The def that calls what it got, and names the error -/
namespace Ev
open PySem PySem.Spec PyProof.Rows L2 HotX L2H
/-- the statements of the def that names an error -/
def cHb (N : List Str) (bit : Str → Option Bool) (sc : Scope) : List Stmt → Option Sts
  | [] => some .nil
  | .Assign [.Name x _] (.List es _) _ :: r => if (locB sc x && decide (ixOf N x ≠ some 0)) = true then (ixOf N x).bind fun i => (bitsOf N bit sc es).bind fun bs => (cHb N bit sc r).map fun ys => .cons (.set i (.lst (conBs bs))) ys else none
  | .Assign [.Name x _] (.BinOp e .Add (.List es _) _) _ :: r => if (locB sc x && decide (ixOf N x ≠ some 0)) = true then (ixOf N x).bind fun i => (cH N 100 sc e).bind fun y => (bitsOf N bit sc es).bind fun bs => (cHb N bit sc r).map fun ys => .cons (.set i (.bin .Add y (.lst (conBs bs)))) ys else none
  | .Assign [.Name x _] e _ :: r => if (locB sc x && !isComp e && decide (ixOf N x ≠ some 0)) = true then (ixOf N x).bind fun i => (cH N 100 sc e).bind fun y => (cHb N bit sc r).map fun ys => .cons (.set i y) ys else none
  | .Return (some e) _ :: r => (cH N 100 sc e).bind fun y => (cHb N bit sc r).map fun ys => .cons (.ret y) ys
  | _ => none
section
variable {T : List (Addr × Str)} {cl : Nat → Option Addr} {E : XK} {c : Cn} {X : Cx} {N : List Str} {sc : Scope} {a0 : Addr} {bit : Str → Option Bool}
def tJs (a0 : Addr) (t : TS) : TS := fun D σ H => σ[0]? = some (some (.ref a0)) ∧ t D σ H
theorem conv_setJ {i : Nat} {y : Ev.X} {b : Sts} {D : Ends} {σ : L2.St} {H : Hp} (hi : i ≠ 0) (h : tJs a0 (tSs X.K T cl E c (.cons (.set i y) b)) D σ H) :
    tSeq (tAsg (tJ a0 (tX X.K T cl E c y)) (gName i)) (tJs a0 (tSs X.K T cl E c b)) D σ H := by
  obtain ⟨hs, ρ, M, S, en, st, h⟩ := h
  unfold evSs evS at h
  rw [bind_assoc] at h
  refine ⟨hs, tX_b en st h fun v M1 H1 S1 u g1 en1 st1 r1 h1 => ⟨?_, ?_⟩⟩
  · rw [List.getElem?_set_ne hi]
    exact hs
  · exact ⟨_, M1, S1, en1.set r1, st1, h1⟩
theorem cHb_ok (G : HotG a0 bit X N sc) (hf : ∀ x, X.fn x = true) : ∀ ss ir, cHb N bit sc ss = some ir → PSs X ss (tJs a0 (tSs X.K T cl E c ir)) := by
  have hN : X.N.Nodup := by rw [G.names]; exact G.nd
  have ix : ∀ {x : Str} {i : Nat}, ixOf N x = some i → X.N[i]? = some x := fun h => by rw [G.names]; exact ix_of h
  have loc : ∀ {x : Str}, locB sc x = true → L2.Loc X.env.scope x := fun h => by rw [G.scope]; exact loc_of h
  intro ss
  induction ss with
  | nil => intro ir h; unfold cHb at h; cases h; exact pss_imp ssx_nil fun D σ H q => q.2
  | cons s r ih =>
    intro ir h
    unfold cHb at h
    split at h
    · rename_i heq; cases heq
    · rename_i heq
      cases heq
      split at h
      · rename_i hc
        simp only [Bool.and_eq_true, decide_eq_true_eq] at hc
        obtain ⟨i, hi, h⟩ := bindO h
        obtain ⟨bs, hb, h⟩ := bindO h
        obtain ⟨ys, hr, rfl⟩ := map_some h
        exact pss_imp (pss_cons (ps_set hN (ix hi) (loc hc.1) (px_bits (T := T) (cl := cl) (E := E) (c := c) G hb) (swp_no rfl) (.inl (hf _))) (ih _ hr)) fun D σ H q => conv_setJ (fun z => hc.2 (by rw [← z]; exact hi)) q
      · cases h
    · rename_i heq
      cases heq
      split at h
      · rename_i hc
        simp only [Bool.and_eq_true, decide_eq_true_eq] at hc
        obtain ⟨i, hi, h⟩ := bindO h
        obtain ⟨y, hy, h⟩ := bindO h
        obtain ⟨bs, hb, h⟩ := bindO h
        obtain ⟨ys, hr, rfl⟩ := map_some h
        exact pss_imp (pss_cons (ps_set hN (ix hi) (loc hc.1) (px_more (T := T) (cl := cl) (E := E) (c := c) G hb (cH_ok G _ _ _ hy)) (swp_no rfl) (.inl (hf _))) (ih _ hr)) fun D σ H q => conv_setJ (fun z => hc.2 (by rw [← z]; exact hi)) q
      · cases h
    · rename_i heq
      cases heq
      split at h
      · rename_i hc
        simp only [Bool.and_eq_true, Bool.not_eq_true', decide_eq_true_eq] at hc
        obtain ⟨i, hi, h⟩ := bindO h
        obtain ⟨y, hy, h⟩ := bindO h
        obtain ⟨ys, hr, rfl⟩ := map_some h
        exact pss_imp (pss_cons (ps_set hN (ix hi) (loc hc.1.1) (pe_imp (cH_ok (T := T) (cl := cl) (E := E) (c := c) G _ _ _ hy) (t' := tJ a0 (tX X.K T cl E c y)) fun σ H Q q => q.2) (swp_no hc.1.2) (.inl (hf _))) (ih _ hr)) fun D σ H q => conv_setJ (fun z => hc.2 (by rw [← z]; exact hi)) q
      · cases h
    · rename_i heq
      cases heq
      obtain ⟨y, hy, h⟩ := bindO h
      obtain ⟨ys, hr, rfl⟩ := map_some h
      refine pss_imp (pss_cons (sx_ret (cH_ok (T := T) (cl := cl) (E := E) (c := c) G _ _ _ hy)) (ih _ hr)) fun D σ H q => ?_
      obtain ⟨hs, ρ, M, S, en, st, h⟩ := q
      unfold evSs at h
      refine ⟨ρ, M, S, en, st, ?_⟩
      unfold evS at h ⊢
      rw [bind_assoc] at h
      cases e : evX c y ρ S with
      | ok u S1 =>
        rw [e] at h
        have h : Out X.K T cl E M H (.ok (.rt u) S1) (relF X.K) (endF D) := h
        intro b M' H' g st' rel
        cases b with
        | inl σ' => exact rel.elim
        | inr v => exact h (.inr v) M' H' g st' rel
      | exc k S1 => rw [e] at h; exact h
      | bad => rw [e] at h; exact h
    · cases h
/-- isinstance of the error that is handled -/
theorem isE_any {a D : Addr} {oe : Obj} {d : Option Addr} (hp : (a, oe) ∈ X.pn) (C : ExcC X.K D) (hz : Zc (.ref D) d oe) (hdc : ∀ dd, d = some dd → (∃ od, X.s_0.heap.get? dd = some od) ∧ dd ∉ X.ex) (hf : ∃ vs, oe.data = .fields vs) {v : V} {cv : Value} (hcv : ∀ u, RelV v u → u = cv) {b : Bool} (e : PySem.W.kitOne X.K (.ref D) cv = some b) :
    CallR X (.builtin "isinstance") (fun xs H Q => xs = [.ref a, v] ∧ Q (.bl b) H) := by
  intro pins s σ H xs us Q I r ⟨ex, q⟩
  subst ex
  cases r with
  | cons rx rr =>
    cases rr with
    | cons rt rr =>
      cases rr
      cases rx
      have ec := hcv _ rt
      subst ec
      obtain ⟨hget, _⟩ := I.pin (a, oe) (List.mem_append_left _ hp)
      obtain ⟨vs, hv⟩ := hf
      obtain ⟨od', J⟩ : ∃ od', PySem.W.InstAt s.heap a oe D od' := by
        obtain ⟨oc, od, oda, osl⟩ := oe
        obtain ⟨h1, h2⟩ := hz
        dsimp only at h1 h2 hv
        subst h1 h2 hv
        cases od with
        | none => exact ⟨none, hget, rfl, rfl, trivial⟩
        | some dd =>
          obtain ⟨⟨ob, e1⟩, e2⟩ := hdc dd rfl
          obtain ⟨ob', e3⟩ := I.base.there dd ob e1 e2
          exact ⟨some ob', hget, rfl, rfl, e3⟩
      exact PySem.W.kia_one (PySem.W.kitx_exc (by obtain ⟨cd, e4, _⟩ := PySem.W.any_some C.hd; rw [e4]; rfl) C.hg C.hk C.hs C.ha C.hn C.ht C.hm) I.kIn J e (fun z => nomatch z) fun tk => ⟨.bl b, H, I.kept (t' := tk) fun _ _ z => z, rfl, q⟩
/-- a def called while p's exception is handled: its body walked with p in sight -/
theorem call_hotp {CX : CXT} {P : Program} {w : World} {K : W.Frag} {mg : Str → Option Value} {base : Heap} {k : Nat} {f : Addr} {name qual : Str} {params : Arguments} {body : List Stmt} {scope : Scope} {dV kV doc pm cdv ct oc : Value} {an od : Option Addr}
    {osl : Array (Option Value)} {N ps : List Str} (lk : K.lookup f = some ⟨oc, od, .func (W.fnOf name qual params body scope dV kV doc pm an cdv ct), osl⟩) (hcd : W.codeIn K cdv qual = true) (S : FnScope N ps scope)
    {A : Around} {outer : List Env} {s : Shared} {H : Hp} {args : Args} {us : List Value} {vs : List V} {Q : VK} {E : XK} {p : Addr × Obj} (hr : RoomH (k + 1) A) (hpin : PinOk outer H s p) (e0 : Env0 P w K mg base A outer s H)
    (hb : BindsTo s (W.fnOf name qual params body scope dV kV doc pm an cdv ct) args (ps.zip us)) (r : Vals vs us) (hl : vs.length = ps.length)
    (hbody : RoomH k (A.deeper (envOfC qual scope s.heap.objs.size f cdv)) → ∃ t, PSs (cxH CX P w K mg base N qual scope f cdv A outer s H E p) body t ∧ t { nx := fun _ H' => Q .non H', rt := Q } (L2.start N vs) H) :
    codeAny (model P w) A (.call (.ref f) args) (CR CX outer P w H s Q E) s := by
  have KX : K.In s.heap := e0.mod.kin.keeps fun b o e => (e0.bs b o e).1
  have hkind : ∀ y ∈ ps.zip us, scope.names.lookup y.1 = some .local ∨ (scope.names.lookup y.1 = some .cell ∧ ((cellsFrom (s.heap.objs.size + 1) scope.names []).lookup y.1).isSome = true) := fun ⟨n, v⟩ hy =>
    (S.par n (List.of_mem_zip hy).1).imp id fun q => ⟨q, W.cellsFrom_some _ _ _ (.inl q)⟩
  refine codeAny_call_function hr.depth (KX _ _ lk) rfl S.co S.gen rfl (W.codeRec_of KX hcd) (hb _ _ _ _ ?_)
  refine wpAny_newFunctionEnv_cells S.kind hkind fun env he s1 x => ?_
  subst he
  refine ⟨(e0.mod.nolimit.keeps fun b o e => (e0.bs b o e).1).keeps x.toInCall.keep, codeAny_func ?_⟩
  obtain ⟨t, ht, hq⟩ := hbody (hr.deeper _)
  refine wpAny_mono (ht.run [] s1 (L2.start N vs) H _ (inv_startH S hpin e0 hl r x) hq) (fun fl s' hs => ?_) fun e s' hs => hs
  cases fl with
  | ret u =>
    obtain ⟨v, σ', H', J, rv, q⟩ := hs
    exact ⟨v, H', J.os, J.bare, J.base, J.hok, rv, q⟩
  | next =>
    obtain ⟨σ', H', J, q⟩ := hs
    exact ⟨V.non, H', J.os, J.bare, J.base, J.hok, rfl, q⟩
  | brk =>
    obtain ⟨_, _, _, q⟩ := hs
    exact q.elim
  | cont =>
    obtain ⟨_, _, _, q⟩ := hs
    exact q.elim
/-- the def that names an error: what is asked of it -/
structure NmDef (T : List (Addr × Str)) (cl : Nat → Option Addr) (nm : Nat → Option Str) (P : Program) (w : World) (K : W.Frag) (mg : Str → Option Value) (base : Heap) (y : Str) (g : Addr) (pg : Arguments) (bg : List Stmt) (sg : Scope) (dV kV doc pm cdv ct oc : Value) (an od : Option Addr) (osl : Array (Option Value)) (Ng : List Str) (a : Str) : Prop where
  at_ : mg y = some (.ref g)
  kp : W.keepIn K (.ref g) = true
  lk : K.lookup g = some ⟨oc, od, .func (W.fnOf y y pg bg sg dV kV doc pm an cdv ct), osl⟩
  cd : W.codeIn K cdv y = true
  bnd : Binds K (W.fnOf y y pg bg sg dV kV doc pm an cdv ct) [a] []
  sc : FnScope Ng [a] sg
  isi : mg "isinstance" = none
  zip : mg "zip" = none
  exc : ∀ i C z, cl i = some C → nm i = some z → ExcC K C ∧ ∃ bit : Str → Option Bool, (∀ x b, bit x = some b → ∃ v cv, (mg x = some cv ∨ (mg x = none ∧ bootBuiltins x = some cv ∧ x ≠ "__name__")) ∧ RelV v cv ∧ (∀ u, RelV v u → u = cv) ∧ W.kitOne K (.ref C) cv = some b) ∧
    ∃ ir, cHb Ng bit sg bg = some ir ∧ ∀ (c : Cn) S, evSs c ir (List.replicate Ng.length none) S = .ok (.rt (.d (.str z))) S
/-- y(n), n the error -/
theorem px_nm {nm : Nat → Option Str} {Y : Cx} {a : Addr} {oe : Obj} {cls : Value} {d : Option Addr} {y n : Str} {i : Nat} {g : Addr} {pg : Arguments} {bg : List Stmt} {sg : Scope} {dV kV doc pm cdv ct oc : Value} {an od : Option Addr} {osl : Array (Option Value)} {Ng : List Str} {pa : Str} {p q pos : Pos}
    (D : NmDef T cl nm Y.prog Y.w Y.K Y.mg Y.base y g pg bg sg dV kV doc pm cdv ct oc an od osl Ng pa) (hp : (a, oe) ∈ Y.pn) (hh : Y.A.handled = some (.ref a)) (hz : L2N.Zn cls d oe) (hf : ∃ vs, oe.data = .fields vs) (hr : RoomH 1 Y.A)
    (hg : Gl Y y) (hdb : (y == ("__debug__" : Str)) = false) (hi : Y.N[i]? = some n) (hv : Vis Y.env.scope n) (ho : odd n = false) :
    PE Y (.Call (.Name y p) [.Name n q] [] pos) (fun σ H Q => ∃ M S C j z, Dic d H ∧ cls = .ref C ∧ cl j = some C ∧ nm j = some z ∧ StOk Y.K T M S H ∧ (i < σ.length → σ[i]? = some (some (.ref a))) ∧ ∀ M' H'', Gr M H M' H'' → StOk Y.K T M' S H'' → Q (.str z) H'') := by
  refine ⟨fun pins s σ H Q I ⟨M, S, C, j, z, e1, e2, e3, e4, st, e5, hq⟩ => ?_⟩
  subst e2
  have e5 := e5 (by rw [I.len]; exact (List.getElem?_eq_some_iff.mp hi).1)
  obtain ⟨vs, hd⟩ := hf
  have hot : Hot1 Y.A (a, oe) := ⟨hh, vs, hd, hz.2.2 vs hd⟩
  obtain ⟨hE, bit, hbit, hir⟩ := D.exc j C z e3 e4
  obtain ⟨ir, hc, hev⟩ := hir
  refine wpAny_Call_Name_kw (ld_glob I hg D.at_ ?_ hdb)
  have ha : PA Y [.Name n q] (tCons (tVar i) tNil) := pa_cons (pe_var hi hv (odd_of ho).1 (odd_of ho).2.1) pa_nil
  refine W.callWith_K (h₀ := Y.base) I.ok.mod.kin D.kp (thn (ha.run pos pins s σ H (fun us H1 => us = [.ref a] ∧ H1 = H) I ⟨_, e5, rfl, rfl⟩) fun us s1 ⟨ws, H1, I1, r, ew, eH⟩ => ⟨I1.kIn, ?_⟩) rfl rfl
  subst ew eH
  have P1 := I1.pin (a, oe) (List.mem_append_left _ hp)
  have hdic : ∀ dd, d = some dd → (∃ od, s1.heap.get? dd = some od) ∧ dd ∉ ([] : List Addr) := fun dd e => by
    obtain ⟨fs, e6⟩ := e1 dd e
    obtain ⟨o, e7⟩ := objOk_get (I1.hok dd _ e6)
    exact ⟨⟨o, e7⟩, fun z => by cases z⟩
  have hpin : PinOk Y.stack H1 s1 (a, oe) := ⟨P1.1, P1.2.1, fun hm => (List.mem_cons.mp (I1.stkSub a hm)).elim P1.2.2.1 P1.2.2.2.1, P1.2.2.2.2⟩
  have hb := D.bnd s1 us I1.kIn (by rw [List.append_nil, ← r.length]; rfl)
  rw [List.append_nil] at hb
  have rc : codeAny (model Y.prog Y.w) Y.A (.call (.ref g) ⟨us, []⟩) (CR C8.CX0 Y.stack Y.prog Y.w H1 s1 Q C8.E0) s1 := by
    refine call_hotp (k := 0) D.lk D.cd D.sc hr hpin I1.env0 hb r rfl fun hr' => ?_
    have G : HotG a bit (cxH C8.CX0 Y.prog Y.w Y.K Y.mg Y.base Ng y sg g cdv Y.A Y.stack s1 H1 C8.E0 (a, oe)) Ng sg :=
      ⟨⟨(a, oe), hot, List.mem_cons_self⟩, rfl, D.sc.nd, rfl, by have := hr'.un; show (Y.A.deeper _).units + 65 < cLine; omega, D.isi, D.zip, fun x b hx => by
        obtain ⟨v, cv, h1, h2, h3, h4⟩ := hbit x b hx
        refine ⟨v, fun p hgx hox => ?_, isE_any (X := cxH C8.CX0 Y.prog Y.w Y.K Y.mg Y.base Ng y sg g cdv Y.A Y.stack s1 H1 C8.E0 (a, oe)) List.mem_cons_self hE hz.zc hdic ⟨vs, hd⟩ h3 h4⟩
        rcases h1 with h1 | ⟨h1, h5, h6⟩
        · exact pe_glob (gl_of rfl hgx) h1 h2 (odd_of hox).1
        · exact pe_bltn (gl_of rfl hgx) h1 h5 h2 h6 (odd_of hox).1⟩
    have hlen : 1 ≤ Ng.length := by
      have := congrArg List.length D.sc.pre
      rw [List.length_take] at this
      have e : ([pa] : List Str).length = 1 := rfl
      rw [e] at this
      omega
    refine ⟨_, cHb_ok (T := T) (cl := cl) (E := C8.E0) (c := ⟨fun _ _ _ => .bad, none, fun _ => none⟩) G (fun _ => rfl) _ _ hc, rfl, List.replicate Ng.length none, M, S, ⟨?_, fun i u h => ?_⟩, st, ?_⟩
    · unfold L2.start
      simp
      omega
    · rw [List.getElem?_replicate] at h
      split at h <;> cases h
    · rw [hev]
      intro x M' H' gr st' rel
      cases x with
      | inl σ' => exact rel.elim
      | inr v =>
        cases (show Rp Y.K M' H' v (.str z) from rel)
        exact hq M' H' gr st'
  refine wpAny_call (codeAny_mono rc fun r s' hq => ?_)
  cases r with
  | error e => exact (show False from hq).elim
  | ok fl =>
    cases fl with
    | ret u => exact I1.after hq
    | next => exact False.elim hq
    | brk => exact False.elim hq
    | cont => exact False.elim hq
/-- try: a() / except w as n: return y(n) / return '' -/
theorem err_gives {nm : Nat → Option Str} {x y a n we : Str} {q : Str} {sx : Scope} {gx WE : Addr} {cdx : Value} {Nx : List Str} {jc : Nat} {p1 p2 p3 p4 p5 p6 p7 p8 p9 p10 p11 p12 : Pos}
    {g : Addr} {pg : Arguments} {bg : List Stmt} {sg : Scope} {dV kV doc pm cdv ct oc : Value} {an od : Option Addr} {osl : Array (Option Value)} {Ng : List Str} {pa : Str}
    (D : NmDef T cl nm X.prog X.w X.K X.mg X.base y g pg bg sg dV kV doc pm cdv ct oc an od osl Ng pa) (hr : Room 2 X.A) (hNx : Nx.Nodup) (h0 : ∀ f : Addr, (L2.start Nx [V.ref f])[0]? = some (some (V.ref f))) (hl : 1 < Nx.length) (h1 : Nx[1]? = some n) (hn : sx.names.lookup n = some .local)
    (hwe : sx.names.lookup we = some .globalImplicit) (hmw : X.mg we = some (.ref WE)) (hdw : (we == ("__debug__" : Str)) = false) (hy : sx.names.lookup y = some .globalImplicit) (hdy : (y == ("__debug__" : Str)) = false) (hon : odd n = false)
    (hex : ∀ i C, cl i = some C → W.exmOne X.K (.ref C) (.ref WE) = some true) :
    GivesN X Nx x sx gx cdx [.Try [.Expr (.Call (.Name a p1) [] [] p2) p3] [.ExceptHandler (some (.Name we p4)) (some n) [.Return (some (.Call (.Name y p5) [.Name n p6] [] p7)) p8] p9] [] [] p10, .Return (some (.Constant (.str ⟨#[]⟩) jc p11)) p12] a q (TTerr X.K T cl nm) := by
  intro f c' s H Q tl act hc h
  have ht := L2N.ps_try_as (X := (gotN X Nx x sx gx cdx s H).nox) (x := we) (n := n) (c := .ref WE) (i := 1) (np := p4) (pos := p10) (pos' := p9) (body := [.Expr (.Call (.Name a p1) [] [] p2) p3]) (b₀ := .Return (some (.Call (.Name y p5) [.Name n p6] [] p7)) p8) (suite := [])
      (tb := fun W D σ H => ∃ Ech : XK, (∀ cls d σ' H', Ech cls d H' → W cls d σ' H') ∧ σ[0]? = some (some (.ref f)) ∧ H c' = some (LamX.CodeO c' q) ∧ tl Ech H fun _ H1 => D.nx σ H1)
      (ts := fun a cls d D σ H => ∃ M S C j z, Dic d H ∧ cls = .ref C ∧ cl j = some C ∧ nm j = some z ∧ StOk X.K T M S H ∧ (1 < σ.length → σ[1]? = some (some (.ref a))) ∧ ∀ M' H'', Gr M H M' H'' → StOk X.K T M' S H'' → D.rt (.str z) H'')
      (Wout := fun _ _ _ _ => False) rfl rfl hNx h1 hn ⟨hwe, hdw, .inl hmw⟩ takesN0 (fun W pn xe tk _ => ?_) (fun b oe cls d pn hz hf => ?_)
  · refine ⟨_, pss_cons ht (pss_one (ps_ret pe_str)), ?_⟩
    refine ⟨fun cls d H' => ∃ M S C i z, Dic d H' ∧ StOk X.K T M S H' ∧ cls = .ref C ∧ cl i = some C ∧ nm i = some z ∧ ∀ M' H'', Gr M H' M' H'' → StOk X.K T M' S H'' → Q (.str z) H'', fun cls d σ' H' ⟨M, S, C, i, z, e1, st, e2, e3, e4, k⟩ => ?_, h0 f, hc, h⟩
    subst e2
    exact ⟨true, hex i C e3, fun _ b hb => ⟨M, S, C, i, z, e1, rfl, e3, e4, st, fun hlt => by rw [List.getElem?_set_self (by simpa using hlt)], k⟩, fun z => by cases z⟩
  · refine ⟨fun pins s' σ H' D I ⟨Ech, hW, g1, g2, g3⟩ => ?_⟩
    exact (pss_one (ps_expr (act W pn xe Ech p1 p2 tk hW))).run pins s' σ H' D I ⟨g1, g2, g3⟩
  · have hr1 : RoomH 1 ((gotN X Nx x sx gx cdx s H).nox.suite b ((b, oe) :: pn)).A := ⟨(hr.deeper (envOfC x sx s.heap.objs.size gx cdx)).dp, (hr.deeper (envOfC x sx s.heap.objs.size gx cdx)).un⟩
    exact pss_one (ps_ret (px_nm (Y := (gotN X Nx x sx gx cdx s H).nox.suite b ((b, oe) :: pn)) (nm := nm) D List.mem_cons_self rfl hz hf hr1 hy hdy h1 (.inl hn) hon))
end
end Ev
end

section
set_option Elab.async false
set_option linter.all false
set_option autoImplicit false
set_option maxRecDepth 100000
set_option maxHeartbeats 4000000
/-! # From what the program's top has laid -/
namespace Ev
open PySem PySem.Spec PyProof.Rows L2
def cfgOf (rows : List Row) (clsN : List Str) (tm : List (Str × Str)) (conI : List (Str × Int)) : Cfg :=
  { fnIx := ixOf (rows.map (·.nm)), clIx := fun x => if (tm.lookup x).isSome = true then none else ixOf clsN x, clTx := fun x => if (tm.lookup x).isSome = true then ixOf clsN x else none, con := fun x => (conI.lookup x).map .int, errs := fun x => decide (x = "_law_error"), bx := [], lam := false, keep := false, np := fun i => (rows[i]?).map (·.ps.length) }
/-- what a program is, for the little language: its defs; the classes that are raised, with their words; whole-number constants; all own classes that are asked of; the def that calls what it gets, the def that names the error -/
structure Pg where
  rows : List Row
  clsN : List Str
  nmL : List Str
  conI : List (Str × Int)
  own : List Str
  eSt : Stmt
  nSt : Stmt
  Ne : List Str
  Nn : List Str
  /-- classes with a maker of their own, what it keeps; the text's file -/
  tm : List (Str × Str)
  file : Str
def Pg.g (p : Pg) : Cfg := cfgOf p.rows p.clsN p.tm p.conI
def Pg.tf (p : Pg) : List He.Defn := (p.rows.filter (·.lam)).map fun r => (r.nm, none)
def Pg.fa (p : Pg) : List He.Fa :=
  p.rows.map (fun r => .glo r.nm) ++ ([.glo "_law_error", .glo "_law_names", .glo "WalkError", .free "ValueError", .free "super"] ++ (p.clsN.map .glo ++ ((p.clsN.filter fun x => !(p.tm.lookup x).isSome).map .exc ++ (p.clsN.map (fun x => .exm x "WalkError" true) ++ (p.own.map .glo ++ (bltNames.map .free ++ p.conI.map fun q => .int q.1 q.2))))))
def defD (x : Str) (st : Stmt) : He.DefD := ⟨(x, none), x, x, defArgs st, defBody st, defScope st, [], []⟩
def Pg.fn (p : Pg) : List He.DefD := p.rows.map (fun r => defD r.nm r.st) ++ [defD "_law_error" p.eSt, defD "_law_names" p.nSt]
/-- what isinstance asks of a class -/
def excCB (K : W.Frag) (D : Addr) : Bool :=
  decide (W.findIn K (.ref D) "__getattribute__" = some (some (.builtin "BaseException.__getattribute__"))) && decide (W.findIn K (.ref D) "__getattr__" = some none) && decide (W.subIn K (.ref D) (.type "BaseException") = some true) && W.hasDictIn K D &&
  decide (W.findIn K (.ref D) "__class__" = some (some (.builtin "object.__class__"))) && decide (W.specialIn K (.builtin "object.__class__") "__get__" = some (some (.builtin "getset_descriptor.__get__"))) && decide (W.takesIn K (.builtin "object.__class__") = some true) && decide (W.mroIn K D (.type "object") = some true)
theorem excCB_ok {K : W.Frag} {D : Addr} (h : excCB K D = true) : ExcC K D := by
  unfold excCB at h
  simp only [Bool.and_eq_true, decide_eq_true_eq] at h
  obtain ⟨⟨⟨⟨⟨⟨⟨h1, h2⟩, h3⟩, h4⟩, h5⟩, h6⟩, h7⟩, h8⟩ := h
  exact ⟨h1, h2, h3, h4, h5, h6, h7, h8⟩
def Pg.ex (p : Pg) (K : W.Frag) : Bool :=
  (p.clsN.all fun c => excCB K (He.ga K c) && (p.own.all fun x => decide (W.kitOne K (.ref (He.ga K c)) (.ref (He.ga K x)) = some (decide (x = c)))) && decide (W.kitOne K (.ref (He.ga K c)) (.type "ValueError") = some true)) &&
  decide ((p.tf.map fun q => (He.cT K q).2).Nodup) && (p.tm.all fun q => tmB p.file K (He.ga K q.1) (He.ma K (He.ga K q.1) "__init__") q.2)
/-- which classes an error of the class c is of -/
def Pg.bit (p : Pg) (c x : Str) : Option Bool := if x ∈ p.own then some (decide (x = c)) else if x = "ValueError" then some true else none
def Pg.nm (p : Pg) (i : Nat) : Option Str := p.nmL[i]?
def Pg.T (p : Pg) (K : W.Frag) : List (Addr × Str) := p.tf.map fun q => ((He.cT K q).2, q.1 ++ ".<locals>." ++ "<lambda>")
def Pg.cl (p : Pg) (K : W.Frag) (i : Nat) : Option Addr := (p.clsN[i]?).map (He.ga K)
/-- how one argument binds -/
def Bnd1 (x : Str) (st : Stmt) (ps : List Str) : Prop := ∀ (kV doc pm : Value) (an : Option Addr) (cdv ct : Value) (us : List Value), us.length = ps.length → bindArgs (W.fnOf x x (defArgs st) (defBody st) (defScope st) .none kV doc pm an cdv ct) ⟨us, []⟩ = pure (ps.zip us)
/-- what is to be checked of the text -/
structure PgOk (p : Pg) (fns : List Fn) : Prop where
  ir : ∀ (i : Nat) r, p.rows[i]? = some r → ∃ fn, fns[i]? = some fn ∧ r.ir p.g = some fn
  sc : ∀ r, r ∈ p.rows → FnScope r.N r.ps (defScope r.st)
  bnd : ∀ r, r ∈ p.rows → r.Bnd
  nd : (p.rows.map (·.nm)).Nodup
  nmL : p.nmL.length = p.clsN.length
  scE : ∃ a, FnScope p.Ne [a] (defScope p.eSt) ∧ p.Ne[0]? = some a ∧ Vis (defScope p.eSt) a ∧ odd a = false ∧ Bnd1 "_law_error" p.eSt [a] ∧ ∃ n j p1 p2 p3 p4 p5 p6 p7 p8 p9 p10 p11 p12, 1 < p.Ne.length ∧ p.Ne[1]? = some n ∧ odd n = false ∧ (defScope p.eSt).names.lookup n = some .local ∧
    (defScope p.eSt).names.lookup ("WalkError" : Str) = some .globalImplicit ∧ (defScope p.eSt).names.lookup ("_law_names" : Str) = some .globalImplicit ∧
    defBody p.eSt = [.Try [.Expr (.Call (.Name a p1) [] [] p2) p3] [.ExceptHandler (some (.Name "WalkError" p4)) (some n) [.Return (some (.Call (.Name "_law_names" p5) [.Name n p6] [] p7)) p8] p9] [] [] p10, .Return (some (.Constant (.str ⟨#[]⟩) j p11)) p12]
  scN : ∃ a, FnScope p.Nn [a] (defScope p.nSt) ∧ Bnd1 "_law_names" p.nSt [a]
  nm : ∀ (i : Nat) c z, p.clsN[i]? = some c → p.nmL[i]? = some z → ∃ ir, cHb p.Nn (p.bit c) (defScope p.nSt) (defBody p.nSt) = some ir ∧ ∀ (g : Cn) S, evSs g ir (List.replicate p.Nn.length none) S = .ok (.rt (.d (.str z))) S
theorem fun_at {K : W.Frag} {x qual : Str} {params : Arguments} {body : List Stmt} {scope : Scope} {f : Addr} {fd : FuncData} (F : FunD K x qual params body scope [] [] f fd) :
    ∃ (oc : Value) (od : Option Addr) (dV kV doc pm : Value) (an : Option Addr) (cdv ct : Value) (osl : Array (Option Value)), fd = W.fnOf x qual params body scope dV kV doc pm an cdv ct ∧ K.lookup f = some ⟨oc, od, .func fd, osl⟩ ∧ W.codeIn K cdv qual = true := by
  obtain ⟨oc, od, dV, kV, doc, pm, an, cdv, ct, osl, h1, h2, h3, _, _⟩ := F.ex
  exact ⟨oc, od, dV, kV, doc, pm, an, cdv, ct, osl, h1, h2, h3⟩
theorem map_nd {α β : Type} {f : α → β} {l : List α} {a b : α} (nd : (l.map f).Nodup) (ha : a ∈ l) (hb : b ∈ l) (e : f a = f b) : a = b := by
  induction l with
  | nil => cases ha
  | cons x r ih =>
    rw [List.map_cons, List.nodup_cons] at nd
    rcases List.mem_cons.mp ha with ha | ha
    · rcases List.mem_cons.mp hb with hb | hb
      · rw [ha, hb]
      · exact absurd (List.mem_map.mpr ⟨b, hb, by rw [← e, ha]⟩) nd.1
    · rcases List.mem_cons.mp hb with hb | hb
      · exact absurd (List.mem_map.mpr ⟨a, ha, by rw [e, hb]⟩) nd.1
      · exact ih nd.2 ha hb
section
variable {p : Pg} {fns : List Fn} {P : Program} {w : World} {K : W.Frag} {mg : Str → Option Value} {base h : Heap}
theorem lay_of (O : PgOk p fns) (hP : p.tm ≠ [] → ((P.main.file : Str) == p.file) = true ∧ (P.main.scope.names.lookup ("super" : Str)).isSome = false) (c : He.SaysX p.fa p.fn [] p.tf p.ex w h K) (KX : K.In base) (G : base.Ns mainGlobals mg) (TB : ∀ q, q ∈ p.tf.map (He.cT K) → LamX.TabB base mg q.1 q.2) :
    Lay p.g p.rows ⟨fns, p.nm⟩ (p.T K) (p.cl K) P w K mg base := by
  have D : He.SaysD p.fa p.fn K := c.t.d
  have glo : ∀ {x : Str}, He.Fa.glo x ∈ p.fa → mg x = some (.ref (He.ga K x)) := fun {x} hx => He.glo_ok KX G (D.facts hx)
  have fre : ∀ {x : Str}, He.Fa.free x ∈ p.fa → mg x = none := fun {x} hx => He.free_ok KX G (D.facts hx)
  have gRow : ∀ r, r ∈ p.rows → mg r.nm = some (.ref (He.ga K r.nm)) := fun r hr => glo (by unfold Pg.fa; exact List.mem_append_left _ (List.mem_map.mpr ⟨r, hr, rfl⟩))
  have gCls : ∀ x, x ∈ p.clsN → mg x = some (.ref (He.ga K x)) := fun x hx => glo (by unfold Pg.fa; simp [hx])
  have gOwn : ∀ x, x ∈ p.own → mg x = some (.ref (He.ga K x)) := fun x hx => glo (by unfold Pg.fa; simp [hx])
  have gE : mg "_law_error" = some (.ref (He.ga K "_law_error")) := glo (by unfold Pg.fa; simp)
  have gN : mg "_law_names" = some (.ref (He.ga K "_law_names")) := glo (by unfold Pg.fa; simp)
  have gW : mg "WalkError" = some (.ref (He.ga K "WalkError")) := glo (by unfold Pg.fa; simp)
  have gV : mg "ValueError" = none := fre (by unfold Pg.fa; simp)
  have gS : mg "super" = none := fre (by unfold Pg.fa; simp)
  have gB : ∀ x, x ∈ bltNames → mg x = none := fun x hx => fre (by unfold Pg.fa; simp only [List.mem_append, List.mem_map]; exact .inr (.inr (.inr (.inr (.inr (.inr (.inl ⟨x, hx, rfl⟩)))))))
  have ex := c.more
  unfold Pg.ex at ex
  rw [Bool.and_eq_true, Bool.and_eq_true, List.all_eq_true, decide_eq_true_eq, List.all_eq_true] at ex
  obtain ⟨⟨exC, exT⟩, exM⟩ := ex
  have fE := D.defs (d := defD "_law_error" p.eSt) (by unfold Pg.fn; simp)
  have fN := D.defs (d := defD "_law_names" p.nSt) (by unfold Pg.fn; simp)
  have fRow : ∀ r, r ∈ p.rows → ∃ fd, FunD K r.nm r.nm (defArgs r.st) (defBody r.st) (defScope r.st) [] [] (He.ga K r.nm) fd := fun r hr => D.defs (d := defD r.nm r.st) (by unfold Pg.fn; exact List.mem_append_left _ (List.mem_map.mpr ⟨r, hr, rfl⟩))
  refine ⟨O.ir, O.sc, O.bnd, fun r hr => ?_, fun r hr hl f fd hf F => ?_, fun x i hi => ?_, fun i => rfl, fun x i hi => ?_, fun x i hi => ?_, fun i z hz => ?_, fun x hx => ?_, gB, fun x q hq => ?_⟩
  · obtain ⟨fd, F⟩ := fRow r hr
    exact ⟨_, fd, gRow r hr, F⟩
  · rw [gRow r hr] at hf
    cases hf
    obtain ⟨oc, od, dV, kV, doc, pm, an, cdv, ct, osl, e1, e2, e3⟩ := fun_at F
    obtain ⟨cA, ec⟩ := He.codeIn_ref e3
    have hq : (r.nm, none) ∈ p.tf := by unfold Pg.tf; exact List.mem_map.mpr ⟨r, List.mem_filter.mpr ⟨hr, hl⟩, rfl⟩
    have ecode : fd.code = .ref cA := by rw [e1, ← ec]
    have e4 : He.codeOf K (r.nm, none) = cA := He.codeOf_eq (by show K.lookup (He.ga K r.nm) = _; exact e2) ecode
    refine ⟨cA, (He.cT K (r.nm, none)).2, ecode, ?_, List.mem_map.mpr ⟨_, hq, rfl⟩, fun t ht et => ?_⟩
    · have := TB _ (List.mem_map.mpr ⟨_, hq, rfl⟩)
      rw [show (He.cT K (r.nm, none)).1 = cA from e4] at this
      exact this
    · obtain ⟨q, hq2, rfl⟩ := List.mem_map.mp ht
      rw [map_nd exT hq2 hq et]
  · have hx := ix_of hi
    rw [List.getElem?_map] at hx
    obtain ⟨r, e1, e2⟩ := map_some hx
    exact ⟨r, e1, e2⟩
  · have hi : (if (p.tm.lookup x).isSome = true then none else ixOf p.clsN x) = some i := hi
    split at hi
    · cases hi
    · rename_i ht
      have hx := ix_of hi
      have hm := List.mem_of_getElem? hx
      have ht : (p.tm.lookup x).isSome = false := by
        cases z : (p.tm.lookup x).isSome with
        | true => exact absurd z ht
        | false => rfl
      obtain ⟨e1, e2, e3, e4⟩ := He.exc_ok (D.facts (f := .exc x) (by
        unfold Pg.fa
        refine List.mem_append_right _ (List.mem_append_right _ (List.mem_append_right _ (List.mem_append_left _ (List.mem_map.mpr ⟨x, List.mem_filter.mpr ⟨hm, by rw [ht]; rfl⟩, rfl⟩))))))
      exact ⟨He.ga K x, by unfold Pg.cl; rw [hx]; rfl, gCls x hm, e2, e1, e3, e4⟩
  · have hi : (if (p.tm.lookup x).isSome = true then ixOf p.clsN x else none) = some i := hi
    split at hi
    · rename_i ht
      have hx := ix_of hi
      have hm := List.mem_of_getElem? hx
      obtain ⟨f, hf⟩ := Option.isSome_iff_exists.mp ht
      have hq := PySem.mem_of_lookup hf
      obtain ⟨p1, p2⟩ := hP (fun z => by rw [z] at hq; cases hq)
      have := exM _ hq
      obtain ⟨e1, e2, e3⟩ := tmB_ok this p1 p2 gS
      exact ⟨He.ga K x, f, _, by unfold Pg.cl; rw [hx]; rfl, gCls x hm, e1, e2, e3⟩
    · cases hi
  · have hz : p.nmL[i]? = some z := hz
    have hi : i < p.clsN.length := by rw [← O.nmL]; exact (List.getElem?_eq_some_iff.mp hz).1
    exact ⟨He.ga K p.clsN[i], by unfold Pg.cl; rw [List.getElem?_eq_getElem hi]; rfl⟩
  · -- the def that calls what it got
    have hx : decide (x = "_law_error") = true := hx
    have hx := of_decide_eq_true hx
    subst hx
    obtain ⟨fe, FE⟩ := fE
    obtain ⟨fn, FN⟩ := fN
    have FE : FunD K "_law_error" "_law_error" (defArgs p.eSt) (defBody p.eSt) (defScope p.eSt) [] [] (He.ga K "_law_error") fe := FE
    have FN : FunD K "_law_names" "_law_names" (defArgs p.nSt) (defBody p.nSt) (defScope p.nSt) [] [] (He.ga K "_law_names") fn := FN
    obtain ⟨a, s1, s2, s3, s4, s5, n, j, p1, p2, p3, p4, p5, p6, p7, p8, p9, p10, p11, p12, t1, t2, t3, t4, t5, t6, t7⟩ := O.scE
    obtain ⟨an', n1, n2⟩ := O.scN
    obtain ⟨oc, od, dV, kV, doc, pm, an, cdv, ct, osl, e1, e2, e3⟩ := fun_at FE
    obtain ⟨oc', od', dV', kV', doc', pm', anN, cdv', ct', osl', e1', e2', e3'⟩ := fun_at FN
    have bE := FE.bindsN (ps := [a]) s5
    have bN := FN.bindsN (ps := [an']) n2
    subst e1 e1'
    refine ⟨_, _, _, _, dV, kV, doc, pm, cdv, ct, oc, an, od, osl, p.Ne, a, gE, FE.kp, e2, e3, bE, s1, s2, s3, s4, fun X hP hw hK hm hb hr q => ?_⟩
    subst hP hw hK hm hb
    have ND : NmDef (p.T X.K) (p.cl X.K) p.nm X.prog X.w X.K X.mg X.base "_law_names" (He.ga X.K "_law_names") (defArgs p.nSt) (defBody p.nSt) (defScope p.nSt) dV' kV' doc' pm' cdv' ct' oc' anN od' osl' p.Nn an' :=
      ⟨gN, FN.kp, e2', e3', bN, n1, gB _ (by simp), gB _ (by simp), fun i C z hC hz => by
        unfold Pg.cl at hC
        obtain ⟨k, hk, rfl⟩ := map_some hC
        have q := exC k (List.mem_of_getElem? hk)
        simp only [Bool.and_eq_true, List.all_eq_true, decide_eq_true_eq] at q
        obtain ⟨⟨q1, q2⟩, q3⟩ := q
        refine ⟨excCB_ok q1, p.bit k, fun x b hb => ?_, O.nm i k z hk hz⟩
        unfold Pg.bit at hb
        split at hb
        · rename_i ho
          cases hb
          exact ⟨.ref (He.ga X.K x), .ref (He.ga X.K x), .inl (gOwn x ho), rfl, fun u hu => by cases hu; rfl, q2 x ho⟩
        · split at hb
          · rename_i ho
            subst ho
            cases hb
            exact ⟨.ty "ValueError", .type "ValueError", .inr ⟨gV, by decide +kernel, by decide +kernel⟩, rfl, fun u hu => by cases hu; rfl, q3⟩
          · cases hb⟩
    rw [t7]
    refine err_gives ND hr s1.nd (fun f => rfl) t1 t2 t4 t5 gW (by decide +kernel) t6 (by decide +kernel) t3 fun i C hC => ?_
    unfold Pg.cl at hC
    obtain ⟨k, hk, rfl⟩ := map_some hC
    have hm := List.mem_of_getElem? hk
    exact He.exm_ok (D.facts (f := .exm k "WalkError" true) (by unfold Pg.fa; simp [hm]))
  · have hq : (p.conI.lookup x).map PyData.int = some q := hq
    obtain ⟨i, e1, rfl⟩ := map_some hq
    have hm : (x, i) ∈ p.conI := PySem.mem_of_lookup e1
    obtain ⟨t, e2⟩ := He.int_ok KX G (D.facts (f := .int x i) (by unfold Pg.fa; simp only [List.mem_append, List.mem_map]; exact .inr (.inr (.inr (.inr (.inr (.inr (.inr ⟨(x, i), hm, rfl⟩))))))))
    exact ⟨_, .int i, e2, ⟨t, rfl⟩, fun _ _ => .int i⟩
end
end Ev
end

section
set_option Elab.async false
set_option linter.all false
set_option autoImplicit false
set_option maxRecDepth 100000
set_option maxHeartbeats 4000000
/-! # The law's end -/
namespace Ev
open PySem PySem.Spec PyProof.Rows L2
section
variable {p : Pg} {fns : List Fn} {l : PySem.W.OpenLaw} {w : World} {K : W.Frag} {mg : Str → Option Value} {h : Heap}
theorem rp_scr {K : W.Frag} {H : Hp} {a : Addr} {ns : List Int} (hS : SqL K H a (ns.map V.int)) : RU K ⟨[], []⟩ H (.ref a) (.scr ns) :=
  ⟨a, rfl, hS.imp (fun z => ⟨fun q => (by rcases q with q | q <;> cases q), z⟩) id⟩
theorem st_empty {K : W.Frag} {T : List (Addr × Str)} {H : Hp} (t : LamX.Tabs T H) : StOk K T ⟨[], []⟩ [] H where
  len := rfl
  nd := List.nodup_nil
  box := fun i a b e1 e2 => by simp at e2
  xt := fun a ha => by cases ha
  tab := t
/-- the law's def, of a script at hand -/
theorem lawAt_of (O : PgOk p fns) (hP : p.tm ≠ [] → ((l.prog.main.file : Str) == p.file) = true ∧ (l.prog.main.scope.names.lookup ("super" : Str)).isSome = false) (c : He.SaysX p.fa p.fn [] p.tf p.ex w h K) (KX : K.In h) {fa : Addr} {iL n : Nat} {r : Row} {x : Str} (hr : p.rows[iL]? = some r) (hn : r.nm = "law") (hx : r.ps = [x]) (hmg : mg "law" = some (.ref fa)) (G : h.Ns mainGlobals mg)
    (plain : ∀ ns : List Int, ns.length ≤ 63 → (∀ z, z ∈ ns → Builtin.Int.intBits z ≤ 1048576) → ∃ S, callN ⟨fns, p.nm⟩ n iL [.scr ns] [] = .ok (.d (.bool true)) S) :
    LamX.LawAtS l w K (L2N.CX l.prog w) (n + 2) 63 x mg fa h := by
  have hm := List.mem_of_getElem? hr
  have D : He.SaysD p.fa p.fn K := c.t.d
  obtain ⟨fd, F⟩ := D.defs (d := defD r.nm r.st) (by unfold Pg.fn; exact List.mem_append_left _ (List.mem_map.mpr ⟨r, hm, rfl⟩))
  have F : FunD K r.nm r.nm (defArgs r.st) (defBody r.st) (defScope r.st) [] [] (He.ga K r.nm) fd := F
  have e1 : mg r.nm = some (.ref (He.ga K r.nm)) := He.glo_ok KX G (D.facts (by unfold Pg.fa; exact List.mem_append_left _ (List.mem_map.mpr ⟨r, hm, rfl⟩)))
  have e2 : fa = He.ga K r.nm := by
    rw [hn] at e1
    rw [hmg] at e1
    cases e1
    rw [hn]
  subst e2
  have bnd := O.bnd r hm
  refine ⟨fd, p.tf.map (He.cT K), spC K (p.T K) (p.cl K) (callN ⟨fns, p.nm⟩ n) iL r.ps.length, fun q hq => ?_, fun q hq => ?_, fun q hq => ?_, fun s u => ?_, fun H a ns hl hb hT hS => ?_, fun base KB GB TB => ?_⟩
  · obtain ⟨d, hd, rfl⟩ := List.mem_map.mp hq
    exact c.empty d hd
  · obtain ⟨d, hd, rfl⟩ := List.mem_map.mp hq
    exact c.out d hd
  · obtain ⟨d, hd, rfl⟩ := List.mem_map.mp hq
    exact W.codeHd_of_K KX (c.hd d hd)
  · have := FunD.bindsA (ps := r.ps) F bnd s [u] (by rw [hx]; rfl)
    rw [hx] at this
    exact this
  · obtain ⟨S, hp⟩ := plain ns hl hb
    have tab : LamX.Tabs (p.T K) H := fun t ht => by
      obtain ⟨d, hd, rfl⟩ := List.mem_map.mp ht
      exact LamX.TabS.nil (hT _ (List.mem_map.mpr ⟨d, hd, rfl⟩))
    refine ⟨⟨[], []⟩, [], [.scr ns], .cons (rp_scr hS) .nil, st_empty tab, by rw [hx]; rfl, ?_⟩
    rw [hp]
    intro v M' H' _ _ rv
    cases (show Rp K M' H' v (.bool true) from rv)
    rfl
  · have L := lay_of (P := l.prog) (w := w) O hP c KB GB TB
    rw [← hx]
    exact law_ok L hr e1 F
theorem cx_none {P : Program} {w : World} {H : Hp} {s : Shared} {e : Value} {s' : Shared} (h : L2N.CX P w [] H s (fun _ _ _ => False) e s') : False := by
  obtain ⟨_, _, _, _, _, _, _, _, _, _, _, _, z⟩ := h
  exact z
end
end Ev
end

section
set_option Elab.async false
set_option linter.all false
set_option autoImplicit false
set_option maxRecDepth 100000
set_option maxHeartbeats 4000000
/-! # The little language by itself: what its pieces come to -/
namespace Ev
open PySem
section
variable {α β : Type} {a : α} {S : Store} {f : α → Store → Ev.R β} {c : Nat}
@[simp] theorem b_ok : (R.ok a S).bind f = f a S := rfl
@[simp] theorem b_exc : (R.exc c S : R α).bind f = .exc c S := rfl
@[simp] theorem b_bad : (R.bad : R α).bind f = .bad := rfl
@[simp] theorem of_some : R.of S (some a) = .ok a S := rfl
@[simp] theorem of_none : R.of S (none : Option α) = .bad := rfl
@[simp] theorem d_d {p : PyData} : deref S (.d p) = some p := rfl
theorem d_lst {i : Nat} {xs : List PyData} (h : S[i]? = some (.lst xs)) : deref S (.ref i) = some (.list xs) := by
  show (match S[i]? with | some (.lst xs) => some (PyData.list xs) | some (.dct kvs) => some (PyData.dict kvs) | _ => none) = _
  rw [h]
@[simp] theorem fin_d {p : PyData} {n : Nat} : Ev.finish false n (.ok (.rt (.d p)) S) = .ok (.d p) (S.take n) := rfl
@[simp] theorem fin_k {u : PyData} {n : Nat} : Ev.finish true n (.ok (.rt (.d u)) S) = .ok (.d u) S := rfl
@[simp] theorem fin_kr {i n : Nat} : Ev.finish true n (.ok (.rt (.ref i)) S) = .ok (.ref i) S := rfl
@[simp] theorem fin_nx {ρ : Rho} {b : Bool} {n : Nat} : Ev.finish b n (.ok (.nx ρ) S) = .ok (.d .none) (S.take n) := by cases b <;> rfl
@[simp] theorem fin_exc {b : Bool} {n : Nat} : Ev.finish b n (.exc c S) = .exc c (S.take n) := by cases b <;> rfl
theorem fin_r {i n : Nat} {xs : List PyData} (h : S[i]? = some (.lst xs)) (hn : ¬ i < n) : Ev.finish false n (.ok (.rt (.ref i)) S) = .ok (.d (.list xs)) (S.take n) := by
  unfold Ev.finish
  simp only [Bool.false_eq_true, if_false]
  rw [if_neg hn, d_lst h]
end
/-! ### operators -/
def divOk (j : Int) : Bool := decide (0 < j) && decide (j.natAbs.log2 < 9000)
theorem divOk_of {j : Int} (h : 0 < j) (h2 : j.natAbs.log2 < 9000) : divOk j = true := by unfold divOk; simp [h, h2]
theorem divOk_small {j : Int} (h : 0 < j) (h2 : j < 100000000000) : divOk j = true := by
  refine divOk_of h ?_
  have h3 : j.natAbs < 2 ^ 37 := by omega
  by_cases z : j.natAbs = 0
  · rw [z]; decide
  · have := (Nat.log2_lt z).mpr h3
    omega
@[simp] theorem add_ii (i j : Int) : binD .Add (.int i) (.int j) = some (.int (i + j)) := rfl
@[simp] theorem sub_ii (i j : Int) : binD .Sub (.int i) (.int j) = some (.int (i - j)) := rfl
theorem mul_ii {i j : Int} (h : mulOk i j = true) : binD .Mult (.int i) (.int j) = some (.int (i * j)) := if_pos h
theorem div_ii {i j : Int} (h : divOk j = true) : binD .FloorDiv (.int i) (.int j) = some (.int (i / j)) := by
  unfold divOk at h
  rw [Bool.and_eq_true, decide_eq_true_eq, decide_eq_true_eq] at h
  exact if_pos h
theorem mod_ii {i j : Int} (h : 0 < j) : binD .Mod (.int i) (.int j) = some (.int (i % j)) := if_pos h
theorem add_ss {a b : Str} (h : a.length + b.length ≤ line) : binD .Add (.str a) (.str b) = some (.str (a ++ b)) := if_pos h
theorem add_ll {a b : List PyData} (h : a.length + b.length ≤ line) : binD .Add (.list a) (.list b) = some (.list (a ++ b)) := if_pos h
theorem add_tt {a b : List PyData} (h : a.length + b.length ≤ line) : binD .Add (.tuple a) (.tuple b) = some (.tuple (a ++ b)) := if_pos h
theorem smallI_of {i : Int} (h1 : -100000000000 < i) (h2 : i < 100000000000) : smallI i = true := by
  unfold smallI
  simp only [Bool.and_eq_true, decide_eq_true_eq]
  omega
theorem mul_small {i j : Int} (h : smallI i = true ∨ smallI j = true) : mulOk i j = true := by
  unfold mulOk
  rcases h with h | h <;> simp [h]
/-! ### comparisons -/
@[simp] theorem gt_ii (i j : Int) : cmpD .Gt (.int i) (.int j) = some (decide (j < i)) := rfl
@[simp] theorem lt_ii (i j : Int) : cmpD .Lt (.int i) (.int j) = some (decide (i < j)) := rfl
@[simp] theorem le_ii (i j : Int) : cmpD .LtE (.int i) (.int j) = some (decide (i ≤ j)) := rfl
@[simp] theorem ge_ii (i j : Int) : cmpD .GtE (.int i) (.int j) = some (decide (j ≤ i)) := rfl
theorem eq_ii (i j : Int) : eqD (.int i) (.int j) = some (decide (i = j)) := by
  unfold eqD
  rw [if_pos (show (SeqAt.shaped (.int i) && SeqAt.shaped (.int j)) = true from rfl)]
  congr 1
@[simp] theorem eqc_ii (i j : Int) : cmpD .Eq (.int i) (.int j) = some (decide (i = j)) := eq_ii i j
@[simp] theorem ne_ii (i j : Int) : cmpD .NotEq (.int i) (.int j) = some (!decide (i = j)) := by
  show (eqD (.int i) (.int j)).map (!·) = _
  rw [eq_ii]
  rfl
/-! ### places -/
theorem at_nat {α : Type} {xs : List α} {i : Int} {x : α} (h0 : 0 ≤ i) (h : xs[i.toNat]? = some x) : L2.atI xs i = some x := by
  have hl := (List.getElem?_eq_some_iff.mp h).1
  unfold L2.atI L2.ixN
  rw [if_pos h0, if_pos (by omega)]
  exact h
@[simp] theorem idx_l0 (x : PyData) (r : List PyData) : idxD (.list (x :: r)) (.int 0) = some x := by
  exact at_nat (by decide) rfl
@[simp] theorem idx_l1 (x y : PyData) (r : List PyData) : idxD (.list (x :: y :: r)) (.int 1) = some y := by
  exact at_nat (by decide) rfl
@[simp] theorem idx_t0 (x : PyData) (r : List PyData) : idxD (.tuple (x :: r)) (.int 0) = some x := by
  exact at_nat (by decide) rfl
@[simp] theorem idx_t1 (x y : PyData) (r : List PyData) : idxD (.tuple (x :: y :: r)) (.int 1) = some y := by
  exact at_nat (by decide) rfl
@[simp] theorem tru_b (b : Bool) : truD (.bool b) = some b := rfl
@[simp] theorem tru_n : truD .none = some false := rfl
/-! ### loops -/
/-- a loop by what holds ahead of each turn -/
theorem loop_inv {t : Tg} {body : Rho → Store → Ev.R F} (I : Nat → Rho → Store → Prop) : ∀ (us : List U) (k : Nat) (ρ : Rho) (S : Store), I k ρ S →
    (∀ i u ρ S, us[i]? = some u → I (k + i) ρ S → ∃ ρ1 ρ2 S2, bindT t u ρ = some ρ1 ∧ body ρ1 S = .ok (.nx ρ2) S2 ∧ I (k + i + 1) ρ2 S2) → ∃ ρ' S', loopL t body us ρ S = .ok (.nx ρ') S' ∧ I (k + us.length) ρ' S'
  | [], k, ρ, S, h, _ => ⟨ρ, S, rfl, h⟩
  | u :: us, k, ρ, S, h, st => by
    obtain ⟨ρ1, ρ2, S2, h1, h2, h3⟩ := st 0 u ρ S rfl h
    obtain ⟨ρ', S', h4, h5⟩ := loop_inv I us (k + 1) ρ2 S2 h3 fun i v ρ S hv hI => by
      have e : k + 1 + i = k + (i + 1) := by omega
      rw [e] at hI ⊢
      exact st (i + 1) v ρ S (by simpa using hv) hI
    refine ⟨ρ', S', ?_, by rw [List.length_cons]; have e : k + (us.length + 1) = k + 1 + us.length := by omega
                           rw [e]; exact h5⟩
    unfold loopL
    rw [h1]
    show ((body ρ1 S).bind fun f S1 => match f with
      | .nx ρ2 => loopL t body us ρ2 S1
      | .rt v => .ok (.rt v) S1) = _
    rw [h2]
    exact h4
/-- a comprehension by what holds ahead of each turn: how many items, what has been made -/
theorem comp_inv {t : Tg} {c : Rho → Store → Ev.R Bool} {e : Rho → Store → Ev.R PyData} {ρ : Rho} (J : Nat → List PyData → Store → Prop) : ∀ (us : List U) (k : Nat) (zs : List PyData) (S : Store), J k zs S →
    (∀ i u ys S, us[i]? = some u → J (k + i) ys S → ∃ ρ1, bindT t u ρ = some ρ1 ∧ ∃ b S1, c ρ1 S = .ok b S1 ∧ ((b = true ∧ ∃ y S2, e ρ1 S1 = .ok y S2 ∧ J (k + i + 1) (ys ++ [y]) S2) ∨ (b = false ∧ J (k + i + 1) ys S1))) →
    ∃ ys S', compL t c e ρ us S = .ok ys S' ∧ J (k + us.length) (zs ++ ys) S'
  | [], k, zs, S, h, _ => ⟨[], S, rfl, by simpa using h⟩
  | u :: us, k, zs, S, h, st => by
    obtain ⟨ρ1, h1, b, S1, h2, h3⟩ := st 0 u zs S rfl h
    have rest : ∀ zs S, J (k + 1) zs S → ∃ ys S', compL t c e ρ us S = .ok ys S' ∧ J (k + (u :: us).length) (zs ++ ys) S' := fun zs S hJ => by
      obtain ⟨ys, S', h4, h5⟩ := comp_inv J us (k + 1) zs S hJ fun i v ys S hv hI => by
        have e : k + 1 + i = k + (i + 1) := by omega
        rw [e] at hI ⊢
        exact st (i + 1) v ys S (by simpa using hv) hI
      have e : k + (us.length + 1) = k + 1 + us.length := by omega
      exact ⟨ys, S', h4, by rw [List.length_cons, e]; exact h5⟩
    unfold compL
    rw [h1]
    dsimp only
    rw [h2, b_ok]
    rcases h3 with ⟨hb, y, S2, h4, h5⟩ | ⟨hb, h5⟩
    · obtain ⟨ys, S', h6, h7⟩ := rest _ _ h5
      refine ⟨y :: ys, S', ?_, by simpa using h7⟩
      rw [if_pos hb, h4, b_ok, h6]
      rfl
    · obtain ⟨ys, S', h6, h7⟩ := rest _ _ h5
      refine ⟨ys, S', ?_, h7⟩
      rw [if_neg (by rw [hb]; decide), h6]
@[simp] theorem ne_ok {α : Type} {a : α} {S : Store} : noexc (R.ok a S) = .ok a S := rfl
theorem rng_1 {j : Int} (h0 : 0 ≤ j) (h : j < 1000000) : rngD [.int j] = some (rngItems 0 j.toNat) := by
  have : smallR j = true := by
    unfold smallR
    simp only [Bool.and_eq_true, decide_eq_true_eq]
    omega
  exact if_pos this
theorem rng_len (lo : Int) (n : Nat) : (rngItems lo n).length = n := by unfold rngItems; simp
theorem rng_at {lo : Int} {n i : Nat} {u : U} (h : (rngItems lo n)[i]? = some u) : i < n ∧ u = .d (.int (lo + (i : Nat))) := by
  unfold rngItems at h
  rw [List.getElem?_map] at h
  cases e : (List.range n)[i]? with
  | none => rw [e] at h; cases h
  | some k =>
    rw [e] at h
    obtain ⟨h1, h2⟩ := List.getElem?_eq_some_iff.mp e
    rw [List.getElem_range] at h2
    subst h2
    rw [List.length_range] at h1
    exact ⟨h1, (Option.some.inj h).symm⟩
theorem ev_lc {g : Cn} {own : List Nat} {t : Tg} {it : It} {c : Xs} {e : X} {ρ : Rho} {S S1 S2 : Store} {us : List U} {ys : List PyData} (h1 : evIt g it ρ S = .ok (.fix us) S1) (hl : us.length ≤ line)
    (h2 : compL t (fun ρ S => evC g c ρ S) (fun ρ S => dataR (evX g e ρ S)) (wipe ρ own) us S1 = .ok ys S2) : evX g (.lc own t it c e) ρ S = .ok (.d (.list ys)) S2 := by
  unfold evX
  rw [h1]
  simp only [ne_ok, b_ok]
  rw [if_pos hl, h2]
  rfl
theorem ev_for {g : Cn} {t : Tg} {it : It} {b : Sts} {ρ : Rho} {S S1 : Store} {us : List U} {r : R F} (h1 : evIt g it ρ S = .ok (.fix us) S1) (h2 : loopL t (fun ρ S => evSs g b ρ S) us ρ S1 = r) : evS g (.forr t it b) ρ S = r := by
  unfold evS
  rw [h1]
  exact h2
theorem it_rng1 {g : Cn} {a : X} {ρ : Rho} {S S1 : Store} {j : Int} (h : evX g a ρ S = .ok (.d (.int j)) S1) (h0 : 0 ≤ j) (h1 : j < 1000000) : evIt g (.rng (.cons a .nil)) ρ S = .ok (.fix (rngItems 0 j.toNat)) S1 := by
  unfold evIt evXs evXs
  rw [h]
  simp [datas, rng_1 h0 h1]
theorem it_list {g : Cn} {a : X} {ρ : Rho} {S S1 : Store} {xs : List PyData} (h : evX g a ρ S = .ok (.d (.list xs)) S1) : evIt g (.val a) ρ S = .ok (.fix (xs.map .d)) S1 := by
  unfold evIt
  rw [h]
  rfl
theorem it_tup {g : Cn} {a : X} {ρ : Rho} {S S1 : Store} {xs : List PyData} (h : evX g a ρ S = .ok (.d (.tuple xs)) S1) : evIt g (.val a) ρ S = .ok (.fix (xs.map .d)) S1 := by
  unfold evIt
  rw [h]
  rfl
theorem it_str {g : Cn} {a : X} {ρ : Rho} {S S1 : Store} {z : Str} (h : evX g a ρ S = .ok (.d (.str z)) S1) : evIt g (.val a) ρ S = .ok (.fix (strItems z)) S1 := by
  unfold evIt
  rw [h]
  rfl
theorem ss_cons {g : Cn} {a : St} {r : Sts} {ρ ρ1 : Rho} {S S1 : Store} (h : evS g a ρ S = .ok (.nx ρ1) S1) : evSs g (.cons a r) ρ S = evSs g r ρ1 S1 := by
  conv => lhs; unfold evSs
  rw [h]
  rfl
theorem ss_ret {g : Cn} {a : St} {r : Sts} {ρ : Rho} {S S1 : Store} {u : U} (h : evS g a ρ S = .ok (.rt u) S1) : evSs g (.cons a r) ρ S = .ok (.rt u) S1 := by
  conv => lhs; unfold evSs
  rw [h]
  rfl
theorem s_set {g : Cn} {i : Nat} {e : X} {ρ : Rho} {S S1 : Store} {u : U} (h : evX g e ρ S = .ok u S1) : evS g (.set i e) ρ S = .ok (.nx (ρ.set i (some u))) S1 := by
  unfold evS
  rw [h]
  rfl
theorem s_ret {g : Cn} {e : X} {ρ : Rho} {S S1 : Store} {u : U} (h : evX g e ρ S = .ok u S1) : evS g (.ret e) ρ S = .ok (.rt u) S1 := by
  unfold evS
  rw [h]
  rfl
/-! ### data that may be compared -/
theorem lay_all {xs : List PyData} {d : Nat} (h : ∀ x, x ∈ xs → x.canLay0 = true ∧ x.depth ≤ d) : PyData.canLayAll0 xs = true ∧ PyData.depthAll xs ≤ d := by
  induction xs with
  | nil => exact ⟨rfl, Nat.zero_le _⟩
  | cons x r ih =>
    obtain ⟨h1, h2⟩ := h x List.mem_cons_self
    obtain ⟨h3, h4⟩ := ih fun y hy => h y (List.mem_cons_of_mem _ hy)
    refine ⟨?_, ?_⟩
    · show (x.canLay0 && PyData.canLayAll0 r) = true
      rw [h1, h3]
      rfl
    · show max x.depth (PyData.depthAll r) ≤ d
      omega
theorem lay_seq {xs : List PyData} {d : Nat} (h : ∀ x, x ∈ xs → x.canLay0 = true ∧ x.depth ≤ d) : ((PyData.list xs).canLay0 = true ∧ (PyData.list xs).depth ≤ d + 1) ∧ ((PyData.tuple xs).canLay0 = true ∧ (PyData.tuple xs).depth ≤ d + 1) := by
  obtain ⟨h1, h2⟩ := lay_all h
  exact ⟨⟨h1, Nat.succ_le_succ h2⟩, h1, Nat.succ_le_succ h2⟩
theorem shaped_of {x : PyData} {d : Nat} (h : x.canLay0 = true ∧ x.depth ≤ d) (hd : d ≤ 64) : SeqAt.shaped x = true := by
  unfold SeqAt.shaped
  rw [h.1, Bool.true_and, decide_eq_true_eq]
  omega
theorem in_list {x : PyData} {ys : List PyData} (h1 : SeqAt.shaped x = true) (h2 : SeqAt.shaped (.list ys) = true) : inD x (.list ys) = some (ys.any fun z => PyData.eqv z x) := by
  show (if (SeqAt.shaped x && SeqAt.shaped (.list ys)) = true then _ else none) = _
  rw [h1, h2]
  rfl
theorem in_tup {x : PyData} {ys : List PyData} (h1 : SeqAt.shaped x = true) (h2 : SeqAt.shaped (.tuple ys) = true) : inD x (.tuple ys) = some (ys.any fun z => PyData.eqv z x) := by
  show (if (SeqAt.shaped x && SeqAt.shaped (.tuple ys)) = true then _ else none) = _
  rw [h1, h2]
  rfl
theorem eq_d {x y : PyData} (h1 : SeqAt.shaped x = true) (h2 : SeqAt.shaped y = true) : eqD x y = some (PyData.eqv x y) := by
  unfold eqD
  rw [h1, h2]
  rfl
theorem eqv_nil (ys : List PyData) : PyData.eqv (.list ys) (.list []) = ys.isEmpty := by
  show PyData.eqvAll ys [] = _
  cases ys <;> rfl
theorem shaped_nil : SeqAt.shaped (.list []) = true := by decide
/-- l != [] -/
theorem ne_nil {ys : List PyData} (h : SeqAt.shaped (.list ys) = true) : cmpD .NotEq (.list ys) (.list []) = some (!ys.isEmpty) := by
  show (eqD (.list ys) (.list [])).map (!·) = _
  rw [eq_d h shaped_nil, eqv_nil]
  rfl
end Ev
end

section
set_option Elab.async false
set_option linter.all false
set_option autoImplicit false
set_option maxRecDepth 100000
set_option maxHeartbeats 4000000
/-! # Texts by their signs -/
namespace Ev
open PySem PySem.Builtin PySem.Builtin.Str
def mkS (l : List Nat) : Str := ⟨l.toArray⟩
abbrev sg (z : Str) : List Nat := z.cps.toList
theorem mk_sg (z : Str) : mkS (sg z) = z := rfl
theorem sg_mk (l : List Nat) : sg (mkS l) = l := rfl
theorem len_sg (z : Str) : z.length = (sg z).length := by simp [Str.length]
theorem len_mk (l : List Nat) : (mkS l).length = l.length := by simp [Str.length, mkS]
theorem mk_inj {a b : List Nat} (h : mkS a = mkS b) : a = b := by rw [← sg_mk a, ← sg_mk b, h]
theorem mk_app (a b : List Nat) : mkS a ++ mkS b = mkS (a ++ b) := Str.ext' (by show a.toArray ++ b.toArray = (a ++ b).toArray; simp)
/-- a text split at one sign -/
def spl (c : Nat) : List Nat → List (List Nat)
  | [] => [[]]
  | a :: r => if a = c then [] :: spl c r else match spl c r with
    | p :: q => (a :: p) :: q
    | [] => [[a]]
theorem spl_ne (c : Nat) (l : List Nat) : ∃ p q, spl c l = p :: q := by
  cases l with
  | nil => exact ⟨_, _, rfl⟩
  | cons a r =>
    unfold spl
    split
    · exact ⟨_, _, rfl⟩
    · cases spl c r with
      | nil => exact ⟨_, _, rfl⟩
      | cons p q => exact ⟨_, _, rfl⟩
theorem spl_eq (c : Nat) (r : List Nat) : spl c (c :: r) = [] :: spl c r := if_pos rfl
theorem spl_other {c a : Nat} (h : a ≠ c) {r p : List Nat} {q : List (List Nat)} (e : spl c r = p :: q) : spl c (a :: r) = (a :: p) :: q := by
  conv => lhs; unfold spl
  rw [if_neg h, e]
def joi (c : Nat) : List (List Nat) → List Nat
  | [] => []
  | [x] => x
  | x :: y :: r => x ++ c :: joi c (y :: r)
theorem occ_one_go (x : Str) (c lim : Nat) : ∀ (k a : Nat) (st : Array Nat) (f : Nat), f ≤ a → st.size ≤ a → a + k ≤ lim →
    (forIn (m := Id) (List.range' a k) (st, f) (StrLaws.occBody x ⟨#[c]⟩ x.length lim)).run.fst.toList = st.toList ++ (List.range' a k).filter (fun i => x.cps.toList[i]? == some c)
  | 0, a, st, f, _, _, _ => by simp
  | k + 1, a, st, f, hf, hs, hl => by
    rw [List.range'_succ, List.forIn_cons]
    unfold StrLaws.occBody
    by_cases h : x.cps.toList[a]? = some c
    · have h2 := (StrLaws.subAt_one x c a).mpr h
      rw [if_pos ⟨⟨⟨show st.size < lim by omega, hf⟩, h2.1⟩, h2.2⟩]
      have ih := occ_one_go x c lim k (a + 1) (st.push a) (a + 1) (Nat.le_refl _) (by rw [Array.size_push]; omega) (by omega)
      refine Eq.trans ih ?_
      rw [List.filter_cons_of_pos (by rw [h]; exact beq_self_eq_true _)]
      simp
    · rw [if_neg (fun hc => h ((StrLaws.subAt_one x c a).mp ⟨hc.1.2, hc.2⟩))]
      refine Eq.trans (occ_one_go x c lim k (a + 1) st f (by omega) (by omega) (by omega)) ?_
      rw [List.filter_cons_of_neg (by rw [beq_iff_eq]; exact h)]
theorem occ_one (x : Str) (c : Nat) : occurrences x ⟨#[c]⟩ 0 x.length (x.length + 1) = (List.range' 0 (x.length + 1)).filter (fun i => x.cps.toList[i]? == some c) := by
  rw [StrLaws.occ_eq]
  refine Eq.trans (occ_one_go x c (x.length + 1) (x.length + 1 - 0) 0 #[] 0 (Nat.le_refl _) (Nat.le_refl _) (by omega)) ?_
  rfl
theorem sub_sg (x : Str) (a b : Nat) : strSub x a b = mkS (((sg x).drop a).take (b - a)) := by
  apply Str.ext'
  apply Array.toList_inj.mp
  exact StrLaws.strSub_toList x a b
theorem parts_one (x : Str) (c : Nat) : ∀ (k a j : Nat), a ≤ j → j + k = x.length + 1 →
    ∃ p q, spl c ((sg x).drop j) = p :: q ∧ StrLaws.partsFrom x 1 a ((List.range' j k).filter (fun i => x.cps.toList[i]? == some c)) = mkS (((sg x).drop a).take (j - a) ++ p) :: q.map mkS
  | 0, a, j, ha, hj => by
    have hn := len_sg x
    have e : (sg x).drop j = [] := List.drop_eq_nil_of_le (by omega)
    refine ⟨[], [], by rw [e]; rfl, ?_⟩
    show [strSub x a x.length] = _
    rw [sub_sg, List.append_nil]
    have e1 : ((sg x).drop a).take (x.length - a) = (sg x).drop a := List.take_of_length_le (by rw [List.length_drop]; omega)
    have e2 : ((sg x).drop a).take (j - a) = (sg x).drop a := List.take_of_length_le (by rw [List.length_drop]; omega)
    rw [e1, e2]
    rfl
  | k + 1, a, j, ha, hj => by
    have hn := len_sg x
    rw [List.range'_succ]
    by_cases h : (sg x)[j]? = some c
    · obtain ⟨hlt, hv⟩ := List.getElem?_eq_some_iff.mp h
      obtain ⟨p, q, e1, e2⟩ := parts_one x c k (j + 1) (j + 1) (Nat.le_refl _) (by omega)
      refine ⟨[], p :: q, ?_, ?_⟩
      · rw [List.drop_eq_getElem_cons hlt, hv, spl_eq, e1]
      · rw [List.filter_cons_of_pos (by rw [h]; exact beq_self_eq_true _)]
        show strSub x a j :: StrLaws.partsFrom x 1 (j + 1) _ = _
        rw [e2, sub_sg, Nat.sub_self, List.take_zero, List.nil_append, List.append_nil]
        rfl
    · obtain ⟨p, q, e1, e2⟩ := parts_one x c k a (j + 1) (by omega) (by omega)
      rw [List.filter_cons_of_neg (by rw [beq_iff_eq]; exact h)]
      by_cases hlt : j < (sg x).length
      · have hv : (sg x)[j] ≠ c := fun hv => h (by rw [List.getElem?_eq_getElem hlt, hv])
        refine ⟨(sg x)[j] :: p, q, ?_, ?_⟩
        · rw [List.drop_eq_getElem_cons hlt]
          exact spl_other hv e1
        · rw [e2]
          have e3 : ((sg x).drop a).take (j + 1 - a) = ((sg x).drop a).take (j - a) ++ [(sg x)[j]] := by
            rw [show j + 1 - a = (j - a) + 1 by omega, List.take_add_one, List.getElem?_drop, show a + (j - a) = j by omega, List.getElem?_eq_getElem hlt]
            rfl
          rw [e3, List.append_assoc]
          rfl
      · have e3 : (sg x).drop j = [] := List.drop_eq_nil_of_le (by omega)
        have e4 : (sg x).drop (j + 1) = [] := List.drop_eq_nil_of_le (by omega)
        rw [e4] at e1
        refine ⟨p, q, by rw [e3]; exact e1, ?_⟩
        rw [e2]
        have e5 : ((sg x).drop a).take (j + 1 - a) = (sg x).drop a := List.take_of_length_le (by rw [List.length_drop]; omega)
        have e6 : ((sg x).drop a).take (j - a) = (sg x).drop a := List.take_of_length_le (by rw [List.length_drop]; omega)
        rw [e5, e6]
theorem split_spl (x : Str) {c : Nat} (hc : c < 256) : Txt.split x ⟨#[c]⟩ = (spl c (sg x)).map mkS := by
  unfold Txt.split
  split
  · rename_i h
    rcases Bool.or_eq_true_iff.mp h with h | h
    · have h := of_decide_eq_true h
      have h0 : sg x = [] := by
        have := len_sg x
        have h1 : (⟨#[c]⟩ : Str).length = 1 := rfl
        exact List.eq_nil_of_length_eq_zero (by omega)
      rw [h0]
      show [x] = [mkS []]
      rw [← h0, mk_sg]
    · have h := of_decide_eq_true h
      have h1 : Builtin.Str.strKind ⟨#[c]⟩ = 1 := by
        unfold Builtin.Str.strKind
        rw [if_pos (by simp [hc])]
      have h2 : 1 ≤ Builtin.Str.strKind x := by unfold Builtin.Str.strKind; split <;> (try split) <;> decide
      omega
  · obtain ⟨p, q, e1, e2⟩ := parts_one x c (x.length + 1) 0 0 (Nat.le_refl _) (by omega)
    have e3 : StrLaws.partsFrom x 1 0 (occurrences x ⟨#[c]⟩ 0 x.length (x.length + 1)) = (spl c (sg x)).map mkS := by
      rw [occ_one, e2]
      rw [List.drop_zero] at e1
      rw [e1]
      rfl
    split
    · rename_i h
      rw [List.isEmpty_iff.mp h] at e3
      rw [← e3]
      show [x] = [strSub x 0 x.length]
      rw [StrLaws.sub_whole]
    · rw [StrLaws.partsBetween_eq]
      exact e3
theorem join_joi (c : Nat) : ∀ ls : List (List Nat), Str.join ⟨#[c]⟩ (ls.map mkS) = mkS (joi c ls)
  | [] => rfl
  | [x] => rfl
  | x :: y :: r => by
    have ih := join_joi c (y :: r)
    show mkS x ++ ⟨#[c]⟩ ++ Str.join ⟨#[c]⟩ ((y :: r).map mkS) = _
    rw [ih, show (⟨#[c]⟩ : Str) = mkS [c] from rfl, mk_app, mk_app]
    congr 1
    simp [joi]
theorem txt_join (c : Nat) (ls : List (List Nat)) : Txt.join ⟨#[c]⟩ (ls.map mkS) = mkS (joi c ls) := by
  show glued _ _ = _
  rw [StrLaws.glued_eq_join, join_joi]
theorem spl_app {c : Nat} {x : List Nat} (h : c ∉ x) (r : List Nat) : spl c (x ++ c :: r) = x :: spl c r := by
  induction x with
  | nil => exact spl_eq c r
  | cons a x ih =>
    have h1 : a ≠ c := fun e => h (by rw [e]; exact List.mem_cons_self)
    exact spl_other h1 (ih fun hm => h (List.mem_cons_of_mem _ hm))
theorem spl_free {c : Nat} {x : List Nat} (h : c ∉ x) : spl c x = [x] := by
  induction x with
  | nil => rfl
  | cons a x ih =>
    have h1 : a ≠ c := fun e => h (by rw [e]; exact List.mem_cons_self)
    exact spl_other h1 (ih fun hm => h (List.mem_cons_of_mem _ hm))
theorem spl_joi {c : Nat} : ∀ {ls : List (List Nat)}, ls ≠ [] → (∀ l, l ∈ ls → c ∉ l) → spl c (joi c ls) = ls
  | [], h, _ => absurd rfl h
  | [x], _, h => spl_free (h x List.mem_cons_self)
  | x :: y :: r, _, h => by
    show spl c (x ++ c :: joi c (y :: r)) = _
    rw [spl_app (h x List.mem_cons_self), spl_joi (by simp) fun l hl => h l (List.mem_cons_of_mem _ hl)]
theorem joi_spl (c : Nat) (l : List Nat) : joi c (spl c l) = l := by
  induction l with
  | nil => rfl
  | cons a r ih =>
    obtain ⟨p, q, e⟩ := spl_ne c r
    rw [e] at ih
    by_cases h : a = c
    · rw [h, spl_eq, e]
      show [] ++ c :: joi c (p :: q) = _
      rw [ih]
      rfl
    · rw [spl_other h e]
      cases q with
      | nil => show a :: p = a :: r; rw [show p = r from ih]
      | cons y q =>
        show a :: p ++ c :: joi c (y :: q) = a :: r
        rw [← ih]
        rfl
theorem spl_none {c : Nat} {l : List Nat} : ∀ {w : List Nat}, w ∈ spl c l → c ∉ w := by
  induction l with
  | nil => intro w h; rw [List.mem_singleton.mp h]; simp
  | cons a r ih =>
    intro w h
    obtain ⟨p, q, e⟩ := spl_ne c r
    by_cases ha : a = c
    · rw [ha, spl_eq] at h
      rcases List.mem_cons.mp h with h | h
      · rw [h]; simp
      · exact ih h
    · rw [spl_other ha e] at h
      rcases List.mem_cons.mp h with h | h
      · rw [h]
        intro hm
        rcases List.mem_cons.mp hm with hm | hm
        · exact ha hm.symm
        · exact ih (by rw [e]; exact List.mem_cons_self) hm
      · exact ih (by rw [e]; exact List.mem_cons_of_mem _ h)
theorem spl_sum (c : Nat) (l : List Nat) : ((spl c l).map fun w => w.length + 1).sum = l.length + 1 := by
  induction l with
  | nil => rfl
  | cons a r ih =>
    obtain ⟨p, q, e⟩ := spl_ne c r
    rw [e] at ih
    by_cases h : a = c
    · rw [h, spl_eq, e]
      simp only [List.map_cons, List.sum_cons, List.length_nil, List.length_cons] at ih ⊢
      omega
    · rw [spl_other h e]
      simp only [List.map_cons, List.sum_cons, List.length_cons] at ih ⊢
      omega
theorem le_sum {n : Nat} : ∀ {l : List Nat}, n ∈ l → n ≤ l.sum
  | [], h => by cases h
  | a :: r, h => by
    rw [List.sum_cons]
    rcases List.mem_cons.mp h with h | h
    · omega
    · have := le_sum h; omega
theorem joi_len (c : Nat) : ∀ ls : List (List Nat), (joi c ls).length ≤ (ls.map fun w => w.length + 1).sum
  | [] => Nat.le_refl _
  | [x] => by simp [joi]
  | x :: y :: r => by
    have ih := joi_len c (y :: r)
    show (x ++ c :: joi c (y :: r)).length ≤ _
    simp only [List.length_append, List.length_cons, List.map_cons, List.sum_cons] at ih ⊢
    omega
theorem mem_joi {c a : Nat} : ∀ {ls : List (List Nat)}, a ∈ joi c ls → a = c ∨ ∃ l, l ∈ ls ∧ a ∈ l
  | [], h => by cases h
  | [x], h => .inr ⟨x, List.mem_cons_self, h⟩
  | x :: y :: r, h => by
    have h : a ∈ x ++ c :: joi c (y :: r) := h
    rcases List.mem_append.mp h with h | h
    · exact .inr ⟨x, List.mem_cons_self, h⟩
    · rcases List.mem_cons.mp h with h | h
      · exact .inl h
      · rcases mem_joi h with h | ⟨l, h1, h2⟩
        · exact .inl h
        · exact .inr ⟨l, List.mem_cons_of_mem _ h1, h2⟩
theorem joi_mem {c a : Nat} : ∀ {ls : List (List Nat)} {l : List Nat}, l ∈ ls → a ∈ l → a ∈ joi c ls
  | [], _, h, _ => by cases h
  | [x], l, h, ha => by rw [List.mem_singleton.mp h] at ha; exact ha
  | x :: y :: r, l, h, ha => by
    show a ∈ x ++ c :: joi c (y :: r)
    rcases List.mem_cons.mp h with h | h
    · exact List.mem_append_left _ (by rw [← h]; exact ha)
    · exact List.mem_append_right _ (List.mem_cons_of_mem _ (joi_mem h ha))
/-! ### what the operations say of texts by their signs -/
def sD (l : List Nat) : PyData := .str (mkS l)
theorem str_lit {z : Str} {l : List Nat} (h : z.cps = l.toArray) : PyData.str z = sD l := congrArg PyData.str (Str.ext' h)
theorem strs_sD : ∀ ls : List (List Nat), strsD (ls.map sD) = some (ls.map mkS)
  | [] => rfl
  | x :: r => by
    show (strsD (r.map sD)).map (mkS x :: ·) = _
    rw [strs_sD r]
    rfl
theorem split_ok {x : List Nat} {c : Nat} (hc : c < 256) (hl : x.length + 2 ≤ line) : splitD (sD x) (.str ⟨#[c]⟩) = some (.list ((spl c x).map sD)) := by
  show (if (((⟨#[c]⟩ : Str).length == 0) = false ∧ (mkS x).length + 2 ≤ line) then some (PyData.list ((Txt.split (mkS x) ⟨#[c]⟩).map .str)) else none) = _
  rw [if_pos ⟨rfl, by rw [len_mk]; exact hl⟩, split_spl _ hc, sg_mk, List.map_map]
  rfl
theorem join_fit {c : Nat} {ls : List (List Nat)} (h : (ls.map fun w => w.length + 1).sum ≤ line) : joinFit ⟨#[c]⟩ (ls.map mkS) = true := by
  unfold joinFit
  rw [decide_eq_true_eq]
  have e : ∀ ls : List (List Nat), ((ls.map mkS).map (·.length)).sum + (ls.map mkS).length * (⟨#[c]⟩ : Str).length = (ls.map fun w => w.length + 1).sum := by
    intro ls
    induction ls with
    | nil => rfl
    | cons x r ih =>
      have e1 : (⟨#[c]⟩ : Str).length = 1 := rfl
      rw [e1] at ih ⊢
      simp only [List.map_cons, List.sum_cons, List.length_cons, len_mk] at ih ⊢
      omega
  rw [e]
  exact h
theorem join_okL {c : Nat} {ls : List (List Nat)} (h : (ls.map fun w => w.length + 1).sum ≤ line) : joinD (.str ⟨#[c]⟩) (.list (ls.map sD)) = some (sD (joi c ls)) := by
  show ((strsD (ls.map sD)).bind fun ss => if joinFit ⟨#[c]⟩ ss = true then some (PyData.str (Txt.join ⟨#[c]⟩ ss)) else none) = _
  rw [strs_sD, Option.bind_some, if_pos (join_fit h), txt_join]
  rfl
theorem join_okT {c : Nat} {ls : List (List Nat)} (h : (ls.map fun w => w.length + 1).sum ≤ line) : joinD (.str ⟨#[c]⟩) (.tuple (ls.map sD)) = some (sD (joi c ls)) := join_okL (c := c) h
theorem has_one (c : Nat) (z : Str) : hasSub ⟨#[c]⟩ z = decide (c ∈ sg z) := StrLaws.found_one z c
theorem takeW_all {p : Nat → Bool} {l : List Nat} (h : ∀ a, a ∈ l → p a = true) : l.takeWhile p = l := by
  induction l with
  | nil => rfl
  | cons a r ih => rw [List.takeWhile_cons_of_pos (h a List.mem_cons_self), ih fun b hb => h b (List.mem_cons_of_mem _ hb)]
/-- a text that is stripped of all its signs -/
theorem strip_all {x : List Nat} {y : Str} (h : ∀ a, a ∈ x → y.cps.contains a = true) : Txt.stripChars (mkS x) y = mkS [] := by
  have h0 : stripLo y.cps.contains true (mkS x) = x.length := by
    show ((sg (mkS x)).takeWhile _).length = _
    rw [sg_mk, takeW_all h]
  unfold Txt.stripChars Txt.stripBy
  have h1 : stripHi y.cps.contains true (mkS x) x.length = x.length := by
    show (mkS x).length - (((sg (mkS x)).drop x.length).reverse.takeWhile _).length = _
    rw [sg_mk, len_mk, List.drop_length]
    rfl
  split
  · rename_i h2
    unfold stripSame at h2
    rw [h0, Bool.and_eq_true, beq_iff_eq] at h2
    rw [List.eq_nil_of_length_eq_zero h2.1]
  · unfold stripped
    rw [h0, h1, sub_sg, Nat.sub_self, List.take_zero]
theorem strip_vs0 {x : List Nat} {y : Str} {P : Nat → Prop} (h : ∀ c, c ∈ x → P c) : ∀ c, c ∈ sg (Txt.stripChars (mkS x) y) → P c := by
  unfold Txt.stripChars Txt.stripBy
  split
  · exact h
  · unfold stripped
    rw [sub_sg, sg_mk, sg_mk]
    exact fun c hc => h c (List.mem_of_mem_drop (List.mem_of_mem_take hc))
theorem ix_lo {n : Nat} {k : Int} (h : 0 ≤ k) (d : Nat) : HT.sIx n d (some k) = min k.toNat n := by
  show (if k < 0 then (k + (n : Int)).toNat else min k.toNat n) = _
  rw [if_neg (by omega)]
theorem cutS_to {x : List Nat} {k : Int} (h : 0 ≤ k) : L2.cutS (mkS x) none (some k) = mkS (x.take k.toNat) := by
  show mkS (((sg (mkS x)).drop 0).take (HT.sIx (mkS x).length (mkS x).length (some k) - 0)) = _
  rw [sg_mk, List.drop_zero, ix_lo h, len_mk, Nat.sub_zero]
  congr 1
  by_cases hk : k.toNat ≤ x.length
  · rw [Nat.min_eq_left hk]
  · rw [Nat.min_eq_right (by omega), List.take_of_length_le (Nat.le_refl _), List.take_of_length_le (by omega)]
theorem cutS_from {x : List Nat} {k : Int} (h : 0 ≤ k) : L2.cutS (mkS x) (some k) none = mkS (x.drop k.toNat) := by
  show mkS (((sg (mkS x)).drop (HT.sIx (mkS x).length 0 (some k))).take ((mkS x).length - HT.sIx (mkS x).length 0 (some k))) = _
  rw [sg_mk, ix_lo h, len_mk]
  congr 1
  by_cases hk : k.toNat ≤ x.length
  · rw [Nat.min_eq_left hk]
    exact List.take_of_length_le (by rw [List.length_drop]; exact Nat.le_refl _)
  · rw [Nat.min_eq_right (by omega), List.drop_length, List.drop_eq_nil_of_le (by omega), List.take_nil]
theorem cutD_to {α : Type} {x : List α} {k : Int} (h : 0 ≤ k) : cutD x none (some k) = x.take k.toNat := by
  show ((x.drop 0).take (HT.sIx x.length x.length (some k) - 0)) = _
  rw [List.drop_zero, ix_lo h, Nat.sub_zero]
  by_cases hk : k.toNat ≤ x.length
  · rw [Nat.min_eq_left hk]
  · rw [Nat.min_eq_right (by omega), List.take_of_length_le (Nat.le_refl _), List.take_of_length_le (by omega)]
theorem cutD_from {α : Type} {x : List α} {k : Int} (h : 0 ≤ k) : cutD x (some k) none = x.drop k.toNat := by
  show ((x.drop (HT.sIx x.length 0 (some k))).take (x.length - HT.sIx x.length 0 (some k))) = _
  rw [ix_lo h]
  by_cases hk : k.toNat ≤ x.length
  · rw [Nat.min_eq_left hk]
    exact List.take_of_length_le (by rw [List.length_drop]; exact Nat.le_refl _)
  · rw [Nat.min_eq_right (by omega), List.drop_length, List.drop_eq_nil_of_le (by omega), List.take_nil]
theorem items_sD (x : List Nat) : strItems (mkS x) = x.map fun c => .d (sD [c]) := rfl
theorem add_sD {a b : List Nat} (h : a.length + b.length ≤ line) : binD .Add (sD a) (sD b) = some (sD (a ++ b)) := by
  unfold sD
  rw [add_ss (by rw [len_mk, len_mk]; exact h), mk_app]
theorem len_sD {a : List Nat} (h : a.length ≤ line) : bltD .len (sD a) = some (.int a.length) := by
  show (if (mkS a).length ≤ line then some (PyData.int (mkS a).length) else none) = _
  rw [len_mk, if_pos h]
theorem slc_to {a : List Nat} {k : Int} (h : a.length ≤ line) (hk : 0 ≤ k) : slcD (sD a) none (some k) = some (sD (a.take k.toNat)) := by
  show (if (mkS a).length ≤ line then some (PyData.str (L2.cutS (mkS a) none (some k))) else none) = _
  rw [len_mk, if_pos h, cutS_to hk]
  rfl
theorem slc_from {a : List Nat} {k : Int} (h : a.length ≤ line) (hk : 0 ≤ k) : slcD (sD a) (some k) none = some (sD (a.drop k.toNat)) := by
  show (if (mkS a).length ≤ line then some (PyData.str (L2.cutS (mkS a) (some k) none)) else none) = _
  rw [len_mk, if_pos h, cutS_from hk]
  rfl
theorem eqv_sD (a b : List Nat) : PyData.eqv (sD a) (sD b) = decide (a = b) := by
  unfold sD
  rw [PyData.eqv, Bool.eq_iff_iff, beq_iff_eq, decide_eq_true_eq]
  exact ⟨mk_inj, fun h => by rw [h]⟩
/-- signs that there are -/
def Vs (a : List Nat) : Prop := ∀ c, c ∈ a → c < 1114112
theorem lay_sD {a : List Nat} (h : Vs a) : (sD a).canLay0 = true ∧ (sD a).depth ≤ 1 := by
  refine ⟨?_, Nat.zero_le _⟩
  show (mkS a).cps.all (fun c => decide (c < 1114112)) = true
  rw [Array.all_eq_true_iff_forall_mem]
  intro c hc
  have hc : c ∈ a := by simpa [mkS] using hc
  exact decide_eq_true (h c hc)
theorem shaped_sD {a : List Nat} (h : Vs a) : SeqAt.shaped (sD a) = true := shaped_of (lay_sD h) (by decide)
theorem lay_sDs {ls : List (List Nat)} (h : ∀ x, x ∈ ls → Vs x) : ∀ p, p ∈ ls.map sD → p.canLay0 = true ∧ p.depth ≤ 1 := fun p hp => by
  obtain ⟨a, ha, rfl⟩ := List.mem_map.mp hp
  exact lay_sD (h a ha)
theorem shaped_sDs {ls : List (List Nat)} (h : ∀ x, x ∈ ls → Vs x) : SeqAt.shaped (.list (ls.map sD)) = true ∧ SeqAt.shaped (.tuple (ls.map sD)) = true := by
  have h := lay_seq (lay_sDs h)
  exact ⟨shaped_of h.1 (by decide), shaped_of h.2 (by decide)⟩
theorem Vs.app {a b : List Nat} (h : Vs a) (k : Vs b) : Vs (a ++ b) := fun c hc => by
  rcases List.mem_append.mp hc with hc | hc
  · exact h c hc
  · exact k c hc
theorem Vs.take {a : List Nat} (h : Vs a) (n : Nat) : Vs (a.take n) := fun c hc => h c (List.mem_of_mem_take hc)
theorem Vs.drop {a : List Nat} (h : Vs a) (n : Nat) : Vs (a.drop n) := fun c hc => h c (List.mem_of_mem_drop hc)
theorem Vs.spl {a : List Nat} {c : Nat} (h : Vs a) : ∀ x, x ∈ spl c a → Vs x := fun x hx d hd => h d (by
  have := joi_mem (c := c) hx hd
  rw [joi_spl] at this
  exact this)
theorem Vs.joi {ls : List (List Nat)} {c : Nat} (hc : c < 1114112) (h : ∀ x, x ∈ ls → Vs x) : Vs (joi c ls) := fun d hd => by
  rcases mem_joi hd with rfl | ⟨l, h1, h2⟩
  · exact hc
  · exact h l h1 d h2
def lastL (ls : List (List Nat)) : List Nat := ls.getLastD []
def headL (ls : List (List Nat)) : List Nat := ls.headD []
theorem last_el {α : Type} {ls : List α} {z : α} (h : ls ≠ []) : ls[ls.length - 1]'(by have := List.length_pos_iff.mpr h; omega) = ls.getLastD z := by
  rw [List.getLastD_eq_getLast?, List.getLast?_eq_getElem?, List.getElem?_eq_getElem (by have := List.length_pos_iff.mpr h; omega)]
  rfl
theorem last_sD {ls : List (List Nat)} (h : ls ≠ []) : L2.atI (ls.map sD) (-1) = some (sD (lastL ls)) := by
  have hl := List.length_pos_iff.mpr h
  have e : L2.ixN (ls.map sD).length (-1) = some (ls.length - 1) := by
    unfold L2.ixN
    rw [if_neg (by decide), List.length_map, if_pos (by omega)]
    congr 1
    omega
  unfold L2.atI
  rw [e, Option.bind_some, List.getElem?_map, List.getElem?_eq_getElem (by omega), Option.map_some, last_el (z := []) h]
  rfl
theorem last_mem {α : Type} {ls : List α} {z : α} (h : ls ≠ []) : ls.getLastD z ∈ ls := by
  have hl := List.length_pos_iff.mpr h
  rw [← last_el h]
  exact List.getElem_mem _
/-! ### comprehensions without side effects -/
theorem comp_map {α : Type} {t : Tg} {c : Rho → Store → Ev.R Bool} {e : Rho → Store → Ev.R PyData} {ρ : Rho} {S : Store} (enc : α → U) (p : α → Bool) (f : α → PyData) : ∀ (xs : List α),
    (∀ x, x ∈ xs → ∃ ρ1, bindT t (enc x) ρ = some ρ1 ∧ c ρ1 S = .ok (p x) S ∧ (p x = true → e ρ1 S = .ok (f x) S)) → compL t c e ρ (xs.map enc) S = .ok ((xs.filter p).map f) S
  | [], _ => rfl
  | x :: xs, h => by
    obtain ⟨ρ1, h1, h2, h3⟩ := h x List.mem_cons_self
    have ih := comp_map enc p f xs fun y hy => h y (List.mem_cons_of_mem _ hy)
    rw [List.map_cons]
    unfold compL
    rw [h1]
    dsimp only
    rw [h2, b_ok]
    cases hp : p x with
    | true => rw [if_pos rfl, h3 hp, b_ok, ih, List.filter_cons_of_pos hp]; rfl
    | false => rw [if_neg (by decide), ih, List.filter_cons_of_neg (by rw [hp]; decide)]
theorem filt_all {α : Type} (xs : List α) : xs.filter (fun _ => true) = xs := by
  induction xs with
  | nil => rfl
  | cons x r ih => rw [List.filter_cons_of_pos rfl, ih]
theorem all_bools (bs : List Bool) : bltD .all (.list (bs.map .bool)) = some (.bool (bs.all id)) := by
  show (boolsD (bs.map .bool)).map (fun bs => PyData.bool (bs.all id)) = _
  have : boolsD (bs.map .bool) = some bs := by
    induction bs with
    | nil => rfl
    | cons b r ih =>
      show (boolsD (r.map .bool)).map (b :: ·) = _
      rw [ih]
      rfl
  rw [this]
  rfl
/-- a comprehension over a list of the store that stays as it is -/
theorem compB_map {t : Tg} {c : Rho → Store → Ev.R Bool} {e : Rho → Store → Ev.R PyData} {ρ : Rho} {S : Store} {b : Nat} (p : PyData → Bool) (f : PyData → PyData) {xs : List PyData} (hb : S[b]? = some (.lst xs))
    (h : ∀ x, x ∈ xs → ∃ ρ1, bindT t (.d x) ρ = some ρ1 ∧ c ρ1 S = .ok (p x) S ∧ (p x = true → e ρ1 S = .ok (f x) S)) : ∀ (n j : Nat), j ≤ xs.length → xs.length < j + n → compB t c e ρ b n j S = .ok (((xs.drop j).filter p).map f) S
  | 0, j, h1, h2 => by omega
  | n + 1, j, h1, h2 => by
    unfold compB
    rw [hb]
    dsimp only
    by_cases hj : j < xs.length
    · obtain ⟨ρ1, g1, g2, g3⟩ := h xs[j] (List.getElem_mem hj)
      have ih := compB_map p f hb h n (j + 1) (by omega) (by omega)
      rw [List.getElem?_eq_getElem hj, List.drop_eq_getElem_cons hj]
      dsimp only
      rw [g1]
      dsimp only
      rw [g2, b_ok]
      cases hp : p xs[j] with
      | true => rw [if_pos rfl, g3 hp, b_ok, ih, List.filter_cons_of_pos hp]; rfl
      | false => rw [if_neg (by decide), ih, List.filter_cons_of_neg (by rw [hp]; decide)]
    · rw [List.getElem?_eq_none (by omega), List.drop_eq_nil_of_le (by omega)]
      rfl
theorem ev_lcB {g : Cn} {own : List Nat} {t : Tg} {it : It} {c : Xs} {e : X} {ρ : Rho} {S S1 S2 : Store} {b : Nat} {ys : List PyData} (h1 : evIt g it ρ S = .ok (.live b) S1)
    (h2 : compB t (fun ρ S => evC g c ρ S) (fun ρ S => dataR (evX g e ρ S)) (wipe ρ own) b 100000 0 S1 = .ok ys S2) : evX g (.lc own t it c e) ρ S = .ok (.d (.list ys)) S2 := by
  unfold evX
  rw [h1]
  simp only [ne_ok, b_ok]
  rw [h2]
  rfl
end Ev
end

section
set_option Elab.async false
set_option linter.all false
set_option autoImplicit false
set_option maxRecDepth 100000
set_option maxHeartbeats 4000000
/-! # While loops by a plain run; loops over a list of the store -/
namespace Ev
open PySem
theorem ss_set {g : Cn} {i : Nat} {e : Ev.X} {r : Sts} {ρ ρ1 : Rho} {S S1 : Store} {u : U} (h : evX g e ρ S = .ok u S1) (hρ : ρ.set i (some u) = ρ1) : evSs g (.cons (.set i e) r) ρ S = evSs g r ρ1 S1 := by
  rw [ss_cons (s_set h), hρ]
theorem s_ifT {g : Cn} {c : Ev.X} {a b : Sts} {ρ ρ1 : Rho} {S S1 S2 : Store} (h : truR (evX g c ρ S) = .ok true S1) (h2 : evSs g a ρ S1 = .ok (.nx ρ1) S2) : evS g (.iff c a b) ρ S = .ok (.nx ρ1) S2 := by
  unfold evS
  rw [h, b_ok, if_pos rfl]
  exact h2
theorem s_ifF {g : Cn} {c : Ev.X} {a : Sts} {ρ : Rho} {S S1 : Store} (h : truR (evX g c ρ S) = .ok false S1) : evS g (.iff c a .nil) ρ S = .ok (.nx ρ) S1 := by
  unfold evS
  rw [h, b_ok, if_neg (by decide)]
  unfold evSs
  rfl
theorem s_ifR {g : Cn} {c : Ev.X} {a b : Sts} {ρ : Rho} {S S1 S2 : Store} {u : U} (h : truR (evX g c ρ S) = .ok true S1) (h2 : evSs g a ρ S1 = .ok (.rt u) S2) : evS g (.iff c a b) ρ S = .ok (.rt u) S2 := by
  unfold evS
  rw [h, b_ok, if_pos rfl]
  exact h2
theorem s_ifX {g : Cn} {c : Ev.X} {a b : Sts} {ρ : Rho} {S S1 S2 : Store} {k : Nat} (h : truR (evX g c ρ S) = .ok true S1) (h2 : evSs g a ρ S1 = .exc k S2) : evS g (.iff c a b) ρ S = .exc k S2 := by
  unfold evS
  rw [h, b_ok, if_pos rfl]
  exact h2
theorem ss_exc {g : Cn} {a : St} {r : Sts} {ρ : Rho} {S S1 : Store} {k : Nat} (h : evS g a ρ S = .exc k S1) : evSs g (.cons a r) ρ S = .exc k S1 := by
  conv => lhs; unfold evSs
  rw [h]
  rfl
theorem ev_call1 {g : Cn} {f : Nat} {a : Ev.X} {ρ : Rho} {S S1 : Store} {u : U} (h : evX g a ρ S = .ok u S1) : evX g (.call f (.cons a .nil)) ρ S = g.call f [u] S1 := by
  simp only [evX, evXs, h, b_ok]
theorem ev_call2 {g : Cn} {f : Nat} {a b : Ev.X} {ρ : Rho} {S S1 S2 : Store} {u v : U} (h : evX g a ρ S = .ok u S1) (h2 : evX g b ρ S1 = .ok v S2) : evX g (.call f (.cons a (.cons b .nil))) ρ S = g.call f [u, v] S2 := by
  simp only [evX, evXs, h, h2, b_ok]
theorem ev_call3 {g : Cn} {f : Nat} {a b c : Ev.X} {ρ : Rho} {S S1 S2 S3 : Store} {u v w : U} (h : evX g a ρ S = .ok u S1) (h2 : evX g b ρ S1 = .ok v S2) (h3 : evX g c ρ S2 = .ok w S3) : evX g (.call f (.cons a (.cons b (.cons c .nil)))) ρ S = g.call f [u, v, w] S3 := by
  simp only [evX, evXs, h, h2, h3, b_ok]
theorem ne_same {p : PyData} (h : SeqAt.shaped p = true) : cmpD .NotEq p p = some false := by
  show (eqD p p).map (!·) = _
  have h0 : p.canLay0 = true := by
    unfold SeqAt.shaped at h
    exact (Bool.and_eq_true_iff.mp h).1
  rw [eq_d h h, SeqAt.eqv_refl _ h0]
  rfl
theorem eq_same {p : PyData} (h : SeqAt.shaped p = true) : cmpD .Eq p p = some true := by
  show eqD p p = _
  have h0 : p.canLay0 = true := by
    unfold SeqAt.shaped at h
    exact (Bool.and_eq_true_iff.mp h).1
  rw [eq_d h h, SeqAt.eqv_refl _ h0]
/-- a run: guarded, to a number of turns -/
def runW {σ : Type} (g t : σ → Bool) (f : σ → σ) : Nat → σ → Option σ
  | 0, _ => none
  | n + 1, s => if g s = true then (if t s = true then runW g t f n (f s) else some s) else none
theorem loopW_run {σ : Type} {c : Rho → Store → Ev.R Bool} {body : Rho → Store → Ev.R F} (g t : σ → Bool) (f : σ → σ) (Rl : σ → Rho → Store → Prop) (hc : ∀ s ρ S, Rl s ρ S → g s = true → c ρ S = .ok (t s) S)
    (hb : ∀ s ρ S, Rl s ρ S → g s = true → t s = true → ∃ ρ' S', body ρ S = .ok (.nx ρ') S' ∧ Rl (f s) ρ' S') :
    ∀ (n m : Nat) (s s' : σ) (ρ : Rho) (S : Store), runW g t f n s = some s' → n ≤ m → Rl s ρ S → ∃ ρ' S', loopW c body m ρ S = .ok (.nx ρ') S' ∧ Rl s' ρ' S'
  | 0, _, _, _, _, _, h, _, _ => by cases h
  | n + 1, m, s, s', ρ, S, h, hm, hR => by
    obtain ⟨m, rfl⟩ : ∃ k, m = k + 1 := ⟨m - 1, by omega⟩
    unfold runW at h
    split at h
    · rename_i hg
      unfold loopW
      rw [hc s ρ S hR hg, b_ok]
      split at h
      · rename_i ht
        obtain ⟨ρ1, S1, h1, h2⟩ := hb s ρ S hR hg ht
        rw [if_pos ht, h1, b_ok]
        exact loopW_run g t f Rl hc hb n m (f s) s' ρ1 S1 h (by omega) h2
      · rename_i ht
        cases h
        rw [if_neg ht]
        exact ⟨ρ, S, rfl, hR⟩
    · cases h
theorem ev_whil {g : Cn} {c : Ev.X} {b : Sts} {ρ : Rho} {S : Store} {r : R F} (h : loopW (fun ρ S => truR (evX g c ρ S)) (fun ρ S => evSs g b ρ S) 1000000 ρ S = r) : evS g (.whil c b) ρ S = r := by
  unfold evS
  exact h
theorem loopB_inv {t : Tg} {body : Rho → Store → Ev.R F} {b : Nat} {xs : List PyData} (I : Nat → Rho → Store → Prop) (hI : ∀ i ρ S, I i ρ S → S[b]? = some (.lst xs))
    (st : ∀ i x ρ S, xs[i]? = some x → I i ρ S → ∃ ρ1 ρ2 S2, bindT t (.d x) ρ = some ρ1 ∧ body ρ1 S = .ok (.nx ρ2) S2 ∧ I (i + 1) ρ2 S2) :
    ∀ (n j : Nat) (ρ : Rho) (S : Store), I j ρ S → j ≤ xs.length → xs.length < j + n → ∃ ρ' S', loopB t body b n j ρ S = .ok (.nx ρ') S' ∧ I xs.length ρ' S'
  | 0, j, ρ, S, _, h1, h2 => by omega
  | n + 1, j, ρ, S, h, h1, h2 => by
    unfold loopB
    rw [hI j ρ S h]
    dsimp only
    by_cases hj : j < xs.length
    · obtain ⟨ρ1, ρ2, S2, g1, g2, g3⟩ := st j xs[j] ρ S (List.getElem?_eq_getElem hj) h
      rw [List.getElem?_eq_getElem hj]
      dsimp only
      rw [g1]
      dsimp only
      rw [g2, b_ok]
      exact loopB_inv I hI st n (j + 1) ρ2 S2 g3 (by omega) (by omega)
    · have e : j = xs.length := by omega
      rw [List.getElem?_eq_none (by omega)]
      exact ⟨ρ, S, rfl, by rw [← e]; exact h⟩
/-- a list at hand: frozen, or a box that stands -/
def LstAt (S : Store) (u : U) (xs : List PyData) : Prop := u = .d (.list xs) ∨ ∃ b, u = .ref b ∧ S[b]? = some (.lst xs)
theorem LstAt.deref {S : Store} {u : U} {xs : List PyData} (h : LstAt S u xs) : Ev.deref S u = some (.list xs) := by
  rcases h with rfl | ⟨b, rfl, h⟩
  · rfl
  · exact d_lst h
/-- a loop over such a list, the box as it stands -/
theorem for_lst {g : Cn} {t : Tg} {a : Ev.X} {b : Sts} {ρ : Rho} {S : Store} {u : U} {xs : List PyData} (hu : LstAt S u xs) (he : evX g a ρ S = .ok u S) (hl : xs.length < 1000000) (I : Nat → Rho → Store → Prop) (h0 : I 0 ρ S)
    (hI : ∀ i ρ' S', I i ρ' S' → LstAt S' u xs)
    (st : ∀ i x ρ' S', xs[i]? = some x → I i ρ' S' → ∃ ρ1 ρ2 S2, bindT t (.d x) ρ' = some ρ1 ∧ evSs g b ρ1 S' = .ok (.nx ρ2) S2 ∧ I (i + 1) ρ2 S2) :
    ∃ ρ' S', evS g (.forr t (.val a) b) ρ S = .ok (.nx ρ') S' ∧ I xs.length ρ' S' := by
  rcases hu with rfl | ⟨k, rfl, hk⟩
  · obtain ⟨ρ', S', h1, h2⟩ := loop_inv (t := t) (body := fun ρ S => evSs g b ρ S) (fun i ρ S => I i ρ S) (xs.map U.d) 0 ρ S h0 (fun i u ρ S' hu hi => by
      rw [List.getElem?_map] at hu
      cases hx : xs[i]? with
      | none => rw [hx] at hu; cases hu
      | some x =>
        rw [hx] at hu
        cases hu
        rw [Nat.zero_add] at hi ⊢
        exact st i x ρ S' hx hi)
    rw [Nat.zero_add, List.length_map] at h2
    exact ⟨ρ', S', ev_for (it_list he) h1, h2⟩
  · obtain ⟨ρ', S', h1, h2⟩ := loopB_inv (t := t) (body := fun ρ S => evSs g b ρ S) (b := k) (xs := xs) I (fun i ρ S hi => by
      rcases hI i ρ S hi with z | ⟨k', z, hk'⟩
      · cases z
      · cases z
        exact hk') st 1000000 0 ρ S h0 (Nat.zero_le _) (by omega)
    refine ⟨ρ', S', ?_, h2⟩
    unfold evS
    have e : evIt g (.val a) ρ S = .ok (.live k) S := by
      unfold evIt
      rw [he]
      simp [srcU, hk]
    rw [e]
    exact h1
theorem last_map {α : Type} (f : α → PyData) (z : α) {ls : List α} (h : ls ≠ []) : L2.atI (ls.map f) (-1) = some (f (ls.getLastD z)) := by
  have hl := List.length_pos_iff.mpr h
  have e : L2.ixN (ls.map f).length (-1) = some (ls.length - 1) := by
    unfold L2.ixN
    rw [if_neg (by decide), List.length_map, if_pos (by omega)]
    congr 1
    omega
  unfold L2.atI
  rw [e, Option.bind_some, List.getElem?_map, List.getElem?_eq_getElem (by omega), Option.map_some, last_el (z := z) h]
/-! ### fractions -/
theorem mod_lt {a b : Nat} (hb : 0 < b) (h : a % b ≠ 0) : 2 * (b % (a % b)) < b := by
  have h1 : b % (a % b) < a % b := Nat.mod_lt _ (by omega)
  have h2 : a % b < b := Nat.mod_lt _ hb
  have h3 := Nat.div_add_mod b (a % b)
  have h4 : 1 ≤ b / (a % b) := (Nat.le_div_iff_mul_le (by omega)).mpr (by omega)
  have h5 : (a % b) * 1 ≤ (a % b) * (b / (a % b)) := Nat.mul_le_mul_left _ h4
  omega
/-- Euclid's loop, k bits -/
theorem gcd_loop {c : Rho → Store → Ev.R Bool} {body : Rho → Store → Ev.R F} {S : Store} (en : Nat → Nat → Rho) (hc : ∀ a b, c (en a b) S = .ok (!decide (b = 0)) S) (hb : ∀ a b, 0 < b → body (en a b) S = .ok (.nx (en b (a % b))) S) :
    ∀ (k m a b : Nat), b < 2 ^ k → 2 * k + 2 ≤ m → loopW c body m (en a b) S = .ok (.nx (en (Nat.gcd a b) 0)) S
  | 0, m, a, b, h, hm => by
    obtain ⟨m, rfl⟩ : ∃ j, m = j + 1 := ⟨m - 1, by omega⟩
    have hb0 : b = 0 := by simpa using h
    subst hb0
    unfold loopW
    rw [hc, b_ok, if_neg (by simp), Nat.gcd_zero_right]
  | k + 1, m, a, b, h, hm => by
    obtain ⟨m, rfl⟩ : ∃ j, m = j + 2 := ⟨m - 2, by omega⟩
    by_cases hb0 : b = 0
    · subst hb0
      unfold loopW
      rw [hc, b_ok, if_neg (by simp), Nat.gcd_zero_right]
    · unfold loopW
      rw [hc, b_ok, if_pos (by simp [hb0]), hb a b (by omega), b_ok]
      dsimp only
      by_cases hm0 : a % b = 0
      · unfold loopW
        rw [hc, hm0, b_ok, if_neg (by simp), Nat.gcd_comm, Nat.gcd_rec, hm0, Nat.gcd_zero_left]
      · unfold loopW
        rw [hc, b_ok, if_pos (by simp [hm0]), hb b (a % b) (by omega), b_ok]
        dsimp only
        rw [gcd_loop en hc hb k m (a % b) (b % (a % b)) (by have := mod_lt (a := a) (by omega) hm0; rw [Nat.pow_succ] at h; omega) (by omega)]
        congr 3
        rw [Nat.gcd_comm (a % b), ← Nat.gcd_rec, Nat.gcd_comm (a % b) b, Nat.gcd_comm b (a % b), ← Nat.gcd_rec, Nat.gcd_comm]
end Ev
end

section
set_option Elab.async false
set_option linter.all false
set_option maxRecDepth 100000
set_option maxHeartbeats 0
namespace K06
open PySem PySem.Spec PyProof.Rows L2 Ev
def top (i : Nat) : Stmt := PySem.Challenge.pw_stripwalks_k06_whole_walks_that_are_trap.main.body.getD i (.Pass ⟨0, 0, 0, 0⟩)
def row0 : Ev.Row := ⟨"made", top 19, ["top", "below", "one", "other"], ["top", "below"], [], false, false⟩
def row1 : Ev.Row := ⟨"plus", top 20, ["one", "other"], ["one", "other"], [], false, false⟩
def row2 : Ev.Row := ⟨"times", top 21, ["one", "other"], ["one", "other"], [], false, false⟩
def row3 : Ev.Row := ⟨"is_whole", top 24, ["value", "low", "high"], ["value", "low", "high"], [], false, false⟩
def row4 : Ev.Row := ⟨"fits_strip", top 25, ["value"], ["value"], [], false, false⟩
def row5 : Ev.Row := ⟨"fits_place", top 26, ["strip", "value"], ["strip", "value"], [], false, false⟩
def row6 : Ev.Row := ⟨"neighbours", top 27, ["strip", "place", "some", "column", "row", "other"], ["strip", "place"], [], false, false⟩
def row7 : Ev.Row := ⟨"need_strip", top 28, ["value"], ["value"], [], false, false⟩
def row8 : Ev.Row := ⟨"need_place", top 29, ["strip", "value"], ["strip", "value"], [], false, false⟩
def row9 : Ev.Row := ⟨"all_ends", top 32, ["strip", "place", "found", "line", "later", "walk", "below", "fresh", "other"], ["strip", "place"], [], false, false⟩
def row10 : Ev.Row := ⟨"need_small", top 33, ["strip", "place"], ["strip", "place"], [], false, false⟩
def row11 : Ev.Row := ⟨"need_few", top 34, ["strip"], ["strip"], [], false, false⟩
def row12 : Ev.Row := ⟨"trapped", top 35, ["strip", "place"], ["strip", "place"], [], false, false⟩
def row13 : Ev.Row := ⟨"chance", top 36, ["strip", "place", "steps", "found", "ties", "below"], ["strip", "place", "steps"], [], false, false⟩
def row14 : Ev.Row := ⟨"mean", top 37, ["strip", "place", "found", "ties", "below"], ["strip", "place"], [], false, false⟩
def row15 : Ev.Row := ⟨"_law_drum", top 39, ["_law_cell", "_law_turn", "_law_great"], ["_law_cell", "_law_turn"], [], false, true⟩
def row16 : Ev.Row := ⟨"_law_roll", top 40, ["_law_drum_here", "_law_many", "_law_deep", "_law_found"], ["_law_drum_here", "_law_many"], ["_law_drum_here"], false, false⟩
def row17 : Ev.Row := ⟨"_law_some", top 41, ["_law_drum_here", "_law_things"], ["_law_drum_here", "_law_things"], [], false, false⟩
def row18 : Ev.Row := ⟨"_law_places", top 42, ["_law_strip_here", "_law_found", "_law_column", "_law_row"], ["_law_strip_here"], [], false, false⟩
def row19 : Ev.Row := ⟨"_law_near", top 43, ["_law_strip_here", "_law_place", "_law_some_here", "_law_column", "_law_row", "_law_other"], ["_law_strip_here", "_law_place"], [], false, false⟩
def row20 : Ev.Row := ⟨"_law_strip", top 44, ["_law_drum_here", "_law_most", "_law_rows"], ["_law_drum_here", "_law_most"], [], false, false⟩
def row21 : Ev.Row := ⟨"_law_ends", top 47, ["_law_strip_here", "_law_place", "_law_whole", "_law_found", "_law_line", "_law_later", "_law_walk", "_law_parts", "_law_fresh", "_law_other"], ["_law_strip_here", "_law_place"], ["_law_found", "_law_later"], false, false⟩
def row22 : Ev.Row := ⟨"_law_low", top 48, ["_law_top", "_law_below", "_law_one", "_law_other"], ["_law_top", "_law_below"], [], false, false⟩
def row23 : Ev.Row := ⟨"_law_right", top 49, ["_law_strip_here", "_law_place", "_law_steps", "_law_ends_here", "_law_whole", "_law_ties", "_law_parts"], ["_law_strip_here", "_law_place"], [], false, false⟩
def row24 : Ev.Row := ⟨"law", top 50, ["_law_script", "_law_cell", "_law_some_here", "_law_drum_here", "_law_strip_here", "_law_turn", "_law_odd", "_law_found"], ["_law_script"], ["_law_found"], true, false⟩
def rows : List Ev.Row := [row0, row1, row2, row3, row4, row5, row6, row7, row8, row9, row10, row11, row12, row13, row14, row15, row16, row17, row18, row19, row20, row21, row22, row23, row24]
def clsN : List Str := ["InvalidStrip", "InvalidPlace", "TooMany", "InvalidNumber"]
def conI : List (Str × Int) := [("LONG", 60), ("FEW", 12)]
def top_law_names : Stmt := top 45
def N_law_names : List Str := ["_law_e", "_law_some_here", "_law_labels", "_law_label", "_law_good"]
def top_law_error : Stmt := top 46
def N_law_error : List Str := ["_law_call", "_law_e"]
-- classes: WalkError:1 InvalidStrip:2 InvalidKind:3 InvalidDrawing:4 InvalidPlace:5 InvalidWalk:6 InvalidTie:7 InvalidTies:8 InvalidIndex:9 InvalidNumber:10 InvalidColumn:11 InvalidWay:12 InvalidText:13 Blocked:14 Unlike:15 NothingToUndo:16 TooMany:17

def nmL : List Str := ["strip value", "place value", "many value", "number value"]
def own : List Str := ["InvalidStrip", "InvalidKind", "InvalidDrawing", "InvalidPlace", "InvalidWalk", "InvalidTie", "InvalidTies", "InvalidIndex", "InvalidNumber", "InvalidColumn", "InvalidWay", "InvalidText", "Blocked", "Unlike", "NothingToUndo", "TooMany"]
def pg : Pg := ⟨rows, clsN, nmL, conI, own, top_law_error, top_law_names, N_law_error, N_law_names, [("TooMany", "limit")], "/claim/cut.py"⟩
theorem bnd0 : row0.Bnd := fun _ _ _ _ _ _ us hl => match us, hl with | [_, _], _ => rfl
theorem bnd1 : row1.Bnd := fun _ _ _ _ _ _ us hl => match us, hl with | [_, _], _ => rfl
theorem bnd2 : row2.Bnd := fun _ _ _ _ _ _ us hl => match us, hl with | [_, _], _ => rfl
theorem bnd3 : row3.Bnd := fun _ _ _ _ _ _ us hl => match us, hl with | [_, _, _], _ => rfl
theorem bnd4 : row4.Bnd := fun _ _ _ _ _ _ us hl => match us, hl with | [_], _ => rfl
theorem bnd5 : row5.Bnd := fun _ _ _ _ _ _ us hl => match us, hl with | [_, _], _ => rfl
theorem bnd6 : row6.Bnd := fun _ _ _ _ _ _ us hl => match us, hl with | [_, _], _ => rfl
theorem bnd7 : row7.Bnd := fun _ _ _ _ _ _ us hl => match us, hl with | [_], _ => rfl
theorem bnd8 : row8.Bnd := fun _ _ _ _ _ _ us hl => match us, hl with | [_, _], _ => rfl
theorem bnd9 : row9.Bnd := fun _ _ _ _ _ _ us hl => match us, hl with | [_, _], _ => rfl
theorem bnd10 : row10.Bnd := fun _ _ _ _ _ _ us hl => match us, hl with | [_, _], _ => rfl
theorem bnd11 : row11.Bnd := fun _ _ _ _ _ _ us hl => match us, hl with | [_], _ => rfl
theorem bnd12 : row12.Bnd := fun _ _ _ _ _ _ us hl => match us, hl with | [_, _], _ => rfl
theorem bnd13 : row13.Bnd := fun _ _ _ _ _ _ us hl => match us, hl with | [_, _, _], _ => rfl
theorem bnd14 : row14.Bnd := fun _ _ _ _ _ _ us hl => match us, hl with | [_, _], _ => rfl
theorem bnd15 : row15.Bnd := fun _ _ _ _ _ _ us hl => match us, hl with | [_, _], _ => rfl
theorem bnd16 : row16.Bnd := fun _ _ _ _ _ _ us hl => match us, hl with | [_, _], _ => rfl
theorem bnd17 : row17.Bnd := fun _ _ _ _ _ _ us hl => match us, hl with | [_, _], _ => rfl
theorem bnd18 : row18.Bnd := fun _ _ _ _ _ _ us hl => match us, hl with | [_], _ => rfl
theorem bnd19 : row19.Bnd := fun _ _ _ _ _ _ us hl => match us, hl with | [_, _], _ => rfl
theorem bnd20 : row20.Bnd := fun _ _ _ _ _ _ us hl => match us, hl with | [_, _], _ => rfl
theorem bnd21 : row21.Bnd := fun _ _ _ _ _ _ us hl => match us, hl with | [_, _], _ => rfl
theorem bnd22 : row22.Bnd := fun _ _ _ _ _ _ us hl => match us, hl with | [_, _], _ => rfl
theorem bnd23 : row23.Bnd := fun _ _ _ _ _ _ us hl => match us, hl with | [_, _], _ => rfl
theorem bnd24 : row24.Bnd := fun _ _ _ _ _ _ us hl => match us, hl with | [_], _ => rfl

def fns : List Fn := rows.map fun r => (r.ir pg.g).getD ⟨0, 0, false, .nil⟩
theorem irAll : (rows.all fun r => (r.ir pg.g).isSome) = true := by decide +kernel
theorem scAll : (rows.all fun r => C8.scC r.N r.ps (L2.defScope r.st)) = true := by decide +kernel
theorem bndAll : ∀ r, r ∈ rows → r.Bnd := by
  intro r hr
  simp only [rows, List.mem_cons, List.not_mem_nil, or_false] at hr
  rcases hr with rfl | rfl | rfl | rfl | rfl | rfl | rfl | rfl | rfl | rfl | rfl | rfl | rfl | rfl | rfl | rfl | rfl | rfl | rfl | rfl | rfl | rfl | rfl | rfl | rfl
  · exact bnd0
  · exact bnd1
  · exact bnd2
  · exact bnd3
  · exact bnd4
  · exact bnd5
  · exact bnd6
  · exact bnd7
  · exact bnd8
  · exact bnd9
  · exact bnd10
  · exact bnd11
  · exact bnd12
  · exact bnd13
  · exact bnd14
  · exact bnd15
  · exact bnd16
  · exact bnd17
  · exact bnd18
  · exact bnd19
  · exact bnd20
  · exact bnd21
  · exact bnd22
  · exact bnd23
  · exact bnd24
theorem ndAll : (rows.map (·.nm)).Nodup := by decide +kernel
def irN (c : Str) : Sts := (cHb N_law_names (pg.bit c) (L2.defScope top_law_names) (L2.defBody top_law_names)).getD .nil
theorem irN_ok : (clsN.all fun c => (cHb N_law_names (pg.bit c) (L2.defScope top_law_names) (L2.defBody top_law_names)).isSome) = true := by decide +kernel
theorem evN0 (g : Cn) (S : Store) : evSs g (irN "InvalidStrip") (List.replicate N_law_names.length none) S = .ok (.rt (.d (.str "strip value"))) S := by kernel_rfl
theorem evN1 (g : Cn) (S : Store) : evSs g (irN "InvalidPlace") (List.replicate N_law_names.length none) S = .ok (.rt (.d (.str "place value"))) S := by kernel_rfl
theorem evN2 (g : Cn) (S : Store) : evSs g (irN "TooMany") (List.replicate N_law_names.length none) S = .ok (.rt (.d (.str "many value"))) S := by kernel_rfl
theorem evN3 (g : Cn) (S : Store) : evSs g (irN "InvalidNumber") (List.replicate N_law_names.length none) S = .ok (.rt (.d (.str "number value"))) S := by kernel_rfl
theorem isSome_getD {α : Type} {o : Option α} {d : α} (h : o.isSome = true) : o = some (o.getD d) := by
  cases o with
  | none => cases h
  | some a => rfl
theorem irN_at {c : Str} (hc : c ∈ clsN) : cHb N_law_names (pg.bit c) (L2.defScope top_law_names) (L2.defBody top_law_names) = some (irN c) := isSome_getD (List.all_eq_true.mp irN_ok c hc)
theorem pgOk : PgOk pg fns where
  ir := fun i r hr => by
    have hr : rows[i]? = some r := hr
    refine ⟨(r.ir pg.g).getD ⟨0, 0, false, .nil⟩, ?_, isSome_getD (List.all_eq_true.mp irAll r (List.mem_of_getElem? hr))⟩
    unfold fns
    rw [List.getElem?_map, hr]
    rfl
  sc := fun r hr => C8.fnScope_by (List.all_eq_true.mp scAll r hr)
  bnd := bndAll
  nd := ndAll
  nmL := rfl
  scE := ⟨"_law_call", C8.fnScope_by (by decide +kernel), rfl, .inl (by decide +kernel), by decide +kernel, fun _ _ _ _ _ _ us hl => match us, hl with | [_], _ => rfl, "_law_e", _, _, _, _, _, _, _, _, _, _, _, _, _, by decide +kernel, rfl, by decide +kernel, by decide +kernel, by decide +kernel, by decide +kernel, rfl⟩
  scN := ⟨"_law_e", C8.fnScope_by (by decide +kernel), fun _ _ _ _ _ _ us hl => match us, hl with | [_], _ => rfl⟩
  nm := fun i c z h1 h2 => by
    have h1 : clsN[i]? = some c := h1
    have h2 : nmL[i]? = some z := h2
    have hc := irN_at (List.mem_of_getElem? h1)
    match i, h1, h2 with
    | 0, h1, h2 => cases h1; cases h2; exact ⟨_, hc, evN0⟩
    | 1, h1, h2 => cases h1; cases h2; exact ⟨_, hc, evN1⟩
    | 2, h1, h2 => cases h1; cases h2; exact ⟨_, hc, evN2⟩
    | 3, h1, h2 => cases h1; cases h2; exact ⟨_, hc, evN3⟩
/-! ### the head -/
abbrev theRow : PySem.W.OpenRow := PySem.W.OpenLaw.row PySem.Challenge.rw_stripwalks_k06_whole_walks_that_are_trap
abbrev hk : PySem.W.Hook := hookY 4 pg.fa pg.fn pg.tf pg.ex
def ob (s : PySem.W.SharedT) : He.AlX := obsY 4 pg.fa pg.fn pg.tf pg.ex (HandSHeadRun.getT s)
theorem ob_eq (s : PySem.W.SharedT) : ob s = hk.obs s.abs := obsY_eq (HandSHeadRun.getT_eq s)
def loose : List Str := ([("WalkError" : Str), ("InvalidStrip" : Str), ("InvalidKind" : Str), ("InvalidDrawing" : Str), ("InvalidPlace" : Str), ("InvalidWalk" : Str), ("InvalidTie" : Str), ("InvalidTies" : Str), ("InvalidIndex" : Str), ("InvalidNumber" : Str), ("InvalidColumn" : Str), ("InvalidWay" : Str), ("InvalidText" : Str), ("Blocked" : Str), ("Unlike" : Str), ("NothingToUndo" : Str), ("TooMany" : Str), ("made" : Str), ("plus" : Str), ("times" : Str), ("LONG" : Str), ("is_whole" : Str), ("fits_strip" : Str), ("fits_place" : Str), ("neighbours" : Str), ("need_strip" : Str), ("need_place" : Str), ("FEW" : Str), ("all_ends" : Str), ("need_small" : Str), ("need_few" : Str), ("trapped" : Str), ("chance" : Str), ("mean" : Str), ("_law_drum" : Str)] : List Str) ++ ([("_law_roll" : Str), ("_law_some" : Str), ("_law_places" : Str), ("_law_near" : Str), ("_law_strip" : Str), ("_law_names" : Str), ("_law_error" : Str), ("_law_ends" : Str), ("_law_low" : Str), ("_law_right" : Str)] : List Str)
theorem run (w : World) : HandSHeadRun.RunEq theRow (PySem.W.view theRow.prog [50]) hk ob 20000 loose w := by
  intro os
  kernel_rfl
/-- the plain law -/
def Plain : Prop := ∀ ns : List Int, ns.length ≤ 63 → (∀ z, z ∈ ns → Builtin.Int.intBits z ≤ 1048576) → ∃ S, callN ⟨fns, pg.nm⟩ 40 24 [.scr ns] [] = .ok (.d (.bool true)) S
end K06
open PySem PySem.W PySem.Calls PyProof.Rows in
theorem K06.holds_of (plain : K06.Plain) : PySem.Challenge.rw_stripwalks_k06_whole_walks_that_are_trap.Holds := by
  w_on; o_law
  refine HandSHeadRun.head_any (r := OpenLaw.row PySem.Challenge.rw_stripwalks_k06_whole_walks_that_are_trap) (q := view (OpenLaw.row PySem.Challenge.rw_stripwalks_k06_whole_walks_that_are_trap).prog [50]) (H := K06.hk) (ob := K06.ob) (M := 20000) (loose := K06.loose) (d := HandSHeadRun.topDef (OpenLaw.row PySem.Challenge.rw_stripwalks_k06_whole_walks_that_are_trap).prog 50) (kwd := []) K06.ob_eq
    (by kernel_rfl) (fun s => by kernel_rfl) K06.run (by kernel_rfl) (by kernel_rfl) (by kernel_rfl) (by rfl) (by first | assumption | decide +kernel) (by decide +kernel) ⟨rfl, rfl, rfl, rfl, rfl, by decide +kernel⟩ ?hw ?hc
  case hw => w_witness2
  case hc =>
    refine LamX.walk_ofTsE (l := PySem.Challenge.rw_stripwalks_k06_whole_walks_that_are_trap) (n := 63) (k := 42) (x := "_law_script") (CX := fun w => L2N.CX (PySem.Challenge.rw_stripwalks_k06_whole_walks_that_are_trap).prog w) rfl (by decide) (by kernel_rfl) ⟨rfl, by decide, by decide⟩ ?F (fun _ _ _ _ _ z => Ev.cx_none z)
    intro w mg fa h Y G hmg0
    obtain ⟨K, KX, c⟩ := Y
    have hmg : mg ("law" : PySem.Str) = some (.ref fa) := by
      have e : (HandSHeadRun.topDef (OpenLaw.row PySem.Challenge.rw_stripwalks_k06_whole_walks_that_are_trap).prog 50).name = ("law" : PySem.Str) := by kernel_rfl
      rw [← e]
      exact hmg0
    exact ⟨K, KX, Ev.lawAt_of (iL := 24) (r := K06.row24) K06.pgOk (fun _ => ⟨by kernel_rfl, by kernel_rfl⟩) c KX rfl rfl rfl hmg G plain⟩
end

section
set_option Elab.async false
set_option linter.all false
set_option maxRecDepth 100000
set_option maxHeartbeats 0
namespace K06
open PySem PySem.Spec PyProof.Rows L2 Ev
abbrev x_InvalidStrip : Nat := 0
abbrev x_InvalidPlace : Nat := 1
abbrev x_TooMany : Nat := 2
abbrev x_InvalidNumber : Nat := 3
abbrev i_Pmade : Nat := 0
abbrev i_Pplus : Nat := 1
abbrev i_Ptimes : Nat := 2
abbrev i_Pis_whole : Nat := 3
abbrev i_Pfits_strip : Nat := 4
abbrev i_Pfits_place : Nat := 5
abbrev i_Pneighbours : Nat := 6
abbrev i_Pneed_strip : Nat := 7
abbrev i_Pneed_place : Nat := 8
abbrev i_Pall_ends : Nat := 9
abbrev i_Pneed_small : Nat := 10
abbrev i_Pneed_few : Nat := 11
abbrev i_Ptrapped : Nat := 12
abbrev i_Pchance : Nat := 13
abbrev i_Pmean : Nat := 14
abbrev i_Ldrum : Nat := 15
abbrev i_Lroll : Nat := 16
abbrev i_Lsome : Nat := 17
abbrev i_Lplaces : Nat := 18
abbrev i_Lnear : Nat := 19
abbrev i_Lstrip : Nat := 20
abbrev i_Lends : Nat := 21
abbrev i_Llow : Nat := 22
abbrev i_Lright : Nat := 23
abbrev i_Llaw : Nat := 24
abbrev t_Pmade : X := (.cmp .NotEq (.loc 3) (.con (.int 0)))
abbrev b_Pmade : Sts := (.cons (.par [2, 3] (.cons (.loc 3) (.cons (.bin .Mod (.loc 2) (.loc 3)) .nil))) .nil)
def ir_Pmade : Sts := (.cons (.par [2, 3] (.cons (.blt .abs (.loc 0)) (.cons (.blt .abs (.loc 1)) .nil))) (.cons (.whil t_Pmade b_Pmade) (.cons (.set 2 (.ife (.cmp .Lt (.loc 1) (.con (.int 0))) (.neg (.loc 2)) (.loc 2))) (.cons (.ret (.tup (.cons (.bin .FloorDiv (.loc 0) (.loc 2)) (.cons (.bin .FloorDiv (.loc 1) (.loc 2)) .nil)))) .nil))))
theorem ir_Pmade_ok : row0.ir pg.g = some ⟨2, 4, false, ir_Pmade⟩ := by kernel_rfl
theorem at_Pmade : fns[i_Pmade]? = some ⟨2, 4, false, ir_Pmade⟩ := by
  show some ((row0.ir pg.g).getD ⟨0, 0, false, .nil⟩) = _
  rw [ir_Pmade_ok]
  rfl
def ir_Pplus : Sts := (.cons (.ret (.call i_Pmade (.cons (.bin .Add (.bin .Mult (.idx (.loc 0) (.con (.int 0))) (.idx (.loc 1) (.con (.int 1)))) (.bin .Mult (.idx (.loc 1) (.con (.int 0))) (.idx (.loc 0) (.con (.int 1))))) (.cons (.bin .Mult (.idx (.loc 0) (.con (.int 1))) (.idx (.loc 1) (.con (.int 1)))) .nil)))) .nil)
theorem ir_Pplus_ok : row1.ir pg.g = some ⟨2, 2, false, ir_Pplus⟩ := by kernel_rfl
theorem at_Pplus : fns[i_Pplus]? = some ⟨2, 2, false, ir_Pplus⟩ := by
  show some ((row1.ir pg.g).getD ⟨0, 0, false, .nil⟩) = _
  rw [ir_Pplus_ok]
  rfl
def ir_Ptimes : Sts := (.cons (.ret (.call i_Pmade (.cons (.bin .Mult (.idx (.loc 0) (.con (.int 0))) (.idx (.loc 1) (.con (.int 0)))) (.cons (.bin .Mult (.idx (.loc 0) (.con (.int 1))) (.idx (.loc 1) (.con (.int 1)))) .nil)))) .nil)
theorem ir_Ptimes_ok : row2.ir pg.g = some ⟨2, 2, false, ir_Ptimes⟩ := by kernel_rfl
theorem at_Ptimes : fns[i_Ptimes]? = some ⟨2, 2, false, ir_Ptimes⟩ := by
  show some ((row2.ir pg.g).getD ⟨0, 0, false, .nil⟩) = _
  rw [ir_Ptimes_ok]
  rfl
def ir_Pis_whole : Sts := (.cons (.ret (.and (.blt (.isi "int") (.loc 0)) (.and (.not (.blt (.isi "bool") (.loc 0))) (.chn .LtE .LtE (.loc 1) (.loc 0) (.loc 2))))) .nil)
theorem ir_Pis_whole_ok : row3.ir pg.g = some ⟨3, 3, false, ir_Pis_whole⟩ := by kernel_rfl
theorem at_Pis_whole : fns[i_Pis_whole]? = some ⟨3, 3, false, ir_Pis_whole⟩ := by
  show some ((row3.ir pg.g).getD ⟨0, 0, false, .nil⟩) = _
  rw [ir_Pis_whole_ok]
  rfl
def ir_Pfits_strip : Sts := (.cons (.iff (.or (.not (.blt (.isi "tuple") (.loc 0))) (.cmp .NotEq (.blt .len (.loc 0)) (.con (.int 2)))) (.cons (.ret (.con (.bool false))) .nil) .nil) (.cons (.ret (.and (.call i_Pis_whole (.cons (.idx (.loc 0) (.con (.int 0))) (.cons (.con (.int 1)) (.cons (.con (.int 3)) .nil)))) (.call i_Pis_whole (.cons (.idx (.loc 0) (.con (.int 1))) (.cons (.con (.int 1)) (.cons (.con (.int 60)) .nil)))))) .nil))
theorem ir_Pfits_strip_ok : row4.ir pg.g = some ⟨1, 1, false, ir_Pfits_strip⟩ := by kernel_rfl
theorem at_Pfits_strip : fns[i_Pfits_strip]? = some ⟨1, 1, false, ir_Pfits_strip⟩ := by
  show some ((row4.ir pg.g).getD ⟨0, 0, false, .nil⟩) = _
  rw [ir_Pfits_strip_ok]
  rfl
def ir_Pfits_place : Sts := (.cons (.iff (.or (.not (.blt (.isi "tuple") (.loc 1))) (.cmp .NotEq (.blt .len (.loc 1)) (.con (.int 2)))) (.cons (.ret (.con (.bool false))) .nil) .nil) (.cons (.ret (.and (.call i_Pis_whole (.cons (.idx (.loc 1) (.con (.int 0))) (.cons (.con (.int 0)) (.cons (.bin .Sub (.idx (.loc 0) (.con (.int 1))) (.con (.int 1))) .nil)))) (.call i_Pis_whole (.cons (.idx (.loc 1) (.con (.int 1))) (.cons (.con (.int 0)) (.cons (.bin .Sub (.idx (.loc 0) (.con (.int 0))) (.con (.int 1))) .nil)))))) .nil))
theorem ir_Pfits_place_ok : row5.ir pg.g = some ⟨2, 2, false, ir_Pfits_place⟩ := by kernel_rfl
theorem at_Pfits_place : fns[i_Pfits_place]? = some ⟨2, 2, false, ir_Pfits_place⟩ := by
  show some ((row5.ir pg.g).getD ⟨0, 0, false, .nil⟩) = _
  rw [ir_Pfits_place_ok]
  rfl
abbrev t_Pneighbours : Xs := (.cons (.and (.chn .LtE .Lt (.con (.int 0)) (.idx (.loc 5) (.con (.int 0))) (.idx (.loc 0) (.con (.int 1)))) (.chn .LtE .Lt (.con (.int 0)) (.idx (.loc 5) (.con (.int 1))) (.idx (.loc 0) (.con (.int 0))))) .nil)
abbrev e_Pneighbours : X := (.loc 5)
def ir_Pneighbours : Sts := (.cons (.sett (.cons (.nm 3) (.cons (.nm 4) .nil)) (.loc 1)) (.cons (.set 2 (.lst (.cons (.tup (.cons (.bin .Sub (.loc 3) (.con (.int 1))) (.cons (.loc 4) .nil))) (.cons (.tup (.cons (.loc 3) (.cons (.bin .Sub (.loc 4) (.con (.int 1))) .nil))) (.cons (.tup (.cons (.loc 3) (.cons (.bin .Add (.loc 4) (.con (.int 1))) .nil))) (.cons (.tup (.cons (.bin .Add (.loc 3) (.con (.int 1))) (.cons (.loc 4) .nil))) .nil)))))) (.cons (.ret (.lc [5] (.nm 5) (.val (.loc 2)) t_Pneighbours e_Pneighbours)) .nil)))
theorem ir_Pneighbours_ok : row6.ir pg.g = some ⟨2, 6, false, ir_Pneighbours⟩ := by kernel_rfl
theorem at_Pneighbours : fns[i_Pneighbours]? = some ⟨2, 6, false, ir_Pneighbours⟩ := by
  show some ((row6.ir pg.g).getD ⟨0, 0, false, .nil⟩) = _
  rw [ir_Pneighbours_ok]
  rfl
def ir_Pneed_strip : Sts := (.cons (.iff (.not (.call i_Pfits_strip (.cons (.loc 0) .nil))) (.cons (.rais x_InvalidStrip .nil) .nil) .nil) .nil)
theorem ir_Pneed_strip_ok : row7.ir pg.g = some ⟨1, 1, false, ir_Pneed_strip⟩ := by kernel_rfl
theorem at_Pneed_strip : fns[i_Pneed_strip]? = some ⟨1, 1, false, ir_Pneed_strip⟩ := by
  show some ((row7.ir pg.g).getD ⟨0, 0, false, .nil⟩) = _
  rw [ir_Pneed_strip_ok]
  rfl
def ir_Pneed_place : Sts := (.cons (.iff (.not (.call i_Pfits_place (.cons (.loc 0) (.cons (.loc 1) .nil)))) (.cons (.rais x_InvalidPlace .nil) .nil) .nil) .nil)
theorem ir_Pneed_place_ok : row8.ir pg.g = some ⟨2, 2, false, ir_Pneed_place⟩ := by kernel_rfl
theorem at_Pneed_place : fns[i_Pneed_place]? = some ⟨2, 2, false, ir_Pneed_place⟩ := by
  show some ((row8.ir pg.g).getD ⟨0, 0, false, .nil⟩) = _
  rw [ir_Pneed_place_ok]
  rfl
abbrev t_Pall_ends : X := (.cmp .NotEq (.loc 3) (.lst .nil))
abbrev t1_Pall_ends : Xs := (.cons (.cmp .NotIn (.loc 8) (.loc 5)) .nil)
abbrev e_Pall_ends : X := (.loc 8)
abbrev e2_Pall_ends : X := (.tup (.cons (.bin .Add (.loc 5) (.tup (.cons (.loc 8) .nil))) (.cons (.bin .Mult (.loc 6) (.blt .len (.loc 7))) .nil)))
abbrev b_Pall_ends : Sts := (.cons (.set 7 (.lc [8] (.nm 8) (.val (.call i_Pneighbours (.cons (.loc 0) (.cons (.idx (.loc 5) (.neg (.con (.int 1)))) .nil)))) t1_Pall_ends e_Pall_ends)) (.cons (.iff (.cmp .Eq (.loc 7) (.lst .nil)) (.cons (.set 2 (.bin .Add (.loc 2) (.lst (.cons (.tup (.cons (.bin .Sub (.blt .len (.loc 5)) (.con (.int 1))) (.cons (.loc 6) .nil))) .nil)))) .nil) .nil) (.cons (.set 4 (.bin .Add (.loc 4) (.lc [8] (.nm 8) (.val (.loc 7)) .nil e2_Pall_ends))) .nil)))
abbrev b3_Pall_ends : Sts := (.cons (.set 4 (.lst .nil)) (.cons (.forr (.cons (.nm 5) (.cons (.nm 6) .nil)) (.val (.loc 3)) b_Pall_ends) (.cons (.set 3 (.loc 4)) .nil)))
def ir_Pall_ends : Sts := (.cons (.par [2, 3] (.cons (.lst .nil) (.cons (.lst (.cons (.tup (.cons (.tup (.cons (.loc 1) .nil)) (.cons (.con (.int 1)) .nil))) .nil)) .nil))) (.cons (.whil t_Pall_ends b3_Pall_ends) (.cons (.ret (.loc 2)) .nil)))
theorem ir_Pall_ends_ok : row9.ir pg.g = some ⟨2, 9, false, ir_Pall_ends⟩ := by kernel_rfl
theorem at_Pall_ends : fns[i_Pall_ends]? = some ⟨2, 9, false, ir_Pall_ends⟩ := by
  show some ((row9.ir pg.g).getD ⟨0, 0, false, .nil⟩) = _
  rw [ir_Pall_ends_ok]
  rfl
def ir_Pneed_small : Sts := (.cons (.exp (.call i_Pneed_strip (.cons (.loc 0) .nil))) (.cons (.exp (.call i_Pneed_place (.cons (.loc 0) (.cons (.loc 1) .nil)))) .nil))
theorem ir_Pneed_small_ok : row10.ir pg.g = some ⟨2, 2, false, ir_Pneed_small⟩ := by kernel_rfl
theorem at_Pneed_small : fns[i_Pneed_small]? = some ⟨2, 2, false, ir_Pneed_small⟩ := by
  show some ((row10.ir pg.g).getD ⟨0, 0, false, .nil⟩) = _
  rw [ir_Pneed_small_ok]
  rfl
def ir_Pneed_few : Sts := (.cons (.iff (.cmp .Gt (.bin .Mult (.idx (.loc 0) (.con (.int 0))) (.idx (.loc 0) (.con (.int 1)))) (.con (.int 12))) (.cons (.rais x_TooMany (.cons (.con (.int 12)) .nil)) .nil) .nil) .nil)
theorem ir_Pneed_few_ok : row11.ir pg.g = some ⟨1, 1, false, ir_Pneed_few⟩ := by kernel_rfl
theorem at_Pneed_few : fns[i_Pneed_few]? = some ⟨1, 1, false, ir_Pneed_few⟩ := by
  show some ((row11.ir pg.g).getD ⟨0, 0, false, .nil⟩) = _
  rw [ir_Pneed_few_ok]
  rfl
def ir_Ptrapped : Sts := (.cons (.exp (.call i_Pneed_small (.cons (.loc 0) (.cons (.loc 1) .nil)))) (.cons (.exp (.call i_Pneed_few (.cons (.loc 0) .nil))) (.cons (.ret (.blt .len (.call i_Pall_ends (.cons (.loc 0) (.cons (.loc 1) .nil))))) .nil)))
theorem ir_Ptrapped_ok : row12.ir pg.g = some ⟨2, 2, false, ir_Ptrapped⟩ := by kernel_rfl
theorem at_Ptrapped : fns[i_Ptrapped]? = some ⟨2, 2, false, ir_Ptrapped⟩ := by
  show some ((row12.ir pg.g).getD ⟨0, 0, false, .nil⟩) = _
  rw [ir_Ptrapped_ok]
  rfl
abbrev b_Pchance : Sts := (.cons (.set 3 (.ife (.cmp .LtE (.loc 4) (.loc 2)) (.call i_Pplus (.cons (.loc 3) (.cons (.tup (.cons (.con (.int 1)) (.cons (.loc 5) .nil))) .nil))) (.loc 3))) .nil)
def ir_Pchance : Sts := (.cons (.exp (.call i_Pneed_small (.cons (.loc 0) (.cons (.loc 1) .nil)))) (.cons (.iff (.not (.call i_Pis_whole (.cons (.loc 2) (.cons (.con (.int 0)) (.cons (.con (.int 11)) .nil))))) (.cons (.rais x_InvalidNumber .nil) .nil) .nil) (.cons (.exp (.call i_Pneed_few (.cons (.loc 0) .nil))) (.cons (.set 3 (.tup (.cons (.con (.int 0)) (.cons (.con (.int 1)) .nil)))) (.cons (.forr (.cons (.nm 4) (.cons (.nm 5) .nil)) (.val (.call i_Pall_ends (.cons (.loc 0) (.cons (.loc 1) .nil)))) b_Pchance) (.cons (.ret (.loc 3)) .nil))))))
theorem ir_Pchance_ok : row13.ir pg.g = some ⟨3, 6, false, ir_Pchance⟩ := by kernel_rfl
theorem at_Pchance : fns[i_Pchance]? = some ⟨3, 6, false, ir_Pchance⟩ := by
  show some ((row13.ir pg.g).getD ⟨0, 0, false, .nil⟩) = _
  rw [ir_Pchance_ok]
  rfl
abbrev b_Pmean : Sts := (.cons (.set 2 (.call i_Pplus (.cons (.loc 2) (.cons (.call i_Ptimes (.cons (.tup (.cons (.loc 3) (.cons (.con (.int 1)) .nil))) (.cons (.call i_Pmade (.cons (.con (.int 1)) (.cons (.loc 4) .nil))) .nil))) .nil)))) .nil)
def ir_Pmean : Sts := (.cons (.exp (.call i_Pneed_small (.cons (.loc 0) (.cons (.loc 1) .nil)))) (.cons (.exp (.call i_Pneed_few (.cons (.loc 0) .nil))) (.cons (.set 2 (.tup (.cons (.con (.int 0)) (.cons (.con (.int 1)) .nil)))) (.cons (.forr (.cons (.nm 3) (.cons (.nm 4) .nil)) (.val (.call i_Pall_ends (.cons (.loc 0) (.cons (.loc 1) .nil)))) b_Pmean) (.cons (.ret (.loc 2)) .nil)))))
theorem ir_Pmean_ok : row14.ir pg.g = some ⟨2, 5, false, ir_Pmean⟩ := by kernel_rfl
theorem at_Pmean : fns[i_Pmean]? = some ⟨2, 5, false, ir_Pmean⟩ := by
  show some ((row14.ir pg.g).getD ⟨0, 0, false, .nil⟩) = _
  rw [ir_Pmean_ok]
  rfl
def ir_Ldrum : Sts := (.cons (.set 2 (.ife (.cmp .GtE (.loc 0) (.bin .Pow (.con (.int 10)) (.con (.int 18)))) (.bin .Add (.bin .FloorDiv (.loc 0) (.con (.int 7))) (.bin .Mult (.con (.int 61)) (.loc 1))) (.con (.int 0)))) (.cons (.ret (.box (.cons (.loc 2) (.cons (.bin .Add (.bin .Mod (.blt .int (.bin .Add (.bin .Mult (.loc 0) (.con (.int 97))) (.bin .Mult (.con (.int 1087)) (.loc 1)))) (.con (.int 2077504273))) (.con (.int 71))) .nil)))) .nil))
theorem ir_Ldrum_ok : row15.ir pg.g = some ⟨2, 3, true, ir_Ldrum⟩ := by kernel_rfl
theorem at_Ldrum : fns[i_Ldrum]? = some ⟨2, 3, true, ir_Ldrum⟩ := by
  show some ((row15.ir pg.g).getD ⟨0, 0, false, .nil⟩) = _
  rw [ir_Ldrum_ok]
  rfl
def ir_Lroll : Sts := (.cons (.iff (.cmp .Gt (.idx (.loc 0) (.con (.int 0))) (.con (.int 0))) (.cons (.set 3 (.bin .Mod (.blt .int (.idx (.loc 0) (.con (.int 0)))) (.loc 1))) (.cons (.seti 0 (.con (.int 0)) (.bin .FloorDiv (.idx (.loc 0) (.con (.int 0))) (.loc 1))) (.cons (.ret (.loc 3)) .nil))) .nil) (.cons (.seti 0 (.con (.int 1)) (.bin .Mod (.blt .int (.bin .Add (.bin .Mult (.idx (.loc 0) (.con (.int 1))) (.con (.int 30671))) (.con (.int 8807)))) (.con (.int 2147483549)))) (.cons (.set 2 (.bin .Mod (.blt .int (.bin .Mult (.idx (.loc 0) (.con (.int 1))) (.bin .Add (.idx (.loc 0) (.con (.int 1))) (.con (.int 101))))) (.con (.int 2147483587)))) (.cons (.ret (.bin .Mod (.blt .int (.bin .FloorDiv (.loc 2) (.con (.int 613)))) (.loc 1))) .nil))))
theorem ir_Lroll_ok : row16.ir pg.g = some ⟨2, 4, false, ir_Lroll⟩ := by kernel_rfl
theorem at_Lroll : fns[i_Lroll]? = some ⟨2, 4, false, ir_Lroll⟩ := by
  show some ((row16.ir pg.g).getD ⟨0, 0, false, .nil⟩) = _
  rw [ir_Lroll_ok]
  rfl
def ir_Lsome : Sts := (.cons (.ret (.idx (.loc 1) (.call i_Lroll (.cons (.loc 0) (.cons (.blt .len (.loc 1)) .nil))))) .nil)
theorem ir_Lsome_ok : row17.ir pg.g = some ⟨2, 2, false, ir_Lsome⟩ := by kernel_rfl
theorem at_Lsome : fns[i_Lsome]? = some ⟨2, 2, false, ir_Lsome⟩ := by
  show some ((row17.ir pg.g).getD ⟨0, 0, false, .nil⟩) = _
  rw [ir_Lsome_ok]
  rfl
def ir_Lplaces : Sts := (.cons (.set 1 (.lst .nil)) (.cons (.forr (.nm 2) (.rng (.cons (.idx (.loc 0) (.con (.int 1))) .nil)) (.cons (.set 1 (.bin .Add (.loc 1) (.lc [3] (.nm 3) (.rng (.cons (.idx (.loc 0) (.con (.int 0))) .nil)) .nil (.tup (.cons (.loc 2) (.cons (.loc 3) .nil)))))) .nil)) (.cons (.ret (.loc 1)) .nil)))
theorem ir_Lplaces_ok : row18.ir pg.g = some ⟨1, 4, false, ir_Lplaces⟩ := by kernel_rfl
theorem at_Lplaces : fns[i_Lplaces]? = some ⟨1, 4, false, ir_Lplaces⟩ := by
  show some ((row18.ir pg.g).getD ⟨0, 0, false, .nil⟩) = _
  rw [ir_Lplaces_ok]
  rfl
def ir_Lnear : Sts := (.cons (.sett (.cons (.nm 3) (.cons (.nm 4) .nil)) (.loc 1)) (.cons (.set 2 (.lst (.cons (.tup (.cons (.bin .Sub (.loc 3) (.con (.int 1))) (.cons (.loc 4) .nil))) (.cons (.tup (.cons (.loc 3) (.cons (.bin .Sub (.loc 4) (.con (.int 1))) .nil))) (.cons (.tup (.cons (.loc 3) (.cons (.bin .Add (.loc 4) (.con (.int 1))) .nil))) (.cons (.tup (.cons (.bin .Add (.loc 3) (.con (.int 1))) (.cons (.loc 4) .nil))) .nil)))))) (.cons (.ret (.lc [5] (.nm 5) (.val (.loc 2)) (.cons (.and (.chn .LtE .Lt (.con (.int 0)) (.idx (.loc 5) (.con (.int 0))) (.idx (.loc 0) (.con (.int 1)))) (.chn .LtE .Lt (.con (.int 0)) (.idx (.loc 5) (.con (.int 1))) (.idx (.loc 0) (.con (.int 0))))) .nil) (.loc 5))) .nil)))
theorem ir_Lnear_ok : row19.ir pg.g = some ⟨2, 6, false, ir_Lnear⟩ := by kernel_rfl
theorem at_Lnear : fns[i_Lnear]? = some ⟨2, 6, false, ir_Lnear⟩ := by
  show some ((row19.ir pg.g).getD ⟨0, 0, false, .nil⟩) = _
  rw [ir_Lnear_ok]
  rfl
def ir_Lstrip : Sts := (.cons (.set 2 (.bin .Add (.con (.int 1)) (.call i_Lroll (.cons (.loc 0) (.cons (.con (.int 3)) .nil))))) (.cons (.ret (.tup (.cons (.loc 2) (.cons (.bin .Add (.con (.int 1)) (.call i_Lroll (.cons (.loc 0) (.cons (.bin .FloorDiv (.loc 1) (.loc 2)) .nil)))) .nil)))) .nil))
theorem ir_Lstrip_ok : row20.ir pg.g = some ⟨2, 3, false, ir_Lstrip⟩ := by kernel_rfl
theorem at_Lstrip : fns[i_Lstrip]? = some ⟨2, 3, false, ir_Lstrip⟩ := by
  show some ((row20.ir pg.g).getD ⟨0, 0, false, .nil⟩) = _
  rw [ir_Lstrip_ok]
  rfl
abbrev t_Lends : X := (.cmp .NotEq (.loc 4) (.lst .nil))
abbrev t1_Lends : Xs := (.cons (.cmp .NotIn (.loc 9) (.loc 6)) .nil)
abbrev e_Lends : X := (.loc 9)
abbrev b_Lends : Sts := (.cons (.app 5 (.tup (.cons (.bin .Add (.loc 6) (.tup (.cons (.loc 9) .nil))) (.cons (.bin .FloorDiv (.loc 7) (.blt .len (.loc 8))) .nil)))) .nil)
abbrev b2_Lends : Sts := (.cons (.set 8 (.lc [9] (.nm 9) (.val (.call i_Lnear (.cons (.loc 0) (.cons (.idx (.loc 6) (.neg (.con (.int 1)))) .nil)))) t1_Lends e_Lends)) (.cons (.iff (.cmp .Eq (.loc 8) (.lst .nil)) (.cons (.app 3 (.tup (.cons (.bin .Sub (.blt .len (.loc 6)) (.con (.int 1))) (.cons (.loc 7) .nil)))) .nil) .nil) (.cons (.forr (.nm 9) (.val (.loc 8)) b_Lends) .nil)))
abbrev b3_Lends : Sts := (.cons (.set 5 (.box .nil)) (.cons (.forr (.cons (.nm 6) (.cons (.nm 7) .nil)) (.val (.loc 4)) b2_Lends) (.cons (.set 4 (.loc 5)) .nil)))
def ir_Lends : Sts := (.cons (.set 2 (.bin .Mult (.bin .Pow (.con (.int 3)) (.con (.int 12))) (.bin .Pow (.con (.int 2)) (.con (.int 12))))) (.cons (.par [3, 4] (.cons (.box .nil) (.cons (.lst (.cons (.tup (.cons (.tup (.cons (.loc 1) .nil)) (.cons (.loc 2) .nil))) .nil)) .nil))) (.cons (.whil t_Lends b3_Lends) (.cons (.ret (.loc 3)) .nil))))
theorem ir_Lends_ok : row21.ir pg.g = some ⟨2, 10, false, ir_Lends⟩ := by kernel_rfl
theorem at_Lends : fns[i_Lends]? = some ⟨2, 10, false, ir_Lends⟩ := by
  show some ((row21.ir pg.g).getD ⟨0, 0, false, .nil⟩) = _
  rw [ir_Lends_ok]
  rfl
abbrev t_Llow : X := (.cmp .NotEq (.loc 3) (.con (.int 0)))
abbrev b_Llow : Sts := (.cons (.par [2, 3] (.cons (.loc 3) (.cons (.bin .Mod (.loc 2) (.loc 3)) .nil))) .nil)
def ir_Llow : Sts := (.cons (.par [2, 3] (.cons (.loc 0) (.cons (.loc 1) .nil))) (.cons (.whil t_Llow b_Llow) (.cons (.ret (.tup (.cons (.bin .FloorDiv (.loc 0) (.loc 2)) (.cons (.bin .FloorDiv (.loc 1) (.loc 2)) .nil)))) .nil)))
theorem ir_Llow_ok : row22.ir pg.g = some ⟨2, 4, false, ir_Llow⟩ := by kernel_rfl
theorem at_Llow : fns[i_Llow]? = some ⟨2, 4, false, ir_Llow⟩ := by
  show some ((row22.ir pg.g).getD ⟨0, 0, false, .nil⟩) = _
  rw [ir_Llow_ok]
  rfl
abbrev e_Lright : X := (.loc 6)
abbrev t_Lright : Xs := (.cons (.cmp .LtE (.loc 5) (.loc 2)) .nil)
abbrev e1_Lright : X := (.loc 6)
abbrev b_Lright : Sts := (.cons (.iff (.cmp .NotEq (.call i_Pchance (.cons (.loc 0) (.cons (.loc 1) (.cons (.loc 2) .nil)))) (.call i_Llow (.cons (.blt .sum (.lc [5, 6] (.cons (.nm 5) (.cons (.nm 6) .nil)) (.val (.loc 3)) t_Lright e1_Lright)) (.cons (.loc 4) .nil)))) (.cons (.ret (.con (.bool false))) .nil) .nil) .nil)
abbrev e2_Lright : X := (.bin .Mult (.loc 5) (.loc 6))
def ir_Lright : Sts := (.cons (.par [3, 4] (.cons (.call i_Lends (.cons (.loc 0) (.cons (.loc 1) .nil))) (.cons (.bin .Mult (.bin .Pow (.con (.int 3)) (.con (.int 12))) (.bin .Pow (.con (.int 2)) (.con (.int 12)))) .nil))) (.cons (.iff (.or (.cmp .NotEq (.call i_Ptrapped (.cons (.loc 0) (.cons (.loc 1) .nil))) (.blt .len (.loc 3))) (.cmp .NotEq (.blt .sum (.lc [5, 6] (.cons (.nm 5) (.cons (.nm 6) .nil)) (.val (.loc 3)) .nil e_Lright)) (.loc 4))) (.cons (.ret (.con (.bool false))) .nil) .nil) (.cons (.forr (.nm 2) (.rng (.cons (.con (.int 12)) .nil)) b_Lright) (.cons (.ret (.cmp .Eq (.call i_Pmean (.cons (.loc 0) (.cons (.loc 1) .nil))) (.call i_Llow (.cons (.blt .sum (.lc [5, 6] (.cons (.nm 5) (.cons (.nm 6) .nil)) (.val (.loc 3)) .nil e2_Lright)) (.cons (.loc 4) .nil))))) .nil))))
theorem ir_Lright_ok : row23.ir pg.g = some ⟨2, 7, false, ir_Lright⟩ := by kernel_rfl
theorem at_Lright : fns[i_Lright]? = some ⟨2, 7, false, ir_Lright⟩ := by
  show some ((row23.ir pg.g).getD ⟨0, 0, false, .nil⟩) = _
  rw [ir_Lright_ok]
  rfl
abbrev b_Llaw : Sts := (.cons (.iff (.not (.call i_Lright (.cons (.loc 4) (.cons (.call i_Lsome (.cons (.loc 3) (.cons (.call i_Lplaces (.cons (.loc 4) .nil)) .nil))) .nil)))) (.cons (.ret (.con (.bool false))) .nil) .nil) .nil)
abbrev b1_Llaw : Sts := (.cons (.set 7 (.box (.cons (.err (.call i_Ptrapped (.cons (.loc 4) (.cons (.loc 6) .nil)))) (.cons (.con (.str "")) (.cons (.con (.str "")) .nil))))) (.cons (.seti 7 (.con (.int 1)) (.err (.call i_Pchance (.cons (.loc 4) (.cons (.loc 6) (.cons (.con .none) .nil)))))) (.cons (.seti 7 (.con (.int 2)) (.err (.call i_Pmean (.cons (.loc 4) (.cons (.loc 6) .nil))))) (.cons (.iff (.cmp .NotEq (.loc 7) (.bin .Mult (.lst (.cons (.con (.str "place value")) .nil)) (.con (.int 3)))) (.cons (.ret (.con (.bool false))) .nil) .nil) .nil))))
abbrev b2_Llaw : Sts := (.cons (.iff (.cmp .NotEq (.err (.call i_Pchance (.cons (.loc 4) (.cons (.tup (.cons (.con (.int 0)) (.cons (.con (.int 0)) .nil))) (.cons (.loc 6) .nil))))) (.con (.str "number value"))) (.cons (.ret (.con (.bool false))) .nil) .nil) .nil)
abbrev b3_Llaw : Sts := (.cons (.set 7 (.box (.cons (.err (.call i_Ptrapped (.cons (.loc 6) (.cons (.con .none) .nil)))) (.cons (.con (.str "")) (.cons (.con (.str "")) .nil))))) (.cons (.seti 7 (.con (.int 1)) (.err (.call i_Pchance (.cons (.loc 6) (.cons (.con .none) (.cons (.con .none) .nil)))))) (.cons (.seti 7 (.con (.int 2)) (.err (.call i_Pmean (.cons (.loc 6) (.cons (.con .none) .nil))))) (.cons (.iff (.cmp .NotEq (.loc 7) (.bin .Mult (.lst (.cons (.con (.str "strip value")) .nil)) (.con (.int 3)))) (.cons (.ret (.con (.bool false))) .nil) .nil) .nil))))
abbrev b4_Llaw : Sts := (.cons (.set 3 (.call i_Ldrum (.cons (.loc 1) (.cons (.con (.int 9)) .nil)))) (.cons (.set 4 (.call i_Lstrip (.cons (.loc 3) (.cons (.con (.int 12)) .nil)))) (.cons (.forr (.nm 5) (.rng (.cons (.con (.int 2)) .nil)) b_Llaw) (.cons (.forr (.nm 6) (.val (.tup (.cons (.con .none) (.cons (.tup .nil) (.cons (.tup (.cons (.con (.int 0)) (.cons (.idx (.loc 4) (.con (.int 0))) .nil))) (.cons (.tup (.cons (.idx (.loc 4) (.con (.int 1))) (.cons (.con (.int 0)) .nil))) (.cons (.tup (.cons (.neg (.con (.int 1))) (.cons (.con (.int 0)) .nil))) (.cons (.lst (.cons (.con (.int 0)) (.cons (.con (.int 0)) .nil))) (.cons (.tup (.cons (.con (.bool true)) (.cons (.con (.int 0)) .nil))) .nil))))))))) b1_Llaw) (.cons (.forr (.nm 6) (.val (.tup (.cons (.con .none) (.cons (.neg (.con (.int 1))) (.cons (.con (.int 12)) (.cons (.con (.bool true)) (.cons (.con (.str "1")) .nil))))))) b2_Llaw) (.cons (.forr (.nm 6) (.val (.tup (.cons (.con .none) (.cons (.tup (.cons (.con (.int 0)) (.cons (.con (.int 1)) .nil))) (.cons (.tup (.cons (.con (.int 4)) (.cons (.con (.int 1)) .nil))) .nil))))) b3_Llaw) (.cons (.set 7 (.box (.cons (.err (.call i_Ptrapped (.cons (.tup (.cons (.con (.int 1)) (.cons (.con (.int 13)) .nil))) (.cons (.tup (.cons (.con (.int 0)) (.cons (.con (.int 0)) .nil))) .nil)))) (.cons (.con (.str "")) (.cons (.con (.str "")) (.cons (.con (.str "")) .nil)))))) (.cons (.seti 7 (.con (.int 1)) (.err (.call i_Pchance (.cons (.tup (.cons (.con (.int 3)) (.cons (.con (.int 5)) .nil))) (.cons (.tup (.cons (.con (.int 0)) (.cons (.con (.int 0)) .nil))) (.cons (.con (.int 1)) .nil)))))) (.cons (.seti 7 (.con (.int 2)) (.err (.call i_Pmean (.cons (.tup (.cons (.con (.int 2)) (.cons (.con (.int 7)) .nil))) (.cons (.tup (.cons (.con (.int 6)) (.cons (.con (.int 1)) .nil))) .nil))))) (.cons (.seti 7 (.con (.int 3)) (.err (.call i_Pchance (.cons (.tup (.cons (.con (.int 3)) (.cons (.con (.int 5)) .nil))) (.cons (.tup (.cons (.con (.int 0)) (.cons (.con (.int 0)) .nil))) (.cons (.con (.int 12)) .nil)))))) (.cons (.iff (.cmp .NotEq (.loc 7) (.bin .Add (.bin .Mult (.lst (.cons (.con (.str "many value")) .nil)) (.con (.int 3))) (.lst (.cons (.con (.str "number value")) .nil)))) (.cons (.ret (.con (.bool false))) .nil) .nil) .nil)))))))))))
def ir_Llaw : Sts := (.cons (.forr (.nm 1) (.val (.slc (.bin .Add (.lst (.cons (.con (.int 0)) .nil)) (.loc 0)) .nil (.cons (.con (.int 6)) .nil))) b4_Llaw) (.cons (.set 2 (.tup (.cons (.con (.int 2)) (.cons (.con (.int 3)) .nil)))) (.cons (.iff (.cmp .NotEq (.lst (.cons (.call i_Ptrapped (.cons (.loc 2) (.cons (.tup (.cons (.con (.int 0)) (.cons (.con (.int 0)) .nil))) .nil))) (.cons (.call i_Ptrapped (.cons (.tup (.cons (.con (.int 1)) (.cons (.con (.int 5)) .nil))) (.cons (.tup (.cons (.con (.int 2)) (.cons (.con (.int 0)) .nil))) .nil))) (.cons (.call i_Ptrapped (.cons (.tup (.cons (.con (.int 1)) (.cons (.con (.int 1)) .nil))) (.cons (.tup (.cons (.con (.int 0)) (.cons (.con (.int 0)) .nil))) .nil))) .nil)))) (.lst (.cons (.con (.int 5)) (.cons (.con (.int 2)) (.cons (.con (.int 1)) .nil))))) (.cons (.ret (.con (.bool false))) .nil) .nil) (.cons (.iff (.cmp .NotEq (.lst (.cons (.call i_Pchance (.cons (.tup (.cons (.con (.int 1)) (.cons (.con (.int 5)) .nil))) (.cons (.tup (.cons (.con (.int 1)) (.cons (.con (.int 0)) .nil))) (.cons (.con (.int 1)) .nil)))) (.cons (.call i_Pchance (.cons (.tup (.cons (.con (.int 1)) (.cons (.con (.int 5)) .nil))) (.cons (.tup (.cons (.con (.int 1)) (.cons (.con (.int 0)) .nil))) (.cons (.con (.int 2)) .nil)))) (.cons (.call i_Pchance (.cons (.loc 2) (.cons (.tup (.cons (.con (.int 0)) (.cons (.con (.int 0)) .nil))) (.cons (.con (.int 5)) .nil)))) .nil)))) (.lst (.cons (.tup (.cons (.con (.int 1)) (.cons (.con (.int 2)) .nil))) (.cons (.tup (.cons (.con (.int 1)) (.cons (.con (.int 2)) .nil))) (.cons (.tup (.cons (.con (.int 1)) (.cons (.con (.int 1)) .nil))) .nil))))) (.cons (.ret (.con (.bool false))) .nil) .nil) (.cons (.iff (.or (.cmp .NotEq (.call i_Pchance (.cons (.loc 2) (.cons (.tup (.cons (.con (.int 0)) (.cons (.con (.int 0)) .nil))) (.cons (.con (.int 3)) .nil)))) (.tup (.cons (.con (.int 1)) (.cons (.con (.int 8)) .nil)))) (.cmp .NotEq (.call i_Pchance (.cons (.tup (.cons (.con (.int 1)) (.cons (.con (.int 12)) .nil))) (.cons (.tup (.cons (.con (.int 0)) (.cons (.con (.int 0)) .nil))) (.cons (.con (.int 10)) .nil)))) (.tup (.cons (.con (.int 0)) (.cons (.con (.int 1)) .nil))))) (.cons (.ret (.con (.bool false))) .nil) .nil) (.cons (.ret (.cmp .Eq (.lst (.cons (.call i_Pmean (.cons (.tup (.cons (.con (.int 1)) (.cons (.con (.int 5)) .nil))) (.cons (.tup (.cons (.con (.int 1)) (.cons (.con (.int 0)) .nil))) .nil))) (.cons (.call i_Pmean (.cons (.loc 2) (.cons (.tup (.cons (.con (.int 0)) (.cons (.con (.int 0)) .nil))) .nil))) (.cons (.call i_Pmean (.cons (.tup (.cons (.con (.int 1)) (.cons (.con (.int 1)) .nil))) (.cons (.tup (.cons (.con (.int 0)) (.cons (.con (.int 0)) .nil))) .nil))) .nil)))) (.lst (.cons (.tup (.cons (.con (.int 2)) (.cons (.con (.int 1)) .nil))) (.cons (.tup (.cons (.con (.int 37)) (.cons (.con (.int 8)) .nil))) (.cons (.tup (.cons (.con (.int 0)) (.cons (.con (.int 1)) .nil))) .nil)))))) .nil))))))
theorem ir_Llaw_ok : row24.ir pg.g = some ⟨1, 8, false, ir_Llaw⟩ := by kernel_rfl
theorem at_Llaw : fns[i_Llaw]? = some ⟨1, 8, false, ir_Llaw⟩ := by
  show some ((row24.ir pg.g).getD ⟨0, 0, false, .nil⟩) = _
  rw [ir_Llaw_ok]
  rfl
end K06
end

section
set_option Elab.async false
set_option linter.all false
set_option maxRecDepth 100000
set_option maxHeartbeats 1000000
namespace K06
open PySem Ev
abbrev tb : Tab := ⟨fns, pg.nm⟩
theorem call_at {n i : Nat} {us : List U} {S : Store} {fn : Fn} (h : fns[i]? = some fn) (hl : us.length = fn.np) : callN tb (n + 1) i us S = finish fn.keep S.length (evSs (cnN tb n) fn.body (start fn.nn us) S) := by
  rw [callN_succ]
  unfold runF
  rw [show tb.fns[i]? = some fn from h]
  exact if_pos hl
theorem call_cn (n : Nat) : (cnN tb n).call = callN tb n := rfl
/-- a drum -/
def Drum (S : Store) (b : Nat) : Prop := ∃ a c : Int, S[b]? = some (.lst [.int a, .int c])
theorem Drum.lt {S : Store} {b : Nat} (h : Drum S b) : b < S.length := by
  obtain ⟨a, c, h⟩ := h
  exact (List.getElem?_eq_some_iff.mp h).1
theorem roll_ok (n : Nat) {S : Store} {b : Nat} {m : Int} (hS : Drum S b) (hm : 0 < m) (hm2 : m.natAbs.log2 < 9000) :
    ∃ r S', 0 ≤ r ∧ r < m ∧ callN tb (n + 1) i_Lroll [.ref b, .d (.int m)] S = .ok (.d (.int r)) S' ∧ Drum S' b ∧ S'.length = S.length ∧ ∀ j, j ≠ b → S'[j]? = S[j]? := by
  have hb := hS.lt
  obtain ⟨a, c, hS⟩ := hS
  rw [call_at at_Lroll rfl]
  by_cases ha : 0 < a
  · refine ⟨a % m, S.set b (.lst [.int (a / m), .int c]), Int.emod_nonneg _ (by omega), Int.emod_lt_of_pos _ hm, ?_, ⟨a / m, c, by rw [List.getElem?_set_self hb]⟩, by simp, fun j hj => List.getElem?_set_ne (Ne.symm hj)⟩
    simp [ir_Lroll, evSs, evS, evX, evXs, Ev.start, d_lst hS, truR, cmpU, ha, binU, bltD, mod_ii hm, div_ii (divOk_of hm hm2), putL, hS, L2.ixN]
    exact List.take_of_length_le (by simp)
  · obtain ⟨x, hx⟩ : ∃ x, x = (c * 30671 + 8807) % 2147483549 := ⟨_, rfl⟩
    have x0 : 0 ≤ x := by rw [hx]; exact Int.emod_nonneg _ (by omega)
    have x1 : x < 2147483549 := by rw [hx]; exact Int.emod_lt_of_pos _ (by omega)
    have m1 : mulOk c 30671 = true := mul_small (.inr (by decide))
    have m2 : mulOk x (x + 101) = true := mul_small (.inl (smallI_of (by omega) (by omega)))
    have hS' : (S.set b (.lst [.int a, .int x]))[b]? = some (.lst [.int a, .int x]) := by rw [List.getElem?_set_self hb]
    have l1 : (Int.natAbs 613).log2 < 9000 := by decide
    refine ⟨x * (x + 101) % 2147483587 / 613 % m, S.set b (.lst [.int a, .int x]), Int.emod_nonneg _ (by omega), Int.emod_lt_of_pos _ hm, ?_, ⟨a, x, hS'⟩, by simp, fun j hj => List.getElem?_set_ne (Ne.symm hj)⟩
    simp [ir_Lroll, evSs, evS, evX, evXs, Ev.start, d_lst hS, d_lst hS', truR, cmpU, ha, binU, bltD, mod_ii hm, mod_ii (show (0 : Int) < 2147483549 by decide), mod_ii (show (0 : Int) < 2147483587 by decide), div_ii (show divOk 613 = true by decide), putL, hS, mul_ii m1, mul_ii m2, ← hx, L2.ixN]
    exact List.take_of_length_le (by rw [List.length_set]; exact Nat.le_refl _)
theorem two_line : 2 ≤ line := by decide
theorem pow_18 : binD .Pow (.int 10) (.int 18) = some (.int 1000000000000000000) := by kernel_rfl
theorem drum_ok (n : Nat) (S : Store) (cell : Int) : ∃ S', callN tb (n + 1) i_Ldrum [.d (.int cell), .d (.int 9)] S = .ok (.ref S.length) S' ∧ Drum S' S.length ∧ S'.length = S.length + 1 ∧ ∀ j, j < S.length → S'[j]? = S[j]? := by
  have m1 : mulOk cell 97 = true := mul_small (.inr (by decide))
  have m2 : mulOk 1087 9 = true := by decide
  have m3 : mulOk 61 9 = true := by decide
  rw [call_at at_Ldrum rfl]
  refine ⟨S ++ [.lst [.int (if (1000000000000000000 : Int) ≤ cell then cell / 7 + 61 * 9 else 0), .int ((cell * 97 + 1087 * 9) % 2077504273 + 71)]], ?_, ⟨_, _, by rw [List.getElem?_append_right (Nat.le_refl _), Nat.sub_self]; rfl⟩, by simp, fun j hj => List.getElem?_append_left hj⟩
  by_cases h : (1000000000000000000 : Int) ≤ cell
  · simp [ir_Ldrum, evSs, evS, evX, evXs, Ev.start, truR, cmpU, binU, bltD, pow_18, h, mul_ii m1, mul_ii m2, mul_ii m3, mod_ii (show (0 : Int) < 2077504273 by decide), div_ii (show divOk 7 = true by decide), datas, two_line]
  · simp [ir_Ldrum, evSs, evS, evX, evXs, Ev.start, truR, cmpU, binU, bltD, pow_18, h, mul_ii m1, mul_ii m2, mul_ii m3, mod_ii (show (0 : Int) < 2077504273 by decide), div_ii (show divOk 7 = true by decide), datas, two_line]
/-- one of several things -/
theorem some_ok (n : Nat) {S : Store} {b : Nat} {xs : List PyData} {p : PyData} (hS : Drum S b) (hp : p = .list xs ∨ p = .tuple xs) (h0 : xs ≠ []) (hl : xs.length < 1000000) :
    ∃ x S', x ∈ xs ∧ callN tb (n + 2) i_Lsome [.ref b, .d p] S = .ok (.d x) S' ∧ Drum S' b ∧ S'.length = S.length ∧ ∀ j, j ≠ b → S'[j]? = S[j]? := by
  have hpos : (0 : Int) < (xs.length : Nat) := by have := List.length_pos_iff.mpr h0; omega
  obtain ⟨r, S', r0, r1, hc, hD, hlen, hk⟩ := roll_ok n (m := (xs.length : Nat)) hS hpos (by have := divOk_small hpos (by omega); unfold divOk at this; simpa using (Bool.and_eq_true_iff.mp this).2)
  obtain ⟨x, hx⟩ : ∃ x, xs[r.toNat]? = some x := ⟨xs[r.toNat]'(by omega), by simp⟩
  refine ⟨x, S', List.mem_of_getElem? hx, ?_, hD, hlen, hk⟩
  rw [call_at at_Lsome rfl]
  have hat := at_nat r0 hx
  have ht : S'.take S.length = S' := List.take_of_length_le (by omega)
  rcases hp with rfl | rfl
  · simp [ir_Lsome, evSs, evS, evX, evXs, Ev.start, bltD, call_cn, hc, idxD, hat, ht]
  · simp [ir_Lsome, evSs, evS, evX, evXs, Ev.start, bltD, call_cn, hc, idxD, hat, ht]
/-- a strip -/
theorem strip_ok (n : Nat) {S : Store} {b : Nat} (hS : Drum S b) {m : Int} (hm1 : 3 ≤ m) (hm2 : m ≤ 1000) :
    ∃ (r c : Int) (S' : Store), 1 ≤ r ∧ r ≤ 3 ∧ 1 ≤ c ∧ r * c ≤ m ∧ callN tb (n + 2) i_Lstrip [.ref b, .d (.int m)] S = .ok (.d (.tuple [.int r, .int c])) S' ∧ Drum S' b ∧ S'.length = S.length ∧ ∀ j, j ≠ b → S'[j]? = S[j]? := by
  obtain ⟨r, S1, r0, r1, h1, D1, l1, k1⟩ := roll_ok n (m := 3) hS (by decide) (by decide)
  have hq : m / (1 + r) * (1 + r) ≤ m := Int.ediv_mul_le _ (by omega)
  have hd : (0 : Int) < m / (1 + r) := by
    have : r = 0 ∨ r = 1 ∨ r = 2 := by omega
    rcases this with rfl | rfl | rfl <;> omega
  have hs : (m / (1 + r)).natAbs.log2 < 9000 := by
    have h2 : m / (1 + r) ≤ 1000 := by
      have : m / (1 + r) ≤ m := Int.ediv_le_self _ (by omega)
      omega
    have := divOk_small hd (by omega)
    unfold divOk at this
    simpa using (Bool.and_eq_true_iff.mp this).2
  obtain ⟨c, S2, c0, c1, h2, D2, l2, k2⟩ := roll_ok n (m := m / (1 + r)) D1 hd hs
  refine ⟨1 + r, 1 + c, S2, by omega, by omega, by omega, ?_, ?_, D2, by omega, fun j hj => by rw [k2 j hj, k1 j hj]⟩
  · have h3 : (1 + c) * (1 + r) ≤ m / (1 + r) * (1 + r) := Int.mul_le_mul_of_nonneg_right (by omega) (by omega)
    rw [Int.mul_comm (1 + r)]
    omega
  · rw [call_at at_Lstrip rfl]
    have ht : S2.take S.length = S2 := List.take_of_length_le (by omega)
    simp [ir_Lstrip, evSs, evS, evX, evXs, Ev.start, call_cn, h1, h2, binU, div_ii (divOk_small (show (0 : Int) < 1 + r by omega) (by omega)), datas, two_line, ht]
/-- a place of a strip -/
def InS (r c : Int) (x : PyData) : Prop := ∃ a b : Int, x = .tuple [.int a, .int b] ∧ 0 ≤ a ∧ a < c ∧ 0 ≤ b ∧ b < r
abbrev strip (r c : Int) : PyData := .tuple [.int r, .int c]
theorem places_ok (n : Nat) (S : Store) {r c : Int} (hr : 1 ≤ r) (hc : 1 ≤ c) (hm : r * c ≤ 200) (hr2 : r ≤ 200) (hc2 : c ≤ 200) :
    ∃ xs : List PyData, callN tb (n + 1) i_Lplaces [.d (strip r c)] S = .ok (.d (.list xs)) S ∧ (∀ x, x ∈ xs → InS r c x) ∧ (xs.length : Int) = r * c := by
  rw [call_at at_Lplaces rfl]
  have hR := rng_1 (j := r) (by omega) (by omega)
  have hC := rng_1 (j := c) (by omega) (by omega)
  -- one column
  have inner : ∀ (a : Int) (ρ : Rho) (u1 : Option U) (z : Option U) (w : Option U), 0 ≤ a → a < c → ρ = [some (.d (strip r c)), u1, some (.d (.int a)), w] →
      ∃ ys, evX (cnN tb n) (.lc [3] (.nm 3) (.rng (.cons (.idx (.loc 0) (.con (.int 0))) .nil)) .nil (.tup (.cons (.loc 2) (.cons (.loc 3) .nil)))) ρ S = .ok (.d (.list ys)) S ∧ (∀ x, x ∈ ys → InS r c x) ∧ ys.length = r.toNat := by
    intro a ρ u1 z w a0 a1 hρ
    subst hρ
    obtain ⟨ys, S', h1, h2, h3, h4⟩ := comp_inv (t := .nm 3) (c := fun ρ S => evC (cnN tb n) .nil ρ S) (e := fun ρ S => dataR (evX (cnN tb n) (.tup (.cons (.loc 2) (.cons (.loc 3) .nil))) ρ S)) (ρ := [some (.d (strip r c)), u1, some (.d (.int a)), none])
      (fun k ys S' => S' = S ∧ ys.length = k ∧ ∀ x, x ∈ ys → InS r c x) (rngItems 0 r.toNat) 0 [] S ⟨rfl, rfl, fun x hx => by cases hx⟩ (fun i u ys S' hu ⟨e1, e2, e3⟩ => by
        obtain ⟨hi, rfl⟩ := rng_at hu
        subst e1
        refine ⟨_, rfl, true, S', rfl, .inl ⟨rfl, .tuple [.int a, .int (i : Nat)], S', ?_, rfl, by simp; omega, fun x hx => ?_⟩⟩
        · simp [dataR, evX, evXs, datas, two_line]
        · rcases List.mem_append.mp hx with hx | hx
          · exact e3 x hx
          · have : x = .tuple [.int a, .int (i : Nat)] := by simpa using hx
            subst this
            exact ⟨a, i, rfl, a0, a1, by omega, by omega⟩)
    subst h2
    refine ⟨ys, ?_, fun x hx => h4 x (by simpa using hx), by rw [rng_len] at h3; simpa using h3⟩
    have hl : (rngItems 0 r.toNat).length ≤ line := by rw [rng_len]; show _ ≤ 16777216; omega
    exact ev_lc (it_rng1 (j := r) (by simp [evX, binU]) (by omega) (by omega)) hl h1
  -- the columns
  obtain ⟨ρ', S', h1, e1, xs, z, w, e2, e3, e4⟩ := loop_inv (t := .nm 2) (body := fun ρ S => evSs (cnN tb n) (.cons (.set 1 (.bin .Add (.loc 1) (.lc [3] (.nm 3) (.rng (.cons (.idx (.loc 0) (.con (.int 0))) .nil)) .nil (.tup (.cons (.loc 2) (.cons (.loc 3) .nil)))))) .nil) ρ S)
    (fun i ρ S' => S' = S ∧ ∃ (xs : List PyData) (z w : Option U), ρ = [some (.d (strip r c)), some (.d (.list xs)), z, w] ∧ (xs.length : Int) = r * i ∧ ∀ x, x ∈ xs → InS r c x) (rngItems 0 c.toNat) 0 [some (.d (strip r c)), some (.d (.list [])), none, none] S
    ⟨rfl, [], none, none, rfl, by simp, fun x hx => by cases hx⟩ (fun i u ρ S' hu ⟨e1, xs, z, w, e2, e3, e4⟩ => by
      obtain ⟨hi, rfl⟩ := rng_at hu
      subst e1 e2
      obtain ⟨ys, h2, h3, h4⟩ := inner (0 + (i : Nat)) [some (.d (strip r c)), some (.d (.list xs)), some (.d (.int (0 + (i : Nat)))), w] (some (.d (.list xs))) none w (by omega) (by omega) rfl
      have hfit : xs.length + ys.length ≤ line := by
        have : r * ((0 + i : Nat) : Int) ≤ r * c := Int.mul_le_mul_of_nonneg_left (by omega) (by omega)
        show _ ≤ 16777216
        omega
      refine ⟨_, _, S', rfl, ?_, rfl, xs ++ ys, some (.d (.int (0 + (i : Nat)))), w, rfl, ?_, fun x hx => ?_⟩
      · rw [ss_cons (s_set (u := .d (.list (xs ++ ys))) (S1 := S') ?_)]
        · rfl
        · unfold evX
          rw [show ([some (.d (strip r c)), some (.d (.list xs)), z, w] : Rho).set 2 (some (.d (.int (0 + (i : Nat))))) = [some (.d (strip r c)), some (.d (.list xs)), some (.d (.int (0 + (i : Nat)))), w] from rfl]
          rw [show evX (cnN tb n) (.loc 1) [some (.d (strip r c)), some (.d (.list xs)), some (.d (.int (0 + (i : Nat)))), w] S' = .ok (.d (.list xs)) S' from rfl, b_ok]
          rw [h2, b_ok]
          simp [binU, add_ll hfit]
      · rw [List.length_append, h4]
        push_cast
        rw [e3]
        have : ((r.toNat : Nat) : Int) = r := by omega
        rw [this]
        rw [Int.mul_add]
        simp
      · rcases List.mem_append.mp hx with hx | hx
        · exact e4 x hx
        · exact h3 x hx)
  subst e1 e2
  rw [Nat.zero_add, rng_len] at e3
  refine ⟨xs, ?_, e4, by rw [e3]; congr 1; omega⟩
  show Ev.finish false S'.length (evSs (cnN tb n) ir_Lplaces [some (.d (strip r c)), none, none, none] S') = _
  unfold ir_Lplaces
  rw [ss_cons (s_set (u := .d (.list [])) (S1 := S') (by simp [evX, evXs, datas]))]
  rw [show ([some (.d (strip r c)), none, none, none] : Rho).set 1 (some (.d (.list []))) = [some (.d (strip r c)), some (.d (.list [])), none, none] from rfl]
  rw [ss_cons (ev_for (it_rng1 (j := c) (by simp [evX, binU]) (by omega) (by omega)) h1)]
  rw [ss_ret (s_ret (u := .d (.list xs)) rfl)]
  simp
/-- a test that two numbers lie in the strip -/
theorem inTest (g : Cn) (S : Store) {r c : Int} (x y : Int) (ρ : Rho) (h0 : ρ[0]? = some (some (.d (strip r c)))) (h5 : ρ[5]? = some (some (.d (.tuple [.int x, .int y])))) :
    truR (evX g (.and (.chn .LtE .Lt (.con (.int 0)) (.idx (.loc 5) (.con (.int 0))) (.idx (.loc 0) (.con (.int 1)))) (.chn .LtE .Lt (.con (.int 0)) (.idx (.loc 5) (.con (.int 1))) (.idx (.loc 0) (.con (.int 0))))) ρ S) =
      .ok (decide (0 ≤ x ∧ x < c ∧ 0 ≤ y ∧ y < r)) S := by
  by_cases h1 : 0 ≤ x
  · by_cases h2 : x < c
    · by_cases h3 : 0 ≤ y
      · by_cases h4 : y < r
        · simp [evX, truR, boolR, asB, h0, h5, cmpU, h1, h2, h3, h4]
        · simp [evX, truR, boolR, asB, h0, h5, cmpU, h1, h2, h3, h4]
      · simp [evX, truR, boolR, asB, h0, h5, cmpU, h1, h2, h3]
    · simp [evX, truR, boolR, asB, h0, h5, cmpU, h1, h2]
  · simp [evX, truR, boolR, asB, h0, h5, cmpU, h1]
end K06
end

section
set_option Elab.async false
set_option linter.all false
set_option maxRecDepth 100000
set_option maxHeartbeats 1000000
namespace K06
open PySem Ev
/-! ### the plain things -/
abbrev Pl := Int × Int
def pl (p : Pl) : PyData := .tuple [.int p.1, .int p.2]
def inB (r c : Int) (p : Pl) : Bool := decide (0 ≤ p.1 ∧ p.1 < c ∧ 0 ≤ p.2 ∧ p.2 < r)
def nearF (r c : Int) (p : Pl) : List Pl := [(p.1 - 1, p.2), (p.1, p.2 - 1), (p.1, p.2 + 1), (p.1 + 1, p.2)].filter (inB r c)
def hasP (o : Pl) (w : List Pl) : Bool := w.any fun z => z.1 == o.1 && z.2 == o.2
def lastP (w : List Pl) : Pl := w.getLastD (0, 0)
def freshF (r c : Int) (w : List Pl) : List Pl := (nearF r c (lastP w)).filter fun o => !hasP o w
abbrev It1 := List Pl × Int
abbrev En := Int × Int
def foundF (r c : Int) (x : It1) : List En := if (freshF r c x.1).isEmpty = true then [((x.1.length : Nat) - 1, x.2)] else []
def laterP (r c : Int) (x : It1) : List It1 := (freshF r c x.1).map fun o => (x.1 ++ [o], x.2 * ((freshF r c x.1).length : Nat))
def laterL (r c : Int) (x : It1) : List It1 := (freshF r c x.1).map fun o => (x.1 ++ [o], x.2 / ((freshF r c x.1).length : Nat))
abbrev Stt := List En × List It1
def stepP (r c : Int) (s : Stt) : Stt := (s.1 ++ s.2.flatMap (foundF r c), s.2.flatMap (laterP r c))
def stepL (r c : Int) (s : Stt) : Stt := (s.1 ++ s.2.flatMap (foundF r c), s.2.flatMap (laterL r c))
def okI (x : It1) : Bool := decide (1 ≤ x.1.length) && decide (x.1.length ≤ 20) && decide (0 < x.2) && decide (x.2 < 100000000000)
def okS (s : Stt) : Bool := decide (s.1.length ≤ 2000) && decide (s.2.length ≤ 2000) && s.2.all okI
def more (s : Stt) : Bool := !s.2.isEmpty
def endsP (r c : Int) (p : Pl) : Option Stt := runW okS more (stepP r c) 20 ([], [([p], 1)])
def endsL (r c : Int) (p : Pl) : Option Stt := runW okS more (stepL r c) 20 ([], [([p], 2176782336)])
/-! ### how they stand in the program -/
def wD (w : List Pl) : PyData := .tuple (w.map pl)
def lD (x : It1) : PyData := .tuple [wD x.1, .int x.2]
def eD (e : En) : PyData := .tuple [.int e.1, .int e.2]
theorem pl_lay (p : Pl) : (pl p).canLay0 = true ∧ (pl p).depth ≤ 1 := ⟨rfl, Nat.le_refl 1⟩
theorem wD_lay (w : List Pl) : (wD w).canLay0 = true ∧ (wD w).depth ≤ 2 := (lay_seq fun x hx => by
  obtain ⟨p, _, rfl⟩ := List.mem_map.mp hx
  exact pl_lay p).2
theorem lD_lay (x : It1) : (lD x).canLay0 = true ∧ (lD x).depth ≤ 3 := (lay_seq (xs := [wD x.1, .int x.2]) (d := 2) fun y hy => by
  simp only [List.mem_cons, List.not_mem_nil, or_false] at hy
  rcases hy with rfl | rfl
  · exact wD_lay _
  · exact ⟨rfl, Nat.zero_le _⟩).2
theorem eD_lay (e : En) : (eD e).canLay0 = true ∧ (eD e).depth ≤ 1 := ⟨rfl, Nat.le_refl 1⟩
theorem lns_sh (ln : List It1) : SeqAt.shaped (.list (ln.map lD)) = true := shaped_of (lay_seq fun x hx => by
  obtain ⟨y, _, rfl⟩ := List.mem_map.mp hx
  exact lD_lay y).1 (by decide)
theorem fs_sh (fs : List Pl) : SeqAt.shaped (.list (fs.map pl)) = true := shaped_of (lay_seq fun x hx => by
  obtain ⟨y, _, rfl⟩ := List.mem_map.mp hx
  exact pl_lay y).1 (by decide)
theorem in_walk (o : Pl) (w : List Pl) : inD (pl o) (wD w) = some (hasP o w) := by
  unfold wD
  rw [in_tup (shaped_of (pl_lay o) (by decide)) (shaped_of (wD_lay w) (by decide)), List.any_map]
  congr 1
  unfold hasP
  congr 1
  funext z
  show ((z.1 == o.1) && ((z.2 == o.2) && true)) = _
  rw [Bool.and_true]
theorem near_go (g : Cn) (S : Store) (r c : Int) (p : Pl) : evX g (.lc [5] (.nm 5) (.val (.loc 2)) t_Pneighbours e_Pneighbours) [some (.d (strip r c)), some (.d (pl p)), some (.d (.list ([(p.1 - 1, p.2), (p.1, p.2 - 1), (p.1, p.2 + 1), (p.1 + 1, p.2)].map pl))), some (.d (.int p.1)), some (.d (.int p.2)), none] S = .ok (.d (.list ((nearF r c p).map pl))) S := by
  have h := comp_map (t := .nm 5) (c := fun ρ S => evC g t_Pneighbours ρ S) (e := fun ρ S => dataR (evX g e_Pneighbours ρ S)) (S := S) (fun q : Pl => U.d (pl q)) (inB r c) pl [(p.1 - 1, p.2), (p.1, p.2 - 1), (p.1, p.2 + 1), (p.1 + 1, p.2)]
    (ρ := [some (.d (strip r c)), some (.d (pl p)), some (.d (.list ([(p.1 - 1, p.2), (p.1, p.2 - 1), (p.1, p.2 + 1), (p.1 + 1, p.2)].map pl))), some (.d (.int p.1)), some (.d (.int p.2)), none]) (fun q _ => ⟨_, rfl, by
      unfold evC
      exact inTest g S q.1 q.2 _ rfl rfl, fun _ => rfl⟩)
  exact ev_lc (it_list rfl) (by show 4 ≤ line; decide) h
theorem nearP_ok (n : Nat) (S : Store) (r c : Int) (p : Pl) : callN tb (n + 1) i_Pneighbours [.d (strip r c), .d (pl p)] S = .ok (.d (.list ((nearF r c p).map pl))) S := by
  rw [call_at at_Pneighbours rfl]
  show Ev.finish false S.length (evSs (cnN tb n) ir_Pneighbours [some (.d (strip r c)), some (.d (pl p)), none, none, none, none] S) = _
  unfold ir_Pneighbours
  rw [ss_cons (ρ1 := [some (.d (strip r c)), some (.d (pl p)), none, some (.d (.int p.1)), some (.d (.int p.2)), none]) (S1 := S) (by simp [evS, evX, bindT, pl])]
  rw [ss_set (ρ1 := [some (.d (strip r c)), some (.d (pl p)), some (.d (.list ([(p.1 - 1, p.2), (p.1, p.2 - 1), (p.1, p.2 + 1), (p.1 + 1, p.2)].map pl))), some (.d (.int p.1)), some (.d (.int p.2)), none]) (u := .d (.list ([(p.1 - 1, p.2), (p.1, p.2 - 1), (p.1, p.2 + 1), (p.1 + 1, p.2)].map pl))) (S1 := S) (by simp [evX, evXs, binU, datas, two_line, show 4 ≤ line by decide, pl]) rfl]
  rw [ss_ret (s_ret (near_go (cnN tb n) S r c p))]
  simp
theorem nearL_ok (n : Nat) (S : Store) (r c : Int) (p : Pl) : callN tb (n + 1) i_Lnear [.d (strip r c), .d (pl p)] S = .ok (.d (.list ((nearF r c p).map pl))) S := by
  rw [call_at at_Lnear rfl]
  show Ev.finish false S.length (evSs (cnN tb n) ir_Lnear [some (.d (strip r c)), some (.d (pl p)), none, none, none, none] S) = _
  unfold ir_Lnear
  rw [ss_cons (ρ1 := [some (.d (strip r c)), some (.d (pl p)), none, some (.d (.int p.1)), some (.d (.int p.2)), none]) (S1 := S) (by simp [evS, evX, bindT, pl])]
  rw [ss_set (ρ1 := [some (.d (strip r c)), some (.d (pl p)), some (.d (.list ([(p.1 - 1, p.2), (p.1, p.2 - 1), (p.1, p.2 + 1), (p.1 + 1, p.2)].map pl))), some (.d (.int p.1)), some (.d (.int p.2)), none]) (u := .d (.list ([(p.1 - 1, p.2), (p.1, p.2 - 1), (p.1, p.2 + 1), (p.1 + 1, p.2)].map pl))) (S1 := S) (by simp [evX, evXs, binU, datas, two_line, show 4 ≤ line by decide, pl]) rfl]
  rw [ss_ret (s_ret (near_go (cnN tb n) S r c p))]
  simp
theorem near_le (r c : Int) (p : Pl) : (nearF r c p).length ≤ 4 := by
  unfold nearF
  exact List.length_filter_le _ _
theorem fresh_le (r c : Int) (w : List Pl) : (freshF r c w).length ≤ 4 := by
  unfold freshF
  exact Nat.le_trans (List.length_filter_le _ _) (near_le _ _ _)
/-! ### all ends, by the program -/
theorem take_more {α : Type} {l : List α} {i : Nat} {x : α} (h : l[i]? = some x) : l.take (i + 1) = l.take i ++ [x] := by
  rw [List.take_add_one, h]
  rfl
theorem flat_len {α β : Type} {f : α → List β} {k : Nat} : ∀ {l : List α}, (∀ x, x ∈ l → (f x).length ≤ k) → (l.flatMap f).length ≤ k * l.length
  | [], _ => by simp
  | a :: r, h => by
    rw [List.flatMap_cons, List.length_append, List.length_cons]
    have h1 := h a List.mem_cons_self
    have h2 := flat_len (l := r) fun x hx => h x (List.mem_cons_of_mem _ hx)
    rw [Nat.mul_succ]
    omega
theorem laterP_len (r c : Int) (x : It1) : (laterP r c x).length ≤ 4 := by
  unfold laterP
  rw [List.length_map]
  exact fresh_le _ _ _
theorem laterL_len (r c : Int) (x : It1) : (laterL r c x).length ≤ 4 := by
  unfold laterL
  rw [List.length_map]
  exact fresh_le _ _ _
theorem foundF_len (r c : Int) (x : It1) : (foundF r c x).length ≤ 1 := by
  unfold foundF
  split <;> simp
theorem take_flat {α β : Type} {f : α → List β} {k i : Nat} {l : List α} (h : ∀ x, x ∈ l → (f x).length ≤ k) : ((l.take i).flatMap f).length ≤ k * l.length := by
  refine Nat.le_trans (flat_len fun x hx => h x (List.mem_of_mem_take hx)) (Nat.mul_le_mul_left _ ?_)
  rw [List.length_take]
  omega
theorem okI_of {x : It1} (h : okI x = true) : x.1 ≠ [] ∧ x.1.length ≤ 20 ∧ 0 < x.2 ∧ x.2 < 100000000000 := by
  unfold okI at h
  simp only [Bool.and_eq_true, decide_eq_true_eq] at h
  exact ⟨fun e => by rw [e] at h; simp at h, h.1.1.2, h.1.2, h.2⟩
/-- the places that are not gone yet -/
theorem fresh_go (g : Cn) (S : Store) (r c : Int) (w : List Pl) (hw : w ≠ []) (iN : Nat) (hcall : g.call iN [.d (strip r c), .d (pl (lastP w))] S = .ok (.d (.list ((nearF r c (lastP w)).map pl))) S) (ρ : Rho) (a b : Nat)
    (h0 : ρ[0]? = some (some (.d (strip r c)))) (ha : ρ[a]? = some (some (.d (wD w)))) (hb : b < ρ.length) (hab : a ≠ b) : evX g (.lc [b] (.nm b) (.val (.call iN (.cons (.loc 0) (.cons (.idx (.loc a) (.neg (.con (.int 1)))) .nil)))) (.cons (.cmp .NotIn (.loc b) (.loc a)) .nil) (.loc b)) ρ S = .ok (.d (.list ((freshF r c w).map pl))) S := by
  have hidx : idxD (wD w) (.int (-1)) = some (pl (lastP w)) := last_map pl (0, 0) hw
  have h := comp_map (t := .nm b) (c := fun ρ S => evC g (.cons (.cmp .NotIn (.loc b) (.loc a)) .nil) ρ S) (e := fun ρ S => dataR (evX g (.loc b) ρ S)) (S := S) (ρ := wipe ρ [b]) (fun q : Pl => U.d (pl q)) (fun o => !hasP o w) pl (nearF r c (lastP w)) (fun q _ => by
    have e1 : ((wipe ρ [b]).set b (some (U.d (pl q))))[b]? = some (some (.d (pl q))) := by
      unfold wipe wipe
      rw [List.getElem?_set_self (by simpa using hb)]
    have e2 : ((wipe ρ [b]).set b (some (U.d (pl q))))[a]? = some (some (.d (wD w))) := by
      unfold wipe wipe
      rw [List.getElem?_set_ne (Ne.symm hab), List.getElem?_set_ne (Ne.symm hab), ha]
    refine ⟨_, rfl, ?_, fun _ => ?_⟩
    · unfold evC
      simp [evX, e1, e2, truR, cmpU, cmpD, in_walk]
    · simp [evX, e1, dataR])
  refine ev_lc (us := ((nearF r c (lastP w)).map pl).map U.d) (it_list ?_) ?_ (by rw [List.map_map]; exact h)
  · simp [evX, evXs, h0, ha, hidx, hcall]
  · rw [List.length_map, List.length_map]
    have := near_le r c (lastP w)
    show _ ≤ 16777216
    omega
end K06
end

section
set_option Elab.async false
set_option linter.all false
set_option maxRecDepth 100000
set_option maxHeartbeats 1000000
namespace K06
open PySem Ev
theorem eq_nil {ys : List PyData} (h : SeqAt.shaped (.list ys) = true) : cmpD .Eq (.list ys) (.list []) = some ys.isEmpty := by
  show eqD (.list ys) (.list []) = _
  rw [eq_d h shaped_nil, eqv_nil]
theorem emp_map {α β : Type} {f : α → β} (l : List α) : (l.map f).isEmpty = l.isEmpty := by cases l <;> rfl
theorem one_line : 1 ≤ line := by decide
theorem len_wD (w : List Pl) : bltD .len (wD w) = some (.int (w.length : Nat)) := by
  show some (PyData.int ((w.map pl).length : Nat)) = _
  rw [List.length_map]
theorem len_pls (w : List Pl) : bltD .len (.list (w.map pl)) = some (.int (w.length : Nat)) := by
  show some (PyData.int ((w.map pl).length : Nat)) = _
  rw [List.length_map]
theorem add_wD {w : List Pl} (o : Pl) (h : w.length ≤ 20) : binD .Add (wD w) (.tuple [pl o]) = some (wD (w ++ [o])) := by
  unfold wD
  rw [add_tt (by rw [List.length_map]; show _ + 1 ≤ 16777216; omega), List.map_append]
  rfl
theorem itemP (n : Nat) (S : Store) (r c : Int) {x : It1} (hx : okI x = true) (fs : List En) (ls : List It1) (hf : fs.length ≤ 10000) (hl : ls.length ≤ 10000) (a1 a3 a7 : Option U) :
    evSs (cnN tb (n + 1)) b_Pall_ends [some (.d (strip r c)), a1, some (.d (.list (fs.map eD))), a3, some (.d (.list (ls.map lD))), some (.d (wD x.1)), some (.d (.int x.2)), a7, none] S =
      .ok (.nx [some (.d (strip r c)), a1, some (.d (.list ((fs ++ foundF r c x).map eD))), a3, some (.d (.list ((ls ++ laterP r c x).map lD))), some (.d (wD x.1)), some (.d (.int x.2)), some (.d (.list ((freshF r c x.1).map pl))), none]) S := by
  obtain ⟨h1, h2, h3, h4⟩ := okI_of hx
  let g := cnN tb (n + 1)
  have hfr := fresh_go g S r c x.1 h1 i_Pneighbours (nearP_ok n S r c (lastP x.1)) [some (.d (strip r c)), a1, some (.d (.list (fs.map eD))), a3, some (.d (.list (ls.map lD))), some (.d (wD x.1)), some (.d (.int x.2)), a7, none] 5 8 rfl rfl (by show 8 < 9; decide) (by decide)
  have hfl := fresh_le r c x.1
  have m1 : mulOk x.2 ((freshF r c x.1).length : Nat) = true := mul_small (.inl (smallI_of (by omega) h4))
  generalize hfs : freshF r c x.1 = fr at hfr hfl m1
  unfold foundF laterP
  rw [hfs]
  unfold b_Pall_ends
  rw [ss_cons (s_set hfr)]
  rw [show ([some (.d (strip r c)), a1, some (.d (.list (fs.map eD))), a3, some (.d (.list (ls.map lD))), some (.d (wD x.1)), some (.d (.int x.2)), a7, none] : Rho).set 7 (some (.d (.list (fr.map pl)))) = [some (.d (strip r c)), a1, some (.d (.list (fs.map eD))), a3, some (.d (.list (ls.map lD))), some (.d (wD x.1)), some (.d (.int x.2)), some (.d (.list (fr.map pl))), none] from rfl]
  -- an end, or not
  have hA : evS g (.iff (.cmp .Eq (.loc 7) (.lst .nil)) (.cons (.set 2 (.bin .Add (.loc 2) (.lst (.cons (.tup (.cons (.bin .Sub (.blt .len (.loc 5)) (.con (.int 1))) (.cons (.loc 6) .nil))) .nil)))) .nil) .nil) [some (.d (strip r c)), a1, some (.d (.list (fs.map eD))), a3, some (.d (.list (ls.map lD))), some (.d (wD x.1)), some (.d (.int x.2)), some (.d (.list (fr.map pl))), none] S =
      .ok (.nx [some (.d (strip r c)), a1, some (.d (.list ((fs ++ if fr.isEmpty = true then [(((x.1.length : Nat) : Int) - 1, x.2)] else []).map eD))), a3, some (.d (.list (ls.map lD))), some (.d (wD x.1)), some (.d (.int x.2)), some (.d (.list (fr.map pl))), none]) S := by
    have hadd : binD .Add (.list (fs.map eD)) (.list [.tuple [.int (((x.1.length : Nat) : Int) - 1), .int x.2]]) = some (.list (fs.map eD ++ [.tuple [.int (((x.1.length : Nat) : Int) - 1), .int x.2]])) := add_ll (by rw [List.length_map]; show _ + 1 ≤ 16777216; omega)
    unfold evS
    have ht : truR (evX g (.cmp .Eq (.loc 7) (.lst .nil)) [some (.d (strip r c)), a1, some (.d (.list (fs.map eD))), a3, some (.d (.list (ls.map lD))), some (.d (wD x.1)), some (.d (.int x.2)), some (.d (.list (fr.map pl))), none] S) = .ok fr.isEmpty S := by
      simp [evX, evXs, truR, cmpU, datas, eq_nil (fs_sh fr), emp_map]
    rw [ht, b_ok]
    cases fr.isEmpty with
    | true =>
      rw [if_pos rfl, if_pos rfl, List.map_append]
      generalize fs.map eD = FS at hadd
      simp [evSs, evS, evX, evXs, binU, len_wD, datas, two_line, one_line, hadd, eD]
    | false => simp [evSs]
  rw [ss_cons hA]
  -- what comes later
  have hB : evX g (.lc [8] (.nm 8) (.val (.loc 7)) .nil e2_Pall_ends) [some (.d (strip r c)), a1, some (.d (.list ((fs ++ if fr.isEmpty = true then [(((x.1.length : Nat) : Int) - 1, x.2)] else []).map eD))), a3, some (.d (.list (ls.map lD))), some (.d (wD x.1)), some (.d (.int x.2)), some (.d (.list (fr.map pl))), none] S =
      .ok (.d (.list ((fr.map fun o => (x.1 ++ [o], x.2 * (fr.length : Nat))).map lD))) S := by
    have h := comp_map (t := .nm 8) (c := fun ρ S => evC g .nil ρ S) (e := fun ρ S => dataR (evX g e2_Pall_ends ρ S)) (S := S) (fun q : Pl => U.d (pl q)) (fun _ => true) (fun o => lD (x.1 ++ [o], x.2 * (fr.length : Nat))) fr
      (ρ := [some (.d (strip r c)), a1, some (.d (.list ((fs ++ if fr.isEmpty = true then [(((x.1.length : Nat) : Int) - 1, x.2)] else []).map eD))), a3, some (.d (.list (ls.map lD))), some (.d (wD x.1)), some (.d (.int x.2)), some (.d (.list (fr.map pl))), none]) (fun q _ => ⟨_, rfl, rfl, fun _ => by
        simp [evX, evXs, dataR, binU, datas, two_line, one_line, add_wD q h2, len_pls, mul_ii m1, lD]⟩)
    rw [filt_all] at h
    rw [List.map_map]
    exact ev_lc (us := (fr.map pl).map U.d) (it_list rfl) (by rw [List.length_map, List.length_map]; show _ ≤ 16777216; omega) (by rw [List.map_map]; exact h)
  have hC : binD .Add (.list (ls.map lD)) (.list ((fr.map fun o => (x.1 ++ [o], x.2 * (fr.length : Nat))).map lD)) = some (.list ((ls ++ fr.map fun o => (x.1 ++ [o], x.2 * (fr.length : Nat))).map lD)) := by
    rw [add_ll (by simp only [List.length_map]; show _ ≤ 16777216; omega), List.map_append]
  rw [ss_cons (s_set (u := .d (.list ((ls ++ fr.map fun o => (x.1 ++ [o], x.2 * (fr.length : Nat))).map lD))) (S1 := S) (by
    rw [evX]
    rw [show evX g (.loc 4) _ S = .ok (.d (.list (ls.map lD))) S from rfl, b_ok, hB, b_ok]
    simp only [binU, d_d, Option.bind_some, hC, Option.map_some, of_some]))]
  rfl
theorem all_ends_ok (n : Nat) (S : Store) (r c : Int) (p : Pl) {s : Stt} (he : endsP r c p = some s) : callN tb (n + 2) i_Pall_ends [.d (strip r c), .d (pl p)] S = .ok (.d (.list (s.1.map eD))) S := by
  let g := cnN tb (n + 1)
  let Rl : Stt → Rho → Store → Prop := fun s ρ T => T = S ∧ ∃ z4 z5 z6 z7, ρ = [some (.d (strip r c)), some (.d (pl p)), some (.d (.list (s.1.map eD))), some (.d (.list (s.2.map lD))), z4, z5, z6, z7, none]
  obtain ⟨ρ', S', h1, rfl, z4, z5, z6, z7, rfl⟩ := loopW_run (c := fun ρ S => truR (evX g t_Pall_ends ρ S)) (body := fun ρ S => evSs g b3_Pall_ends ρ S) okS more (stepP r c) Rl
    (fun s ρ T ⟨e1, z4, z5, z6, z7, e2⟩ hg => by
      subst e1 e2
      unfold t_Pall_ends more
      simp [evX, evXs, truR, cmpU, datas, ne_nil (lns_sh s.2), emp_map])
    (fun s ρ T ⟨e1, z4, z5, z6, z7, e2⟩ hg ht => by
      subst e1 e2
      unfold okS at hg
      simp only [Bool.and_eq_true, decide_eq_true_eq, List.all_eq_true] at hg
      obtain ⟨⟨g1, g2⟩, g3⟩ := hg
      obtain ⟨ρ', S', h1, e1, z5, z6, z7, e2⟩ := loop_inv (t := .cons (.nm 5) (.cons (.nm 6) .nil)) (body := fun ρ S => evSs g b_Pall_ends ρ S)
        (fun i ρ T' => T' = T ∧ ∃ z5 z6 z7, ρ = [some (.d (strip r c)), some (.d (pl p)), some (.d (.list ((s.1 ++ (s.2.take i).flatMap (foundF r c)).map eD))), some (.d (.list (s.2.map lD))), some (.d (.list (((s.2.take i).flatMap (laterP r c)).map lD))), z5, z6, z7, none])
        ((s.2.map lD).map U.d) 0 [some (.d (strip r c)), some (.d (pl p)), some (.d (.list (s.1.map eD))), some (.d (.list (s.2.map lD))), some (.d (.list [])), z5, z6, z7, none] T ⟨rfl, z5, z6, z7, by simp⟩ (fun i u ρ T' hu ⟨e1, z5, z6, z7, e2⟩ => by
          subst e1 e2
          rw [Nat.zero_add] at *
          rw [List.map_map, List.getElem?_map] at hu
          cases hx : s.2[i]? with
          | none => rw [hx] at hu; cases hu
          | some x =>
            rw [hx] at hu
            cases hu
            have hf : (s.1 ++ (s.2.take i).flatMap (foundF r c)).length ≤ 10000 := by
              rw [List.length_append]
              have := take_flat (i := i) (l := s.2) (k := 1) (f := foundF r c) fun x _ => foundF_len r c x
              omega
            have hl : ((s.2.take i).flatMap (laterP r c)).length ≤ 10000 := by
              have := take_flat (i := i) (l := s.2) (k := 4) (f := laterP r c) fun x _ => laterP_len r c x
              omega
            have q := itemP n T' r c (g3 x (List.mem_of_getElem? hx)) _ _ hf hl (some (.d (pl p))) (some (.d (.list (s.2.map lD)))) z7
            refine ⟨[some (.d (strip r c)), some (.d (pl p)), some (.d (.list ((s.1 ++ (s.2.take i).flatMap (foundF r c)).map eD))), some (.d (.list (s.2.map lD))), some (.d (.list (((s.2.take i).flatMap (laterP r c)).map lD))), some (.d (wD x.1)), some (.d (.int x.2)), z7, none], _, T', rfl, q, rfl, some (.d (wD x.1)), some (.d (.int x.2)), some (.d (.list ((freshF r c x.1).map pl))), ?_⟩
            rw [take_more hx, List.flatMap_append, List.flatMap_append, List.flatMap_singleton, List.flatMap_singleton, List.append_assoc])
      subst e1 e2
      rw [Nat.zero_add, List.length_map, List.length_map, List.take_length] at *
      refine ⟨[some (.d (strip r c)), some (.d (pl p)), some (.d (.list ((s.1 ++ s.2.flatMap (foundF r c)).map eD))), some (.d (.list ((s.2.flatMap (laterP r c)).map lD))), some (.d (.list ((s.2.flatMap (laterP r c)).map lD))), z5, z6, z7, none], S', ?_, rfl, some (.d (.list ((s.2.flatMap (laterP r c)).map lD))), z5, z6, z7, rfl⟩
      show evSs g b3_Pall_ends _ S' = _
      unfold b3_Pall_ends
      rw [ss_cons (s_set (u := .d (.list [])) (S1 := S') (by simp [evX, evXs, datas]))]
      dsimp only [List.set]
      rw [ss_cons (ev_for (it_list rfl) h1)]
      rw [ss_cons (s_set (u := .d (.list ((s.2.flatMap (laterP r c)).map lD))) (S1 := S') rfl)]
      rfl)
    20 1000000 ([], [([p], 1)]) s [some (.d (strip r c)), some (.d (pl p)), some (.d (.list [])), some (.d (.list ([([p], (1 : Int))].map lD))), none, none, none, none, none] S he (by decide) ⟨rfl, _, _, _, _, rfl⟩
  rw [call_at at_Pall_ends rfl]
  show Ev.finish false S'.length (evSs g ir_Pall_ends [some (.d (strip r c)), some (.d (pl p)), none, none, none, none, none, none, none] S') = _
  unfold ir_Pall_ends
  rw [ss_cons (ρ1 := [some (.d (strip r c)), some (.d (pl p)), some (.d (.list [])), some (.d (.list ([([p], (1 : Int))].map lD))), none, none, none, none, none]) (S1 := S') (by simp [evS, evX, evXs, datas, two_line, one_line, setSlots, lD, wD])]
  rw [ss_cons (ev_whil h1)]
  rw [ss_ret (s_ret (u := .d (.list (s.1.map eD))) rfl)]
  simp
end K06
end

section
set_option Elab.async false
set_option linter.all false
set_option maxRecDepth 100000
set_option maxHeartbeats 1000000
namespace K06
open PySem Ev
theorem itemL (n : Nat) (S : Store) (r c : Int) {x : It1} (hx : okI x = true) (fs : List En) (ls : List It1) (hf : fs.length ≤ 10000) (hl : ls.length ≤ 10000) (a1 a2 a4 a8 a9 : Option U) (b3 b5 : Nat) (hb : b3 ≠ b5)
    (h3 : S[b3]? = some (.lst (fs.map eD))) (h5 : S[b5]? = some (.lst (ls.map lD))) :
    ∃ (z8 z9 : Option U) (S' : Store), evSs (cnN tb (n + 1)) b2_Lends [some (.d (strip r c)), a1, a2, some (.ref b3), a4, some (.ref b5), some (.d (wD x.1)), some (.d (.int x.2)), a8, a9] S =
      .ok (.nx [some (.d (strip r c)), a1, a2, some (.ref b3), a4, some (.ref b5), some (.d (wD x.1)), some (.d (.int x.2)), z8, z9]) S' ∧
      S'[b3]? = some (.lst ((fs ++ foundF r c x).map eD)) ∧ S'[b5]? = some (.lst ((ls ++ laterL r c x).map lD)) ∧ S'.length = S.length ∧ ∀ j, j ≠ b3 → j ≠ b5 → S'[j]? = S[j]? := by
  obtain ⟨h1, h2, hp, h4⟩ := okI_of hx
  let g := cnN tb (n + 1)
  have hfr := fresh_go g S r c x.1 h1 i_Lnear (nearL_ok n S r c (lastP x.1)) [some (.d (strip r c)), a1, a2, some (.ref b3), a4, some (.ref b5), some (.d (wD x.1)), some (.d (.int x.2)), a8, a9] 6 9 rfl rfl (by show 9 < 10; decide) (by decide)
  have hfl := fresh_le r c x.1
  generalize hfs : freshF r c x.1 = fr at hfr hfl
  unfold foundF laterL
  rw [hfs]
  have lt3 : b3 < S.length := (List.getElem?_eq_some_iff.mp h3).1
  have lt5 : b5 < S.length := (List.getElem?_eq_some_iff.mp h5).1
  -- an end, or not
  obtain ⟨S1, hA, k3, kl, kj⟩ : ∃ S1 : Store, evS g (.iff (.cmp .Eq (.loc 8) (.lst .nil)) (.cons (.app 3 (.tup (.cons (.bin .Sub (.blt .len (.loc 6)) (.con (.int 1))) (.cons (.loc 7) .nil)))) .nil) .nil) [some (.d (strip r c)), a1, a2, some (.ref b3), a4, some (.ref b5), some (.d (wD x.1)), some (.d (.int x.2)), some (.d (.list (fr.map pl))), a9] S =
      .ok (.nx [some (.d (strip r c)), a1, a2, some (.ref b3), a4, some (.ref b5), some (.d (wD x.1)), some (.d (.int x.2)), some (.d (.list (fr.map pl))), a9]) S1 ∧ S1[b3]? = some (.lst ((fs ++ if fr.isEmpty = true then [(((x.1.length : Nat) : Int) - 1, x.2)] else []).map eD)) ∧ S1.length = S.length ∧ ∀ j, j ≠ b3 → S1[j]? = S[j]? := by
    have ht : truR (evX g (.cmp .Eq (.loc 8) (.lst .nil)) [some (.d (strip r c)), a1, a2, some (.ref b3), a4, some (.ref b5), some (.d (wD x.1)), some (.d (.int x.2)), some (.d (.list (fr.map pl))), a9] S) = .ok fr.isEmpty S := by
      simp [evX, evXs, truR, cmpU, datas, eq_nil (fs_sh fr), emp_map]
    cases he : fr.isEmpty with
    | true =>
      rw [he] at ht
      refine ⟨S.set b3 (.lst ((fs ++ [(((x.1.length : Nat) : Int) - 1, x.2)]).map eD)), ?_, ?_, by simp, fun j hj => List.getElem?_set_ne (Ne.symm hj)⟩
      · have hlt : (fs.map eD).length < line := by rw [List.length_map]; show _ < 16777216; omega
        rw [List.map_append]
        generalize fs.map eD = FS at h3 hlt
        unfold evS
        rw [ht, b_ok, if_pos rfl]
        simp [evSs, evS, evX, evXs, binU, len_wD, datas, two_line, appL, h3, hlt, eD]
      · rw [if_pos rfl, List.getElem?_set_self lt3]
    | false =>
      rw [he] at ht
      exact ⟨S, s_ifF ht, by rw [if_neg (by decide), List.append_nil]; exact h3, rfl, fun _ _ => rfl⟩
  have k5 : S1[b5]? = some (.lst (ls.map lD)) := by rw [kj b5 (Ne.symm hb)]; exact h5
  have lt5' : b5 < S1.length := by omega
  -- what comes later
  obtain ⟨ρ', S2, hB, z9, e1, e2, e3, e4⟩ := loop_inv (t := .nm 9) (body := fun ρ S => evSs g b_Lends ρ S)
    (fun k ρ T => ∃ z9, ρ = [some (.d (strip r c)), a1, a2, some (.ref b3), a4, some (.ref b5), some (.d (wD x.1)), some (.d (.int x.2)), some (.d (.list (fr.map pl))), z9] ∧ T[b5]? = some (.lst ((ls ++ (fr.take k).map fun o => (x.1 ++ [o], x.2 / (fr.length : Nat))).map lD)) ∧ T.length = S1.length ∧ ∀ j, j ≠ b5 → T[j]? = S1[j]?)
    ((fr.map pl).map U.d) 0 [some (.d (strip r c)), a1, a2, some (.ref b3), a4, some (.ref b5), some (.d (wD x.1)), some (.d (.int x.2)), some (.d (.list (fr.map pl))), a9] S1 ⟨a9, rfl, by simpa using k5, rfl, fun _ _ => rfl⟩ (fun i u ρ T hu ⟨z9, e1, e2, e3, e4⟩ => by
      subst e1
      rw [Nat.zero_add] at *
      rw [List.map_map, List.getElem?_map] at hu
      cases ho : fr[i]? with
      | none => rw [ho] at hu; cases hu
      | some o =>
        rw [ho] at hu
        cases hu
        have hi : i < fr.length := (List.getElem?_eq_some_iff.mp ho).1
        have hd : divOk ((fr.length : Nat) : Int) = true := divOk_small (by omega) (by omega)
        have hlt : ((ls ++ (fr.take i).map fun o => (x.1 ++ [o], x.2 / (fr.length : Nat))).map lD).length < line := by
          simp only [List.length_map, List.length_append, List.length_take]
          show _ < 16777216
          omega
        refine ⟨[some (.d (strip r c)), a1, a2, some (.ref b3), a4, some (.ref b5), some (.d (wD x.1)), some (.d (.int x.2)), some (.d (.list (fr.map pl))), some (.d (pl o))], _, T.set b5 (.lst ((ls ++ (fr.take (i + 1)).map fun o => (x.1 ++ [o], x.2 / (fr.length : Nat))).map lD)), rfl, ?_, some (.d (pl o)), rfl, ?_, by simp [e3], fun j hj => by rw [List.getElem?_set_ne (Ne.symm hj), e4 j hj]⟩
        · have em : (ls ++ (fr.take (i + 1)).map fun o => (x.1 ++ [o], x.2 / ((fr.length : Nat) : Int))).map lD = (ls ++ (fr.take i).map fun o => (x.1 ++ [o], x.2 / ((fr.length : Nat) : Int))).map lD ++ [lD (x.1 ++ [o], x.2 / ((fr.length : Nat) : Int))] := by
            rw [take_more ho]
            simp
          rw [em]
          generalize (ls ++ (fr.take i).map fun o => (x.1 ++ [o], x.2 / (fr.length : Nat))).map lD = LS at e2 hlt
          show evSs g b_Lends _ _ = _
          unfold b_Lends
          simp [evSs, evS, evX, evXs, binU, len_pls, add_wD o h2, div_ii hd, datas, two_line, one_line, appL, e2, hlt, lD]
        · rw [List.getElem?_set_self (by omega)])
  subst e1
  rw [Nat.zero_add, List.length_map, List.length_map, List.take_length] at e2
  refine ⟨some (.d (.list (fr.map pl))), z9, S2, ?_, ?_, e2, by omega, fun j j3 j5 => by rw [e4 j j5, kj j j3]⟩
  · unfold b2_Lends
    rw [ss_cons (s_set hfr)]
    dsimp only [List.set]
    rw [ss_cons hA, ss_cons (ev_for (it_list rfl) hB)]
    simp [evSs]
  · rw [e4 b3 hb]
    exact k3
theorem ends_ok (n : Nat) (S : Store) (r c : Int) (p : Pl) {s : Stt} (he : endsL r c p = some s) : callN tb (n + 2) i_Lends [.d (strip r c), .d (pl p)] S = .ok (.d (.list (s.1.map eD))) S := by
  let g := cnN tb (n + 1)
  let Rl : Stt → Rho → Store → Prop := fun s ρ T => ∃ (u4 : U) (z5 z6 z7 z8 z9 : Option U), ρ = [some (.d (strip r c)), some (.d (pl p)), some (.d (.int 2176782336)), some (.ref S.length), some u4, z5, z6, z7, z8, z9] ∧ LstAt T u4 (s.2.map lD) ∧ u4 ≠ .ref S.length ∧ T[S.length]? = some (.lst (s.1.map eD)) ∧ ∀ j, j < S.length → T[j]? = S[j]?
  obtain ⟨ρ', S', h1, u4, z5, z6, z7, z8, z9, rfl, q1, q2, q3, q4⟩ := loopW_run (c := fun ρ S => truR (evX g t_Lends ρ S)) (body := fun ρ S => evSs g b3_Lends ρ S) okS more (stepL r c) Rl
    (fun s ρ T ⟨u4, z5, z6, z7, z8, z9, e1, e2, e3, e4, e5⟩ hg => by
      subst e1
      have hd := e2.deref
      unfold t_Lends more
      simp [evX, evXs, truR, cmpU, hd, datas, ne_nil (lns_sh s.2), emp_map])
    (fun s ρ T ⟨u4, z5, z6, z7, z8, z9, e1, e2, e3, e4, e5⟩ hg ht => by
      subst e1
      unfold okS at hg
      simp only [Bool.and_eq_true, decide_eq_true_eq, List.all_eq_true] at hg
      obtain ⟨⟨g1, g2⟩, g3⟩ := hg
      have lt3 : S.length < T.length := (List.getElem?_eq_some_iff.mp e4).1
      have keep : ∀ (T' : Store), (∀ j, j ≠ S.length → j < T.length → T'[j]? = T[j]?) → LstAt T' u4 (s.2.map lD) := fun T' hT => by
        rcases e2 with rfl | ⟨k, rfl, hk⟩
        · exact .inl rfl
        · exact .inr ⟨k, rfl, by rw [hT k (fun z => e3 (by rw [z])) (List.getElem?_eq_some_iff.mp hk).1]; exact hk⟩
      have e2' : LstAt (T ++ [Box.lst []]) u4 (s.2.map lD) := keep _ fun j _ hj => List.getElem?_append_left hj
      obtain ⟨ρ', S', h1, z6, z7, z8, z9, k1, k2, k3, k4, k5⟩ := for_lst (g := g) (t := .cons (.nm 6) (.cons (.nm 7) .nil)) (a := .loc 4) (b := b2_Lends) (ρ := [some (.d (strip r c)), some (.d (pl p)), some (.d (.int 2176782336)), some (.ref S.length), some u4, some (.ref T.length), z6, z7, z8, z9]) e2' rfl (by rw [List.length_map]; omega)
        (fun i ρ T' => ∃ z6 z7 z8 z9, ρ = [some (.d (strip r c)), some (.d (pl p)), some (.d (.int 2176782336)), some (.ref S.length), some u4, some (.ref T.length), z6, z7, z8, z9] ∧ T'[S.length]? = some (.lst ((s.1 ++ (s.2.take i).flatMap (foundF r c)).map eD)) ∧ T'[T.length]? = some (.lst (((s.2.take i).flatMap (laterL r c)).map lD)) ∧ T'.length = T.length + 1 ∧ ∀ j, j ≠ S.length → j < T.length → T'[j]? = T[j]?)
        ⟨z6, z7, z8, z9, rfl, by rw [List.getElem?_append_left lt3, e4]; simp, by rw [List.getElem?_append_right (Nat.le_refl _), Nat.sub_self]; rfl, by simp, fun j _ hj => List.getElem?_append_left hj⟩
        (fun i ρ T' ⟨z6, z7, z8, z9, k1, k2, k3, k4, k5⟩ => keep T' k5)
        (fun i y ρ T' hy ⟨z6, z7, z8, z9, k1, k2, k3, k4, k5⟩ => by
          subst k1
          rw [List.getElem?_map] at hy
          cases hx : s.2[i]? with
          | none => rw [hx] at hy; cases hy
          | some x =>
            rw [hx] at hy
            cases hy
            have hf : (s.1 ++ (s.2.take i).flatMap (foundF r c)).length ≤ 10000 := by
              rw [List.length_append]
              have := take_flat (i := i) (l := s.2) (k := 1) (f := foundF r c) fun x _ => foundF_len r c x
              omega
            have hl : ((s.2.take i).flatMap (laterL r c)).length ≤ 10000 := by
              have := take_flat (i := i) (l := s.2) (k := 4) (f := laterL r c) fun x _ => laterL_len r c x
              omega
            obtain ⟨y8, y9, T2, m1, m2, m3, m4, m5⟩ := itemL n T' r c (g3 x (List.mem_of_getElem? hx)) _ _ hf hl (some (.d (pl p))) (some (.d (.int 2176782336))) (some u4) z8 z9 S.length T.length (by omega) k2 k3
            refine ⟨[some (.d (strip r c)), some (.d (pl p)), some (.d (.int 2176782336)), some (.ref S.length), some u4, some (.ref T.length), some (.d (wD x.1)), some (.d (.int x.2)), z8, z9], _, T2, rfl, m1, some (.d (wD x.1)), some (.d (.int x.2)), y8, y9, rfl, ?_, ?_, by omega, fun j j1 j2 => by rw [m5 j j1 (by omega), k5 j j1 j2]⟩
            · rw [take_more hx, List.flatMap_append, List.flatMap_singleton, ← List.append_assoc]
              exact m2
            · rw [take_more hx, List.flatMap_append, List.flatMap_singleton]
              exact m3)
      subst k1
      rw [List.length_map, List.take_length] at k2 k3
      refine ⟨[some (.d (strip r c)), some (.d (pl p)), some (.d (.int 2176782336)), some (.ref S.length), some (.ref T.length), some (.ref T.length), z6, z7, z8, z9], S', ?_, .ref T.length, _, _, _, _, _, rfl, .inr ⟨_, rfl, k3⟩, fun z => by injection z with z; omega, k2, fun j hj => by rw [k5 j (by omega) (by omega), e5 j hj]⟩
      show evSs g b3_Lends _ T = _
      unfold b3_Lends
      rw [ss_cons (s_set (u := .ref T.length) (S1 := T ++ [.lst []]) (by simp [evX, evXs, datas]))]
      dsimp only [List.set]
      rw [ss_cons h1]
      rw [ss_cons (s_set (u := .ref T.length) (S1 := S') rfl)]
      rfl)
    20 1000000 ([], [([p], 2176782336)]) s [some (.d (strip r c)), some (.d (pl p)), some (.d (.int 2176782336)), some (.ref S.length), some (.d (.list ([([p], (2176782336 : Int))].map lD))), none, none, none, none, none] (S ++ [.lst []]) he (by decide)
    ⟨.d (.list ([([p], (2176782336 : Int))].map lD)), none, none, none, none, none, rfl, .inl rfl, (fun z => by cases z), by rw [List.getElem?_append_right (Nat.le_refl _), Nat.sub_self]; rfl, fun j hj => List.getElem?_append_left hj⟩
  have lt3 : S.length < S'.length := (List.getElem?_eq_some_iff.mp q3).1
  have ht : S'.take S.length = S := by
    apply List.ext_getElem?
    intro j
    by_cases hj : j < S.length
    · rw [List.getElem?_take_of_lt hj, q4 j hj]
    · rw [List.getElem?_eq_none (by rw [List.length_take]; omega), List.getElem?_eq_none (by omega)]
  rw [call_at at_Lends rfl]
  show Ev.finish false S.length (evSs g ir_Lends [some (.d (strip r c)), some (.d (pl p)), none, none, none, none, none, none, none, none] S) = _
  unfold ir_Lends
  have hw : evX g (.bin .Mult (.bin .Pow (.con (.int 3)) (.con (.int 12))) (.bin .Pow (.con (.int 2)) (.con (.int 12)))) [some (.d (strip r c)), some (.d (pl p)), none, none, none, none, none, none, none, none] S = .ok (.d (.int 2176782336)) S := by
    kernel_rfl
  rw [ss_cons (s_set hw)]
  dsimp only [List.set]
  rw [ss_cons (ρ1 := [some (.d (strip r c)), some (.d (pl p)), some (.d (.int 2176782336)), some (.ref S.length), some (.d (.list ([([p], (2176782336 : Int))].map lD))), none, none, none, none, none]) (S1 := S ++ [.lst []]) (by simp [evS, evX, evXs, datas, two_line, one_line, setSlots, lD, wD])]
  rw [ss_cons (ev_whil h1)]
  rw [ss_ret (s_ret (u := .ref S.length) rfl)]
  rw [fin_r q3 (Nat.lt_irrefl _), ht]
end K06
end

section
set_option Elab.async false
set_option linter.all false
set_option maxRecDepth 100000
set_option maxHeartbeats 1000000
namespace K06
open PySem Ev
/-! ### strips and places, any values -/
def wholeB (lo hi : Int) : PyData → Bool
  | .int v => decide (lo ≤ v ∧ v ≤ hi)
  | _ => false
theorem whole_ok (n : Nat) (S : Store) (p : PyData) (lo hi : Int) : callN tb (n + 1) i_Pis_whole [.d p, .d (.int lo), .d (.int hi)] S = .ok (.d (.bool (wholeB lo hi p))) S := by
  rw [call_at at_Pis_whole rfl]
  cases p with
  | int v =>
    by_cases h : lo ≤ v
    · simp [ir_Pis_whole, evSs, evS, evX, Ev.start, bltD, isiD, tyN, boolR, asB, truR, cmpU, h, wholeB]
    · simp [ir_Pis_whole, evSs, evS, evX, Ev.start, bltD, isiD, tyN, boolR, asB, truR, cmpU, h, wholeB]
  | _ => simp [ir_Pis_whole, evSs, evS, evX, Ev.start, bltD, isiD, tyN, boolR, asB, truR, cmpU, wholeB]
def stripB : PyData → Bool
  | .tuple [a, b] => wholeB 1 3 a && wholeB 1 60 b
  | _ => false
theorem fitsS_ok (n : Nat) (S : Store) (p : PyData) : callN tb (n + 2) i_Pfits_strip [.d p] S = .ok (.d (.bool (stripB p))) S := by
  rw [call_at at_Pfits_strip rfl]
  have g : (cnN tb (n + 1)).call = callN tb (n + 1) := rfl
  cases p with
  | tuple xs =>
    match xs with
    | [] => simp [ir_Pfits_strip, evSs, evS, evX, evXs, Ev.start, bltD, isiD, tyN, boolR, asB, truR, cmpU, stripB]
    | [a] => simp [ir_Pfits_strip, evSs, evS, evX, evXs, Ev.start, bltD, isiD, tyN, boolR, asB, truR, cmpU, stripB]
    | [a, b] => cases h : wholeB 1 3 a <;> simp [ir_Pfits_strip, evSs, evS, evX, evXs, Ev.start, bltD, isiD, tyN, boolR, asB, truR, cmpU, stripB, g, whole_ok, h]
    | a :: b :: d :: r =>
      have hl : bltD .len (.tuple (a :: b :: d :: r)) = some (.int (((r.length : Nat) : Int) + 3)) := by
        show some (PyData.int (((a :: b :: d :: r).length : Nat) : Int)) = _
        simp only [List.length_cons]
        congr 2
      have hi : bltD (.isi "tuple") (.tuple (a :: b :: d :: r)) = some (.bool true) := rfl
      have he : ¬ ((r.length : Nat) : Int) + 3 = 2 := by omega
      simp [ir_Pfits_strip, evSs, evS, evX, evXs, Ev.start, hl, hi, boolR, asB, truR, cmpU, stripB, he]
  | _ => simp [ir_Pfits_strip, evSs, evS, evX, evXs, Ev.start, bltD, isiD, tyN, boolR, asB, truR, cmpU, stripB]
theorem needS_ok (n : Nat) (S : Store) (p : PyData) : callN tb (n + 3) i_Pneed_strip [.d p] S = if stripB p = true then .ok (.d .none) S else .exc x_InvalidStrip S := by
  have g : (cnN tb (n + 2)).call = callN tb (n + 2) := rfl
  rw [call_at at_Pneed_strip rfl]
  cases h : stripB p <;> simp [ir_Pneed_strip, evSs, evS, evX, evXs, Ev.start, truR, g, fitsS_ok, h]
theorem strip_fit {r c : Int} (hr : 1 ≤ r) (hr3 : r ≤ 3) (hc : 1 ≤ c) (hc6 : c ≤ 60) : stripB (strip r c) = true := by
  show (decide (1 ≤ r ∧ r ≤ 3) && decide (1 ≤ c ∧ c ≤ 60)) = true
  rw [Bool.and_eq_true, decide_eq_true_eq, decide_eq_true_eq]
  omega
def placeB (r c : Int) : PyData → Bool
  | .tuple [a, b] => wholeB 0 (c - 1) a && wholeB 0 (r - 1) b
  | _ => false
theorem fitsP_ok (n : Nat) (S : Store) (r c : Int) (p : PyData) : callN tb (n + 2) i_Pfits_place [.d (strip r c), .d p] S = .ok (.d (.bool (placeB r c p))) S := by
  rw [call_at at_Pfits_place rfl]
  have g : (cnN tb (n + 1)).call = callN tb (n + 1) := rfl
  cases p with
  | tuple xs =>
    match xs with
    | [] => simp [ir_Pfits_place, evSs, evS, evX, evXs, Ev.start, bltD, isiD, tyN, boolR, asB, truR, cmpU, placeB]
    | [a] => simp [ir_Pfits_place, evSs, evS, evX, evXs, Ev.start, bltD, isiD, tyN, boolR, asB, truR, cmpU, placeB]
    | [a, b] => cases h : wholeB 0 (c - 1) a <;> simp [ir_Pfits_place, evSs, evS, evX, evXs, Ev.start, bltD, isiD, tyN, boolR, asB, truR, cmpU, placeB, binU, g, whole_ok, h]
    | a :: b :: d :: r =>
      have hl : bltD .len (.tuple (a :: b :: d :: r)) = some (.int (((r.length : Nat) : Int) + 3)) := by
        show some (PyData.int (((a :: b :: d :: r).length : Nat) : Int)) = _
        simp only [List.length_cons]
        congr 2
      have hi : bltD (.isi "tuple") (.tuple (a :: b :: d :: r)) = some (.bool true) := rfl
      have he : ¬ ((r.length : Nat) : Int) + 3 = 2 := by omega
      simp [ir_Pfits_place, evSs, evS, evX, evXs, Ev.start, hl, hi, boolR, asB, truR, cmpU, placeB, he]
  | _ => simp [ir_Pfits_place, evSs, evS, evX, evXs, Ev.start, bltD, isiD, tyN, boolR, asB, truR, cmpU, placeB]
theorem needP_ok (n : Nat) (S : Store) (r c : Int) (p : PyData) : callN tb (n + 3) i_Pneed_place [.d (strip r c), .d p] S = if placeB r c p = true then .ok (.d .none) S else .exc x_InvalidPlace S := by
  have g : (cnN tb (n + 2)).call = callN tb (n + 2) := rfl
  rw [call_at at_Pneed_place rfl]
  cases h : placeB r c p <;> simp [ir_Pneed_place, evSs, evS, evX, evXs, Ev.start, truR, g, fitsP_ok, h]
end K06
end

section
set_option Elab.async false
set_option linter.all false
set_option maxRecDepth 100000
set_option maxHeartbeats 1000000
namespace K06
open PySem Ev
/-! ### fractions -/
abbrev Fr := Nat × Nat
def fD (x : Fr) : PyData := .tuple [.int (x.1 : Nat), .int (x.2 : Nat)]
def madeF (t b : Nat) : Fr := (t / Nat.gcd t b, b / Nat.gcd t b)
def plusF (x y : Fr) : Fr := madeF (x.1 * y.2 + y.1 * x.2) (x.2 * y.2)
def timesF (x y : Fr) : Fr := madeF (x.1 * y.1) (x.2 * y.2)
def B4 : Nat := 2 ^ 240
def B2 : Nat := 2 ^ 120
theorem b2_big {n : Nat} (h : n < 100000000000) : n < B2 := Nat.lt_trans h (by unfold B2; decide)
theorem b4_big {n : Nat} (h : n < 100000000000) : n < B4 := Nat.lt_trans h (by unfold B4; decide)
theorem log_le {n k : Nat} (h : n < 2 ^ k) : n.log2 ≤ k := by
  by_cases z : n = 0
  · rw [z]
    show 0 ≤ k
    omega
  · have := (Nat.log2_lt z).mpr h
    omega
theorem gcd_div {t b : Nat} (hb : 0 < b) (h : b < B4) : divOk ((Nat.gcd t b : Nat) : Int) = true := by
  have hp := Nat.gcd_pos_of_pos_right t hb
  have hl := Nat.gcd_le_right t hb
  refine divOk_of (by omega) ?_
  have := log_le (n := Nat.gcd t b) (k := 240) (Nat.lt_of_le_of_lt hl h)
  rw [Int.natAbs_natCast]
  omega
theorem made_ok (n : Nat) (S : Store) {t b : Nat} (hb : 0 < b) (hb2 : b < B4) : callN tb (n + 1) i_Pmade [.d (.int (t : Nat)), .d (.int (b : Nat))] S = .ok (.d (fD (madeF t b))) S := by
  let g := cnN tb n
  have hloop := gcd_loop (c := fun ρ S => truR (evX g t_Pmade ρ S)) (body := fun ρ S => evSs g b_Pmade ρ S) (S := S) (fun x y => [some (.d (.int (t : Nat))), some (.d (.int (b : Nat))), some (.d (.int (x : Nat))), some (.d (.int (y : Nat)))])
    (fun x y => by
      unfold t_Pmade
      simp [evX, truR, cmpU]) (fun x y hy => by
      unfold b_Pmade
      have e : ((x % y : Nat) : Int) = (x : Int) % (y : Int) := Int.natCast_emod x y
      have hy' : (0 : Int) < (y : Nat) := by omega
      simp [evSs, evS, evX, evXs, binU, mod_ii hy', setSlots, e]) 240 1000000 t b hb2 (by decide)
  have hd := gcd_div (t := t) hb hb2
  rw [call_at at_Pmade rfl]
  show Ev.finish false S.length (evSs g ir_Pmade [some (.d (.int (t : Nat))), some (.d (.int (b : Nat))), none, none] S) = _
  unfold ir_Pmade
  have ht0 : ¬ ((t : Nat) : Int) < 0 := by omega
  have hb0 : ¬ ((b : Nat) : Int) < 0 := by omega
  rw [ss_cons (ρ1 := [some (.d (.int (t : Nat))), some (.d (.int (b : Nat))), some (.d (.int (t : Nat))), some (.d (.int (b : Nat)))]) (S1 := S) (by simp [evS, evX, evXs, bltD, ht0, hb0, setSlots])]
  rw [ss_cons (ev_whil hloop)]
  rw [ss_cons (s_set (u := .d (.int (Nat.gcd t b : Nat))) (S1 := S) (by simp [evX, truR, cmpU, hb0]))]
  dsimp only [List.set]
  have e1 : ((t / Nat.gcd t b : Nat) : Int) = (t : Int) / (Nat.gcd t b : Nat) := Int.natCast_ediv _ _
  have e2 : ((b / Nat.gcd t b : Nat) : Int) = (b : Int) / (Nat.gcd t b : Nat) := Int.natCast_ediv _ _
  rw [ss_ret (s_ret (u := .d (fD (madeF t b))) (S1 := S) (by
    generalize hg : Nat.gcd t b = q at *
    simp [evX, evXs, binU, div_ii hd, datas, two_line, fD, madeF, hg, e1, e2]))]
  simp
theorem low_ok (n : Nat) (S : Store) {t b : Nat} (hb : 0 < b) (hb2 : b < B4) : callN tb (n + 1) i_Llow [.d (.int (t : Nat)), .d (.int (b : Nat))] S = .ok (.d (fD (madeF t b))) S := by
  let g := cnN tb n
  have hloop := gcd_loop (c := fun ρ S => truR (evX g t_Llow ρ S)) (body := fun ρ S => evSs g b_Llow ρ S) (S := S) (fun x y => [some (.d (.int (t : Nat))), some (.d (.int (b : Nat))), some (.d (.int (x : Nat))), some (.d (.int (y : Nat)))])
    (fun x y => by
      unfold t_Llow
      simp [evX, truR, cmpU]) (fun x y hy => by
      unfold b_Llow
      have e : ((x % y : Nat) : Int) = (x : Int) % (y : Int) := Int.natCast_emod x y
      have hy' : (0 : Int) < (y : Nat) := by omega
      simp [evSs, evS, evX, evXs, binU, mod_ii hy', setSlots, e]) 240 1000000 t b hb2 (by decide)
  have hd := gcd_div (t := t) hb hb2
  rw [call_at at_Llow rfl]
  show Ev.finish false S.length (evSs g ir_Llow [some (.d (.int (t : Nat))), some (.d (.int (b : Nat))), none, none] S) = _
  unfold ir_Llow
  rw [ss_cons (ρ1 := [some (.d (.int (t : Nat))), some (.d (.int (b : Nat))), some (.d (.int (t : Nat))), some (.d (.int (b : Nat)))]) (S1 := S) (by simp [evS, evX, evXs, setSlots])]
  rw [ss_cons (ev_whil hloop)]
  have e1 : ((t / Nat.gcd t b : Nat) : Int) = (t : Int) / (Nat.gcd t b : Nat) := Int.natCast_ediv _ _
  have e2 : ((b / Nat.gcd t b : Nat) : Int) = (b : Int) / (Nat.gcd t b : Nat) := Int.natCast_ediv _ _
  rw [ss_ret (s_ret (u := .d (fD (madeF t b))) (S1 := S) (by
    generalize hg : Nat.gcd t b = q at *
    simp [evX, evXs, binU, div_ii hd, datas, two_line, fD, madeF, hg, e1, e2]))]
  simp
theorem mul_nat {a b : Nat} (ha : a < B2) (hb : b < B2) : mulOk ((a : Nat) : Int) ((b : Nat) : Int) = true := by
  unfold mulOk
  have h1 := log_le (k := 120) ha
  have h2 := log_le (k := 120) hb
  simp only [Bool.or_eq_true, decide_eq_true_eq, Int.natAbs_natCast]
  exact .inr (by omega)
def okF (x : Fr) : Bool := decide (x.1 < B2) && decide (0 < x.2) && decide (x.2 < B2)
theorem okF_of {x : Fr} (h : okF x = true) : x.1 < B2 ∧ 0 < x.2 ∧ x.2 < B2 := by
  unfold okF at h
  simp only [Bool.and_eq_true, decide_eq_true_eq] at h
  exact ⟨h.1.1, h.1.2, h.2⟩
theorem mul_bound {a b : Nat} (ha : a < B2) (hb : b < B2) : a * b < B4 := by
  have h : a * b < B2 * B2 := Nat.mul_lt_mul'' ha hb
  have e : B2 * B2 = B4 := by
    unfold B2 B4
    rw [← Nat.pow_add]
  rw [← e]
  exact h
theorem frac_eval {g : Cn} {f : Nat} {ρ : Rho} {S : Store} {e1 e2 : Ev.X} {a b : Int} {q : PyData} (h1 : evX g e1 ρ S = .ok (.d (.int a)) S) (h2 : evX g e2 ρ S = .ok (.d (.int b)) S) (hm : g.call f [.d (.int a), .d (.int b)] S = .ok (.d q) S) :
    evSs g (.cons (.ret (.call f (.cons e1 (.cons e2 .nil)))) .nil) ρ S = .ok (.rt (.d q)) S := by
  refine ss_ret (s_ret ?_)
  simp only [evX, evXs, h1, h2, b_ok]
  exact hm
theorem prod_eval {g : Cn} {ρ : Rho} {S : Store} {i j : Nat} {s u : Int} {p q : PyData} {a b : Int} (hi : ρ[i]? = some (some (.d p))) (hj : ρ[j]? = some (some (.d q))) (hp : idxD p (.int s) = some (.int a)) (hq : idxD q (.int u) = some (.int b)) (hm : mulOk a b = true) :
    evX g (.bin .Mult (.idx (.loc i) (.con (.int s))) (.idx (.loc j) (.con (.int u)))) ρ S = .ok (.d (.int (a * b))) S := by
  simp only [evX, hi, hj, b_ok, d_d, Option.bind_some, hp, hq, Option.map_some, of_some, binU, mul_ii hm]
theorem plus_ok (n : Nat) (S : Store) {x y : Fr} (hx : okF x = true) (hy : okF y = true) : callN tb (n + 2) i_Pplus [.d (fD x), .d (fD y)] S = .ok (.d (fD (plusF x y))) S := by
  obtain ⟨x1, x2, x3⟩ := okF_of hx
  obtain ⟨y1, y2, y3⟩ := okF_of hy
  have hm := made_ok n S (t := x.1 * y.2 + y.1 * x.2) (b := x.2 * y.2) (Nat.mul_pos x2 y2) (mul_bound x3 y3)
  have e1 : ((x.1 * y.2 + y.1 * x.2 : Nat) : Int) = (x.1 : Int) * (y.2 : Int) + (y.1 : Int) * (x.2 : Int) := by rw [Int.natCast_add, Int.natCast_mul, Int.natCast_mul]
  rw [e1, Int.natCast_mul] at hm
  have p1 := prod_eval (g := cnN tb (n + 1)) (ρ := [some (.d (fD x)), some (.d (fD y))]) (S := S) (i := 0) (j := 1) (s := 0) (u := 1) rfl rfl (idx_t0 _ _) (idx_t1 _ _ _) (mul_nat x1 y3)
  have p2 := prod_eval (g := cnN tb (n + 1)) (ρ := [some (.d (fD x)), some (.d (fD y))]) (S := S) (i := 1) (j := 0) (s := 0) (u := 1) rfl rfl (idx_t0 _ _) (idx_t1 _ _ _) (mul_nat y1 x3)
  have p3 := prod_eval (g := cnN tb (n + 1)) (ρ := [some (.d (fD x)), some (.d (fD y))]) (S := S) (i := 0) (j := 1) (s := 1) (u := 1) rfl rfl (idx_t1 _ _ _) (idx_t1 _ _ _) (mul_nat x3 y3)
  rw [call_at at_Pplus rfl]
  show Ev.finish false S.length (evSs (cnN tb (n + 1)) ir_Pplus [some (.d (fD x)), some (.d (fD y))] S) = _
  unfold ir_Pplus
  rw [frac_eval (f := i_Pmade) (q := fD (plusF x y)) (by rw [evX, p1, b_ok, p2, b_ok]; rfl) p3 (by rw [call_cn]; exact hm), fin_d, List.take_length]
theorem times_ok (n : Nat) (S : Store) {x y : Fr} (hx : okF x = true) (hy : okF y = true) : callN tb (n + 2) i_Ptimes [.d (fD x), .d (fD y)] S = .ok (.d (fD (timesF x y))) S := by
  obtain ⟨x1, x2, x3⟩ := okF_of hx
  obtain ⟨y1, y2, y3⟩ := okF_of hy
  have hm := made_ok n S (t := x.1 * y.1) (b := x.2 * y.2) (Nat.mul_pos x2 y2) (mul_bound x3 y3)
  rw [Int.natCast_mul, Int.natCast_mul] at hm
  have p1 := prod_eval (g := cnN tb (n + 1)) (ρ := [some (.d (fD x)), some (.d (fD y))]) (S := S) (i := 0) (j := 1) (s := 0) (u := 0) rfl rfl (idx_t0 _ _) (idx_t0 _ _) (mul_nat x1 y1)
  have p3 := prod_eval (g := cnN tb (n + 1)) (ρ := [some (.d (fD x)), some (.d (fD y))]) (S := S) (i := 0) (j := 1) (s := 1) (u := 1) rfl rfl (idx_t1 _ _ _) (idx_t1 _ _ _) (mul_nat x3 y3)
  rw [call_at at_Ptimes rfl]
  show Ev.finish false S.length (evSs (cnN tb (n + 1)) ir_Ptimes [some (.d (fD x)), some (.d (fD y))] S) = _
  unfold ir_Ptimes
  rw [frac_eval (f := i_Pmade) (q := fD (timesF x y)) p1 p3 (by rw [call_cn]; exact hm), fin_d, List.take_length]
/-! ### the chances, the mean: pure -/
def okE (e : En) : Bool := decide (0 ≤ e.1) && decide (e.1 < 1000) && decide (0 < e.2) && decide (e.2 < 100000000000)
def chF (k : Int) : List En → Fr → Option Fr
  | [], f => some f
  | e :: r, f => if (okF f && okE e) = true then chF k r (if e.1 ≤ k then plusF f (1, e.2.toNat) else f) else none
def meF : List En → Fr → Option Fr
  | [], f => some f
  | e :: r, f => if (okF f && okE e && okF (madeF 1 e.2.toNat) && okF (timesF (e.1.toNat, 1) (madeF 1 e.2.toNat))) = true then meF r (plusF f (timesF (e.1.toNat, 1) (madeF 1 e.2.toNat))) else none
theorem okE_of {e : En} (h : okE e = true) : ∃ t b : Nat, e = ((t : Int), (b : Int)) ∧ t < 1000 ∧ 0 < b ∧ b < 100000000000 := by
  unfold okE at h
  simp only [Bool.and_eq_true, decide_eq_true_eq] at h
  obtain ⟨⟨⟨h1, h2⟩, h3⟩, h4⟩ := h
  refine ⟨e.1.toNat, e.2.toNat, ?_, by omega, by omega, by omega⟩
  apply Prod.ext
  · show e.1 = _
    omega
  · show e.2 = _
    omega
theorem okF_1 {b : Nat} (h : 0 < b) (h2 : b < 100000000000) : okF (1, b) = true := by
  unfold okF
  simp only [Bool.and_eq_true, decide_eq_true_eq]
  exact ⟨⟨b2_big (by omega), h⟩, b2_big h2⟩
theorem chance_loop (n : Nat) (S : Store) (k : Int) (a0 a1 : Option U) (es : List En) (f f' : Fr) (z4 z5 : Option U) (h : chF k es f = some f') :
    ∃ y4 y5, loopL (.cons (.nm 4) (.cons (.nm 5) .nil)) (fun ρ S => evSs (cnN tb (n + 2)) b_Pchance ρ S) ((es.map eD).map U.d) [a0, a1, some (.d (.int k)), some (.d (fD f)), z4, z5] S = .ok (.nx [a0, a1, some (.d (.int k)), some (.d (fD f')), y4, y5]) S := by
  induction es generalizing f z4 z5 with
  | nil =>
    cases h
    exact ⟨z4, z5, rfl⟩
  | cons e r ih =>
    unfold chF at h
    split at h
    · rename_i hg
      rw [Bool.and_eq_true] at hg
      obtain ⟨t, b, rfl, h1, h2, h3⟩ := okE_of hg.2
      have hp := plus_ok n S hg.1 (okF_1 h2 h3)
      have g : (cnN tb (n + 2)).call = callN tb (n + 2) := rfl
      obtain ⟨y4, y5, q⟩ := ih _ (some (.d (.int (t : Nat)))) (some (.d (.int (b : Nat)))) h
      refine ⟨y4, y5, ?_⟩
      have hb : evSs (cnN tb (n + 2)) b_Pchance [a0, a1, some (.d (.int k)), some (.d (fD f)), some (.d (.int (t : Nat))), some (.d (.int (b : Nat)))] S = .ok (.nx [a0, a1, some (.d (.int k)), some (.d (fD (if ((t : Nat) : Int) ≤ k then plusF f (1, ((b : Nat) : Int).toNat) else f))), some (.d (.int (t : Nat))), some (.d (.int (b : Nat)))]) S := by
        unfold b_Pchance
        have e0 : (((b : Nat) : Int).toNat) = b := Int.toNat_natCast b
        rw [e0]
        by_cases hk : ((t : Nat) : Int) ≤ k
        · rw [if_pos hk]
          have hc : truR (evX (cnN tb (n + 2)) (.cmp .LtE (.loc 4) (.loc 2)) [a0, a1, some (.d (.int k)), some (.d (fD f)), some (.d (.int (t : Nat))), some (.d (.int (b : Nat)))] S) = .ok true S := by
            simp only [evX, List.getElem?_cons_succ, List.getElem?_cons_zero, b_ok, cmpU, d_d, Option.bind_some, le_ii, Option.map_some, of_some, truR, tru_b, decide_eq_true hk]
          have ht : evX (cnN tb (n + 2)) (.tup (.cons (.con (.int 1)) (.cons (.loc 5) .nil))) [a0, a1, some (.d (.int k)), some (.d (fD f)), some (.d (.int (t : Nat))), some (.d (.int (b : Nat)))] S = .ok (.d (fD (1, b))) S := rfl
          have hcl := ev_call2 (g := cnN tb (n + 2)) (f := i_Pplus) (a := .loc 3) (ρ := [a0, a1, some (.d (.int k)), some (.d (fD f)), some (.d (.int (t : Nat))), some (.d (.int (b : Nat)))]) (S := S) (S1 := S) (u := .d (fD f)) rfl ht
          rw [call_cn, hp] at hcl
          rw [ss_cons (s_set (u := .d (fD (plusF f (1, b)))) (S1 := S) (by rw [evX, hc, b_ok, if_pos rfl, hcl]))]
          rfl
        · rw [if_neg hk]
          have hc : truR (evX (cnN tb (n + 2)) (.cmp .LtE (.loc 4) (.loc 2)) [a0, a1, some (.d (.int k)), some (.d (fD f)), some (.d (.int (t : Nat))), some (.d (.int (b : Nat)))] S) = .ok false S := by
            simp only [evX, List.getElem?_cons_succ, List.getElem?_cons_zero, b_ok, cmpU, d_d, Option.bind_some, le_ii, Option.map_some, of_some, truR, tru_b, decide_eq_false hk]
          rw [ss_cons (s_set (u := .d (fD f)) (S1 := S) (by rw [evX, hc, b_ok, if_neg (by decide)]; rfl))]
          rfl
      rw [List.map_cons, List.map_cons]
      unfold loopL
      have eb : bindT (.cons (.nm 4) (.cons (.nm 5) .nil)) (.d (eD (((t : Nat) : Int), ((b : Nat) : Int)))) [a0, a1, some (.d (.int k)), some (.d (fD f)), z4, z5] = some [a0, a1, some (.d (.int k)), some (.d (fD f)), some (.d (.int (t : Nat))), some (.d (.int (b : Nat)))] := rfl
      rw [eb]
      dsimp only
      rw [hb, b_ok]
      exact q
    · cases h
theorem mean_loop (n : Nat) (S : Store) (a0 a1 : Option U) (es : List En) (f f' : Fr) (z4 z5 : Option U) (h : meF es f = some f') :
    ∃ y4 y5, loopL (.cons (.nm 3) (.cons (.nm 4) .nil)) (fun ρ S => evSs (cnN tb (n + 2)) b_Pmean ρ S) ((es.map eD).map U.d) [a0, a1, some (.d (fD f)), z4, z5] S = .ok (.nx [a0, a1, some (.d (fD f')), y4, y5]) S := by
  induction es generalizing f z4 z5 with
  | nil =>
    cases h
    exact ⟨z4, z5, rfl⟩
  | cons e r ih =>
    unfold meF at h
    split at h
    · rename_i hg
      simp only [Bool.and_eq_true] at hg
      obtain ⟨⟨⟨g1, g2⟩, g3⟩, g4⟩ := hg
      obtain ⟨t, b, rfl, h1, h2, h3⟩ := okE_of g2
      simp only [Int.toNat_natCast] at g3 g4 h
      have hm := made_ok (n + 1) S (t := 1) (b := b) h2 (b4_big h3)
      have ht : okF (t, 1) = true := by
        unfold okF
        simp only [Bool.and_eq_true, decide_eq_true_eq]
        exact ⟨⟨b2_big (by omega), by omega⟩, b2_big (by omega)⟩
      have hx := times_ok n S ht g3
      have hp := plus_ok n S g1 g4
      have g : (cnN tb (n + 2)).call = callN tb (n + 2) := rfl
      obtain ⟨y4, y5, q⟩ := ih _ (some (.d (.int (t : Nat)))) (some (.d (.int (b : Nat)))) h
      refine ⟨y4, y5, ?_⟩
      have hb : evSs (cnN tb (n + 2)) b_Pmean [a0, a1, some (.d (fD f)), some (.d (.int (t : Nat))), some (.d (.int (b : Nat)))] S = .ok (.nx [a0, a1, some (.d (fD (plusF f (timesF (t, 1) (madeF 1 b))))), some (.d (.int (t : Nat))), some (.d (.int (b : Nat)))]) S := by
        unfold b_Pmean
        have c1 := ev_call2 (g := cnN tb (n + 2)) (f := i_Pmade) (a := .con (.int 1)) (b := .loc 4) (ρ := [a0, a1, some (.d (fD f)), some (.d (.int (t : Nat))), some (.d (.int (b : Nat)))]) (S := S) (S1 := S) (S2 := S) (u := .d (.int ((1 : Nat) : Int))) (v := .d (.int (b : Nat))) rfl rfl
        rw [call_cn, hm] at c1
        have c2 := ev_call2 (g := cnN tb (n + 2)) (f := i_Ptimes) (a := .tup (.cons (.loc 3) (.cons (.con (.int 1)) .nil))) (ρ := [a0, a1, some (.d (fD f)), some (.d (.int (t : Nat))), some (.d (.int (b : Nat)))]) (S := S) (S1 := S) (u := .d (fD (t, 1))) rfl c1
        rw [call_cn, hx] at c2
        have c3 := ev_call2 (g := cnN tb (n + 2)) (f := i_Pplus) (a := .loc 2) (ρ := [a0, a1, some (.d (fD f)), some (.d (.int (t : Nat))), some (.d (.int (b : Nat)))]) (S := S) (S1 := S) (u := .d (fD f)) rfl c2
        rw [call_cn, hp] at c3
        rw [ss_cons (s_set c3)]
        rfl
      rw [List.map_cons, List.map_cons]
      unfold loopL
      have eb : bindT (.cons (.nm 3) (.cons (.nm 4) .nil)) (.d (eD (((t : Nat) : Int), ((b : Nat) : Int)))) [a0, a1, some (.d (fD f)), z4, z5] = some [a0, a1, some (.d (fD f)), some (.d (.int (t : Nat))), some (.d (.int (b : Nat)))] := rfl
      rw [eb]
      dsimp only
      rw [hb, b_ok]
      exact q
    · cases h
end K06
end

section
set_option Elab.async false
set_option linter.all false
set_option maxRecDepth 100000
set_option maxHeartbeats 1000000
namespace K06
open PySem Ev
theorem few_ok (n : Nat) (S : Store) {r c : Int} (hr : 0 ≤ r) (hr2 : r ≤ 3) : callN tb (n + 1) i_Pneed_few [.d (strip r c)] S = if r * c ≤ 12 then .ok (.d .none) S else .exc x_TooMany S := by
  have m1 : mulOk r c = true := mul_small (.inl (smallI_of (by omega) (by omega)))
  rw [call_at at_Pneed_few rfl]
  by_cases h : r * c ≤ 12
  · have h2 : ¬ (12 : Int) < r * c := by omega
    simp [ir_Pneed_few, evSs, evS, evX, evXs, Ev.start, truR, cmpU, binU, mul_ii m1, h, h2]
  · have h2 : (12 : Int) < r * c := by omega
    simp [ir_Pneed_few, evSs, evS, evX, evXs, Ev.start, truR, cmpU, binU, mul_ii m1, h, h2]
theorem small_bad (n : Nat) (S : Store) {s : PyData} (p : U) (h : stripB s = false) : callN tb (n + 4) i_Pneed_small [.d s, p] S = .exc x_InvalidStrip S := by
  have g : (cnN tb (n + 3)).call = callN tb (n + 3) := rfl
  have h1 := needS_ok n S s
  rw [h, if_neg (by decide)] at h1
  rw [call_at at_Pneed_small rfl]
  simp [ir_Pneed_small, evSs, evS, evX, evXs, Ev.start, g, h1]
theorem small_ok (n : Nat) (S : Store) {r c : Int} (p : PyData) (h : stripB (strip r c) = true) : callN tb (n + 4) i_Pneed_small [.d (strip r c), .d p] S = if placeB r c p = true then .ok (.d .none) S else .exc x_InvalidPlace S := by
  have g : (cnN tb (n + 3)).call = callN tb (n + 3) := rfl
  have h1 := needS_ok n S (strip r c)
  have h2 := needP_ok n S r c p
  rw [h, if_pos rfl] at h1
  rw [call_at at_Pneed_small rfl]
  cases hp : placeB r c p <;> simp [ir_Pneed_small, evSs, evS, evX, evXs, Ev.start, g, h1, h2, hp]
theorem trap_exc (n : Nat) (S : Store) {u v : U} {k : Nat} (h : callN tb (n + 4) i_Pneed_small [u, v] S = .exc k S) : callN tb (n + 5) i_Ptrapped [u, v] S = .exc k S := by
  have g : (cnN tb (n + 4)).call = callN tb (n + 4) := rfl
  rw [call_at at_Ptrapped rfl]
  simp [ir_Ptrapped, evSs, evS, evX, evXs, Ev.start, g, h]
theorem mean_exc (n : Nat) (S : Store) {u v : U} {k : Nat} (h : callN tb (n + 4) i_Pneed_small [u, v] S = .exc k S) : callN tb (n + 5) i_Pmean [u, v] S = .exc k S := by
  have g : (cnN tb (n + 4)).call = callN tb (n + 4) := rfl
  rw [call_at at_Pmean rfl]
  simp [ir_Pmean, evSs, evS, evX, evXs, Ev.start, g, h]
theorem chance_exc (n : Nat) (S : Store) {u v w : U} {k : Nat} (h : callN tb (n + 4) i_Pneed_small [u, v] S = .exc k S) : callN tb (n + 5) i_Pchance [u, v, w] S = .exc k S := by
  have g : (cnN tb (n + 4)).call = callN tb (n + 4) := rfl
  rw [call_at at_Pchance rfl]
  simp [ir_Pchance, evSs, evS, evX, evXs, Ev.start, g, h]
theorem chance_num (n : Nat) (S : Store) {u v : U} {w : PyData} (h : callN tb (n + 4) i_Pneed_small [u, v] S = .ok (.d .none) S) (hw : wholeB 0 11 w = false) : callN tb (n + 5) i_Pchance [u, v, .d w] S = .exc x_InvalidNumber S := by
  have g : (cnN tb (n + 4)).call = callN tb (n + 4) := rfl
  rw [call_at at_Pchance rfl]
  simp [ir_Pchance, evSs, evS, evX, evXs, Ev.start, truR, g, h, whole_ok, hw]
theorem trap_many (n : Nat) (S : Store) {u v : U} (h : callN tb (n + 4) i_Pneed_small [u, v] S = .ok (.d .none) S) (hf : callN tb (n + 4) i_Pneed_few [u] S = .exc x_TooMany S) : callN tb (n + 5) i_Ptrapped [u, v] S = .exc x_TooMany S := by
  have g : (cnN tb (n + 4)).call = callN tb (n + 4) := rfl
  rw [call_at at_Ptrapped rfl]
  simp [ir_Ptrapped, evSs, evS, evX, evXs, Ev.start, g, h, hf]
theorem mean_many (n : Nat) (S : Store) {u v : U} (h : callN tb (n + 4) i_Pneed_small [u, v] S = .ok (.d .none) S) (hf : callN tb (n + 4) i_Pneed_few [u] S = .exc x_TooMany S) : callN tb (n + 5) i_Pmean [u, v] S = .exc x_TooMany S := by
  have g : (cnN tb (n + 4)).call = callN tb (n + 4) := rfl
  rw [call_at at_Pmean rfl]
  simp [ir_Pmean, evSs, evS, evX, evXs, Ev.start, g, h, hf]
theorem chance_many (n : Nat) (S : Store) {u v : U} {w : PyData} (h : callN tb (n + 4) i_Pneed_small [u, v] S = .ok (.d .none) S) (hw : wholeB 0 11 w = true) (hf : callN tb (n + 4) i_Pneed_few [u] S = .exc x_TooMany S) : callN tb (n + 5) i_Pchance [u, v, .d w] S = .exc x_TooMany S := by
  have g : (cnN tb (n + 4)).call = callN tb (n + 4) := rfl
  rw [call_at at_Pchance rfl]
  simp [ir_Pchance, evSs, evS, evX, evXs, Ev.start, truR, g, h, whole_ok, hw, hf]
/-- a place of a small strip -/
structure Sm (r c : Int) (p : Pl) : Prop where
  r1 : 1 ≤ r
  r3 : r ≤ 3
  c1 : 1 ≤ c
  few : r * c ≤ 12
  inb : inB r c p = true
theorem Sm.cle {r c : Int} {p : Pl} (h : Sm r c p) : c ≤ 12 := by
  have h1 : 1 * c ≤ r * c := Int.mul_le_mul_of_nonneg_right h.r1 (by have := h.c1; omega)
  have := h.few
  omega
theorem Sm.fit {r c : Int} {p : Pl} (h : Sm r c p) : stripB (strip r c) = true := strip_fit h.r1 h.r3 h.c1 (by have := h.cle; omega)
theorem Sm.place {r c : Int} {p : Pl} (h : Sm r c p) : placeB r c (pl p) = true := by
  have hi := h.inb
  unfold inB at hi
  have hi := of_decide_eq_true hi
  show (decide (0 ≤ p.1 ∧ p.1 ≤ c - 1) && decide (0 ≤ p.2 ∧ p.2 ≤ r - 1)) = true
  rw [Bool.and_eq_true, decide_eq_true_eq, decide_eq_true_eq]
  omega
theorem Sm.small {r c : Int} {p : Pl} (h : Sm r c p) (n : Nat) (S : Store) : callN tb (n + 4) i_Pneed_small [.d (strip r c), .d (pl p)] S = .ok (.d .none) S := by
  rw [small_ok n S _ h.fit, h.place, if_pos rfl]
theorem Sm.fewc {r c : Int} {p : Pl} (h : Sm r c p) (n : Nat) (S : Store) : callN tb (n + 4) i_Pneed_few [.d (strip r c)] S = .ok (.d .none) S := by
  rw [few_ok (n + 3) S (by have := h.r1; omega) h.r3, if_pos h.few]
theorem len_es (es : List En) : bltD .len (.list (es.map eD)) = some (.int (es.length : Nat)) := by
  show some (PyData.int ((es.map eD).length : Nat)) = _
  rw [List.length_map]
theorem trap_ok (n : Nat) (S : Store) {r c : Int} {p : Pl} (h : Sm r c p) {s : Stt} (he : endsP r c p = some s) : callN tb (n + 5) i_Ptrapped [.d (strip r c), .d (pl p)] S = .ok (.d (.int (s.1.length : Nat))) S := by
  have h1 := h.small n S
  have h2 := h.fewc n S
  have h3 := all_ends_ok (n + 2) S r c p he
  have g : (cnN tb (n + 4)).call = callN tb (n + 4) := rfl
  rw [call_at at_Ptrapped rfl]
  generalize pl p = q at *
  simp [ir_Ptrapped, evSs, evS, evX, evXs, Ev.start, g, h1, h2, h3, len_es]
theorem chance_ok (n : Nat) (S : Store) {r c : Int} {p : Pl} (h : Sm r c p) {s : Stt} (he : endsP r c p = some s) {k : Int} (hk : wholeB 0 11 (.int k) = true) {f : Fr} (hf : chF k s.1 (0, 1) = some f) : callN tb (n + 5) i_Pchance [.d (strip r c), .d (pl p), .d (.int k)] S = .ok (.d (fD f)) S := by
  have h1 := h.small n S
  have h2 := h.fewc n S
  have h3 := all_ends_ok (n + 2) S r c p he
  have hw := whole_ok (n + 3) S (.int k) 0 11
  rw [hk] at hw
  have g : (cnN tb (n + 4)).call = callN tb (n + 4) := rfl
  obtain ⟨y4, y5, hl⟩ := chance_loop (n + 2) S k (some (.d (strip r c))) (some (.d (pl p))) s.1 (0, 1) f none none hf
  rw [call_at at_Pchance rfl]
  show Ev.finish false S.length (evSs (cnN tb (n + 4)) ir_Pchance [some (.d (strip r c)), some (.d (pl p)), some (.d (.int k)), none, none, none] S) = _
  generalize pl p = q at *
  unfold ir_Pchance
  rw [ss_cons (ρ1 := [some (.d (strip r c)), some (.d q), some (.d (.int k)), none, none, none]) (S1 := S) (by simp [evS, evX, evXs, g, h1])]
  rw [ss_cons (s_ifF (S1 := S) (by simp [evX, evXs, truR, g, hw]))]
  rw [ss_cons (ρ1 := [some (.d (strip r c)), some (.d q), some (.d (.int k)), none, none, none]) (S1 := S) (by simp [evS, evX, evXs, g, h2])]
  rw [ss_cons (s_set (u := .d (fD (0, 1))) (S1 := S) rfl)]
  dsimp only [List.set]
  rw [ss_cons (ev_for (it_list (xs := s.1.map eD) (S1 := S) (by rw [ev_call2 (u := .d (strip r c)) (v := .d q) (S1 := S) (S2 := S) rfl rfl, g, h3])) hl)]
  rw [ss_ret (s_ret (u := .d (fD f)) rfl), fin_d, List.take_length]
theorem mean_ok (n : Nat) (S : Store) {r c : Int} {p : Pl} (h : Sm r c p) {s : Stt} (he : endsP r c p = some s) {f : Fr} (hf : meF s.1 (0, 1) = some f) : callN tb (n + 5) i_Pmean [.d (strip r c), .d (pl p)] S = .ok (.d (fD f)) S := by
  have h1 := h.small n S
  have h2 := h.fewc n S
  have h3 := all_ends_ok (n + 2) S r c p he
  have g : (cnN tb (n + 4)).call = callN tb (n + 4) := rfl
  obtain ⟨y4, y5, hl⟩ := mean_loop (n + 2) S (some (.d (strip r c))) (some (.d (pl p))) s.1 (0, 1) f none none hf
  rw [call_at at_Pmean rfl]
  show Ev.finish false S.length (evSs (cnN tb (n + 4)) ir_Pmean [some (.d (strip r c)), some (.d (pl p)), none, none, none] S) = _
  generalize pl p = q at *
  unfold ir_Pmean
  rw [ss_cons (ρ1 := [some (.d (strip r c)), some (.d q), none, none, none]) (S1 := S) (by simp [evS, evX, evXs, g, h1])]
  rw [ss_cons (ρ1 := [some (.d (strip r c)), some (.d q), none, none, none]) (S1 := S) (by simp [evS, evX, evXs, g, h2])]
  rw [ss_cons (s_set (u := .d (fD (0, 1))) (S1 := S) rfl)]
  dsimp only [List.set]
  rw [ss_cons (ev_for (it_list (xs := s.1.map eD) (S1 := S) (by rw [ev_call2 (u := .d (strip r c)) (v := .d q) (S1 := S) (S2 := S) rfl rfl, g, h3])) hl)]
  rw [ss_ret (s_ret (u := .d (fD f)) rfl), fin_d, List.take_length]
end K06
end

section
set_option Elab.async false
set_option linter.all false
set_option maxRecDepth 100000
set_option maxHeartbeats 1000000
namespace K06
open PySem Ev
def Wn : Nat := 2176782336
def upTo (k : Int) (es : List En) : Int := ((es.filter fun e => decide (e.1 ≤ k)).map fun e => e.2).sum
def allS (es : List En) : Int := ((es.filter fun _ => true).map fun e => e.2).sum
def allM (es : List En) : Int := ((es.filter fun _ => true).map fun e => e.1 * e.2).sum
def chk (r c : Int) (p : Pl) : Bool :=
  match endsP r c p, endsL r c p with
  | some s, some s' => decide (s.1.length = s'.1.length) && decide (allS s'.1 = 2176782336) && s'.1.all okE && ((List.range 12).all fun k => decide (0 ≤ upTo (k : Nat) s'.1) && decide (chF (k : Nat) s.1 (0, 1) = some (madeF (upTo (k : Nat) s'.1).toNat Wn))) && decide (0 ≤ allM s'.1) && decide (meF s.1 (0, 1) = some (madeF (allM s'.1).toNat Wn))
  | _, _ => false
theorem c_1_1_0_0 : chk ((1 : Nat) : Int) ((1 : Nat) : Int) (((0 : Nat) : Int), ((0 : Nat) : Int)) = true := by decide +kernel
theorem s_1_1 : ∀ a b : Nat, a < 1 → b < 1 → chk ((1 : Nat) : Int) ((1 : Nat) : Int) ((a : Int), (b : Int)) = true
  | 0, 0, _, _ => c_1_1_0_0
  | a + 1, _, h, _ => by omega
  | 0, b + 1, _, h => by omega
theorem c_1_2_0_0 : chk ((1 : Nat) : Int) ((2 : Nat) : Int) (((0 : Nat) : Int), ((0 : Nat) : Int)) = true := by decide +kernel
theorem c_1_2_1_0 : chk ((1 : Nat) : Int) ((2 : Nat) : Int) (((1 : Nat) : Int), ((0 : Nat) : Int)) = true := by decide +kernel
theorem s_1_2 : ∀ a b : Nat, a < 2 → b < 1 → chk ((1 : Nat) : Int) ((2 : Nat) : Int) ((a : Int), (b : Int)) = true
  | 0, 0, _, _ => c_1_2_0_0
  | 1, 0, _, _ => c_1_2_1_0
  | a + 2, _, h, _ => by omega
  | 0, b + 1, _, h => by omega
  | 1, b + 1, _, h => by omega
theorem c_1_3_0_0 : chk ((1 : Nat) : Int) ((3 : Nat) : Int) (((0 : Nat) : Int), ((0 : Nat) : Int)) = true := by decide +kernel
theorem c_1_3_1_0 : chk ((1 : Nat) : Int) ((3 : Nat) : Int) (((1 : Nat) : Int), ((0 : Nat) : Int)) = true := by decide +kernel
theorem c_1_3_2_0 : chk ((1 : Nat) : Int) ((3 : Nat) : Int) (((2 : Nat) : Int), ((0 : Nat) : Int)) = true := by decide +kernel
theorem s_1_3 : ∀ a b : Nat, a < 3 → b < 1 → chk ((1 : Nat) : Int) ((3 : Nat) : Int) ((a : Int), (b : Int)) = true
  | 0, 0, _, _ => c_1_3_0_0
  | 1, 0, _, _ => c_1_3_1_0
  | 2, 0, _, _ => c_1_3_2_0
  | a + 3, _, h, _ => by omega
  | 0, b + 1, _, h => by omega
  | 1, b + 1, _, h => by omega
  | 2, b + 1, _, h => by omega
theorem c_1_4_0_0 : chk ((1 : Nat) : Int) ((4 : Nat) : Int) (((0 : Nat) : Int), ((0 : Nat) : Int)) = true := by decide +kernel
theorem c_1_4_1_0 : chk ((1 : Nat) : Int) ((4 : Nat) : Int) (((1 : Nat) : Int), ((0 : Nat) : Int)) = true := by decide +kernel
theorem c_1_4_2_0 : chk ((1 : Nat) : Int) ((4 : Nat) : Int) (((2 : Nat) : Int), ((0 : Nat) : Int)) = true := by decide +kernel
theorem c_1_4_3_0 : chk ((1 : Nat) : Int) ((4 : Nat) : Int) (((3 : Nat) : Int), ((0 : Nat) : Int)) = true := by decide +kernel
theorem s_1_4 : ∀ a b : Nat, a < 4 → b < 1 → chk ((1 : Nat) : Int) ((4 : Nat) : Int) ((a : Int), (b : Int)) = true
  | 0, 0, _, _ => c_1_4_0_0
  | 1, 0, _, _ => c_1_4_1_0
  | 2, 0, _, _ => c_1_4_2_0
  | 3, 0, _, _ => c_1_4_3_0
  | a + 4, _, h, _ => by omega
  | 0, b + 1, _, h => by omega
  | 1, b + 1, _, h => by omega
  | 2, b + 1, _, h => by omega
  | 3, b + 1, _, h => by omega
theorem c_1_5_0_0 : chk ((1 : Nat) : Int) ((5 : Nat) : Int) (((0 : Nat) : Int), ((0 : Nat) : Int)) = true := by decide +kernel
theorem c_1_5_1_0 : chk ((1 : Nat) : Int) ((5 : Nat) : Int) (((1 : Nat) : Int), ((0 : Nat) : Int)) = true := by decide +kernel
theorem c_1_5_2_0 : chk ((1 : Nat) : Int) ((5 : Nat) : Int) (((2 : Nat) : Int), ((0 : Nat) : Int)) = true := by decide +kernel
theorem c_1_5_3_0 : chk ((1 : Nat) : Int) ((5 : Nat) : Int) (((3 : Nat) : Int), ((0 : Nat) : Int)) = true := by decide +kernel
theorem c_1_5_4_0 : chk ((1 : Nat) : Int) ((5 : Nat) : Int) (((4 : Nat) : Int), ((0 : Nat) : Int)) = true := by decide +kernel
theorem s_1_5 : ∀ a b : Nat, a < 5 → b < 1 → chk ((1 : Nat) : Int) ((5 : Nat) : Int) ((a : Int), (b : Int)) = true
  | 0, 0, _, _ => c_1_5_0_0
  | 1, 0, _, _ => c_1_5_1_0
  | 2, 0, _, _ => c_1_5_2_0
  | 3, 0, _, _ => c_1_5_3_0
  | 4, 0, _, _ => c_1_5_4_0
  | a + 5, _, h, _ => by omega
  | 0, b + 1, _, h => by omega
  | 1, b + 1, _, h => by omega
  | 2, b + 1, _, h => by omega
  | 3, b + 1, _, h => by omega
  | 4, b + 1, _, h => by omega
theorem c_1_6_0_0 : chk ((1 : Nat) : Int) ((6 : Nat) : Int) (((0 : Nat) : Int), ((0 : Nat) : Int)) = true := by decide +kernel
theorem c_1_6_1_0 : chk ((1 : Nat) : Int) ((6 : Nat) : Int) (((1 : Nat) : Int), ((0 : Nat) : Int)) = true := by decide +kernel
theorem c_1_6_2_0 : chk ((1 : Nat) : Int) ((6 : Nat) : Int) (((2 : Nat) : Int), ((0 : Nat) : Int)) = true := by decide +kernel
theorem c_1_6_3_0 : chk ((1 : Nat) : Int) ((6 : Nat) : Int) (((3 : Nat) : Int), ((0 : Nat) : Int)) = true := by decide +kernel
theorem c_1_6_4_0 : chk ((1 : Nat) : Int) ((6 : Nat) : Int) (((4 : Nat) : Int), ((0 : Nat) : Int)) = true := by decide +kernel
theorem c_1_6_5_0 : chk ((1 : Nat) : Int) ((6 : Nat) : Int) (((5 : Nat) : Int), ((0 : Nat) : Int)) = true := by decide +kernel
theorem s_1_6 : ∀ a b : Nat, a < 6 → b < 1 → chk ((1 : Nat) : Int) ((6 : Nat) : Int) ((a : Int), (b : Int)) = true
  | 0, 0, _, _ => c_1_6_0_0
  | 1, 0, _, _ => c_1_6_1_0
  | 2, 0, _, _ => c_1_6_2_0
  | 3, 0, _, _ => c_1_6_3_0
  | 4, 0, _, _ => c_1_6_4_0
  | 5, 0, _, _ => c_1_6_5_0
  | a + 6, _, h, _ => by omega
  | 0, b + 1, _, h => by omega
  | 1, b + 1, _, h => by omega
  | 2, b + 1, _, h => by omega
  | 3, b + 1, _, h => by omega
  | 4, b + 1, _, h => by omega
  | 5, b + 1, _, h => by omega
theorem c_1_7_0_0 : chk ((1 : Nat) : Int) ((7 : Nat) : Int) (((0 : Nat) : Int), ((0 : Nat) : Int)) = true := by decide +kernel
theorem c_1_7_1_0 : chk ((1 : Nat) : Int) ((7 : Nat) : Int) (((1 : Nat) : Int), ((0 : Nat) : Int)) = true := by decide +kernel
theorem c_1_7_2_0 : chk ((1 : Nat) : Int) ((7 : Nat) : Int) (((2 : Nat) : Int), ((0 : Nat) : Int)) = true := by decide +kernel
theorem c_1_7_3_0 : chk ((1 : Nat) : Int) ((7 : Nat) : Int) (((3 : Nat) : Int), ((0 : Nat) : Int)) = true := by decide +kernel
theorem c_1_7_4_0 : chk ((1 : Nat) : Int) ((7 : Nat) : Int) (((4 : Nat) : Int), ((0 : Nat) : Int)) = true := by decide +kernel
theorem c_1_7_5_0 : chk ((1 : Nat) : Int) ((7 : Nat) : Int) (((5 : Nat) : Int), ((0 : Nat) : Int)) = true := by decide +kernel
theorem c_1_7_6_0 : chk ((1 : Nat) : Int) ((7 : Nat) : Int) (((6 : Nat) : Int), ((0 : Nat) : Int)) = true := by decide +kernel
theorem s_1_7 : ∀ a b : Nat, a < 7 → b < 1 → chk ((1 : Nat) : Int) ((7 : Nat) : Int) ((a : Int), (b : Int)) = true
  | 0, 0, _, _ => c_1_7_0_0
  | 1, 0, _, _ => c_1_7_1_0
  | 2, 0, _, _ => c_1_7_2_0
  | 3, 0, _, _ => c_1_7_3_0
  | 4, 0, _, _ => c_1_7_4_0
  | 5, 0, _, _ => c_1_7_5_0
  | 6, 0, _, _ => c_1_7_6_0
  | a + 7, _, h, _ => by omega
  | 0, b + 1, _, h => by omega
  | 1, b + 1, _, h => by omega
  | 2, b + 1, _, h => by omega
  | 3, b + 1, _, h => by omega
  | 4, b + 1, _, h => by omega
  | 5, b + 1, _, h => by omega
  | 6, b + 1, _, h => by omega
theorem c_1_8_0_0 : chk ((1 : Nat) : Int) ((8 : Nat) : Int) (((0 : Nat) : Int), ((0 : Nat) : Int)) = true := by decide +kernel
theorem c_1_8_1_0 : chk ((1 : Nat) : Int) ((8 : Nat) : Int) (((1 : Nat) : Int), ((0 : Nat) : Int)) = true := by decide +kernel
theorem c_1_8_2_0 : chk ((1 : Nat) : Int) ((8 : Nat) : Int) (((2 : Nat) : Int), ((0 : Nat) : Int)) = true := by decide +kernel
theorem c_1_8_3_0 : chk ((1 : Nat) : Int) ((8 : Nat) : Int) (((3 : Nat) : Int), ((0 : Nat) : Int)) = true := by decide +kernel
theorem c_1_8_4_0 : chk ((1 : Nat) : Int) ((8 : Nat) : Int) (((4 : Nat) : Int), ((0 : Nat) : Int)) = true := by decide +kernel
theorem c_1_8_5_0 : chk ((1 : Nat) : Int) ((8 : Nat) : Int) (((5 : Nat) : Int), ((0 : Nat) : Int)) = true := by decide +kernel
theorem c_1_8_6_0 : chk ((1 : Nat) : Int) ((8 : Nat) : Int) (((6 : Nat) : Int), ((0 : Nat) : Int)) = true := by decide +kernel
theorem c_1_8_7_0 : chk ((1 : Nat) : Int) ((8 : Nat) : Int) (((7 : Nat) : Int), ((0 : Nat) : Int)) = true := by decide +kernel
theorem s_1_8 : ∀ a b : Nat, a < 8 → b < 1 → chk ((1 : Nat) : Int) ((8 : Nat) : Int) ((a : Int), (b : Int)) = true
  | 0, 0, _, _ => c_1_8_0_0
  | 1, 0, _, _ => c_1_8_1_0
  | 2, 0, _, _ => c_1_8_2_0
  | 3, 0, _, _ => c_1_8_3_0
  | 4, 0, _, _ => c_1_8_4_0
  | 5, 0, _, _ => c_1_8_5_0
  | 6, 0, _, _ => c_1_8_6_0
  | 7, 0, _, _ => c_1_8_7_0
  | a + 8, _, h, _ => by omega
  | 0, b + 1, _, h => by omega
  | 1, b + 1, _, h => by omega
  | 2, b + 1, _, h => by omega
  | 3, b + 1, _, h => by omega
  | 4, b + 1, _, h => by omega
  | 5, b + 1, _, h => by omega
  | 6, b + 1, _, h => by omega
  | 7, b + 1, _, h => by omega
theorem c_1_9_0_0 : chk ((1 : Nat) : Int) ((9 : Nat) : Int) (((0 : Nat) : Int), ((0 : Nat) : Int)) = true := by decide +kernel
theorem c_1_9_1_0 : chk ((1 : Nat) : Int) ((9 : Nat) : Int) (((1 : Nat) : Int), ((0 : Nat) : Int)) = true := by decide +kernel
theorem c_1_9_2_0 : chk ((1 : Nat) : Int) ((9 : Nat) : Int) (((2 : Nat) : Int), ((0 : Nat) : Int)) = true := by decide +kernel
theorem c_1_9_3_0 : chk ((1 : Nat) : Int) ((9 : Nat) : Int) (((3 : Nat) : Int), ((0 : Nat) : Int)) = true := by decide +kernel
theorem c_1_9_4_0 : chk ((1 : Nat) : Int) ((9 : Nat) : Int) (((4 : Nat) : Int), ((0 : Nat) : Int)) = true := by decide +kernel
theorem c_1_9_5_0 : chk ((1 : Nat) : Int) ((9 : Nat) : Int) (((5 : Nat) : Int), ((0 : Nat) : Int)) = true := by decide +kernel
theorem c_1_9_6_0 : chk ((1 : Nat) : Int) ((9 : Nat) : Int) (((6 : Nat) : Int), ((0 : Nat) : Int)) = true := by decide +kernel
theorem c_1_9_7_0 : chk ((1 : Nat) : Int) ((9 : Nat) : Int) (((7 : Nat) : Int), ((0 : Nat) : Int)) = true := by decide +kernel
theorem c_1_9_8_0 : chk ((1 : Nat) : Int) ((9 : Nat) : Int) (((8 : Nat) : Int), ((0 : Nat) : Int)) = true := by decide +kernel
theorem s_1_9 : ∀ a b : Nat, a < 9 → b < 1 → chk ((1 : Nat) : Int) ((9 : Nat) : Int) ((a : Int), (b : Int)) = true
  | 0, 0, _, _ => c_1_9_0_0
  | 1, 0, _, _ => c_1_9_1_0
  | 2, 0, _, _ => c_1_9_2_0
  | 3, 0, _, _ => c_1_9_3_0
  | 4, 0, _, _ => c_1_9_4_0
  | 5, 0, _, _ => c_1_9_5_0
  | 6, 0, _, _ => c_1_9_6_0
  | 7, 0, _, _ => c_1_9_7_0
  | 8, 0, _, _ => c_1_9_8_0
  | a + 9, _, h, _ => by omega
  | 0, b + 1, _, h => by omega
  | 1, b + 1, _, h => by omega
  | 2, b + 1, _, h => by omega
  | 3, b + 1, _, h => by omega
  | 4, b + 1, _, h => by omega
  | 5, b + 1, _, h => by omega
  | 6, b + 1, _, h => by omega
  | 7, b + 1, _, h => by omega
  | 8, b + 1, _, h => by omega
theorem c_1_10_0_0 : chk ((1 : Nat) : Int) ((10 : Nat) : Int) (((0 : Nat) : Int), ((0 : Nat) : Int)) = true := by decide +kernel
theorem c_1_10_1_0 : chk ((1 : Nat) : Int) ((10 : Nat) : Int) (((1 : Nat) : Int), ((0 : Nat) : Int)) = true := by decide +kernel
theorem c_1_10_2_0 : chk ((1 : Nat) : Int) ((10 : Nat) : Int) (((2 : Nat) : Int), ((0 : Nat) : Int)) = true := by decide +kernel
theorem c_1_10_3_0 : chk ((1 : Nat) : Int) ((10 : Nat) : Int) (((3 : Nat) : Int), ((0 : Nat) : Int)) = true := by decide +kernel
theorem c_1_10_4_0 : chk ((1 : Nat) : Int) ((10 : Nat) : Int) (((4 : Nat) : Int), ((0 : Nat) : Int)) = true := by decide +kernel
theorem c_1_10_5_0 : chk ((1 : Nat) : Int) ((10 : Nat) : Int) (((5 : Nat) : Int), ((0 : Nat) : Int)) = true := by decide +kernel
theorem c_1_10_6_0 : chk ((1 : Nat) : Int) ((10 : Nat) : Int) (((6 : Nat) : Int), ((0 : Nat) : Int)) = true := by decide +kernel
theorem c_1_10_7_0 : chk ((1 : Nat) : Int) ((10 : Nat) : Int) (((7 : Nat) : Int), ((0 : Nat) : Int)) = true := by decide +kernel
theorem c_1_10_8_0 : chk ((1 : Nat) : Int) ((10 : Nat) : Int) (((8 : Nat) : Int), ((0 : Nat) : Int)) = true := by decide +kernel
theorem c_1_10_9_0 : chk ((1 : Nat) : Int) ((10 : Nat) : Int) (((9 : Nat) : Int), ((0 : Nat) : Int)) = true := by decide +kernel
theorem s_1_10 : ∀ a b : Nat, a < 10 → b < 1 → chk ((1 : Nat) : Int) ((10 : Nat) : Int) ((a : Int), (b : Int)) = true
  | 0, 0, _, _ => c_1_10_0_0
  | 1, 0, _, _ => c_1_10_1_0
  | 2, 0, _, _ => c_1_10_2_0
  | 3, 0, _, _ => c_1_10_3_0
  | 4, 0, _, _ => c_1_10_4_0
  | 5, 0, _, _ => c_1_10_5_0
  | 6, 0, _, _ => c_1_10_6_0
  | 7, 0, _, _ => c_1_10_7_0
  | 8, 0, _, _ => c_1_10_8_0
  | 9, 0, _, _ => c_1_10_9_0
  | a + 10, _, h, _ => by omega
  | 0, b + 1, _, h => by omega
  | 1, b + 1, _, h => by omega
  | 2, b + 1, _, h => by omega
  | 3, b + 1, _, h => by omega
  | 4, b + 1, _, h => by omega
  | 5, b + 1, _, h => by omega
  | 6, b + 1, _, h => by omega
  | 7, b + 1, _, h => by omega
  | 8, b + 1, _, h => by omega
  | 9, b + 1, _, h => by omega
theorem c_1_11_0_0 : chk ((1 : Nat) : Int) ((11 : Nat) : Int) (((0 : Nat) : Int), ((0 : Nat) : Int)) = true := by decide +kernel
theorem c_1_11_1_0 : chk ((1 : Nat) : Int) ((11 : Nat) : Int) (((1 : Nat) : Int), ((0 : Nat) : Int)) = true := by decide +kernel
theorem c_1_11_2_0 : chk ((1 : Nat) : Int) ((11 : Nat) : Int) (((2 : Nat) : Int), ((0 : Nat) : Int)) = true := by decide +kernel
theorem c_1_11_3_0 : chk ((1 : Nat) : Int) ((11 : Nat) : Int) (((3 : Nat) : Int), ((0 : Nat) : Int)) = true := by decide +kernel
theorem c_1_11_4_0 : chk ((1 : Nat) : Int) ((11 : Nat) : Int) (((4 : Nat) : Int), ((0 : Nat) : Int)) = true := by decide +kernel
theorem c_1_11_5_0 : chk ((1 : Nat) : Int) ((11 : Nat) : Int) (((5 : Nat) : Int), ((0 : Nat) : Int)) = true := by decide +kernel
theorem c_1_11_6_0 : chk ((1 : Nat) : Int) ((11 : Nat) : Int) (((6 : Nat) : Int), ((0 : Nat) : Int)) = true := by decide +kernel
theorem c_1_11_7_0 : chk ((1 : Nat) : Int) ((11 : Nat) : Int) (((7 : Nat) : Int), ((0 : Nat) : Int)) = true := by decide +kernel
theorem c_1_11_8_0 : chk ((1 : Nat) : Int) ((11 : Nat) : Int) (((8 : Nat) : Int), ((0 : Nat) : Int)) = true := by decide +kernel
theorem c_1_11_9_0 : chk ((1 : Nat) : Int) ((11 : Nat) : Int) (((9 : Nat) : Int), ((0 : Nat) : Int)) = true := by decide +kernel
theorem c_1_11_10_0 : chk ((1 : Nat) : Int) ((11 : Nat) : Int) (((10 : Nat) : Int), ((0 : Nat) : Int)) = true := by decide +kernel
theorem s_1_11 : ∀ a b : Nat, a < 11 → b < 1 → chk ((1 : Nat) : Int) ((11 : Nat) : Int) ((a : Int), (b : Int)) = true
  | 0, 0, _, _ => c_1_11_0_0
  | 1, 0, _, _ => c_1_11_1_0
  | 2, 0, _, _ => c_1_11_2_0
  | 3, 0, _, _ => c_1_11_3_0
  | 4, 0, _, _ => c_1_11_4_0
  | 5, 0, _, _ => c_1_11_5_0
  | 6, 0, _, _ => c_1_11_6_0
  | 7, 0, _, _ => c_1_11_7_0
  | 8, 0, _, _ => c_1_11_8_0
  | 9, 0, _, _ => c_1_11_9_0
  | 10, 0, _, _ => c_1_11_10_0
  | a + 11, _, h, _ => by omega
  | 0, b + 1, _, h => by omega
  | 1, b + 1, _, h => by omega
  | 2, b + 1, _, h => by omega
  | 3, b + 1, _, h => by omega
  | 4, b + 1, _, h => by omega
  | 5, b + 1, _, h => by omega
  | 6, b + 1, _, h => by omega
  | 7, b + 1, _, h => by omega
  | 8, b + 1, _, h => by omega
  | 9, b + 1, _, h => by omega
  | 10, b + 1, _, h => by omega
theorem c_1_12_0_0 : chk ((1 : Nat) : Int) ((12 : Nat) : Int) (((0 : Nat) : Int), ((0 : Nat) : Int)) = true := by decide +kernel
theorem c_1_12_1_0 : chk ((1 : Nat) : Int) ((12 : Nat) : Int) (((1 : Nat) : Int), ((0 : Nat) : Int)) = true := by decide +kernel
theorem c_1_12_2_0 : chk ((1 : Nat) : Int) ((12 : Nat) : Int) (((2 : Nat) : Int), ((0 : Nat) : Int)) = true := by decide +kernel
theorem c_1_12_3_0 : chk ((1 : Nat) : Int) ((12 : Nat) : Int) (((3 : Nat) : Int), ((0 : Nat) : Int)) = true := by decide +kernel
theorem c_1_12_4_0 : chk ((1 : Nat) : Int) ((12 : Nat) : Int) (((4 : Nat) : Int), ((0 : Nat) : Int)) = true := by decide +kernel
theorem c_1_12_5_0 : chk ((1 : Nat) : Int) ((12 : Nat) : Int) (((5 : Nat) : Int), ((0 : Nat) : Int)) = true := by decide +kernel
theorem c_1_12_6_0 : chk ((1 : Nat) : Int) ((12 : Nat) : Int) (((6 : Nat) : Int), ((0 : Nat) : Int)) = true := by decide +kernel
theorem c_1_12_7_0 : chk ((1 : Nat) : Int) ((12 : Nat) : Int) (((7 : Nat) : Int), ((0 : Nat) : Int)) = true := by decide +kernel
theorem c_1_12_8_0 : chk ((1 : Nat) : Int) ((12 : Nat) : Int) (((8 : Nat) : Int), ((0 : Nat) : Int)) = true := by decide +kernel
theorem c_1_12_9_0 : chk ((1 : Nat) : Int) ((12 : Nat) : Int) (((9 : Nat) : Int), ((0 : Nat) : Int)) = true := by decide +kernel
theorem c_1_12_10_0 : chk ((1 : Nat) : Int) ((12 : Nat) : Int) (((10 : Nat) : Int), ((0 : Nat) : Int)) = true := by decide +kernel
theorem c_1_12_11_0 : chk ((1 : Nat) : Int) ((12 : Nat) : Int) (((11 : Nat) : Int), ((0 : Nat) : Int)) = true := by decide +kernel
theorem s_1_12 : ∀ a b : Nat, a < 12 → b < 1 → chk ((1 : Nat) : Int) ((12 : Nat) : Int) ((a : Int), (b : Int)) = true
  | 0, 0, _, _ => c_1_12_0_0
  | 1, 0, _, _ => c_1_12_1_0
  | 2, 0, _, _ => c_1_12_2_0
  | 3, 0, _, _ => c_1_12_3_0
  | 4, 0, _, _ => c_1_12_4_0
  | 5, 0, _, _ => c_1_12_5_0
  | 6, 0, _, _ => c_1_12_6_0
  | 7, 0, _, _ => c_1_12_7_0
  | 8, 0, _, _ => c_1_12_8_0
  | 9, 0, _, _ => c_1_12_9_0
  | 10, 0, _, _ => c_1_12_10_0
  | 11, 0, _, _ => c_1_12_11_0
  | a + 12, _, h, _ => by omega
  | 0, b + 1, _, h => by omega
  | 1, b + 1, _, h => by omega
  | 2, b + 1, _, h => by omega
  | 3, b + 1, _, h => by omega
  | 4, b + 1, _, h => by omega
  | 5, b + 1, _, h => by omega
  | 6, b + 1, _, h => by omega
  | 7, b + 1, _, h => by omega
  | 8, b + 1, _, h => by omega
  | 9, b + 1, _, h => by omega
  | 10, b + 1, _, h => by omega
  | 11, b + 1, _, h => by omega
theorem c_2_1_0_0 : chk ((2 : Nat) : Int) ((1 : Nat) : Int) (((0 : Nat) : Int), ((0 : Nat) : Int)) = true := by decide +kernel
theorem c_2_1_0_1 : chk ((2 : Nat) : Int) ((1 : Nat) : Int) (((0 : Nat) : Int), ((1 : Nat) : Int)) = true := by decide +kernel
theorem s_2_1 : ∀ a b : Nat, a < 1 → b < 2 → chk ((2 : Nat) : Int) ((1 : Nat) : Int) ((a : Int), (b : Int)) = true
  | 0, 0, _, _ => c_2_1_0_0
  | 0, 1, _, _ => c_2_1_0_1
  | a + 1, _, h, _ => by omega
  | 0, b + 2, _, h => by omega
theorem c_2_2_0_0 : chk ((2 : Nat) : Int) ((2 : Nat) : Int) (((0 : Nat) : Int), ((0 : Nat) : Int)) = true := by decide +kernel
theorem c_2_2_0_1 : chk ((2 : Nat) : Int) ((2 : Nat) : Int) (((0 : Nat) : Int), ((1 : Nat) : Int)) = true := by decide +kernel
theorem c_2_2_1_0 : chk ((2 : Nat) : Int) ((2 : Nat) : Int) (((1 : Nat) : Int), ((0 : Nat) : Int)) = true := by decide +kernel
theorem c_2_2_1_1 : chk ((2 : Nat) : Int) ((2 : Nat) : Int) (((1 : Nat) : Int), ((1 : Nat) : Int)) = true := by decide +kernel
theorem s_2_2 : ∀ a b : Nat, a < 2 → b < 2 → chk ((2 : Nat) : Int) ((2 : Nat) : Int) ((a : Int), (b : Int)) = true
  | 0, 0, _, _ => c_2_2_0_0
  | 0, 1, _, _ => c_2_2_0_1
  | 1, 0, _, _ => c_2_2_1_0
  | 1, 1, _, _ => c_2_2_1_1
  | a + 2, _, h, _ => by omega
  | 0, b + 2, _, h => by omega
  | 1, b + 2, _, h => by omega
theorem c_2_3_0_0 : chk ((2 : Nat) : Int) ((3 : Nat) : Int) (((0 : Nat) : Int), ((0 : Nat) : Int)) = true := by decide +kernel
theorem c_2_3_0_1 : chk ((2 : Nat) : Int) ((3 : Nat) : Int) (((0 : Nat) : Int), ((1 : Nat) : Int)) = true := by decide +kernel
theorem c_2_3_1_0 : chk ((2 : Nat) : Int) ((3 : Nat) : Int) (((1 : Nat) : Int), ((0 : Nat) : Int)) = true := by decide +kernel
theorem c_2_3_1_1 : chk ((2 : Nat) : Int) ((3 : Nat) : Int) (((1 : Nat) : Int), ((1 : Nat) : Int)) = true := by decide +kernel
theorem c_2_3_2_0 : chk ((2 : Nat) : Int) ((3 : Nat) : Int) (((2 : Nat) : Int), ((0 : Nat) : Int)) = true := by decide +kernel
theorem c_2_3_2_1 : chk ((2 : Nat) : Int) ((3 : Nat) : Int) (((2 : Nat) : Int), ((1 : Nat) : Int)) = true := by decide +kernel
theorem s_2_3 : ∀ a b : Nat, a < 3 → b < 2 → chk ((2 : Nat) : Int) ((3 : Nat) : Int) ((a : Int), (b : Int)) = true
  | 0, 0, _, _ => c_2_3_0_0
  | 0, 1, _, _ => c_2_3_0_1
  | 1, 0, _, _ => c_2_3_1_0
  | 1, 1, _, _ => c_2_3_1_1
  | 2, 0, _, _ => c_2_3_2_0
  | 2, 1, _, _ => c_2_3_2_1
  | a + 3, _, h, _ => by omega
  | 0, b + 2, _, h => by omega
  | 1, b + 2, _, h => by omega
  | 2, b + 2, _, h => by omega
theorem c_2_4_0_0 : chk ((2 : Nat) : Int) ((4 : Nat) : Int) (((0 : Nat) : Int), ((0 : Nat) : Int)) = true := by decide +kernel
theorem c_2_4_0_1 : chk ((2 : Nat) : Int) ((4 : Nat) : Int) (((0 : Nat) : Int), ((1 : Nat) : Int)) = true := by decide +kernel
theorem c_2_4_1_0 : chk ((2 : Nat) : Int) ((4 : Nat) : Int) (((1 : Nat) : Int), ((0 : Nat) : Int)) = true := by decide +kernel
theorem c_2_4_1_1 : chk ((2 : Nat) : Int) ((4 : Nat) : Int) (((1 : Nat) : Int), ((1 : Nat) : Int)) = true := by decide +kernel
theorem c_2_4_2_0 : chk ((2 : Nat) : Int) ((4 : Nat) : Int) (((2 : Nat) : Int), ((0 : Nat) : Int)) = true := by decide +kernel
theorem c_2_4_2_1 : chk ((2 : Nat) : Int) ((4 : Nat) : Int) (((2 : Nat) : Int), ((1 : Nat) : Int)) = true := by decide +kernel
theorem c_2_4_3_0 : chk ((2 : Nat) : Int) ((4 : Nat) : Int) (((3 : Nat) : Int), ((0 : Nat) : Int)) = true := by decide +kernel
theorem c_2_4_3_1 : chk ((2 : Nat) : Int) ((4 : Nat) : Int) (((3 : Nat) : Int), ((1 : Nat) : Int)) = true := by decide +kernel
theorem s_2_4 : ∀ a b : Nat, a < 4 → b < 2 → chk ((2 : Nat) : Int) ((4 : Nat) : Int) ((a : Int), (b : Int)) = true
  | 0, 0, _, _ => c_2_4_0_0
  | 0, 1, _, _ => c_2_4_0_1
  | 1, 0, _, _ => c_2_4_1_0
  | 1, 1, _, _ => c_2_4_1_1
  | 2, 0, _, _ => c_2_4_2_0
  | 2, 1, _, _ => c_2_4_2_1
  | 3, 0, _, _ => c_2_4_3_0
  | 3, 1, _, _ => c_2_4_3_1
  | a + 4, _, h, _ => by omega
  | 0, b + 2, _, h => by omega
  | 1, b + 2, _, h => by omega
  | 2, b + 2, _, h => by omega
  | 3, b + 2, _, h => by omega
theorem c_2_5_0_0 : chk ((2 : Nat) : Int) ((5 : Nat) : Int) (((0 : Nat) : Int), ((0 : Nat) : Int)) = true := by decide +kernel
theorem c_2_5_0_1 : chk ((2 : Nat) : Int) ((5 : Nat) : Int) (((0 : Nat) : Int), ((1 : Nat) : Int)) = true := by decide +kernel
theorem c_2_5_1_0 : chk ((2 : Nat) : Int) ((5 : Nat) : Int) (((1 : Nat) : Int), ((0 : Nat) : Int)) = true := by decide +kernel
theorem c_2_5_1_1 : chk ((2 : Nat) : Int) ((5 : Nat) : Int) (((1 : Nat) : Int), ((1 : Nat) : Int)) = true := by decide +kernel
theorem c_2_5_2_0 : chk ((2 : Nat) : Int) ((5 : Nat) : Int) (((2 : Nat) : Int), ((0 : Nat) : Int)) = true := by decide +kernel
theorem c_2_5_2_1 : chk ((2 : Nat) : Int) ((5 : Nat) : Int) (((2 : Nat) : Int), ((1 : Nat) : Int)) = true := by decide +kernel
theorem c_2_5_3_0 : chk ((2 : Nat) : Int) ((5 : Nat) : Int) (((3 : Nat) : Int), ((0 : Nat) : Int)) = true := by decide +kernel
theorem c_2_5_3_1 : chk ((2 : Nat) : Int) ((5 : Nat) : Int) (((3 : Nat) : Int), ((1 : Nat) : Int)) = true := by decide +kernel
theorem c_2_5_4_0 : chk ((2 : Nat) : Int) ((5 : Nat) : Int) (((4 : Nat) : Int), ((0 : Nat) : Int)) = true := by decide +kernel
theorem c_2_5_4_1 : chk ((2 : Nat) : Int) ((5 : Nat) : Int) (((4 : Nat) : Int), ((1 : Nat) : Int)) = true := by decide +kernel
theorem s_2_5 : ∀ a b : Nat, a < 5 → b < 2 → chk ((2 : Nat) : Int) ((5 : Nat) : Int) ((a : Int), (b : Int)) = true
  | 0, 0, _, _ => c_2_5_0_0
  | 0, 1, _, _ => c_2_5_0_1
  | 1, 0, _, _ => c_2_5_1_0
  | 1, 1, _, _ => c_2_5_1_1
  | 2, 0, _, _ => c_2_5_2_0
  | 2, 1, _, _ => c_2_5_2_1
  | 3, 0, _, _ => c_2_5_3_0
  | 3, 1, _, _ => c_2_5_3_1
  | 4, 0, _, _ => c_2_5_4_0
  | 4, 1, _, _ => c_2_5_4_1
  | a + 5, _, h, _ => by omega
  | 0, b + 2, _, h => by omega
  | 1, b + 2, _, h => by omega
  | 2, b + 2, _, h => by omega
  | 3, b + 2, _, h => by omega
  | 4, b + 2, _, h => by omega
theorem c_2_6_0_0 : chk ((2 : Nat) : Int) ((6 : Nat) : Int) (((0 : Nat) : Int), ((0 : Nat) : Int)) = true := by decide +kernel
theorem c_2_6_0_1 : chk ((2 : Nat) : Int) ((6 : Nat) : Int) (((0 : Nat) : Int), ((1 : Nat) : Int)) = true := by decide +kernel
theorem c_2_6_1_0 : chk ((2 : Nat) : Int) ((6 : Nat) : Int) (((1 : Nat) : Int), ((0 : Nat) : Int)) = true := by decide +kernel
theorem c_2_6_1_1 : chk ((2 : Nat) : Int) ((6 : Nat) : Int) (((1 : Nat) : Int), ((1 : Nat) : Int)) = true := by decide +kernel
theorem c_2_6_2_0 : chk ((2 : Nat) : Int) ((6 : Nat) : Int) (((2 : Nat) : Int), ((0 : Nat) : Int)) = true := by decide +kernel
theorem c_2_6_2_1 : chk ((2 : Nat) : Int) ((6 : Nat) : Int) (((2 : Nat) : Int), ((1 : Nat) : Int)) = true := by decide +kernel
theorem c_2_6_3_0 : chk ((2 : Nat) : Int) ((6 : Nat) : Int) (((3 : Nat) : Int), ((0 : Nat) : Int)) = true := by decide +kernel
theorem c_2_6_3_1 : chk ((2 : Nat) : Int) ((6 : Nat) : Int) (((3 : Nat) : Int), ((1 : Nat) : Int)) = true := by decide +kernel
theorem c_2_6_4_0 : chk ((2 : Nat) : Int) ((6 : Nat) : Int) (((4 : Nat) : Int), ((0 : Nat) : Int)) = true := by decide +kernel
theorem c_2_6_4_1 : chk ((2 : Nat) : Int) ((6 : Nat) : Int) (((4 : Nat) : Int), ((1 : Nat) : Int)) = true := by decide +kernel
theorem c_2_6_5_0 : chk ((2 : Nat) : Int) ((6 : Nat) : Int) (((5 : Nat) : Int), ((0 : Nat) : Int)) = true := by decide +kernel
theorem c_2_6_5_1 : chk ((2 : Nat) : Int) ((6 : Nat) : Int) (((5 : Nat) : Int), ((1 : Nat) : Int)) = true := by decide +kernel
theorem s_2_6 : ∀ a b : Nat, a < 6 → b < 2 → chk ((2 : Nat) : Int) ((6 : Nat) : Int) ((a : Int), (b : Int)) = true
  | 0, 0, _, _ => c_2_6_0_0
  | 0, 1, _, _ => c_2_6_0_1
  | 1, 0, _, _ => c_2_6_1_0
  | 1, 1, _, _ => c_2_6_1_1
  | 2, 0, _, _ => c_2_6_2_0
  | 2, 1, _, _ => c_2_6_2_1
  | 3, 0, _, _ => c_2_6_3_0
  | 3, 1, _, _ => c_2_6_3_1
  | 4, 0, _, _ => c_2_6_4_0
  | 4, 1, _, _ => c_2_6_4_1
  | 5, 0, _, _ => c_2_6_5_0
  | 5, 1, _, _ => c_2_6_5_1
  | a + 6, _, h, _ => by omega
  | 0, b + 2, _, h => by omega
  | 1, b + 2, _, h => by omega
  | 2, b + 2, _, h => by omega
  | 3, b + 2, _, h => by omega
  | 4, b + 2, _, h => by omega
  | 5, b + 2, _, h => by omega
theorem c_3_1_0_0 : chk ((3 : Nat) : Int) ((1 : Nat) : Int) (((0 : Nat) : Int), ((0 : Nat) : Int)) = true := by decide +kernel
theorem c_3_1_0_1 : chk ((3 : Nat) : Int) ((1 : Nat) : Int) (((0 : Nat) : Int), ((1 : Nat) : Int)) = true := by decide +kernel
theorem c_3_1_0_2 : chk ((3 : Nat) : Int) ((1 : Nat) : Int) (((0 : Nat) : Int), ((2 : Nat) : Int)) = true := by decide +kernel
theorem s_3_1 : ∀ a b : Nat, a < 1 → b < 3 → chk ((3 : Nat) : Int) ((1 : Nat) : Int) ((a : Int), (b : Int)) = true
  | 0, 0, _, _ => c_3_1_0_0
  | 0, 1, _, _ => c_3_1_0_1
  | 0, 2, _, _ => c_3_1_0_2
  | a + 1, _, h, _ => by omega
  | 0, b + 3, _, h => by omega
theorem c_3_2_0_0 : chk ((3 : Nat) : Int) ((2 : Nat) : Int) (((0 : Nat) : Int), ((0 : Nat) : Int)) = true := by decide +kernel
theorem c_3_2_0_1 : chk ((3 : Nat) : Int) ((2 : Nat) : Int) (((0 : Nat) : Int), ((1 : Nat) : Int)) = true := by decide +kernel
theorem c_3_2_0_2 : chk ((3 : Nat) : Int) ((2 : Nat) : Int) (((0 : Nat) : Int), ((2 : Nat) : Int)) = true := by decide +kernel
theorem c_3_2_1_0 : chk ((3 : Nat) : Int) ((2 : Nat) : Int) (((1 : Nat) : Int), ((0 : Nat) : Int)) = true := by decide +kernel
theorem c_3_2_1_1 : chk ((3 : Nat) : Int) ((2 : Nat) : Int) (((1 : Nat) : Int), ((1 : Nat) : Int)) = true := by decide +kernel
theorem c_3_2_1_2 : chk ((3 : Nat) : Int) ((2 : Nat) : Int) (((1 : Nat) : Int), ((2 : Nat) : Int)) = true := by decide +kernel
theorem s_3_2 : ∀ a b : Nat, a < 2 → b < 3 → chk ((3 : Nat) : Int) ((2 : Nat) : Int) ((a : Int), (b : Int)) = true
  | 0, 0, _, _ => c_3_2_0_0
  | 0, 1, _, _ => c_3_2_0_1
  | 0, 2, _, _ => c_3_2_0_2
  | 1, 0, _, _ => c_3_2_1_0
  | 1, 1, _, _ => c_3_2_1_1
  | 1, 2, _, _ => c_3_2_1_2
  | a + 2, _, h, _ => by omega
  | 0, b + 3, _, h => by omega
  | 1, b + 3, _, h => by omega
theorem c_3_3_0_0 : chk ((3 : Nat) : Int) ((3 : Nat) : Int) (((0 : Nat) : Int), ((0 : Nat) : Int)) = true := by decide +kernel
theorem c_3_3_0_1 : chk ((3 : Nat) : Int) ((3 : Nat) : Int) (((0 : Nat) : Int), ((1 : Nat) : Int)) = true := by decide +kernel
theorem c_3_3_0_2 : chk ((3 : Nat) : Int) ((3 : Nat) : Int) (((0 : Nat) : Int), ((2 : Nat) : Int)) = true := by decide +kernel
theorem c_3_3_1_0 : chk ((3 : Nat) : Int) ((3 : Nat) : Int) (((1 : Nat) : Int), ((0 : Nat) : Int)) = true := by decide +kernel
theorem c_3_3_1_1 : chk ((3 : Nat) : Int) ((3 : Nat) : Int) (((1 : Nat) : Int), ((1 : Nat) : Int)) = true := by decide +kernel
theorem c_3_3_1_2 : chk ((3 : Nat) : Int) ((3 : Nat) : Int) (((1 : Nat) : Int), ((2 : Nat) : Int)) = true := by decide +kernel
theorem c_3_3_2_0 : chk ((3 : Nat) : Int) ((3 : Nat) : Int) (((2 : Nat) : Int), ((0 : Nat) : Int)) = true := by decide +kernel
theorem c_3_3_2_1 : chk ((3 : Nat) : Int) ((3 : Nat) : Int) (((2 : Nat) : Int), ((1 : Nat) : Int)) = true := by decide +kernel
theorem c_3_3_2_2 : chk ((3 : Nat) : Int) ((3 : Nat) : Int) (((2 : Nat) : Int), ((2 : Nat) : Int)) = true := by decide +kernel
theorem s_3_3 : ∀ a b : Nat, a < 3 → b < 3 → chk ((3 : Nat) : Int) ((3 : Nat) : Int) ((a : Int), (b : Int)) = true
  | 0, 0, _, _ => c_3_3_0_0
  | 0, 1, _, _ => c_3_3_0_1
  | 0, 2, _, _ => c_3_3_0_2
  | 1, 0, _, _ => c_3_3_1_0
  | 1, 1, _, _ => c_3_3_1_1
  | 1, 2, _, _ => c_3_3_1_2
  | 2, 0, _, _ => c_3_3_2_0
  | 2, 1, _, _ => c_3_3_2_1
  | 2, 2, _, _ => c_3_3_2_2
  | a + 3, _, h, _ => by omega
  | 0, b + 3, _, h => by omega
  | 1, b + 3, _, h => by omega
  | 2, b + 3, _, h => by omega
theorem c_3_4_0_0 : chk ((3 : Nat) : Int) ((4 : Nat) : Int) (((0 : Nat) : Int), ((0 : Nat) : Int)) = true := by decide +kernel
theorem c_3_4_0_1 : chk ((3 : Nat) : Int) ((4 : Nat) : Int) (((0 : Nat) : Int), ((1 : Nat) : Int)) = true := by decide +kernel
theorem c_3_4_0_2 : chk ((3 : Nat) : Int) ((4 : Nat) : Int) (((0 : Nat) : Int), ((2 : Nat) : Int)) = true := by decide +kernel
theorem c_3_4_1_0 : chk ((3 : Nat) : Int) ((4 : Nat) : Int) (((1 : Nat) : Int), ((0 : Nat) : Int)) = true := by decide +kernel
theorem c_3_4_1_1 : chk ((3 : Nat) : Int) ((4 : Nat) : Int) (((1 : Nat) : Int), ((1 : Nat) : Int)) = true := by decide +kernel
theorem c_3_4_1_2 : chk ((3 : Nat) : Int) ((4 : Nat) : Int) (((1 : Nat) : Int), ((2 : Nat) : Int)) = true := by decide +kernel
theorem c_3_4_2_0 : chk ((3 : Nat) : Int) ((4 : Nat) : Int) (((2 : Nat) : Int), ((0 : Nat) : Int)) = true := by decide +kernel
theorem c_3_4_2_1 : chk ((3 : Nat) : Int) ((4 : Nat) : Int) (((2 : Nat) : Int), ((1 : Nat) : Int)) = true := by decide +kernel
theorem c_3_4_2_2 : chk ((3 : Nat) : Int) ((4 : Nat) : Int) (((2 : Nat) : Int), ((2 : Nat) : Int)) = true := by decide +kernel
theorem c_3_4_3_0 : chk ((3 : Nat) : Int) ((4 : Nat) : Int) (((3 : Nat) : Int), ((0 : Nat) : Int)) = true := by decide +kernel
theorem c_3_4_3_1 : chk ((3 : Nat) : Int) ((4 : Nat) : Int) (((3 : Nat) : Int), ((1 : Nat) : Int)) = true := by decide +kernel
theorem c_3_4_3_2 : chk ((3 : Nat) : Int) ((4 : Nat) : Int) (((3 : Nat) : Int), ((2 : Nat) : Int)) = true := by decide +kernel
theorem s_3_4 : ∀ a b : Nat, a < 4 → b < 3 → chk ((3 : Nat) : Int) ((4 : Nat) : Int) ((a : Int), (b : Int)) = true
  | 0, 0, _, _ => c_3_4_0_0
  | 0, 1, _, _ => c_3_4_0_1
  | 0, 2, _, _ => c_3_4_0_2
  | 1, 0, _, _ => c_3_4_1_0
  | 1, 1, _, _ => c_3_4_1_1
  | 1, 2, _, _ => c_3_4_1_2
  | 2, 0, _, _ => c_3_4_2_0
  | 2, 1, _, _ => c_3_4_2_1
  | 2, 2, _, _ => c_3_4_2_2
  | 3, 0, _, _ => c_3_4_3_0
  | 3, 1, _, _ => c_3_4_3_1
  | 3, 2, _, _ => c_3_4_3_2
  | a + 4, _, h, _ => by omega
  | 0, b + 3, _, h => by omega
  | 1, b + 3, _, h => by omega
  | 2, b + 3, _, h => by omega
  | 3, b + 3, _, h => by omega
theorem chkN : ∀ r c : Nat, 1 ≤ r → r ≤ 3 → 1 ≤ c → r * c ≤ 12 → ∀ a b : Nat, a < c → b < r → chk (r : Nat) (c : Nat) ((a : Int), (b : Int)) = true
  | 1, 1, _, _, _, _ => s_1_1
  | 1, 2, _, _, _, _ => s_1_2
  | 1, 3, _, _, _, _ => s_1_3
  | 1, 4, _, _, _, _ => s_1_4
  | 1, 5, _, _, _, _ => s_1_5
  | 1, 6, _, _, _, _ => s_1_6
  | 1, 7, _, _, _, _ => s_1_7
  | 1, 8, _, _, _, _ => s_1_8
  | 1, 9, _, _, _, _ => s_1_9
  | 1, 10, _, _, _, _ => s_1_10
  | 1, 11, _, _, _, _ => s_1_11
  | 1, 12, _, _, _, _ => s_1_12
  | 2, 1, _, _, _, _ => s_2_1
  | 2, 2, _, _, _, _ => s_2_2
  | 2, 3, _, _, _, _ => s_2_3
  | 2, 4, _, _, _, _ => s_2_4
  | 2, 5, _, _, _, _ => s_2_5
  | 2, 6, _, _, _, _ => s_2_6
  | 3, 1, _, _, _, _ => s_3_1
  | 3, 2, _, _, _, _ => s_3_2
  | 3, 3, _, _, _, _ => s_3_3
  | 3, 4, _, _, _, _ => s_3_4
  | 0, _, h, _, _, _ => by omega
  | r + 4, _, _, h, _, _ => by omega
  | 1, 0, _, _, h, _ => by omega
  | 1, c + 13, _, _, _, h => by omega
  | 2, 0, _, _, h, _ => by omega
  | 2, c + 7, _, _, _, h => by omega
  | 3, 0, _, _, h, _ => by omega
  | 3, c + 5, _, _, _, h => by omega
end K06
end

section
set_option Elab.async false
set_option linter.all false
set_option maxRecDepth 100000
set_option maxHeartbeats 1000000
namespace K06
open PySem Ev
theorem chk_of {r c : Int} {p : Pl} (h : Sm r c p) : chk r c p = true := by
  have hc := h.cle
  have hi := h.inb
  unfold inB at hi
  have hi := of_decide_eq_true hi
  have h1 := h.r1
  have h3 := h.r3
  have hc1 := h.c1
  have hf := h.few
  have hm : r.toNat * c.toNat ≤ 12 := by
    have : ((r.toNat * c.toNat : Nat) : Int) = r * c := by
      rw [Int.natCast_mul]
      congr 1 <;> omega
    omega
  have q := chkN r.toNat c.toNat (by omega) (by omega) (by omega) hm p.1.toNat p.2.toNat (by omega) (by omega)
  have e1 : ((r.toNat : Nat) : Int) = r := by omega
  have e2 : ((c.toNat : Nat) : Int) = c := by omega
  have e3 : ((p.1.toNat : Nat) : Int) = p.1 := by omega
  have e4 : ((p.2.toNat : Nat) : Int) = p.2 := by omega
  rw [e1, e2, e3, e4] at q
  exact q
theorem ints_map (l : List Int) : intsD (l.map .int) = some l := by
  induction l with
  | nil => rfl
  | cons a r ih =>
    show (intsD (r.map .int)).map (a :: ·) = _
    rw [ih]
    rfl
def bnd (ρ : Rho) (x : En) : Rho := ((wipe ρ [5, 6]).set 5 (some (.d (.int x.1)))).set 6 (some (.d (.int x.2)))
theorem sum_go {g : Cn} {ρ : Rho} {S : Store} {es : List En} (h3 : ρ[3]? = some (some (.d (.list (es.map eD))))) (hl : es.length ≤ 100000) (c : Xs) (e : X) (pr : En → Bool) (f : En → Int) (hc : ∀ x, x ∈ es → evC g c (bnd ρ x) S = .ok (pr x) S)
    (he : ∀ x, x ∈ es → evX g e (bnd ρ x) S = .ok (.d (.int (f x))) S) : evX g (.blt .sum (.lc [5, 6] (.cons (.nm 5) (.cons (.nm 6) .nil)) (.val (.loc 3)) c e)) ρ S = .ok (.d (.int ((es.filter pr).map f).sum)) S := by
  have h := comp_map (t := .cons (.nm 5) (.cons (.nm 6) .nil)) (c := fun ρ S => evC g c ρ S) (e := fun ρ S => dataR (evX g e ρ S)) (S := S) (ρ := wipe ρ [5, 6]) (fun x : En => U.d (eD x)) pr (fun x => .int (f x)) es (fun x hx => ⟨bnd ρ x, rfl, hc x hx, fun _ => by
    show dataR (evX g e (bnd ρ x) S) = _
    rw [he x hx]
    rfl⟩)
  have h2 := ev_lc (g := g) (own := [5, 6]) (it := .val (.loc 3)) (ρ := ρ) (S := S) (us := (es.map eD).map U.d) (it_list (by unfold evX; rw [h3])) (by rw [List.length_map, List.length_map]; show _ ≤ 16777216; omega) (by rw [List.map_map]; exact h)
  have hs : bltD .sum (.list ((es.filter pr).map fun x => .int (f x))) = some (.int ((es.filter pr).map f).sum) := by
    show (intsD ((es.filter pr).map fun x => .int (f x))).map (fun ns => PyData.int ns.sum) = _
    rw [show ((es.filter pr).map fun x => PyData.int (f x)) = ((es.filter pr).map f).map .int by rw [List.map_map]; rfl, ints_map]
    rfl
  rw [evX, h2, b_ok]
  simp only [d_d, Option.bind_some, hs, Option.map_some, of_some]
theorem fD_sh (x : Fr) : SeqAt.shaped (fD x) = true := shaped_of (d := 1) ⟨rfl, Nat.le_refl 1⟩ (by decide)
theorem int_sh (i : Int) : SeqAt.shaped (.int i) = true := rfl
theorem wn_pos : 0 < Wn := by decide
theorem wn_big : Wn < B4 := b4_big (by decide)
theorem whole_ev (g : Cn) (ρ : Rho) (S : Store) : evX g (.bin .Mult (.bin .Pow (.con (.int 3)) (.con (.int 12))) (.bin .Pow (.con (.int 2)) (.con (.int 12)))) ρ S = .ok (.d (.int 2176782336)) S := by
  have e1 : binD .Pow (.int 3) (.int 12) = some (.int 531441) := by kernel_rfl
  have e2 : binD .Pow (.int 2) (.int 12) = some (.int 4096) := by kernel_rfl
  have e3 : binD .Mult (.int 531441) (.int 4096) = some (.int 2176782336) := by kernel_rfl
  simp only [evX, b_ok, binU, d_d, Option.bind_some, e1, e2, e3, Option.map_some, of_some]
theorem es_len {s : Stt} {r c : Int} {p : Pl} (h : endsL r c p = some s) : s.1.length ≤ 100000 := by
  have : ∀ (n : Nat) (s0 : Stt), runW okS more (stepL r c) n s0 = some s → okS s = true := by
    intro n
    induction n with
    | zero => intro s0 h; cases h
    | succ n ih =>
      intro s0 h
      unfold runW at h
      split at h
      · rename_i hg
        split at h
        · exact ih _ h
        · cases h
          exact hg
      · cases h
  have := this _ _ h
  unfold okS at this
  simp only [Bool.and_eq_true, decide_eq_true_eq] at this
  omega
theorem right_ok (n : Nat) (S : Store) {r c : Int} {p : Pl} (h : Sm r c p) : callN tb (n + 6) i_Lright [.d (strip r c), .d (pl p)] S = .ok (.d (.bool true)) S := by
  have hk := chk_of h
  unfold chk at hk
  cases hP : endsP r c p with
  | none => rw [hP] at hk; cases hk
  | some s =>
    cases hL : endsL r c p with
    | none => rw [hP, hL] at hk; cases hk
    | some s' =>
      rw [hP, hL] at hk
      simp only [Bool.and_eq_true, decide_eq_true_eq, List.all_eq_true, List.mem_range] at hk
      obtain ⟨⟨⟨⟨⟨k1, k2⟩, k3⟩, k4⟩, k5⟩, k6⟩ := hk
      let g := cnN tb (n + 5)
      have hl := es_len hL
      have eE := ends_ok (n + 3) S r c p hL
      have eT := trap_ok n S h hP
      have eM := mean_ok n S h hP k6
      have lw := fun (t : Nat) => low_ok (n + 4) S (t := t) wn_pos wn_big
      let ρ : Option U → Option U → Option U → Rho := fun a b d => [some (.d (strip r c)), some (.d (pl p)), a, some (.d (.list (s'.1.map eD))), some (.d (.int 2176782336)), b, d]
      -- all parts
      have sA := sum_go (g := g) (ρ := ρ none none none) (S := S) (es := s'.1) rfl hl .nil e_Lright (fun _ => true) (fun e => e.2) (fun x _ => rfl) (fun x _ => rfl)
      have sA : evX g (.blt .sum (.lc [5, 6] (.cons (.nm 5) (.cons (.nm 6) .nil)) (.val (.loc 3)) .nil e_Lright)) (ρ none none none) S = .ok (.d (.int 2176782336)) S := by rw [sA, ← k2]; rfl
      have hcond : truR (evX g (.or (.cmp .NotEq (.call i_Ptrapped (.cons (.loc 0) (.cons (.loc 1) .nil))) (.blt .len (.loc 3))) (.cmp .NotEq (.blt .sum (.lc [5, 6] (.cons (.nm 5) (.cons (.nm 6) .nil)) (.val (.loc 3)) .nil e_Lright)) (.loc 4))) (ρ none none none) S) = .ok false S := by
        have c1 : evX g (.call i_Ptrapped (.cons (.loc 0) (.cons (.loc 1) .nil))) (ρ none none none) S = .ok (.d (.int (s'.1.length : Nat))) S := by
          rw [ev_call2 (u := .d (strip r c)) (v := .d (pl p)) (S1 := S) (S2 := S) rfl rfl, call_cn, eT, k1]
        have c2 : evX g (.blt .len (.loc 3)) (ρ none none none) S = .ok (.d (.int (s'.1.length : Nat))) S := by
          rw [evX]
          rw [show evX g (.loc 3) (ρ none none none) S = .ok (.d (.list (s'.1.map eD))) S from rfl, b_ok]
          simp only [d_d, Option.bind_some, len_es, Option.map_some, of_some]
        have c3 : boolR (evX g (.cmp .NotEq (.call i_Ptrapped (.cons (.loc 0) (.cons (.loc 1) .nil))) (.blt .len (.loc 3))) (ρ none none none) S) = .ok false S := by
          rw [evX, c1, b_ok, c2, b_ok]
          simp only [cmpU, d_d, Option.bind_some, ne_same (int_sh _), Option.map_some, of_some, boolR, b_ok, asB]
        have c4 : evX g (.cmp .NotEq (.blt .sum (.lc [5, 6] (.cons (.nm 5) (.cons (.nm 6) .nil)) (.val (.loc 3)) .nil e_Lright)) (.loc 4)) (ρ none none none) S = .ok (.d (.bool false)) S := by
          rw [evX, sA, b_ok]
          rw [show evX g (.loc 4) (ρ none none none) S = .ok (.d (.int 2176782336)) S from rfl, b_ok]
          simp only [cmpU, d_d, Option.bind_some, ne_same (int_sh _), Option.map_some, of_some]
        rw [evX, c3, b_ok, if_neg (by decide), c4]
        rfl
      -- each number of steps
      obtain ⟨ρ', S', hloop, z2, e1, e2⟩ := loop_inv (t := .nm 2) (body := fun ρ S => evSs g b_Lright ρ S) (fun i ρ' T => ∃ z2, ρ' = ρ z2 none none ∧ T = S) (rngItems 0 (12 : Int).toNat) 0 (ρ none none none) S ⟨none, rfl, rfl⟩ (fun i u ρ' T hu ⟨z2, e1, e2⟩ => by
        obtain ⟨hi, rfl⟩ := rng_at hu
        subst e1 e2
        rw [show (0 : Int) + (i : Nat) = ((i : Nat) : Int) by omega]
        have hi : i < 12 := hi
        obtain ⟨m1, m2⟩ := k4 i hi
        have hw : wholeB 0 11 (.int (i : Nat)) = true := by
          show decide (0 ≤ ((i : Nat) : Int) ∧ ((i : Nat) : Int) ≤ 11) = true
          rw [decide_eq_true_eq]
          omega
        have eC := chance_ok n T h hP hw m2
        have lw := low_ok (n + 4) T (t := (upTo (i : Nat) s'.1).toNat) wn_pos wn_big
        refine ⟨ρ (some (.d (.int (i : Nat)))) none none, ρ (some (.d (.int (i : Nat)))) none none, T, rfl, ?_, _, rfl, rfl⟩
        have sU := sum_go (g := g) (ρ := ρ (some (.d (.int (i : Nat)))) none none) (S := T) (es := s'.1) rfl hl t_Lright e1_Lright (fun e => decide (e.1 ≤ ((i : Nat) : Int))) (fun e => e.2) (fun x _ => by
          unfold t_Lright evC bnd
          simp only [ρ, wipe, List.set, evX, List.getElem?_cons_succ, List.getElem?_cons_zero, b_ok, cmpU, d_d, Option.bind_some, le_ii, Option.map_some, of_some, truR, tru_b]) (fun x _ => rfl)
        have c1 := ev_call3 (g := g) (f := i_Pchance) (a := .loc 0) (b := .loc 1) (c := .loc 2) (ρ := ρ (some (.d (.int (i : Nat)))) none none) (S := T) (S1 := T) (S2 := T) (S3 := T) (u := .d (strip r c)) (v := .d (pl p)) (w := .d (.int (i : Nat))) rfl rfl rfl
        rw [call_cn, eC] at c1
        have hT : (((upTo (i : Nat) s'.1).toNat : Nat) : Int) = upTo (i : Nat) s'.1 := by omega
        rw [hT] at lw
        have c2 := ev_call2 (g := g) (f := i_Llow) (b := .loc 4) (ρ := ρ (some (.d (.int (i : Nat)))) none none) (S := T) (S2 := T) (v := .d (.int (Wn : Nat))) sU rfl
        rw [call_cn] at c2
        rw [show ((s'.1.filter fun e => decide (e.1 ≤ ((i : Nat) : Int))).map fun e => e.2).sum = upTo (i : Nat) s'.1 from rfl, lw] at c2
        show evSs g b_Lright _ _ = _
        unfold b_Lright
        rw [ss_cons (s_ifF (S1 := T) (by
          rw [evX, c1, b_ok, c2, b_ok]
          simp only [cmpU, d_d, Option.bind_some, ne_same (fD_sh _), Option.map_some, of_some, truR, b_ok, tru_b]))]
        rfl)
      subst e1 e2
      rw [call_at at_Lright rfl]
      show Ev.finish false S'.length (evSs g ir_Lright [some (.d (strip r c)), some (.d (pl p)), none, none, none, none, none] S') = _
      unfold ir_Lright
      have hpar : evS g (.par [3, 4] (.cons (.call i_Lends (.cons (.loc 0) (.cons (.loc 1) .nil))) (.cons (.bin .Mult (.bin .Pow (.con (.int 3)) (.con (.int 12))) (.bin .Pow (.con (.int 2)) (.con (.int 12)))) .nil))) [some (.d (strip r c)), some (.d (pl p)), none, none, none, none, none] S' = .ok (.nx (ρ none none none)) S' := by
        have c1 := ev_call2 (g := g) (f := i_Lends) (a := .loc 0) (b := .loc 1) (ρ := [some (.d (strip r c)), some (.d (pl p)), none, none, none, none, none]) (S := S') (S1 := S') (S2 := S') (u := .d (strip r c)) (v := .d (pl p)) rfl rfl
        rw [call_cn, eE] at c1
        unfold evS evXs
        rw [c1, b_ok]
        unfold evXs
        rw [whole_ev, b_ok]
        rfl
      rw [ss_cons hpar, ss_cons (s_ifF hcond), ss_cons (ev_for (it_rng1 (j := 12) rfl (by decide) (by decide)) hloop)]
      have sM := sum_go (g := g) (ρ := ρ z2 none none) (S := S') (es := s'.1) rfl hl .nil e2_Lright (fun _ => true) (fun e => e.1 * e.2) (fun x _ => rfl) (fun x hx => by
        have hx := k3 x hx
        unfold okE at hx
        simp only [Bool.and_eq_true, decide_eq_true_eq] at hx
        have m1 : mulOk x.1 x.2 = true := mul_small (.inl (smallI_of (by omega) (by omega)))
        unfold e2_Lright bnd
        simp only [ρ, wipe, List.set, evX, List.getElem?_cons_succ, List.getElem?_cons_zero, b_ok, binU, d_d, Option.bind_some, mul_ii m1, Option.map_some, of_some])
      have c1 := ev_call2 (g := g) (f := i_Pmean) (a := .loc 0) (b := .loc 1) (ρ := ρ z2 none none) (S := S') (S1 := S') (S2 := S') (u := .d (strip r c)) (v := .d (pl p)) rfl rfl
      rw [call_cn, eM] at c1
      have c2 := ev_call2 (g := g) (f := i_Llow) (b := .loc 4) (ρ := ρ z2 none none) (S := S') (S2 := S') (v := .d (.int (Wn : Nat))) sM rfl
      have lw := lw (allM s'.1).toNat
      have hT : (((allM s'.1).toNat : Nat) : Int) = allM s'.1 := by omega
      rw [hT] at lw
      rw [call_cn, show ((s'.1.filter fun _ => true).map fun e => e.1 * e.2).sum = allM s'.1 from rfl, lw] at c2
      rw [ss_ret (s_ret (u := .d (.bool true)) (S1 := S') (by
        rw [evX, c1, b_ok, c2, b_ok]
        simp only [cmpU, d_d, Option.bind_some, eq_same (fD_sh _), Option.map_some, of_some]))]
      rw [fin_d, List.take_length]
end K06
end

section
set_option Elab.async false
set_option linter.all false
set_option maxRecDepth 100000
set_option maxHeartbeats 1000000
namespace K06
open PySem Ev
theorem nmStrip : pg.nm x_InvalidStrip = some ("strip value" : Str) := by kernel_rfl
theorem nmPlace : pg.nm x_InvalidPlace = some ("place value" : Str) := by kernel_rfl
theorem nmNumber : pg.nm x_InvalidNumber = some ("number value" : Str) := by kernel_rfl
theorem nmMany : pg.nm x_TooMany = some ("many value" : Str) := by kernel_rfl
abbrev g39 : Cn := cnN tb 39
theorem g39_call : g39.call = callN tb 39 := rfl
theorem g39_low : g39.low = some (callN tb 37) := rfl
theorem g39_nm : g39.nm = pg.nm := rfl
abbrev gLow : Cn := ⟨callN tb 37, none, pg.nm⟩
theorem err_go {e : Ev.X} {ρ : Rho} {S : Store} {k : Nat} {z : Str} (h : evX gLow e ρ S = .exc k S) (hz : pg.nm k = some z) : evX g39 (.err e) ρ S = .ok (.d (.str z)) S := by
  unfold evX
  rw [g39_low]
  dsimp only
  rw [g39_nm, h]
  dsimp only
  rw [hz]
  rfl
theorem box_at (S : Store) (xs : List PyData) : (S ++ [Box.lst xs])[S.length]? = some (.lst xs) := by rw [List.getElem?_append_right (Nat.le_refl _), Nat.sub_self]; rfl
theorem box_set (S : Store) (xs ys : List PyData) : (S ++ [Box.lst xs]).set S.length (.lst ys) = S ++ [Box.lst ys] := by rw [List.set_append_right _ _ (Nat.le_refl _), Nat.sub_self]; rfl
theorem three_line : 3 ≤ line := by decide
/-- three errors in a list -/
theorem tri_ok {e1 e2 e3 rhs : Ev.X} {w : PyData} {a0 a1 a2 a3 a4 a5 a6 a7 : Option U} {S : Store} (h1 : ∀ a7 S, evX g39 e1 [a0, a1, a2, a3, a4, a5, a6, a7] S = .ok (.d w) S) (h2 : ∀ a7 S, evX g39 e2 [a0, a1, a2, a3, a4, a5, a6, a7] S = .ok (.d w) S)
    (h3 : ∀ a7 S, evX g39 e3 [a0, a1, a2, a3, a4, a5, a6, a7] S = .ok (.d w) S) (hr : ∀ a7 S, evX g39 rhs [a0, a1, a2, a3, a4, a5, a6, a7] S = .ok (.d (.list [w, w, w])) S) (hs : SeqAt.shaped (.list [w, w, w]) = true) :
    evSs g39 (.cons (.set 7 (.box (.cons e1 (.cons (.con (.str "")) (.cons (.con (.str "")) .nil))))) (.cons (.seti 7 (.con (.int 1)) e2) (.cons (.seti 7 (.con (.int 2)) e3) (.cons (.iff (.cmp .NotEq (.loc 7) rhs) (.cons (.ret (.con (.bool false))) .nil) .nil) .nil)))) [a0, a1, a2, a3, a4, a5, a6, a7] S =
      .ok (.nx [a0, a1, a2, a3, a4, a5, a6, some (.ref S.length)]) (S ++ [.lst [w, w, w]]) := by
  rw [ss_cons (s_set (u := .ref S.length) (S1 := S ++ [.lst [w, .str "", .str ""]]) (by simp [evX, evXs, h1, datas, three_line]))]
  dsimp only [List.set]
  rw [ss_cons (ρ1 := [a0, a1, a2, a3, a4, a5, a6, some (.ref S.length)]) (S1 := S ++ [.lst [w, w, .str ""]]) (by simp [evS, evX, h2, putL, box_at, box_set, L2.ixN])]
  rw [ss_cons (ρ1 := [a0, a1, a2, a3, a4, a5, a6, some (.ref S.length)]) (S1 := S ++ [.lst [w, w, w]]) (by simp [evS, evX, h3, putL, box_at, box_set, L2.ixN])]
  rw [ss_cons (s_ifF (S1 := S ++ [.lst [w, w, w]]) (by simp [evX, hr, truR, cmpU, d_lst (box_at S [w, w, w]), ne_same hs]))]
  rfl
theorem sm_of {r c : Int} {x : PyData} (h1 : 1 ≤ r) (h2 : r ≤ 3) (h3 : 1 ≤ c) (h4 : r * c ≤ 12) (hx : InS r c x) : ∃ p, x = pl p ∧ Sm r c p := by
  obtain ⟨a, b, rfl, a0, a1, b0, b1⟩ := hx
  exact ⟨(a, b), rfl, h1, h2, h3, h4, by unfold inB; exact decide_eq_true ⟨a0, a1, b0, b1⟩⟩
theorem turn_ok {S : Store} {b : Nat} (hS : Drum S b) {r c : Int} (h1 : 1 ≤ r) (h2 : r ≤ 3) (h3 : 1 ≤ c) (h4 : r * c ≤ 12) (a0 a1 a2 a5 a6 a7 : Option U) :
    ∃ S', evSs g39 b_Llaw [a0, a1, a2, some (.ref b), some (.d (strip r c)), a5, a6, a7] S = .ok (.nx [a0, a1, a2, some (.ref b), some (.d (strip r c)), a5, a6, a7]) S' ∧ Drum S' b := by
  have hc : c ≤ 12 := by
    have : 1 * c ≤ r * c := Int.mul_le_mul_of_nonneg_right h1 (by omega)
    omega
  obtain ⟨ps, p1, p2, p3⟩ := places_ok 38 S h1 h3 (by omega) (by omega) (by omega)
  have hne : ps ≠ [] := by
    rintro rfl
    have : 1 * 1 ≤ r * c := Int.mul_le_mul h1 h3 (by omega) (by omega)
    simp at p3
    omega
  obtain ⟨x, S1, m1, q1, D1, l1, k1⟩ := some_ok 37 hS (.inl rfl) hne (by omega)
  obtain ⟨p, rfl, hsm⟩ := sm_of h1 h2 h3 h4 (p2 x m1)
  have hr := right_ok 33 S1 hsm
  refine ⟨S1, ?_, D1⟩
  have c1 := ev_call1 (g := g39) (f := i_Lplaces) (a := .loc 4) (ρ := [a0, a1, a2, some (.ref b), some (.d (strip r c)), a5, a6, a7]) (S := S) (S1 := S) (u := .d (strip r c)) rfl
  rw [g39_call, p1] at c1
  have c2 := ev_call2 (g := g39) (f := i_Lsome) (a := .loc 3) (ρ := [a0, a1, a2, some (.ref b), some (.d (strip r c)), a5, a6, a7]) (S := S) (S1 := S) (u := .ref b) rfl c1
  rw [g39_call, q1] at c2
  have c3 := ev_call2 (g := g39) (f := i_Lright) (a := .loc 4) (ρ := [a0, a1, a2, some (.ref b), some (.d (strip r c)), a5, a6, a7]) (S := S) (S1 := S) (u := .d (strip r c)) rfl c2
  rw [g39_call, hr] at c3
  unfold b_Llaw
  rw [ss_cons (s_ifF (S1 := S1) (by rw [evX, truR, c3]; rfl))]
  rfl
theorem oddP_ok {r c : Int} (h : stripB (strip r c) = true) {p : PyData} (hp : placeB r c p = false) (S : Store) (a0 a1 a2 a3 a5 a7 : Option U) :
    evSs g39 b1_Llaw [a0, a1, a2, a3, some (.d (strip r c)), a5, some (.d p), a7] S = .ok (.nx [a0, a1, a2, a3, some (.d (strip r c)), a5, some (.d p), some (.ref S.length)]) (S ++ [.lst [.str "place value", .str "place value", .str "place value"]]) := by
  have hsm : ∀ S, callN tb 36 i_Pneed_small [.d (strip r c), .d p] S = .exc x_InvalidPlace S := fun S => by
    have := small_ok 32 S p h
    rw [hp, if_neg (by decide)] at this
    exact this
  unfold b1_Llaw
  refine tri_ok (fun a7 S => err_go ?_ nmPlace) (fun a7 S => err_go ?_ nmPlace) (fun a7 S => err_go ?_ nmPlace) (fun a7 S => ?_) (by kernel_rfl)
  · rw [ev_call2 (u := .d (strip r c)) (v := .d p) (S1 := S) (S2 := S) rfl rfl]
    exact trap_exc 32 S (hsm S)
  · rw [ev_call3 (u := .d (strip r c)) (v := .d p) (w := .d .none) (S1 := S) (S2 := S) (S3 := S) rfl rfl rfl]
    exact chance_exc 32 S (hsm S)
  · rw [ev_call2 (u := .d (strip r c)) (v := .d p) (S1 := S) (S2 := S) rfl rfl]
    exact mean_exc 32 S (hsm S)
  · kernel_rfl
theorem oddS_ok {s : PyData} (h : stripB s = false) (S : Store) (a0 a1 a2 a3 a4 a5 a7 : Option U) :
    evSs g39 b3_Llaw [a0, a1, a2, a3, a4, a5, some (.d s), a7] S = .ok (.nx [a0, a1, a2, a3, a4, a5, some (.d s), some (.ref S.length)]) (S ++ [.lst [.str "strip value", .str "strip value", .str "strip value"]]) := by
  have hsm : ∀ S, callN tb 36 i_Pneed_small [.d s, .d .none] S = .exc x_InvalidStrip S := fun S => small_bad 32 S _ h
  unfold b3_Llaw
  refine tri_ok (fun a7 S => err_go ?_ nmStrip) (fun a7 S => err_go ?_ nmStrip) (fun a7 S => err_go ?_ nmStrip) (fun a7 S => ?_) (by kernel_rfl)
  · rw [ev_call2 (u := .d s) (v := .d .none) (S1 := S) (S2 := S) rfl rfl]
    exact trap_exc 32 S (hsm S)
  · rw [ev_call3 (u := .d s) (v := .d .none) (w := .d .none) (S1 := S) (S2 := S) (S3 := S) rfl rfl rfl]
    exact chance_exc 32 S (hsm S)
  · rw [ev_call2 (u := .d s) (v := .d .none) (S1 := S) (S2 := S) rfl rfl]
    exact mean_exc 32 S (hsm S)
  · kernel_rfl
theorem oddN_ok {r c : Int} (h1 : 1 ≤ r) (h2 : r ≤ 3) (h3 : 1 ≤ c) (h4 : r * c ≤ 12) {q : PyData} (hq : wholeB 0 11 q = false) (S : Store) (a0 a1 a2 a3 a5 a7 : Option U) :
    evSs g39 b2_Llaw [a0, a1, a2, a3, some (.d (strip r c)), a5, some (.d q), a7] S = .ok (.nx [a0, a1, a2, a3, some (.d (strip r c)), a5, some (.d q), a7]) S := by
  obtain ⟨p, hp, hsm⟩ := sm_of h1 h2 h3 h4 (x := .tuple [.int 0, .int 0]) ⟨0, 0, rfl, by omega, by omega, by omega, by omega⟩
  have hs := hsm.small 32 S
  rw [← hp] at hs
  have e := err_go (e := .call i_Pchance (.cons (.loc 4) (.cons (.tup (.cons (.con (.int 0)) (.cons (.con (.int 0)) .nil))) (.cons (.loc 6) .nil)))) (ρ := [a0, a1, a2, a3, some (.d (strip r c)), a5, some (.d q), a7]) (S := S) (by
    rw [ev_call3 (u := .d (strip r c)) (v := .d (.tuple [.int 0, .int 0])) (w := .d q) (S1 := S) (S2 := S) (S3 := S) rfl rfl rfl]
    exact chance_num 32 S hs hq) nmNumber
  unfold b2_Llaw
  rw [ss_cons (s_ifF (S1 := S) (by
    rw [evX, e, b_ok]
    simp [evX, truR, cmpU, ne_same (show SeqAt.shaped (.str "number value") = true by kernel_rfl)]))]
  rfl
end K06
end

section
set_option Elab.async false
set_option linter.all false
set_option maxRecDepth 100000
set_option maxHeartbeats 1000000
namespace K06
open PySem Ev
theorem few_many (S : Store) {r c : Int} (hr : 0 ≤ r) (hr3 : r ≤ 3) (h : ¬ r * c ≤ 12) : callN tb 36 i_Pneed_few [.d (strip r c)] S = .exc x_TooMany S := by
  rw [few_ok 35 S hr hr3, if_neg h]
theorem small_yes (S : Store) {r c : Int} {p : PyData} (h : stripB (strip r c) = true) (hp : placeB r c p = true) : callN tb 36 i_Pneed_small [.d (strip r c), .d p] S = .ok (.d .none) S := by
  rw [small_ok 32 S p h, hp, if_pos rfl]
def bFour : Sts := (.cons (.set 7 (.box (.cons (.err (.call i_Ptrapped (.cons (.tup (.cons (.con (.int 1)) (.cons (.con (.int 13)) .nil))) (.cons (.tup (.cons (.con (.int 0)) (.cons (.con (.int 0)) .nil))) .nil)))) (.cons (.con (.str "")) (.cons (.con (.str "")) (.cons (.con (.str "")) .nil)))))) (.cons (.seti 7 (.con (.int 1)) (.err (.call i_Pchance (.cons (.tup (.cons (.con (.int 3)) (.cons (.con (.int 5)) .nil))) (.cons (.tup (.cons (.con (.int 0)) (.cons (.con (.int 0)) .nil))) (.cons (.con (.int 1)) .nil)))))) (.cons (.seti 7 (.con (.int 2)) (.err (.call i_Pmean (.cons (.tup (.cons (.con (.int 2)) (.cons (.con (.int 7)) .nil))) (.cons (.tup (.cons (.con (.int 6)) (.cons (.con (.int 1)) .nil))) .nil))))) (.cons (.seti 7 (.con (.int 3)) (.err (.call i_Pchance (.cons (.tup (.cons (.con (.int 3)) (.cons (.con (.int 5)) .nil))) (.cons (.tup (.cons (.con (.int 0)) (.cons (.con (.int 0)) .nil))) (.cons (.con (.int 12)) .nil)))))) (.cons (.iff (.cmp .NotEq (.loc 7) (.bin .Add (.bin .Mult (.lst (.cons (.con (.str "many value")) .nil)) (.con (.int 3))) (.lst (.cons (.con (.str "number value")) .nil)))) (.cons (.ret (.con (.bool false))) .nil) .nil) .nil)))))
theorem quad_ok {e1 e2 e3 e4 rhs : Ev.X} {w1 w2 w3 w4 : PyData} {a0 a1 a2 a3 a4 a5 a6 a7 : Option U} {S : Store} (h1 : ∀ a7 S, evX g39 e1 [a0, a1, a2, a3, a4, a5, a6, a7] S = .ok (.d w1) S) (h2 : ∀ a7 S, evX g39 e2 [a0, a1, a2, a3, a4, a5, a6, a7] S = .ok (.d w2) S)
    (h3 : ∀ a7 S, evX g39 e3 [a0, a1, a2, a3, a4, a5, a6, a7] S = .ok (.d w3) S) (h4 : ∀ a7 S, evX g39 e4 [a0, a1, a2, a3, a4, a5, a6, a7] S = .ok (.d w4) S) (hr : ∀ a7 S, evX g39 rhs [a0, a1, a2, a3, a4, a5, a6, a7] S = .ok (.d (.list [w1, w2, w3, w4])) S) (hs : SeqAt.shaped (.list [w1, w2, w3, w4]) = true) :
    evSs g39 (.cons (.set 7 (.box (.cons e1 (.cons (.con (.str "")) (.cons (.con (.str "")) (.cons (.con (.str "")) .nil)))))) (.cons (.seti 7 (.con (.int 1)) e2) (.cons (.seti 7 (.con (.int 2)) e3) (.cons (.seti 7 (.con (.int 3)) e4) (.cons (.iff (.cmp .NotEq (.loc 7) rhs) (.cons (.ret (.con (.bool false))) .nil) .nil) .nil))))) [a0, a1, a2, a3, a4, a5, a6, a7] S =
      .ok (.nx [a0, a1, a2, a3, a4, a5, a6, some (.ref S.length)]) (S ++ [.lst [w1, w2, w3, w4]]) := by
  rw [ss_cons (s_set (u := .ref S.length) (S1 := S ++ [.lst [w1, .str "", .str "", .str ""]]) (by simp [evX, evXs, h1, datas, show 4 ≤ line by decide]))]
  dsimp only [List.set]
  rw [ss_cons (ρ1 := [a0, a1, a2, a3, a4, a5, a6, some (.ref S.length)]) (S1 := S ++ [.lst [w1, w2, .str "", .str ""]]) (by simp [evS, evX, h2, putL, box_at, box_set, L2.ixN])]
  rw [ss_cons (ρ1 := [a0, a1, a2, a3, a4, a5, a6, some (.ref S.length)]) (S1 := S ++ [.lst [w1, w2, w3, .str ""]]) (by simp [evS, evX, h3, putL, box_at, box_set, L2.ixN])]
  rw [ss_cons (ρ1 := [a0, a1, a2, a3, a4, a5, a6, some (.ref S.length)]) (S1 := S ++ [.lst [w1, w2, w3, w4]]) (by simp [evS, evX, h4, putL, box_at, box_set, L2.ixN])]
  rw [ss_cons (s_ifF (S1 := S ++ [.lst [w1, w2, w3, w4]]) (by simp [evX, hr, truR, cmpU, d_lst (box_at S [w1, w2, w3, w4]), ne_same hs]))]
  rfl
theorem four_ok (S : Store) (a0 a1 a2 a3 a4 a5 a6 a7 : Option U) : ∃ S', evSs g39 bFour [a0, a1, a2, a3, a4, a5, a6, a7] S = .ok (.nx [a0, a1, a2, a3, a4, a5, a6, some (.ref S.length)]) S' := by
  refine ⟨S ++ [.lst [.str "many value", .str "many value", .str "many value", .str "number value"]], ?_⟩
  unfold bFour
  refine quad_ok (fun a7 S => err_go ?_ nmMany) (fun a7 S => err_go ?_ nmMany) (fun a7 S => err_go ?_ nmMany) (fun a7 S => err_go ?_ nmNumber) (fun a7 S => ?_) (by kernel_rfl)
  · rw [ev_call2 (u := .d (strip 1 13)) (v := .d (.tuple [.int 0, .int 0])) (S1 := S) (S2 := S) rfl rfl]
    exact trap_many 32 S (small_yes S (r := 1) (c := 13) (p := .tuple [.int 0, .int 0]) (by decide) (by decide)) (few_many S (r := 1) (c := 13) (by decide) (by decide) (by decide))
  · rw [ev_call3 (u := .d (strip 3 5)) (v := .d (.tuple [.int 0, .int 0])) (w := .d (.int 1)) (S1 := S) (S2 := S) (S3 := S) rfl rfl rfl]
    exact chance_many 32 S (w := .int 1) (small_yes S (r := 3) (c := 5) (p := .tuple [.int 0, .int 0]) (by decide) (by decide)) (by decide) (few_many S (r := 3) (c := 5) (by decide) (by decide) (by decide))
  · rw [ev_call2 (u := .d (strip 2 7)) (v := .d (.tuple [.int 6, .int 1])) (S1 := S) (S2 := S) rfl rfl]
    exact mean_many 32 S (small_yes S (r := 2) (c := 7) (p := .tuple [.int 6, .int 1]) (by decide) (by decide)) (few_many S (r := 2) (c := 7) (by decide) (by decide) (by decide))
  · rw [ev_call3 (u := .d (strip 3 5)) (v := .d (.tuple [.int 0, .int 0])) (w := .d (.int 12)) (S1 := S) (S2 := S) (S3 := S) rfl rfl rfl]
    exact chance_num 32 S (w := .int 12) (small_yes S (r := 3) (c := 5) (p := .tuple [.int 0, .int 0]) (by decide) (by decide)) (by decide)
  · kernel_rfl
theorem cell_ok (S : Store) (cell : Int) (a0 a2 a3 a4 a5 a6 a7 : Option U) :
    ∃ b2 b3 b4 b5 b6 b7 S', evSs g39 b4_Llaw [a0, some (.d (.int cell)), a2, a3, a4, a5, a6, a7] S = .ok (.nx [a0, some (.d (.int cell)), b2, b3, b4, b5, b6, b7]) S' := by
  obtain ⟨S1, p1, D1, _, _⟩ := drum_ok 38 S cell
  obtain ⟨r, c, S2, r1, r3, c1, rc, p2, D2, _, _⟩ := strip_ok 37 D1 (m := 12) (by decide) (by decide)
  have hc : c ≤ 12 := by
    have : 1 * c ≤ r * c := Int.mul_le_mul_of_nonneg_right r1 (by omega)
    omega
  have hst : stripB (strip r c) = true := strip_fit r1 r3 c1 (by omega)
  obtain ⟨ρ3, S3, h3, x5, e3, D3⟩ := loop_inv (t := .nm 5) (body := fun ρ S => evSs g39 b_Llaw ρ S) (fun i ρ T => ∃ x5, ρ = [a0, some (.d (.int cell)), a2, some (.ref S.length), some (.d (strip r c)), x5, a6, a7] ∧ Drum T S.length)
    (rngItems 0 (2 : Int).toNat) 0 [a0, some (.d (.int cell)), a2, some (.ref S.length), some (.d (strip r c)), a5, a6, a7] S2 ⟨_, rfl, D2⟩ (fun i u ρ T hu ⟨x5, e3, D3⟩ => by
      obtain ⟨hi, rfl⟩ := rng_at hu
      subst e3
      obtain ⟨T', q, D'⟩ := turn_ok D3 r1 r3 c1 rc a0 (some (.d (.int cell))) a2 (some (.d (.int (0 + (i : Nat))))) a6 a7
      exact ⟨_, _, T', rfl, q, _, rfl, D'⟩)
  subst e3
  obtain ⟨ρ4, S4, h4, x6, x7, e4⟩ := loop_inv (t := .nm 6) (body := fun ρ S => evSs g39 b1_Llaw ρ S) (fun i ρ T => ∃ x6 x7, ρ = [a0, some (.d (.int cell)), a2, some (.ref S.length), some (.d (strip r c)), x5, x6, x7])
    ([PyData.none, .tuple [], .tuple [.int 0, .int r], .tuple [.int c, .int 0], .tuple [.int (-1), .int 0], .list [.int 0, .int 0], .tuple [.bool true, .int 0]].map U.d) 0 [a0, some (.d (.int cell)), a2, some (.ref S.length), some (.d (strip r c)), x5, a6, a7] S3 ⟨_, _, rfl⟩ (fun i u ρ T hu ⟨x6, x7, e4⟩ => by
      subst e4
      obtain ⟨p, rfl, hp⟩ : ∃ p, u = .d p ∧ placeB r c p = false := by
        match i, hu with
        | 0, hu => cases hu; exact ⟨_, rfl, rfl⟩
        | 1, hu => cases hu; exact ⟨_, rfl, rfl⟩
        | 2, hu =>
          cases hu
          refine ⟨_, rfl, ?_⟩
          show (decide (0 ≤ (0 : Int) ∧ (0 : Int) ≤ c - 1) && decide (0 ≤ r ∧ r ≤ r - 1)) = false
          rw [decide_eq_false (p := 0 ≤ r ∧ r ≤ r - 1) (by omega), Bool.and_false]
        | 3, hu =>
          cases hu
          refine ⟨_, rfl, ?_⟩
          show (decide (0 ≤ c ∧ c ≤ c - 1) && decide (0 ≤ (0 : Int) ∧ (0 : Int) ≤ r - 1)) = false
          rw [decide_eq_false (p := 0 ≤ c ∧ c ≤ c - 1) (by omega), Bool.false_and]
        | 4, hu =>
          cases hu
          refine ⟨_, rfl, ?_⟩
          show (decide (0 ≤ (-1 : Int) ∧ (-1 : Int) ≤ c - 1) && decide (0 ≤ (0 : Int) ∧ (0 : Int) ≤ r - 1)) = false
          rw [decide_eq_false (p := 0 ≤ (-1 : Int) ∧ (-1 : Int) ≤ c - 1) (by omega), Bool.false_and]
        | 5, hu => cases hu; exact ⟨_, rfl, rfl⟩
        | 6, hu => cases hu; exact ⟨_, rfl, rfl⟩
      exact ⟨_, _, _, rfl, oddP_ok hst hp T a0 _ a2 _ x5 x7, _, _, rfl⟩)
  subst e4
  obtain ⟨ρ5, S5, h5, y6, e5⟩ := loop_inv (t := .nm 6) (body := fun ρ S => evSs g39 b2_Llaw ρ S) (fun i ρ T => ∃ x6, ρ = [a0, some (.d (.int cell)), a2, some (.ref S.length), some (.d (strip r c)), x5, x6, x7])
    ([PyData.none, .int (-1), .int 12, .bool true, .str "1"].map U.d) 0 [a0, some (.d (.int cell)), a2, some (.ref S.length), some (.d (strip r c)), x5, x6, x7] S4 ⟨_, rfl⟩ (fun i u ρ T hu ⟨x6, e5⟩ => by
      subst e5
      obtain ⟨p, rfl, hp⟩ : ∃ p, u = .d p ∧ wholeB 0 11 p = false := by
        match i, hu with
        | 0, hu => cases hu; exact ⟨_, rfl, rfl⟩
        | 1, hu => cases hu; exact ⟨_, rfl, by decide⟩
        | 2, hu => cases hu; exact ⟨_, rfl, by decide⟩
        | 3, hu => cases hu; exact ⟨_, rfl, rfl⟩
        | 4, hu => cases hu; exact ⟨_, rfl, rfl⟩
      exact ⟨_, _, T, rfl, oddN_ok r1 r3 c1 rc hp T a0 _ a2 _ x5 x7, _, rfl⟩)
  subst e5
  obtain ⟨ρ6, S6, h6, z6, z7, e6⟩ := loop_inv (t := .nm 6) (body := fun ρ S => evSs g39 b3_Llaw ρ S) (fun i ρ T => ∃ x6 x7, ρ = [a0, some (.d (.int cell)), a2, some (.ref S.length), some (.d (strip r c)), x5, x6, x7])
    ([PyData.none, strip 0 1, strip 4 1].map U.d) 0 [a0, some (.d (.int cell)), a2, some (.ref S.length), some (.d (strip r c)), x5, y6, x7] S5 ⟨_, _, rfl⟩ (fun i u ρ T hu ⟨x6, x7, e6⟩ => by
      subst e6
      obtain ⟨p, rfl, hp⟩ : ∃ p, u = .d p ∧ stripB p = false := by
        match i, hu with
        | 0, hu => cases hu; exact ⟨_, rfl, rfl⟩
        | 1, hu => cases hu; exact ⟨_, rfl, by decide⟩
        | 2, hu => cases hu; exact ⟨_, rfl, by decide⟩
      exact ⟨_, _, _, rfl, oddS_ok hp T a0 _ a2 _ _ x5 x7, _, _, rfl⟩)
  subst e6
  obtain ⟨S7, h7⟩ := four_ok S6 a0 (some (.d (.int cell))) a2 (some (.ref S.length)) (some (.d (strip r c))) x5 z6 z7
  refine ⟨a2, some (.ref S.length), some (.d (strip r c)), x5, z6, some (.ref S6.length), S7, ?_⟩
  unfold b4_Llaw
  have q1 := ev_call2 (g := g39) (f := i_Ldrum) (a := .loc 1) (b := .con (.int 9)) (ρ := [a0, some (.d (.int cell)), a2, a3, a4, a5, a6, a7]) (S := S) (S1 := S) (S2 := S) (u := .d (.int cell)) (v := .d (.int 9)) rfl rfl
  rw [g39_call, p1] at q1
  rw [ss_cons (s_set q1)]
  dsimp only [List.set]
  have q2 := ev_call2 (g := g39) (f := i_Lstrip) (a := .loc 3) (b := .con (.int 12)) (ρ := [a0, some (.d (.int cell)), a2, some (.ref S.length), a4, a5, a6, a7]) (S := S1) (S1 := S1) (S2 := S1) (u := .ref S.length) (v := .d (.int 12)) rfl rfl
  rw [g39_call, p2] at q2
  rw [ss_cons (s_set q2)]
  dsimp only [List.set]
  rw [ss_cons (ev_for (it_rng1 (j := 2) rfl (by decide) (by decide)) h3)]
  rw [ss_cons (ev_for (it_tup (S1 := S3) (by simp [evX, evXs, datas, two_line, show 7 ≤ line by decide])) h4)]
  rw [ss_cons (ev_for (it_tup (S1 := S4) (by simp [evX, evXs, datas, show 5 ≤ line by decide])) h5)]
  rw [ss_cons (ev_for (it_tup (S1 := S5) (by simp [evX, evXs, datas, two_line, three_line])) h6)]
  exact h7
end K06
end

section
set_option Elab.async false
set_option linter.all false
set_option maxRecDepth 100000
set_option maxHeartbeats 1000000
namespace K06
open PySem Ev
def cT (r c : Int) (p : Pl) (l : Nat) : Bool := match endsP r c p with
  | some s => decide (s.1.length = l)
  | none => false
def cC (r c : Int) (p : Pl) (k : Int) (f : Fr) : Bool := match endsP r c p with
  | some s => decide (chF k s.1 (0, 1) = some f)
  | none => false
def cM (r c : Int) (p : Pl) (f : Fr) : Bool := match endsP r c p with
  | some s => decide (meF s.1 (0, 1) = some f)
  | none => false
theorem tr {r c : Int} {p : Pl} {l : Nat} (h : cT r c p l = true) (m : Sm r c p) (S : Store) : callN tb 39 i_Ptrapped [.d (strip r c), .d (pl p)] S = .ok (.d (.int (l : Nat))) S := by
  unfold cT at h
  split at h
  · rename_i s hs
    rw [trap_ok 34 S m hs, of_decide_eq_true h]
  · cases h
theorem ch {r c : Int} {p : Pl} {k : Int} {f : Fr} (h : cC r c p k f = true) (hk : wholeB 0 11 (.int k) = true) (m : Sm r c p) (S : Store) : callN tb 39 i_Pchance [.d (strip r c), .d (pl p), .d (.int k)] S = .ok (.d (fD f)) S := by
  unfold cC at h
  split at h
  · rename_i s hs
    exact chance_ok 34 S m hs hk (of_decide_eq_true h)
  · cases h
theorem me {r c : Int} {p : Pl} {f : Fr} (h : cM r c p f = true) (m : Sm r c p) (S : Store) : callN tb 39 i_Pmean [.d (strip r c), .d (pl p)] S = .ok (.d (fD f)) S := by
  unfold cM at h
  split at h
  · rename_i s hs
    exact mean_ok 34 S m hs (of_decide_eq_true h)
  · cases h
theorem m23 : Sm 2 3 (0, 0) := ⟨by decide, by decide, by decide, by decide, by decide⟩
theorem m15a : Sm 1 5 (2, 0) := ⟨by decide, by decide, by decide, by decide, by decide⟩
theorem m15b : Sm 1 5 (1, 0) := ⟨by decide, by decide, by decide, by decide, by decide⟩
theorem m11 : Sm 1 1 (0, 0) := ⟨by decide, by decide, by decide, by decide, by decide⟩
theorem m112 : Sm 1 12 (0, 0) := ⟨by decide, by decide, by decide, by decide, by decide⟩
theorem lst3 {g : Cn} {e1 e2 e3 : Ev.X} {ρ : Rho} {S : Store} {p1 p2 p3 : PyData} (h1 : evX g e1 ρ S = .ok (.d p1) S) (h2 : evX g e2 ρ S = .ok (.d p2) S) (h3 : evX g e3 ρ S = .ok (.d p3) S) : evX g (.lst (.cons e1 (.cons e2 (.cons e3 .nil)))) ρ S = .ok (.d (.list [p1, p2, p3])) S := by
  simp only [evX, evXs, h1, h2, h3, b_ok, datas, Option.map_some, Option.bind_some, List.length_cons, List.length_nil]
  rw [if_pos (show 0 + 1 + 1 + 1 ≤ line by decide)]
  rfl
theorem cmp_ne {g : Cn} {a b : Ev.X} {ρ : Rho} {S : Store} {p : PyData} (ha : evX g a ρ S = .ok (.d p) S) (hb : evX g b ρ S = .ok (.d p) S) (hs : SeqAt.shaped p = true) : evX g (.cmp .NotEq a b) ρ S = .ok (.d (.bool false)) S := by
  rw [evX, ha, b_ok, hb, b_ok]
  simp only [cmpU, d_d, Option.bind_some, ne_same hs, Option.map_some, of_some]
theorem cmp_eq {g : Cn} {a b : Ev.X} {ρ : Rho} {S : Store} {p : PyData} (ha : evX g a ρ S = .ok (.d p) S) (hb : evX g b ρ S = .ok (.d p) S) (hs : SeqAt.shaped p = true) : evX g (.cmp .Eq a b) ρ S = .ok (.d (.bool true)) S := by
  rw [evX, ha, b_ok, hb, b_ok]
  simp only [cmpU, d_d, Option.bind_some, eq_same hs, Option.map_some, of_some]
theorem if_no {g : Cn} {c : Ev.X} {a r : Sts} {ρ : Rho} {S : Store} (h : evX g c ρ S = .ok (.d (.bool false)) S) : evSs g (.cons (.iff c a .nil) r) ρ S = evSs g r ρ S := ss_cons (s_ifF (by rw [h]; rfl))
theorem plain : Plain := by
  intro ns hn hbits
  have hN : ns.length + 1 ≤ line := by show _ ≤ 16777216; omega
  let xs : List PyData := ((0 :: ns).take 6).map .int
  obtain ⟨ρ', S, h1, a1, a2, a3, a4, a5, a6, a7, e1⟩ := loop_inv (t := .nm 1) (body := fun ρ S => evSs g39 b4_Llaw ρ S) (fun i ρ S' => ∃ a1 a2 a3 a4 a5 a6 a7, ρ = [some (.scr ns), a1, a2, a3, a4, a5, a6, a7])
    (xs.map U.d) 0 [some (.scr ns), none, none, none, none, none, none, none] [] ⟨_, _, _, _, _, _, _, rfl⟩ (fun i u ρ S' hu ⟨a1, a2, a3, a4, a5, a6, a7, e1⟩ => by
      subst e1
      rw [List.getElem?_map] at hu
      obtain ⟨p, hp, rfl⟩ := map_some hu
      obtain ⟨cell, _, rfl⟩ := List.mem_map.mp (List.mem_of_getElem? hp)
      obtain ⟨b2, b3, b4, b5, b6, b7, S4, q⟩ := cell_ok S' cell (some (.scr ns)) a2 a3 a4 a5 a6 a7
      exact ⟨_, _, S4, rfl, q, _, _, _, _, _, _, _, rfl⟩)
  subst e1
  refine ⟨[], ?_⟩
  show callN tb (39 + 1) i_Llaw [.scr ns] [] = _
  rw [call_at at_Llaw rfl]
  show Ev.finish false 0 (evSs g39 ir_Llaw [some (.scr ns), none, none, none, none, none, none, none] []) = _
  unfold ir_Llaw
  have hit : evX g39 (.slc (.bin .Add (.lst (.cons (.con (.int 0)) .nil)) (.loc 0)) .nil (.cons (.con (.int 6)) .nil)) [some (.scr ns), none, none, none, none, none, none, none] [] = .ok (.d (.list xs)) [] := by
    have e2 : slcD (.list (.int 0 :: ns.map .int)) none (some 6) = some (.list xs) := by
      show some (PyData.list (cutD _ none (some 6))) = _
      rw [cutD_to (by decide)]
      show some (PyData.list ((((0 : Int) :: ns).map PyData.int).take 6)) = _
      rw [← List.map_take]
    have e3 : 1 + ns.length ≤ line := by omega
    simp [evX, evXs, datas, show 1 ≤ line by decide, binU, e2, optI, hN, e3]
  rw [ss_cons (ev_for (it_list hit) h1)]
  rw [ss_cons (s_set (u := .d (strip 2 3)) (S1 := S) (by kernel_rfl))]
  dsimp only [List.set]
  let ρ : Rho := [some (.scr ns), a1, some (.d (strip 2 3)), a3, a4, a5, a6, a7]
  have t1 : evX g39 (.call i_Ptrapped (.cons (.loc 2) (.cons (.tup (.cons (.con (.int 0)) (.cons (.con (.int 0)) .nil))) .nil))) ρ S = .ok (.d (.int 5)) S := by
    rw [ev_call2 (u := .d (strip 2 3)) (v := .d (pl (0, 0))) (S1 := S) (S2 := S) rfl rfl, g39_call]
    exact (tr (l := 5) (by decide +kernel) m23 S).trans rfl
  have t2 : evX g39 (.call i_Ptrapped (.cons (.tup (.cons (.con (.int 1)) (.cons (.con (.int 5)) .nil))) (.cons (.tup (.cons (.con (.int 2)) (.cons (.con (.int 0)) .nil))) .nil))) ρ S = .ok (.d (.int 2)) S := by
    rw [ev_call2 (u := .d (strip 1 5)) (v := .d (pl (2, 0))) (S1 := S) (S2 := S) rfl rfl, g39_call]
    exact (tr (l := 2) (by decide +kernel) m15a S).trans rfl
  have t3 : evX g39 (.call i_Ptrapped (.cons (.tup (.cons (.con (.int 1)) (.cons (.con (.int 1)) .nil))) (.cons (.tup (.cons (.con (.int 0)) (.cons (.con (.int 0)) .nil))) .nil))) ρ S = .ok (.d (.int 1)) S := by
    rw [ev_call2 (u := .d (strip 1 1)) (v := .d (pl (0, 0))) (S1 := S) (S2 := S) rfl rfl, g39_call]
    exact (tr (l := 1) (by decide +kernel) m11 S).trans rfl
  have s1 : SeqAt.shaped (.list [.int 5, .int 2, .int 1]) = true := by kernel_rfl
  rw [if_no (cmp_ne (lst3 t1 t2 t3) (lst3 rfl rfl rfl) s1)]
  have c1 : evX g39 (.call i_Pchance (.cons (.tup (.cons (.con (.int 1)) (.cons (.con (.int 5)) .nil))) (.cons (.tup (.cons (.con (.int 1)) (.cons (.con (.int 0)) .nil))) (.cons (.con (.int 1)) .nil)))) ρ S = .ok (.d (fD (1, 2))) S := by
    rw [ev_call3 (u := .d (strip 1 5)) (v := .d (pl (1, 0))) (w := .d (.int 1)) (S1 := S) (S2 := S) (S3 := S) rfl rfl rfl, g39_call]
    exact (ch (by decide +kernel) (by decide) m15b S).trans rfl
  have c2 : evX g39 (.call i_Pchance (.cons (.tup (.cons (.con (.int 1)) (.cons (.con (.int 5)) .nil))) (.cons (.tup (.cons (.con (.int 1)) (.cons (.con (.int 0)) .nil))) (.cons (.con (.int 2)) .nil)))) ρ S = .ok (.d (fD (1, 2))) S := by
    rw [ev_call3 (u := .d (strip 1 5)) (v := .d (pl (1, 0))) (w := .d (.int 2)) (S1 := S) (S2 := S) (S3 := S) rfl rfl rfl, g39_call]
    exact (ch (by decide +kernel) (by decide) m15b S).trans rfl
  have c3 : evX g39 (.call i_Pchance (.cons (.loc 2) (.cons (.tup (.cons (.con (.int 0)) (.cons (.con (.int 0)) .nil))) (.cons (.con (.int 5)) .nil)))) ρ S = .ok (.d (fD (1, 1))) S := by
    rw [ev_call3 (u := .d (strip 2 3)) (v := .d (pl (0, 0))) (w := .d (.int 5)) (S1 := S) (S2 := S) (S3 := S) rfl rfl rfl, g39_call]
    exact (ch (by decide +kernel) (by decide) m23 S).trans rfl
  have s2 : SeqAt.shaped (.list [fD (1, 2), fD (1, 2), fD (1, 1)]) = true := by kernel_rfl
  rw [if_no (cmp_ne (lst3 c1 c2 c3) (lst3 rfl rfl rfl) s2)]
  have c4 : evX g39 (.call i_Pchance (.cons (.loc 2) (.cons (.tup (.cons (.con (.int 0)) (.cons (.con (.int 0)) .nil))) (.cons (.con (.int 3)) .nil)))) ρ S = .ok (.d (fD (1, 8))) S := by
    rw [ev_call3 (u := .d (strip 2 3)) (v := .d (pl (0, 0))) (w := .d (.int 3)) (S1 := S) (S2 := S) (S3 := S) rfl rfl rfl, g39_call]
    exact (ch (by decide +kernel) (by decide) m23 S).trans rfl
  have c5 : evX g39 (.call i_Pchance (.cons (.tup (.cons (.con (.int 1)) (.cons (.con (.int 12)) .nil))) (.cons (.tup (.cons (.con (.int 0)) (.cons (.con (.int 0)) .nil))) (.cons (.con (.int 10)) .nil)))) ρ S = .ok (.d (fD (0, 1))) S := by
    rw [ev_call3 (u := .d (strip 1 12)) (v := .d (pl (0, 0))) (w := .d (.int 10)) (S1 := S) (S2 := S) (S3 := S) rfl rfl rfl, g39_call]
    exact (ch (by decide +kernel) (by decide) m112 S).trans rfl
  rw [if_no (by
    rw [evX, cmp_ne c4 (b := .tup (.cons (.con (.int 1)) (.cons (.con (.int 8)) .nil))) rfl (fD_sh _)]
    rw [show boolR (R.ok (U.d (.bool false)) S) = .ok false S from rfl, b_ok, if_neg (by decide)]
    exact cmp_ne c5 rfl (fD_sh _))]
  have e1 : evX g39 (.call i_Pmean (.cons (.tup (.cons (.con (.int 1)) (.cons (.con (.int 5)) .nil))) (.cons (.tup (.cons (.con (.int 1)) (.cons (.con (.int 0)) .nil))) .nil))) ρ S = .ok (.d (fD (2, 1))) S := by
    rw [ev_call2 (u := .d (strip 1 5)) (v := .d (pl (1, 0))) (S1 := S) (S2 := S) rfl rfl, g39_call]
    exact (me (by decide +kernel) m15b S).trans rfl
  have e2 : evX g39 (.call i_Pmean (.cons (.loc 2) (.cons (.tup (.cons (.con (.int 0)) (.cons (.con (.int 0)) .nil))) .nil))) ρ S = .ok (.d (fD (37, 8))) S := by
    rw [ev_call2 (u := .d (strip 2 3)) (v := .d (pl (0, 0))) (S1 := S) (S2 := S) rfl rfl, g39_call]
    exact (me (by decide +kernel) m23 S).trans rfl
  have e3 : evX g39 (.call i_Pmean (.cons (.tup (.cons (.con (.int 1)) (.cons (.con (.int 1)) .nil))) (.cons (.tup (.cons (.con (.int 0)) (.cons (.con (.int 0)) .nil))) .nil))) ρ S = .ok (.d (fD (0, 1))) S := by
    rw [ev_call2 (u := .d (strip 1 1)) (v := .d (pl (0, 0))) (S1 := S) (S2 := S) rfl rfl, g39_call]
    exact (me (by decide +kernel) m11 S).trans rfl
  have s3 : SeqAt.shaped (.list [fD (2, 1), fD (37, 8), fD (0, 1)]) = true := by kernel_rfl
  rw [ss_ret (s_ret (cmp_eq (lst3 e1 e2 e3) (lst3 rfl rfl rfl) s3))]
  rfl
end K06
end

theorem PySem.Challenge.cw_stripwalks_k06_whole_walks_that_are_trap_holds : PySem.Challenge.rw_stripwalks_k06_whole_walks_that_are_trap.Holds := by
  exact K06.holds_of K06.plain
