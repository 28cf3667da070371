import PyProof.Rows.All
import Wide.All
import OpenK.AllK
import Wide.FinOn
import HandS.ForMost
import HandS.IsInst
import HandS.Flow
import HandS.Wide
import HandS.Style
import HandS.Deep
import HandS.More
import HandS.Text
import HandS.Zip
import HandS.Conv
import HandS.SetFor
import HandS.RaiseMore
import HandS.Exc
import HandS.Words
import HandS.NoneIn
import HandS.Walk
import KE.GoesEnum
import HandS.Comp
import HandS.Ends
import HandS.Iter
import HandS.Defaults
import PyProof.EqKinds
import HandS.Dict
import PyProof.NeKinds
import PyProof.NeData
import HandS.SortInts
import HandS.Strs
import HandS.Set
import PySem.Challenge.RW_howfarback_k05_whole_names_do_not_matter
set_option Elab.async false
set_option linter.all false
set_option maxRecDepth 100000
set_option maxHeartbeats 4000000
/-! DW: Python values as trees, and the meaning of a def's body over them (no heap in sight). -/
namespace DL
open PySem

/-- a value as a tree; obj: a mutable object by its address; scr: the law's script -/
inductive D where
  | non
  | bl (b : Bool)
  | int (i : Int)
  | str (x : Str)
  | lst (xs : List D)
  | tup (xs : List D)
  | dct (kvs : List (L2.Key × D))
  | dcT (kvs : List (List L2.Key × D))
  | obj (a : Nat)
  | scr (ns : List Int)
/-- what a mutable object holds -/
inductive Ob where
  | spr
  | bag (m : Nat)
  | lst (xs : List D)
  | dct (kvs : List (L2.Key × D))
  | ins (C : Nat) (fs : List (Str × D))
/-- what a law's bag holds: the script, how far it is read, what is left of a cell, two numbers more -/
def BagOk (m : Nat) (c : List D) : Prop := ∃ (ns : List Int) (i b n t : Int), c = [.lst (ns.map D.int), .int i, .int b, .int n, .int t] ∧ 0 ≤ i ∧ i ≤ ns.length ∧ 0 ≤ b ∧ 0 ≤ n ∧ n ≤ m ∧ 0 ≤ t ∧ t < 2 ^ 61
abbrev Sto := Nat → Option Ob
def Sto.upd (S : Sto) (a : Nat) (o : Ob) : Sto := fun b => if b = a then some o else S b
def noS : Sto := fun _ => none
abbrev Env := List (Option D)
structure Exn where
  cls : Str
  fs : List (Str × D)
abbrev RX := Exn → Sto → Prop
def noR : RX := fun _ _ => False
abbrev W (α : Type) := Sto → (α → Sto → Prop) → RX → Prop
abbrev WE := Env → W D
abbrev WT := Env → W Bool
abbrev WA := Env → W (List D)
abbrev Fn := List D → W D
structure EndsD where
  nx : Env → Sto → Prop
  rt : D → Sto → Prop
  bk : Env → Sto → Prop := fun _ _ => False
  ct : Env → Sto → Prop := fun _ _ => False
abbrev WS := Env → Sto → EndsD → RX → Prop
/-- the most items -/
abbrev LINE : Nat := 16777216

/-! ### operators on trees -/
def dAdd : D → D → Option D
  | .int a, .int b => some (.int (a + b))
  | .str a, .str b => if a.length + b.length ≤ LINE then some (.str (a ++ b)) else none
  | .lst a, .lst b => if a.length + b.length ≤ LINE then some (.lst (a ++ b)) else none
  | _, _ => none
def dSub : D → D → Option D
  | .int a, .int b => some (.int (a - b))
  | _, _ => none
def dMul : D → D → Option D
  | .int a, .int b => if ((-(2 ^ 64) < a ∧ a < 2 ^ 64) ∨ (-(2 ^ 64) < b ∧ b < 2 ^ 64)) ∨ a.natAbs.log2 + b.natAbs.log2 < 1000000 then some (.int (a * b)) else none
  | .lst a, .int k => if -(2 ^ 63) ≤ k ∧ k < 2 ^ 63 ∧ a.length * k.toNat ≤ LINE then some (.lst (List.replicate k.toNat a).flatten) else none
  | _, _ => none
def dDiv : D → D → Option D
  | .int a, .int b => if 0 < b ∧ b < 1073741824 then some (.int (a / b)) else none
  | _, _ => none
def dMod : D → D → Option D
  | .int a, .int b => if 0 < b then some (.int (a % b)) else none
  | _, _ => none
def dPow : D → D → Option D
  | .int a, .int b => if 0 ≤ b ∧ b ≤ 1000000 ∧ a.natAbs < 2 ^ 64 then some (.int (a ^ b.toNat)) else none
  | _, _ => none
def dNeg : D → Option D
  | .int a => some (.int (-a))
  | _ => none
def dCmp (f : Int → Int → Bool) : D → D → Option D
  | .int a, .int b => some (.bl (f a b))
  | _, _ => none
abbrev dLt := dCmp fun a b => decide (a < b)
abbrev dLe := dCmp fun a b => decide (a ≤ b)
abbrev dGt := dCmp fun a b => decide (b < a)
abbrev dGe := dCmp fun a b => decide (b ≤ a)

/-! ### == -/
mutual
def toPy : D → PyData
  | .non => .none
  | .bl b => .bool b
  | .int i => .int i
  | .str x => .str x
  | .lst xs => .list (toPyAll xs)
  | .tup xs => .tuple (toPyAll xs)
  | .scr ns => .list (ns.map PyData.int)
  | .dct kvs => .dict (toPyKv kvs)
  | _ => .dict []
def toPyAll : List D → List PyData
  | [] => []
  | x :: xs => toPy x :: toPyAll xs
def toPyKv : List (L2.Key × D) → List (PyData × PyData)
  | [] => []
  | (k, v) :: r => ((match k with | .inl i => PyData.int i | .inr x => .str x), toPy v) :: toPyKv r
end
def shD (d : D) : Bool := SeqAt.shaped (toPy d)
def dEqB : D → D → Option Bool
  | .str x, .str y => some (decide (x = y))
  | x, y => if shD x = true ∧ shD y = true then some (PyData.eqv (toPy x) (toPy y)) else none
def dEq (x y : D) : Option D := (dEqB x y).map D.bl
def dNe (x y : D) : Option D := (dEqB x y).map fun b => D.bl (!b)
/-- is None, is True, is False -/
def isNonD : D → Bool
  | .non => true
  | _ => false
def dIs : D → D → Option D
  | x, .non => some (.bl (isNonD x))
  | .bl a, .bl b => some (.bl (a == b))
  | _, _ => none
def dIsNot (x y : D) : Option D := match dIs x y with
  | some (.bl b) => some (.bl (!b))
  | _ => none
def isScal : D → Bool
  | .non => true | .bl _ => true | .int _ => true | .str _ => true | _ => false

/-! ### sequences -/
/-- the items of what may be walked -/
def itemsOf : D → Option (List D)
  | .lst xs => some xs
  | .tup xs => some xs
  | .scr ns => some (ns.map D.int)
  | _ => none
def dLen : D → Option D
  | .lst xs => some (.int (xs.length : Int))
  | .tup xs => some (.int (xs.length : Int))
  | .scr xs => some (.int (xs.length : Int))
  | .str x => if x.length ≤ LINE then some (.int (x.length : Int)) else none
  | .dct kvs => some (.int (kvs.length : Int))
  | _ => none
def dIx : D → D → Option D
  | .lst xs, .int i => L2.atI xs i
  | .tup xs, .int i => L2.atI xs i
  | .scr xs, .int i => (L2.atI xs i).map D.int
  | .str x, .int i => if x.length ≤ LINE then (L2.atI x.cps.toList i).map fun c => D.str ⟨#[c]⟩ else none
  | _, _ => none
/-- a key as a tree -/
def keyD : D → Option L2.Key
  | .int i => some (.inl i)
  | .str x => some (.inr x)
  | _ => none
def getD (kvs : List (L2.Key × D)) (k : L2.Key) : Option D := (kvs.find? fun kv => decide (kv.1 = k)).map (·.2)
/-- d[k] -/
def dGet : D → D → Option D
  | .dct kvs, k => (keyD k).bind (getD kvs)
  | _, _ => none
/-- d.get(k, x) -/
def dGet2 : D → D → D → Option D
  | .dct kvs, k, x => (keyD k).map fun k => (getD kvs k).getD x
  | _, _, _ => none
/-- k in d -/
def dInK : D → D → Option D
  | k, .dct kvs => (keyD k).map fun k => .bl (getD kvs k).isSome
  | _, _ => none
def dNotInK : D → D → Option D
  | k, .dct kvs => (keyD k).map fun k => .bl (!(getD kvs k).isSome)
  | _, _ => none
def putD (kvs : List (L2.Key × D)) (k : L2.Key) (v : D) : List (L2.Key × D) :=
  if (kvs.any fun kv => decide (kv.1 = k)) = true then kvs.map (fun kv => if kv.1 = k then (kv.1, v) else kv) else kvs ++ [(k, v)]
def cutD {α : Type} (xs : List α) (lo hi : Option Int) : List α :=
  (xs.drop (HT.sIx xs.length 0 lo)).take (HT.sIx xs.length xs.length hi - HT.sIx xs.length 0 lo)
def dTru : D → Option Bool
  | .non => some false
  | .bl b => some b
  | .int i => some (i != 0)
  | .str y => if y.length ≤ LINE then some ((y.length : Int) != 0) else none
  | .lst xs => some (!xs.isEmpty)
  | .tup xs => some (!xs.isEmpty)
  | .dct kvs => some (!kvs.isEmpty)
  | _ => none
/-- the built-in classes asked for by isinstance -/
inductive Ty5 where
  | int | bool | str | list | tuple
def Ty5.nm : Ty5 → String
  | .int => "int" | .bool => "bool" | .str => "str" | .list => "list" | .tuple => "tuple"
/-- isinstance(x, T) -/
def dIsI : D → Ty5 → Option Bool
  | .non, _ => some false
  | .bl _, .int => some true | .bl _, .bool => some true | .bl _, _ => some false
  | .int _, .int => some true | .int _, _ => some false
  | .str _, .str => some true | .str _, _ => some false
  | .lst _, .list => some true | .lst _, _ => some false
  | .scr _, .list => some true | .scr _, _ => some false
  | .tup _, .tuple => some true | .tup _, _ => some false
  | .dct _, _ => some false
  | _, _ => none
def dIsAny (d : D) : List Ty5 → Option Bool
  | [] => some false
  | T :: Ts => (dIsI d T).bind fun b => if b = true then some true else dIsAny d Ts

/-! ### functions -/
def boolsOf : List D → Option (List Bool)
  | [] => some []
  | .bl b :: r => (boolsOf r).map (b :: ·)
  | _ :: _ => none
def intsOf : List D → Option (List Int)
  | [] => some []
  | .int i :: r => (intsOf r).map (i :: ·)
  | _ :: _ => none
def strsOf : List D → Option (List Str)
  | [] => some []
  | .str i :: r => (strsOf r).map (i :: ·)
  | _ :: _ => none
def fLen : List D → Option D
  | [x] => dLen x
  | _ => none
def fAll : List D → Option D
  | [.lst xs] => (boolsOf xs).map fun bs => .bl (bs.all id)
  | _ => none
def fAny : List D → Option D
  | [.lst xs] => (boolsOf xs).map fun bs => .bl (bs.any id)
  | _ => none
def fSum : List D → Option D
  | [.lst xs] => (intsOf xs).map fun ns => .int ns.sum
  | _ => none
def fAbs : List D → Option D
  | [.int i] => some (.int (if i < 0 then -i else i))
  | _ => none
def fMax : List D → Option D
  | [.int i, .int j] => some (.int (if j > i then j else i))
  | _ => none
def fMin : List D → Option D
  | [.int i, .int j] => some (.int (if j < i then j else i))
  | _ => none
def fInt : List D → Option D
  | [.int i] => some (.int i)
  | [.bl k] => some (.int (if k then 1 else 0))
  | [.str a] => if a.length ≤ 640 then (PySem.intText? a).map D.int else none
  | _ => none
def fStr : List D → Option D
  | [.int i] => if i.natAbs.log2 < 1920 then some (.str (toString i)) else none
  | [.str a] => some (.str a)
  | _ => none
def fList : List D → Option D
  | [.lst xs] => some (.lst xs)
  | [.tup xs] => some (.lst xs)
  | [.scr xs] => some (.lst (xs.map D.int))
  | _ => none
def fTup : List D → Option D
  | [.lst xs] => some (.tup xs)
  | [.tup xs] => some (.tup xs)
  | _ => none
/-- the ints of a list, each once -/
def dedup (ns : List Int) : List Int := ns.foldl (fun acc n => if acc.any (· == n) then acc else acc ++ [n]) []
/-- len(set(x)) -/
def dLenSet : D → Option D
  | .lst xs => (intsOf xs).bind fun ns => if ns.length + 1 < 4096 then some (.int ((dedup ns).length : Int)) else none
  | _ => none
/-- repr(x): some text that hangs on the tree alone -/
def dRepr (d : D) : Option D := if (toPy d).canLay0 = true ∧ PyData.showable (toPy d) = true ∧ PyData.depth (toPy d) ≤ 64 ∧ (PyData.shown (toPy d)).length + 64 ≤ LINE then some (.str (PyData.shown (toPy d))) else none
/-! ### methods -/
def isStr : D → Bool
  | .str _ => true | _ => false
def isLst : D → Bool
  | .lst _ => true | _ => false
def mJoin : D → List D → Option D
  | .str a, [.lst xs] => (strsOf xs).bind fun ys => if (ys.map (·.length)).sum + ys.length * a.length ≤ LINE then some (.str (Txt.join a ys)) else none
  | _, _ => none
def mSplit : D → List D → Option D
  | .str a, [.str b] => if (b.length == 0) = false ∧ a.length + 2 ≤ LINE then some (.lst ((Txt.split a b).map D.str)) else none
  | _, _ => none
def mCount : D → List D → Option D
  | .lst xs, [.int k] => (intsOf xs).map fun ns => .int (ns.count k : Nat)
  | _, _ => none

/-! ### expressions -/
def eC (d : D) : WE := fun _ S P _ => P d S
def eVar (i : Nat) : WE := fun Δ S P _ => ∃ d, Δ[i]? = some (some d) ∧ P d S
def eUn (f : D → Option D) (a : WE) : WE := fun Δ S P R => a Δ S (fun x S1 => ∃ d, f x = some d ∧ P d S1) R
def eBin (f : D → D → Option D) (a b : WE) : WE := fun Δ S P R => a Δ S (fun x S1 => b Δ S1 (fun y S2 => ∃ d, f x y = some d ∧ P d S2) R) R
/-- x < y < z -/
def eChain (f g : D → D → Option D) (a b c : WE) : WE := fun Δ S P R => a Δ S (fun x S1 => b Δ S1 (fun y S2 => ∃ k, f x y = some (.bl k) ∧
  (if k = true then c Δ S2 (fun z S3 => ∃ d, g y z = some d ∧ P d S3) R else P (.bl false) S2)) R) R
def eAnd (a b : WE) : WE := fun Δ S P R => a Δ S (fun x S1 => ∃ k, x = .bl k ∧ (if k = true then b Δ S1 P R else P (.bl false) S1)) R
def eOr (a b : WE) : WE := fun Δ S P R => a Δ S (fun x S1 => ∃ k, x = .bl k ∧ (if k = true then P (.bl true) S1 else b Δ S1 P R)) R
def eNot (a : WE) : WE := fun Δ S P R => a Δ S (fun x S1 => ∃ k, x = .bl k ∧ P (.bl (!k)) S1) R
/-- x or y by truth -/
def eOrT (a b : WE) : WE := fun Δ S P R => a Δ S (fun x S1 => ∃ k, dTru x = some k ∧ (if k = true then P x S1 else b Δ S1 P R)) R
def eIf (t : WT) (a b : WE) : WE := fun Δ S P R => t Δ S (fun k S1 => if k = true then a Δ S1 P R else b Δ S1 P R) R
def tE (a : WE) : WT := fun Δ S P R => a Δ S (fun x S1 => ∃ k, x = .bl k ∧ P k S1) R
def tTru (a : WE) : WT := fun Δ S P R => a Δ S (fun x S1 => ∃ k, dTru x = some k ∧ P k S1) R
def tAnd (t u : WT) : WT := fun Δ S P R => t Δ S (fun k S1 => if k = true then u Δ S1 P R else P false S1) R
def tOr (t u : WT) : WT := fun Δ S P R => t Δ S (fun k S1 => if k = true then P true S1 else u Δ S1 P R) R
def tNot (t : WT) : WT := fun Δ S P R => t Δ S (fun k S1 => P (!k) S1) R
def aNil : WA := fun _ S P _ => P [] S
def aCons (a : WE) (r : WA) : WA := fun Δ S P R => a Δ S (fun x S1 => r Δ S1 (fun xs S2 => P (x :: xs) S2) R) R
def eLst (a : WA) : WE := fun Δ S P R => a Δ S (fun xs S1 => xs.length ≤ LINE ∧ P (.lst xs) S1) R
def eTup (a : WA) : WE := fun Δ S P R => a Δ S (fun xs S1 => xs.length ≤ LINE ∧ P (.tup xs) S1) R
/-- a call of a def: effects on the store; a pure one runs over no store -/
def eCall (f : Fn) (a : WA) : WE := fun Δ S P R => a Δ S (fun xs S1 => f xs S1 P R) R
def eCallP (f : Fn) (a : WA) : WE := fun Δ S P R => a Δ S (fun xs S1 => f xs noS (fun d _ => P d S1) fun x _ => R x S1) R
/-- the written arguments, then the defaults -/
def aDef (w : WA) (dd : List D) : WA := fun Δ S P R => w Δ S (fun ds S1 => P (ds ++ dd) S1) R
/-- a built-in of one, of any number of arguments, no effect -/
def eFn (f : List D → Option D) (a : WA) : WE := fun Δ S P R => a Δ S (fun xs S1 => ∃ d, f xs = some d ∧ P d S1) R
/-- isinstance(a, T), isinstance(a, (T, ..)) -/
def eIsI (Ts : List Ty5) (a : WE) : WE := fun Δ S P R => a Δ S (fun x S1 => ∃ k, dIsAny x Ts = some k ∧ P (.bl k) S1) R
/-- x.m(..) of a built-in class, nothing changed -/
def eMt (ok : D → Bool) (f : D → List D → Option D) (o : WE) (a : WA) : WE := fun Δ S P R => o Δ S (fun x S1 => ok x = true ∧ a Δ S1 (fun xs S2 => ∃ d, f x xs = some d ∧ P d S2) R) R
/-- d.get(k, x) -/
def eGet2 (o k x : WE) : WE := fun Δ S P R => o Δ S (fun d S1 => (∃ kvs, d = .dct kvs) ∧ k Δ S1 (fun y S2 => x Δ S2 (fun z S3 => ∃ r, dGet2 d y z = some r ∧ P r S3) R) R) R
/-- only a scalar is handed on -/
def eScal (a : WE) : WE := fun Δ S P R => a Δ S (fun x S1 => isScal x = true ∧ P x S1) R
/-- slices -/
def oNone : Env → W (Option Int) := fun _ S P _ => P none S
def oSome (a : WE) : Env → W (Option Int) := fun Δ S P R => a Δ S (fun x S1 => ∃ i, x = .int i ∧ P (some i) S1) R
def dSl : D → Option Int → Option Int → Option D
  | .lst xs, lo, hi => some (.lst (cutD xs lo hi))
  | .scr xs, lo, hi => some (.lst ((cutD xs lo hi).map D.int))
  | .str x, lo, hi => if x.length ≤ LINE then some (.str (L2.cutS x lo hi)) else none
  | _, _, _ => none
def eSl (a : WE) (l h : Env → W (Option Int)) : WE := fun Δ S P R => a Δ S (fun x S1 => l Δ S1 (fun lo S2 => h Δ S2 (fun hi S3 => ∃ d, dSl x lo hi = some d ∧ P d S3) R) R) R

/-! ### targets, walks -/
abbrev WG := D → Env → (Env → Prop) → Prop
abbrev WGs := List D → Env → (Env → Prop) → Prop
def gtName (i : Nat) : WG := fun d Δ K => K (Δ.set i (some d))
def gtNil : WGs := fun ds Δ K => ds = [] ∧ K Δ
def gtCons (g : WG) (r : WGs) : WGs := fun ds Δ K => ∃ d t, ds = d :: t ∧ g d Δ fun Δ1 => r t Δ1 K
def seqOf : D → Option (List D)
  | .tup ds => some ds
  | .lst ds => some ds
  | _ => none
def gtTup (n : Nat) (g : WGs) : WG := fun d Δ K => ∃ ds, seqOf d = some ds ∧ ds.length = n ∧ g ds Δ K
def killL (is : List Nat) (Δ : Env) : Env := is.foldl (fun Δ i => Δ.set i none) Δ
abbrev WI := Env → W (List D)
/-- the items of a list, tuple -/
def iSeq (a : WE) : WI := fun Δ S P R => a Δ S (fun x S1 => ∃ xs, itemsOf x = some xs ∧ P xs S1) R
def rngD (lo : Int) (n : Nat) : List D := (List.range n).map fun i => D.int (lo + (i : Nat))
def iRng1 (a : WE) : WI := fun Δ S P R => a Δ S (fun x S1 => ∃ j, x = .int j ∧ -(2 ^ 62) ≤ j ∧ j < 2 ^ 62 ∧ P (rngD 0 j.toNat) S1) R
def iRng2 (a b : WE) : WI := fun Δ S P R => a Δ S (fun x S1 => b Δ S1 (fun y S2 => ∃ i j, x = .int i ∧ y = .int j ∧ (-(2 ^ 62) ≤ i ∧ i < 2 ^ 62 ∧ -(2 ^ 62) ≤ j ∧ j < 2 ^ 62) ∧ P (rngD i (j - i).toNat) S2) R) R
def enumD (i : Nat) : List D → List D
  | [] => []
  | x :: xs => .tup [.int (i : Int), x] :: enumD (i + 1) xs
def iEnum (a : WE) : WI := fun Δ S P R => a Δ S (fun x S1 => ∃ xs, itemsOf x = some xs ∧ P (enumD 0 xs) S1) R
def zipD : List D → List D → List D
  | x :: xs, y :: ys => .tup [x, y] :: zipD xs ys
  | _, _ => []
def iZip (a b : WE) : WI := fun Δ S P R => a Δ S (fun x S1 => b Δ S1 (fun y S2 => ∃ xs ys, x = .lst xs ∧ y = .lst ys ∧ P (zipD xs ys) S2) R) R
def iStr (a : WE) : WI := fun Δ S P R => a Δ S (fun x S1 => ∃ z, x = .str z ∧ P (z.cps.toList.map fun c => D.str ⟨#[c]⟩) S1) R
def tYes : WT := fun _ S P _ => P true S
/-- a comprehension's turns -/
def lcL (g : WG) (t : WT) (e : WE) (Δ : Env) : List D → List D → Sto → (D → Sto → Prop) → Prop
  | [], acc, S, P => P (.lst acc) S
  | x :: xs, acc, S, P => g x Δ fun Δ1 => t Δ1 S (fun k S1 => if k = true then e Δ1 S1 (fun d S2 => lcL g t e Δ xs (acc ++ [d]) S2 P) noR else lcL g t e Δ xs acc S1 P) noR
def eLc (i : WI) (own : List Nat) (g : WG) (t : WT) (e : WE) : WE := fun Δ S P R => i Δ S (fun xs S1 => xs.length ≤ LINE ∧ lcL g t e (killL own Δ) xs [] S1 P) R

/-! ### statements -/
def gNext : WS := fun Δ S B _ => B.nx Δ S
def gSeq (g h : WS) : WS := fun Δ S B R => g Δ S { B with nx := fun Δ1 S1 => h Δ1 S1 B R } R
def gRet (e : WE) : WS := fun Δ S B R => e Δ S B.rt R
def gRetN : WS := fun _ S B _ => B.rt .non S
def gExpr (e : WE) : WS := fun Δ S B R => e Δ S (fun _ S1 => B.nx Δ S1) R
def gAsg (e : WE) (g : WG) : WS := fun Δ S B R => e Δ S (fun d S1 => g d Δ fun Δ1 => B.nx Δ1 S1) R
def gIf (t : WT) (g h : WS) : WS := fun Δ S B R => t Δ S (fun k S1 => if k = true then g Δ S1 B R else h Δ S1 B R) R
def gKill (is : List Nat) (g : WS) : WS := fun Δ S B R => g (killL is Δ) S B R
/-- names forgotten behind -/
def gDrop (is : List Nat) (g : WS) : WS := fun Δ S B R => g Δ S { B with nx := fun Δ1 S1 => B.nx (killL is Δ1) S1, ct := fun Δ1 S1 => B.ct (killL is Δ1) S1 } R
def gBrk : WS := fun Δ S B _ => B.bk Δ S
def gCnt : WS := fun Δ S B _ => B.ct Δ S
def gNever : WS := fun _ _ _ _ => False
def forL (g : WG) (b : WS) (R : RX) (B : EndsD) : List D → Env → Sto → Prop
  | [], Δ, S => B.nx Δ S
  | x :: xs, Δ, S => g x Δ fun Δ1 => b Δ1 S { nx := fun Δ2 S2 => forL g b R B xs Δ2 S2, ct := fun Δ2 S2 => forL g b R B xs Δ2 S2, bk := B.nx, rt := B.rt } R
def gFor (i : WI) (g : WG) (b : WS) : WS := fun Δ S B R => i Δ S (fun xs S1 => forL g b R B xs Δ S1) R
def gWhile (c : WT) (b : WS) : WS := fun Δ S B R => ∃ I : Nat → Env → Sto → Prop, (∃ m, I m Δ S) ∧ ∀ m Δ S, I m Δ S → c Δ S (fun k S1 => if k = true then
  b Δ S1 { nx := fun Δ2 S2 => ∃ m', m' < m ∧ I m' Δ2 S2, ct := fun Δ2 S2 => ∃ m', m' < m ∧ I m' Δ2 S2, bk := B.nx, rt := B.rt } R else B.nx Δ S1) R
/-- x op= e -/
def gAug (i : Nat) (f : D → D → Option D) (e : WE) : WS := fun Δ S B R => ∃ x, Δ[i]? = some (some x) ∧ e Δ S (fun y S1 => ∃ z, f x y = some z ∧ B.nx (Δ.set i (some z)) S1) R
/-- a list or dict that a name owns is changed by a method -/
def gOwn (i : Nat) (ok : D → Bool) (f : D → List D → Option (D × D)) (a : WA) : WS := fun Δ S B R => ∃ x, Δ[i]? = some (some x) ∧ ok x = true ∧ a Δ S (fun ys S1 => ∃ z r, f x ys = some (z, r) ∧ B.nx (Δ.set i (some z)) S1) R
def oAppend : D → List D → Option (D × D)
  | .lst xs, [y] => if xs.length < LINE then some (.lst (xs ++ [y]), .non) else none
  | _, _ => none
def oExtend : D → List D → Option (D × D)
  | .lst xs, [.lst ys] => if xs.length + ys.length ≤ LINE then some (.lst (xs ++ ys), .non) else none
  | _, _ => none
def oPop : D → List D → Option (D × D)
  | .lst xs, [] => (xs[xs.length - 1]?).map fun y => (.lst xs.dropLast, y)
  | _, _ => none
/-- xs[i] = e, d[k] = e, the name's own -/
def putX : D → D → D → Option D
  | .lst xs, .int k, v => (L2.ixN xs.length k).map fun j => .lst (xs.set j v)
  | .dct kvs, k, v => if kvs.length < LINE then (keyD k).map fun k => .dct (putD kvs k v) else none
  | _, _, _ => none
def gPut (i : Nat) (e ix : WE) : WS := fun Δ S B R => e Δ S (fun v S1 => ∃ x, Δ[i]? = some (some x) ∧ ix Δ S1 (fun k S2 => ∃ z, putX x k v = some z ∧ B.nx (Δ.set i (some z)) S2) R) R
def fnW (k n : Nat) (g : WS) : Fn := fun ds S P R => ds.length = k ∧ g (ds.map some ++ List.replicate (n - ds.length) none) S { nx := fun _ S1 => P .non S1, rt := P } R
end DL

/-! DS: the trees over the heap; the readings of the hand layer from the meanings of DW. -/
namespace DL
open PySem L2

/-! ### heaps that grow -/
def Ex (H H' : Hp) : Prop := ∀ a o, H a = some o → H' a = some o
theorem Ex.refl (H : Hp) : Ex H H := fun _ _ h => h
theorem Ex.trans {A B C : Hp} (a : Ex A B) (b : Ex B C) : Ex A C := fun x o h => b x o (a x o h)
theorem Ex.new {H : Hp} {p : Addr} {o : HO} (h : H p = none) : Ex H (L2.upd H p o) := fun a u e => (upd_ne (ne_of_none e h)).trans e
theorem Ex.mut {A H : Hp} {p : Addr} {o : HO} (e : Ex A H) (h : A p = none) : Ex A (L2.upd H p o) := fun a u q => (upd_ne (ne_of_none q h)).trans (e a u q)
theorem Ex.none {A B : Hp} (e : Ex A B) {p : Addr} (h : B p = none) : A p = none := by
  cases q : A p with
  | none => rfl
  | some o => rw [e p o q] at h; cases h
theorem Ex.rd {A B : Hp} (e : Ex A B) {a : Addr} {u : HO} (h : Rd A a u) : Rd B a u := h.elim (fun z => .inl (e a _ z)) fun ⟨o, z⟩ => .inr ⟨o, e a _ z⟩
theorem Ex.sl {K : PySem.W.Frag} {A B : Hp} (e : Ex A B) {a : Addr} {xs : List V} (h : SqL K A a xs) : SqL K B a xs := h.elim (fun z => .inl (e.rd z)) .inr
theorem Ex.st {K : PySem.W.Frag} {A B : Hp} (e : Ex A B) {a : Addr} {xs : List V} (h : SqT K A a xs) : SqT K B a xs := h.elim (fun z => .inl (e.rd z)) .inr

/-! ### a tree stands in the heap -/
mutual
inductive Rep (K : PySem.W.Frag) (F : Hp) : V → D → Prop
  | non : Rep K F .non .non
  | bl (b : Bool) : Rep K F (.bl b) (.bl b)
  | int (i : Int) : Rep K F (.int i) (.int i)
  | str (x : Str) : Rep K F (.str x) (.str x)
  | lst {a : Addr} {vs : List V} {ds : List D} : F a = some (.lst vs) → Reps K F vs ds → Rep K F (.ref a) (.lst ds)
  | tup {a : Addr} {vs : List V} {ds : List D} : F a = some (.tup vs) → Reps K F vs ds → Rep K F (.ref a) (.tup ds)
  | dct {a : Addr} {kvs : List (Key × V)} {kds : List (Key × D)} : F a = some (.dK kvs) → RepK K F kvs kds → Rep K F (.ref a) (.dct kds)
  | dcT {a : Addr} {kvs : List (List Key × V)} {kds : List (List Key × D)} : F a = some (.dT kvs) → RepK K F kvs kds → Rep K F (.ref a) (.dcT kds)
  | obj (a : Addr) : Rep K F (.ref a) (.obj a)
  | scr {a : Addr} {ns : List Int} : SqL K F a (ns.map V.int) → Rep K F (.ref a) (.scr ns)
inductive Reps (K : PySem.W.Frag) (F : Hp) : List V → List D → Prop
  | nil : Reps K F [] []
  | cons {v : V} {d : D} {vs : List V} {ds : List D} : Rep K F v d → Reps K F vs ds → Reps K F (v :: vs) (d :: ds)
inductive RepK (K : PySem.W.Frag) (F : Hp) : {κ : Type} → List (κ × V) → List (κ × D) → Prop
  | nil {κ : Type} : RepK K F ([] : List (κ × V)) ([] : List (κ × D))
  | cons {κ : Type} {k : κ} {v : V} {d : D} {vs : List (κ × V)} {ds : List (κ × D)} : Rep K F v d → RepK K F vs ds → RepK K F ((k, v) :: vs) ((k, d) :: ds)
end
section
variable {K : PySem.W.Frag} {F F' : Hp}
mutual
theorem Rep.mono (e : Ex F F') : ∀ {d : D} {v : V}, Rep K F v d → Rep K F' v d
  | _, _, .non => .non
  | _, _, .bl b => .bl b
  | _, _, .int i => .int i
  | _, _, .str x => .str x
  | _, _, .lst h r => .lst (e _ _ h) (Reps.mono e r)
  | _, _, .tup h r => .tup (e _ _ h) (Reps.mono e r)
  | _, _, .dct h r => .dct (e _ _ h) (RepK.mono e r)
  | _, _, .dcT h r => .dcT (e _ _ h) (RepK.mono e r)
  | _, _, .obj a => .obj a
  | _, _, .scr h => .scr (e.sl h)
theorem Reps.mono (e : Ex F F') : ∀ {ds : List D} {vs : List V}, Reps K F vs ds → Reps K F' vs ds
  | _, _, .nil => .nil
  | _, _, .cons h r => .cons (Rep.mono e h) (Reps.mono e r)
theorem RepK.mono (e : Ex F F') : ∀ {κ : Type} {ds : List (κ × D)} {vs : List (κ × V)}, RepK K F vs ds → RepK K F' vs ds
  | _, _, _, .nil => .nil
  | _, _, _, .cons h r => .cons (Rep.mono e h) (RepK.mono e r)
end
theorem Reps.len : ∀ {ds : List D} {vs : List V}, Reps K F vs ds → vs.length = ds.length
  | _, _, .nil => rfl
  | _, _, .cons _ r => by rw [List.length_cons, List.length_cons, Reps.len r]
theorem Reps.app : ∀ {ds es : List D} {vs us : List V}, Reps K F vs ds → Reps K F us es → Reps K F (vs ++ us) (ds ++ es)
  | _, _, _, _, .nil, s => s
  | _, _, _, _, .cons h r, s => .cons h (Reps.app r s)
theorem Reps.get : ∀ {ds : List D} {vs : List V} {i : Nat} {d : D}, Reps K F vs ds → ds[i]? = some d → ∃ v, vs[i]? = some v ∧ Rep K F v d
  | _, _, _, _, .nil, e => by simp at e
  | _, _, 0, _, .cons h _, e => by simp at e; subst e; exact ⟨_, rfl, h⟩
  | _, _, i + 1, d, .cons _ r, e => by
    obtain ⟨v, h1, h2⟩ := Reps.get (i := i) (d := d) r (by simpa using e)
    exact ⟨v, by simpa using h1, h2⟩
theorem Reps.getV : ∀ {ds : List D} {vs : List V} {i : Nat} {v : V}, Reps K F vs ds → vs[i]? = some v → ∃ d, ds[i]? = some d ∧ Rep K F v d
  | _, _, _, _, .nil, e => by simp at e
  | _, _, 0, _, .cons h _, e => by simp at e; subst e; exact ⟨_, rfl, h⟩
  | _, _, i + 1, v, .cons _ r, e => by
    obtain ⟨d, h1, h2⟩ := Reps.getV (i := i) (v := v) r (by simpa using e)
    exact ⟨d, by simpa using h1, h2⟩
theorem Reps.take : ∀ {ds : List D} {vs : List V} (n : Nat), Reps K F vs ds → Reps K F (vs.take n) (ds.take n)
  | _, _, 0, _ => .nil
  | _, _, _ + 1, .nil => .nil
  | _, _, n + 1, .cons h r => .cons h (Reps.take n r)
theorem Reps.drop : ∀ {ds : List D} {vs : List V} (n : Nat), Reps K F vs ds → Reps K F (vs.drop n) (ds.drop n)
  | _, _, 0, r => r
  | _, _, _ + 1, .nil => .nil
  | _, _, n + 1, .cons _ r => Reps.drop n r
theorem Reps.set : ∀ {ds : List D} {vs : List V} {v : V} {d : D} (i : Nat), Reps K F vs ds → Rep K F v d → Reps K F (vs.set i v) (ds.set i d)
  | _, _, _, _, _, .nil, _ => .nil
  | _, _, _, _, 0, .cons _ r, h => .cons h r
  | _, _, _, _, i + 1, .cons q r, h => .cons q (Reps.set i r h)
theorem Reps.rep {ds : List D} {vs : List V} (r : Reps K F vs ds) : ∀ n : Nat, Reps K F (List.replicate n vs).flatten (List.replicate n ds).flatten
  | 0 => .nil
  | n + 1 => by
    rw [List.replicate_succ, List.replicate_succ, List.flatten_cons, List.flatten_cons]
    exact r.app (Reps.rep r n)
theorem Reps.cut {ds : List D} {vs : List V} (r : Reps K F vs ds) (lo hi : Option Int) : Reps K F (cutV vs lo hi) (cutD ds lo hi) := by
  unfold cutV cutD
  rw [r.len]
  exact (r.drop _).take _
theorem Reps.ints : ∀ {ns : List Int}, Reps K F (ns.map V.int) (ns.map D.int)
  | [] => .nil
  | n :: ns => .cons (.int n) Reps.ints
theorem RepK.len {κ : Type} : ∀ {ds : List (κ × D)} {vs : List (κ × V)}, RepK K F vs ds → vs.length = ds.length
  | _, _, .nil => rfl
  | _, _, .cons _ r => by rw [List.length_cons, List.length_cons, RepK.len r]
theorem RepK.find {κ : Type} [DecidableEq κ] {k : κ} : ∀ {ds : List (κ × D)} {vs : List (κ × V)}, RepK K F vs ds →
    (∃ v d, (vs.find? fun kv => decide (kv.1 = k)).map (·.2) = some v ∧ (ds.find? fun kv => decide (kv.1 = k)).map (·.2) = some d ∧ Rep K F v d) ∨
      ((vs.find? fun kv => decide (kv.1 = k)).map (·.2) = none ∧ (ds.find? fun kv => decide (kv.1 = k)).map (·.2) = none)
  | _, _, .nil => .inr ⟨rfl, rfl⟩
  | _, _, .cons (k := j) (v := v) (d := d) h r => by
    by_cases e : j = k
    · refine .inl ⟨v, d, ?_, ?_, h⟩
      · rw [List.find?_cons_of_pos (by simpa using e)]; rfl
      · rw [List.find?_cons_of_pos (by simpa using e)]; rfl
    · rw [List.find?_cons_of_neg (by simpa using e), List.find?_cons_of_neg (by simpa using e)]
      exact RepK.find r
end

/-! ### the state -/
/-- what an owned cell holds -/
inductive OwnO (K : PySem.W.Frag) (F : Hp) : HO → D → Prop
  | lst {vs : List V} {ds : List D} : Reps K F vs ds → OwnO K F (.lst vs) (.lst ds)
  | dct {kvs : List (Key × V)} {kds : List (Key × D)} : RepK K F kvs kds → OwnO K F (.dK kvs) (.dct kds)
  | dcT {kvs : List (List Key × V)} {kds : List (List Key × D)} : RepK K F kvs kds → OwnO K F (.dT kvs) (.dcT kds)
theorem OwnO.mono {K : PySem.W.Frag} {F F' : Hp} {o : HO} {d : D} (e : Ex F F') : OwnO K F o d → OwnO K F' o d
  | .lst r => .lst (r.mono e)
  | .dct r => .dct (r.mono e)
  | .dcT r => .dcT (r.mono e)
theorem OwnO.rep {K : PySem.W.Frag} {F : Hp} {o : HO} {d : D} {a : Addr} (h : F a = some o) : OwnO K F o d → Rep K F (.ref a) d
  | .lst r => .lst h r
  | .dct r => .dct h r
  | .dcT r => .dcT h r
/-- a mutable object of the store -/
def ObR (K : PySem.W.Frag) (F H : Hp) (a : Addr) : Ob → Prop
  | .spr => ∃ d s c : Int, H a = some (.lst [.int d, .int s, .int c]) ∧ 0 ≤ d ∧ 0 ≤ s ∧ s < 2 ^ 61
  | .bag m => ∃ ds vs, BagOk m ds ∧ H a = some (.lst vs) ∧ Reps K F vs ds
  | .lst ds => ∃ vs, H a = some (.lst vs) ∧ Reps K F vs ds
  | .dct kds => ∃ kvs, H a = some (.dK kvs) ∧ RepK K F kvs kds
  | .ins C fs => ∃ dx vs, H a = some (.ins C dx vs) ∧ Paired (fun (p : Str × V) (q : Str × D) => p.1 = q.1 ∧ Rep K F p.2 q.2) vs fs
theorem ObR.mono {K : PySem.W.Frag} {F F' H H' : Hp} {a : Addr} (e : Ex F F') (h : H' a = H a) : ∀ {o : Ob}, ObR K F H a o → ObR K F' H' a o
  | .spr, ⟨d, s, c, q⟩ => ⟨d, s, c, by rw [h]; exact q⟩
  | .bag _, ⟨ds, vs, o, q, r⟩ => ⟨ds, vs, o, by rw [h]; exact q, r.mono e⟩
  | .lst _, ⟨vs, q, r⟩ => ⟨vs, by rw [h]; exact q, r.mono e⟩
  | .dct _, ⟨vs, q, r⟩ => ⟨vs, by rw [h]; exact q, r.mono e⟩
  | .ins _ _, ⟨dx, vs, q, r⟩ => ⟨dx, vs, by rw [h]; exact q, Paired.mapP r fun _ _ z => ⟨z.1, z.2.mono e⟩⟩
theorem ObR.some {K : PySem.W.Frag} {F H : Hp} {a : Addr} : ∀ {o : Ob}, ObR K F H a o → ∃ u, H a = some u
  | .spr, ⟨_, _, _, q, _⟩ => ⟨_, q⟩
  | .bag _, ⟨_, _, _, q, _⟩ => ⟨_, q⟩
  | .lst _, ⟨_, q, _⟩ => ⟨_, q⟩
  | .dct _, ⟨_, q, _⟩ => ⟨_, q⟩
  | .ins _ _, ⟨_, _, q, _⟩ => ⟨_, q⟩

/-- σ, H hold Δ, S: F: what is shared and never changes; Z: what others own; O: the slots that own a cell -/
structure Wd (K : PySem.W.Frag) (O : List Nat) (Z : Hp) (σ : L2.St) (Δ : Env) (S : Sto) (F H : Hp) : Prop where
  fH : Ex F H
  zH : Ex Z H
  fz : ∀ b o, F b = some o → Z b = none
  st : ∀ a ob, S a = some ob → F a = none ∧ Z a = none ∧ ObR K F H a ob
  fr : ∀ i d, i ∉ O → Δ[i]? = some (some d) → ∃ v, σ[i]? = some (some v) ∧ Rep K F v d
  ow : ∀ i d, i ∈ O → Δ[i]? = some (some d) → ∃ p o, σ[i]? = some (some (.ref p)) ∧ H p = some o ∧ OwnO K F o d ∧ F p = none ∧ Z p = none ∧ S p = none
  sep : ∀ i j d e p, i ∈ O → j ∈ O → i ≠ j → Δ[i]? = some (some d) → Δ[j]? = some (some e) → σ[i]? = some (some (.ref p)) → σ[j]? ≠ some (some (.ref p))
  len : σ.length = Δ.length
/-- objects are made, nothing else happens -/
structure Al (F H F' H' : Hp) : Prop where
  f : Ex F F'
  h : Ex H H'
  s : Ex F' H'
  n : ∀ b o, F' b = some o → F b = some o ∨ H b = none
theorem Al.refl {F H : Hp} (e : Ex F H) : Al F H F H := ⟨Ex.refl _, Ex.refl _, e, fun _ _ h => .inl h⟩
theorem Al.trans {F H F1 H1 F2 H2 : Hp} (a : Al F H F1 H1) (b : Al F1 H1 F2 H2) : Al F H F2 H2 :=
  ⟨a.f.trans b.f, a.h.trans b.h, b.s, fun c o q => by
    rcases b.n c o q with z | z
    · exact a.n c o z
    · exact .inr (a.h.none z)⟩
theorem Al.new {F H : Hp} {p : Addr} {o : HO} (e : Ex F H) (h : H p = none) : Al F H (L2.upd F p o) (L2.upd H p o) :=
  ⟨Ex.new (e.none h), Ex.new h, fun a u q => by
    by_cases z : a = p
    · subst z; rw [upd_same] at q ⊢; exact q
    · rw [upd_ne z] at q ⊢; exact e a u q, fun b u q => by
    by_cases z : b = p
    · subst z; exact .inr h
    · rw [upd_ne z] at q; exact .inl q⟩
section
variable {K : PySem.W.Frag} {O : List Nat} {Z : Hp} {σ : L2.St} {Δ : Env} {S : Sto} {F H F' H' : Hp}
theorem Wd.al (w : Wd K O Z σ Δ S F H) (a : Al F H F' H') : Wd K O Z σ Δ S F' H' where
  fH := a.s
  zH := w.zH.trans a.h
  fz := fun b o q => by
    rcases a.n b o q with z | z
    · exact w.fz b o z
    · exact w.zH.none z
  st := fun b ob q => by
    obtain ⟨h1, h2, h3⟩ := w.st b ob q
    obtain ⟨u, hu⟩ := h3.some
    refine ⟨?_, h2, h3.mono a.f ((a.h b u hu).trans hu.symm)⟩
    cases e : F' b with
    | none => rfl
    | some o =>
      rcases a.n b o e with z | z
      · rw [h1] at z; cases z
      · rw [hu] at z; cases z
  fr := fun i d ni q => by
    obtain ⟨v, h1, h2⟩ := w.fr i d ni q
    exact ⟨v, h1, h2.mono a.f⟩
  ow := fun i d ni q => by
    obtain ⟨p, o, h1, h2, h3, h4, h5, h6⟩ := w.ow i d ni q
    refine ⟨p, o, h1, a.h p o h2, h3.mono a.f, ?_, h5, h6⟩
    cases e : F' p with
    | none => rfl
    | some u =>
      rcases a.n p u e with z | z
      · rw [h4] at z; cases z
      · rw [h2] at z; cases z
  sep := w.sep
  len := w.len
/-- a slot is set to a shared tree -/
theorem Wd.set (w : Wd K O Z σ Δ S F H) {i : Nat} {v : V} {d : D} (hi : i ∉ O) (r : Rep K F v d) : Wd K O Z (σ.set i (some v)) (Δ.set i (some d)) S F H where
  fH := w.fH
  zH := w.zH
  fz := w.fz
  st := w.st
  fr := fun j e nj q => by
    by_cases z : i = j
    · subst z
      have hl : i < Δ.length := by
        rcases Nat.lt_or_ge i Δ.length with h | h
        · exact h
        · rw [List.getElem?_eq_none (by simpa using h)] at q; cases q
      rw [List.getElem?_set_self hl] at q
      cases q
      exact ⟨v, List.getElem?_set_self (by rw [w.len]; exact hl), r⟩
    · rw [List.getElem?_set_ne z] at q
      rw [List.getElem?_set_ne z]
      exact w.fr j e nj q
  ow := fun j e nj q => by
    have z : i ≠ j := fun z => hi (z ▸ nj)
    rw [List.getElem?_set_ne z] at q
    rw [List.getElem?_set_ne z]
    exact w.ow j e nj q
  sep := fun j k d1 d2 p hj hk hn q1 q2 q3 => by
    have z1 : i ≠ j := fun z => hi (z ▸ hj)
    have z2 : i ≠ k := fun z => hi (z ▸ hk)
    rw [List.getElem?_set_ne z1] at q1 q3
    rw [List.getElem?_set_ne z2] at q2 ⊢
    exact w.sep j k d1 d2 p hj hk hn q1 q2 q3
  len := by rw [List.length_set, List.length_set]; exact w.len
/-- any change of σ, Δ that only forgets -/
theorem Wd.weak (w : Wd K O Z σ Δ S F H) {σ' : L2.St} {Δ' : Env} (hl : σ'.length = Δ'.length) (h : ∀ (i : Nat) (d : D), Δ'[i]? = some (some d) → Δ[i]? = some (some d) ∧ σ'[i]? = σ[i]?) : Wd K O Z σ' Δ' S F H where
  fH := w.fH
  zH := w.zH
  fz := w.fz
  st := w.st
  fr := fun i d ni q => by
    obtain ⟨q1, q2⟩ := h i d q
    rw [q2]
    exact w.fr i d ni q1
  ow := fun i d ni q => by
    obtain ⟨q1, q2⟩ := h i d q
    rw [q2]
    exact w.ow i d ni q1
  sep := fun i j d e p hi hj hn q1 q2 q3 => by
    obtain ⟨a1, a2⟩ := h i d q1
    obtain ⟨b1, b2⟩ := h j e q2
    rw [a2] at q3
    rw [b2]
    exact w.sep i j d e p hi hj hn a1 b1 q3
  len := hl
theorem killL_len : ∀ (is : List Nat) (Δ : Env), (killL is Δ).length = Δ.length
  | [], _ => rfl
  | i :: is, Δ => by
    show (killL is (Δ.set i none)).length = _
    rw [killL_len is, List.length_set]
theorem killL_some : ∀ (is : List Nat) (Δ : Env) {j : Nat} {d : D}, (killL is Δ)[j]? = some (some d) → Δ[j]? = some (some d) ∧ j ∉ is
  | [], _, _, _, h => ⟨h, by simp⟩
  | i :: is, Δ, j, d, h => by
    obtain ⟨h1, h2⟩ := killL_some is (Δ.set i none) (j := j) (d := d) h
    by_cases z : i = j
    · subst z
      by_cases hl : i < Δ.length
      · rw [List.getElem?_set_self hl] at h1; cases h1
      · rw [List.getElem?_eq_none (by simpa using hl)] at h1; cases h1
    · rw [List.getElem?_set_ne z] at h1
      exact ⟨h1, by simp only [List.mem_cons, not_or]; exact ⟨fun e => z e.symm, h2⟩⟩
theorem Wd.kill (w : Wd K O Z σ Δ S F H) (is : List Nat) : Wd K O Z σ (killL is Δ) S F H :=
  w.weak (by rw [killL_len]; exact w.len) fun _ _ q => ⟨(killL_some is Δ q).1, rfl⟩
/-- the same state by another list of owners -/
theorem Wd.mode {O' : List Nat} (w : Wd K O Z σ Δ S F H) (h : ∀ (i : Nat) (d : D), Δ[i]? = some (some d) → (i ∈ O ↔ i ∈ O')) : Wd K O' Z σ Δ S F H where
  fH := w.fH
  zH := w.zH
  fz := w.fz
  st := w.st
  fr := fun i d ni q => w.fr i d (fun z => ni ((h i d q).mp z)) q
  ow := fun i d ni q => w.ow i d ((h i d q).mpr ni) q
  sep := fun i j d e p hi hj hn q1 q2 q3 => w.sep i j d e p ((h i d q1).mpr hi) ((h j e q2).mpr hj) hn q1 q2 q3
  len := w.len
def drp (i : Nat) (O : List Nat) : List Nat := O.filter fun j => decide (j ≠ i)
theorem mem_drp {i j : Nat} {O : List Nat} : j ∈ drp i O ↔ j ∈ O ∧ j ≠ i := by
  unfold drp
  rw [List.mem_filter, decide_eq_true_eq]
/-- what a slot owns becomes shared -/
theorem Wd.freeze (w : Wd K O Z σ Δ S F H) (i : Nat) : ∃ F', Ex F F' ∧ Wd K (drp i O) Z σ Δ S F' H := by
  by_cases hO : i ∈ O
  · cases hd : Δ[i]? with
    | none => exact ⟨F, Ex.refl _, w.mode fun j d q => by
        rw [mem_drp]
        exact ⟨fun z => ⟨z, fun e => by rw [e, hd] at q; cases q⟩, fun z => z.1⟩⟩
    | some od =>
      cases od with
      | none => exact ⟨F, Ex.refl _, w.mode fun j d q => by
          rw [mem_drp]
          exact ⟨fun z => ⟨z, fun e => by rw [e, hd] at q; cases q⟩, fun z => z.1⟩⟩
      | some d =>
        obtain ⟨p, o, h1, h2, h3, h4, h5, h6⟩ := w.ow i d hO hd
        have ef : Ex F (L2.upd F p o) := Ex.new h4
        refine ⟨L2.upd F p o, ef, ⟨fun b u q => ?_, w.zH, fun b u q => ?_, fun b ob q => ?_, fun j e nj q => ?_, fun j e nj q => ?_, fun j k e1 e2 r hj hk hn q1 q2 q3 => ?_, w.len⟩⟩
        · by_cases z : b = p
          · subst z; rw [upd_same] at q; cases q; exact h2
          · rw [upd_ne z] at q; exact w.fH b u q
        · by_cases z : b = p
          · subst z; exact h5
          · rw [upd_ne z] at q; exact w.fz b u q
        · obtain ⟨a1, a2, a3⟩ := w.st b ob q
          have z : b ≠ p := fun z => by rw [z, h6] at q; cases q
          exact ⟨(upd_ne z).trans a1, a2, a3.mono ef rfl⟩
        · by_cases z : j = i
          · subst z
            rw [hd] at q; cases q
            exact ⟨_, h1, (OwnO.mono ef h3).rep upd_same⟩
          · obtain ⟨v, b1, b2⟩ := w.fr j e (fun c => nj (mem_drp.mpr ⟨c, z⟩)) q
            exact ⟨v, b1, b2.mono ef⟩
        · obtain ⟨c1, c2⟩ := mem_drp.mp nj
          obtain ⟨r, u, a1, a2, a3, a4, a5, a6⟩ := w.ow j e c1 q
          refine ⟨r, u, a1, a2, a3.mono ef, ?_, a5, a6⟩
          have z : r ≠ p := fun z => w.sep i j d e p hO c1 (fun y => c2 y.symm) hd q h1 (z ▸ a1)
          exact (upd_ne z).trans a4
        · exact w.sep j k e1 e2 r (mem_drp.mp hj).1 (mem_drp.mp hk).1 hn q1 q2 q3
  · exact ⟨F, Ex.refl _, w.mode fun j d q => by
      rw [mem_drp]
      exact ⟨fun z => ⟨z, fun e => hO (e ▸ z)⟩, fun z => z.1⟩⟩
/-- a slot takes a new cell -/
theorem Wd.own (w : Wd K O Z σ Δ S F H) {i : Nat} {p : Addr} {o : HO} {d : D} (hi : i ∈ O) (hp : H p = some o) (r : OwnO K F o d) (hF : F p = none) (hZ : Z p = none) (hS : S p = none)
    (hn : ∀ (j : Nat) (e : D), j ∈ O → Δ[j]? = some (some e) → σ[j]? ≠ some (some (.ref p))) : Wd K O Z (σ.set i (some (.ref p))) (Δ.set i (some d)) S F H where
  fH := w.fH
  zH := w.zH
  fz := w.fz
  st := w.st
  fr := fun j e nj q => by
    have z : i ≠ j := fun z => nj (z ▸ hi)
    rw [List.getElem?_set_ne z] at q
    rw [List.getElem?_set_ne z]
    exact w.fr j e nj q
  ow := fun j e nj q => by
    by_cases z : i = j
    · subst z
      have hl : i < Δ.length := by
        rcases Nat.lt_or_ge i Δ.length with h | h
        · exact h
        · rw [List.getElem?_eq_none (by simpa using h)] at q; cases q
      rw [List.getElem?_set_self hl] at q
      cases q
      exact ⟨p, o, List.getElem?_set_self (by rw [w.len]; exact hl), hp, r, hF, hZ, hS⟩
    · rw [List.getElem?_set_ne z] at q
      rw [List.getElem?_set_ne z]
      exact w.ow j e nj q
  sep := fun j k d1 d2 r hj hk hjk q1 q2 q3 => by
    by_cases zj : i = j
    · subst zj
      have zk : i ≠ k := hjk
      rw [List.getElem?_set_ne zk] at q2 ⊢
      have hl : i < σ.length := by
        rcases Nat.lt_or_ge i σ.length with h | h
        · exact h
        · rw [List.getElem?_eq_none (by simpa using h)] at q3; cases q3
      rw [List.getElem?_set_self hl] at q3
      cases q3
      exact hn k d2 hk q2
    · rw [List.getElem?_set_ne zj] at q1 q3
      by_cases zk : i = k
      · subst zk
        intro q4
        have hl : i < σ.length := by
          rcases Nat.lt_or_ge i σ.length with h | h
          · exact h
          · rw [List.getElem?_eq_none (by simpa using h)] at q4; cases q4
        rw [List.getElem?_set_self hl] at q4
        cases q4
        exact hn j d1 hj q1 q3
      · rw [List.getElem?_set_ne zk] at q2 ⊢
        exact w.sep j k d1 d2 r hj hk hjk q1 q2 q3
  len := by rw [List.length_set, List.length_set]; exact w.len
/-- an owned cell is changed -/
theorem Wd.change (w : Wd K O Z σ Δ S F H) {i : Nat} {p : Addr} {o : HO} {d e : D} (hi : i ∈ O) (hd : Δ[i]? = some (some d)) (hs : σ[i]? = some (some (.ref p))) (r : OwnO K F o e) : Wd K O Z σ (Δ.set i (some e)) S F (L2.upd H p o) := by
  obtain ⟨p', o', a1, a2, a3, a4, a5, a6⟩ := w.ow i d hi hd
  rw [hs] at a1; cases a1
  have hl : i < Δ.length := by
    rcases Nat.lt_or_ge i Δ.length with h | h
    · exact h
    · rw [List.getElem?_eq_none (by simpa using h)] at hd; cases hd
  refine ⟨w.fH.mut a4, w.zH.mut a5, w.fz, fun b ob q => ?_, fun j f nj q => ?_, fun j f nj q => ?_, fun j k f1 f2 r hj hk hn q1 q2 q3 => ?_, by rw [List.length_set]; exact w.len⟩
  · obtain ⟨b1, b2, b3⟩ := w.st b ob q
    have z : b ≠ p := fun z => by rw [z, a6] at q; cases q
    exact ⟨b1, b2, b3.mono (Ex.refl _) (upd_ne z)⟩
  · have z : i ≠ j := fun z => nj (z ▸ hi)
    rw [List.getElem?_set_ne z] at q
    exact w.fr j f nj q
  · by_cases z : i = j
    · subst z
      rw [List.getElem?_set_self hl] at q
      cases q
      exact ⟨p, o, hs, upd_same, r, a4, a5, a6⟩
    · rw [List.getElem?_set_ne z] at q
      obtain ⟨r', u, b1, b2, b3, b4, b5, b6⟩ := w.ow j f nj q
      have y : r' ≠ p := fun y => w.sep i j d f p hi nj z hd q hs (y ▸ b1)
      exact ⟨r', u, b1, (upd_ne y).trans b2, b3, b4, b5, b6⟩
  · have back : ∀ (m : Nat) (g : D), (Δ.set i (some e))[m]? = some (some g) → ∃ g', Δ[m]? = some (some g') := fun m g q => by
      by_cases z : i = m
      · subst z; exact ⟨d, hd⟩
      · rw [List.getElem?_set_ne z] at q; exact ⟨g, q⟩
    obtain ⟨g1, y1⟩ := back j f1 q1
    obtain ⟨g2, y2⟩ := back k f2 q2
    exact w.sep j k g1 g2 r hj hk hn y1 y2 q3
/-- the frame of a callee: what others own and what the slots own -/
noncomputable def zo (O : List Nat) (σ : L2.St) (Δ : Env) (Z H : Hp) : Hp := by
  classical
  exact fun b => if ∃ i ∈ O, ∃ d, Δ[i]? = some (some d) ∧ σ[i]? = some (some (.ref b)) then H b else Z b
theorem zo_yes {b : Addr} (h : ∃ i ∈ O, ∃ d, Δ[i]? = some (some d) ∧ σ[i]? = some (some (.ref b))) : zo O σ Δ Z H b = H b := by
  unfold zo
  exact if_pos h
theorem zo_no {b : Addr} (h : ¬ ∃ i ∈ O, ∃ d, Δ[i]? = some (some d) ∧ σ[i]? = some (some (.ref b))) : zo O σ Δ Z H b = Z b := by
  unfold zo
  exact if_neg h
end
end DL

/-! DR: readings of the hand layer by meanings over trees: expressions. -/
namespace DL
open PySem L2

/-! ### readings -/
section
variable (K : PySem.W.Frag) (mg : Str → Option Value)
/-- an exception as it leaves -/
def ExnR (F H : Hp) (x : Exn) (cls : Value) (dd : Option Addr) : Prop :=
  mg x.cls = some cls ∧ ((x.fs = [] ∧ dd = none) ∨ ∃ d vs, dd = some d ∧ H d = some (.xd vs) ∧ Paired (fun (p : Str × V) (q : Str × D) => p.1 = q.1 ∧ Rep K F p.2 q.2) vs x.fs)
/-- what is wished of exceptions -/
def XQ (E : XK) (Z F : Hp) (R : RX) : Prop := ∀ (x : Exn) (cls : Value) (dd : Option Addr) (S' : Sto) (F' H' : Hp), Wd K [] Z [] [] S' F' H' → Ex F F' → ExnR K mg F' H' x cls dd → R x S' → E cls dd H'
/-- a value that is shared, or owned by a slot -/
def BRep (O : List Nat) (σ : L2.St) (Δ : Env) (F : Hp) (v : V) (d : D) : Prop := Rep K F v d ∨ ∃ i, i ∈ O ∧ Δ[i]? = some (some d) ∧ σ[i]? = some (some v)
inductive BReps (O : List Nat) (σ : L2.St) (Δ : Env) (F : Hp) : List V → List D → Prop
  | nil : BReps O σ Δ F [] []
  | cons {v : V} {d : D} {vs : List V} {ds : List D} : BRep K O σ Δ F v d → BReps O σ Δ F vs ds → BReps O σ Δ F (v :: vs) (d :: ds)
/-- a new cell -/
def NRep (O : List Nat) (σ : L2.St) (Δ : Env) (Z : Hp) (S : Sto) (F H : Hp) (v : V) (d : D) : Prop :=
  ∃ p o, v = .ref p ∧ H p = some o ∧ OwnO K F o d ∧ F p = none ∧ Z p = none ∧ S p = none ∧ ∀ (j : Nat) (e : D), j ∈ O → Δ[j]? = some (some e) → σ[j]? ≠ some (some (.ref p))
def rdE (b : Bool) (O : List Nat) (E : XK) (w : WE) : TE := fun σ H Q => ∃ Z Δ S F P R, Wd K O Z σ Δ S F H ∧ w Δ S P R ∧ XQ K mg E Z F R ∧
  ∀ v d S' F' H', Wd K O Z σ Δ S' F' H' → Ex F F' → (b = true → S' = S ∧ Al F H F' H') → Rep K F' v d → P d S' → Q v H'
def rdB (b : Bool) (O : List Nat) (E : XK) (w : WE) : TE := fun σ H Q => ∃ Z Δ S F P R, Wd K O Z σ Δ S F H ∧ w Δ S P R ∧ XQ K mg E Z F R ∧
  ∀ v d S' F' H', Wd K O Z σ Δ S' F' H' → Ex F F' → (b = true → S' = S ∧ Al F H F' H') → BRep K O σ Δ F' v d → P d S' → Q v H'
def rdN (b : Bool) (O : List Nat) (E : XK) (w : WE) : TE := fun σ H Q => ∃ Z Δ S F P R, Wd K O Z σ Δ S F H ∧ w Δ S P R ∧ XQ K mg E Z F R ∧
  ∀ v d S' F' H', Wd K O Z σ Δ S' F' H' → Ex F F' → (b = true → S' = S ∧ Al F H F' H') → NRep K O σ Δ Z S' F' H' v d → (b = true → ∀ p, v = .ref p → H p = none) → P d S' → Q v H'
def rdT (b : Bool) (O : List Nat) (E : XK) (w : WT) : TT := fun σ H Q => ∃ Z Δ S F P R, Wd K O Z σ Δ S F H ∧ w Δ S P R ∧ XQ K mg E Z F R ∧
  ∀ k S' F' H', Wd K O Z σ Δ S' F' H' → Ex F F' → (b = true → S' = S ∧ Al F H F' H') → P k S' → Q k H'
def rdA (b : Bool) (O : List Nat) (E : XK) (w : WA) : TA := fun σ H Q => ∃ Z Δ S F P R, Wd K O Z σ Δ S F H ∧ w Δ S P R ∧ XQ K mg E Z F R ∧
  ∀ vs ds S' F' H', Wd K O Z σ Δ S' F' H' → Ex F F' → (b = true → S' = S ∧ Al F H F' H') → Reps K F' vs ds → P ds S' → Q vs H'
def rdAB (b : Bool) (O : List Nat) (E : XK) (w : WA) : TA := fun σ H Q => ∃ Z Δ S F P R, Wd K O Z σ Δ S F H ∧ w Δ S P R ∧ XQ K mg E Z F R ∧
  ∀ vs ds S' F' H', Wd K O Z σ Δ S' F' H' → Ex F F' → (b = true → S' = S ∧ Al F H F' H') → BReps K O σ Δ F' vs ds → P ds S' → Q vs H'
def rdO (b : Bool) (O : List Nat) (E : XK) (w : Env → W (Option Int)) : TO := fun σ H Q => ∃ Z Δ S F P R, Wd K O Z σ Δ S F H ∧ w Δ S P R ∧ XQ K mg E Z F R ∧
  ∀ k S' F' H', Wd K O Z σ Δ S' F' H' → Ex F F' → (b = true → S' = S ∧ Al F H F' H') → P k S' → Q k H'
end
section
variable {K : PySem.W.Frag} {mg : Str → Option Value} {O : List Nat} {E : XK} {Z : Hp} {σ : L2.St} {Δ : Env} {S : Sto} {F F' H H' : Hp} {R : RX}
theorem XQ.mono (e : Ex F F') (x : XQ K mg E Z F R) : XQ K mg E Z F' R := fun a b c d f h w e' => x a b c d f h w (e.trans e')
theorem XQ.never {E : XK} : XQ K mg E Z F noR := fun _ _ _ _ _ _ _ _ _ h => h.elim
theorem BRep.mono (e : Ex F F') {v : V} {d : D} : BRep K O σ Δ F v d → BRep K O σ Δ F' v d := fun h => h.imp (fun z => z.mono e) fun z => z
theorem BReps.mono (e : Ex F F') : ∀ {vs : List V} {ds : List D}, BReps K O σ Δ F vs ds → BReps K O σ Δ F' vs ds
  | _, _, .nil => .nil
  | _, _, .cons h r => .cons (h.mono e) (BReps.mono e r)
/-- what can be seen of such a value -/
inductive VRep (K : PySem.W.Frag) (F H : Hp) : V → D → Prop
  | rep {v : V} {d : D} : Rep K F v d → VRep K F H v d
  | own {p : Addr} {o : HO} {d : D} : H p = some o → OwnO K F o d → VRep K F H (.ref p) d
inductive VReps (K : PySem.W.Frag) (F H : Hp) : List V → List D → Prop
  | nil : VReps K F H [] []
  | cons {v : V} {d : D} {vs : List V} {ds : List D} : VRep K F H v d → VReps K F H vs ds → VReps K F H (v :: vs) (d :: ds)
theorem BRep.see (w : Wd K O Z σ Δ S F H) {v : V} {d : D} : BRep K O σ Δ F v d → VRep K F H v d
  | .inl r => .rep r
  | .inr ⟨i, h1, h2, h3⟩ => by
    obtain ⟨p, o, a1, a2, a3, _⟩ := w.ow i d h1 h2
    rw [h3] at a1; cases a1
    exact .own a2 a3
theorem BReps.see (w : Wd K O Z σ Δ S F H) : ∀ {vs : List V} {ds : List D}, BReps K O σ Δ F vs ds → VReps K F H vs ds
  | _, _, .nil => .nil
  | _, _, .cons h r => .cons (h.see w) (BReps.see w r)
theorem VRep.int {v : V} {i : Int} (h : VRep K F H v (.int i)) : v = .int i := by
  cases h with
  | rep r => cases r; rfl
  | own _ o => cases o
theorem VRep.str {v : V} {i : Str} (h : VRep K F H v (.str i)) : v = .str i := by
  cases h with
  | rep r => cases r; rfl
  | own _ o => cases o
theorem VRep.bl {v : V} {i : Bool} (h : VRep K F H v (.bl i)) : v = .bl i := by
  cases h with
  | rep r => cases r; rfl
  | own _ o => cases o
theorem VRep.non {v : V} (h : VRep K F H v .non) : v = .non := by
  cases h with
  | rep r => cases r; rfl
  | own _ o => cases o
theorem VRep.lst (e : Ex F H) {v : V} {ds : List D} : VRep K F H v (.lst ds) → ∃ p vs, v = .ref p ∧ H p = some (.lst vs) ∧ Reps K F vs ds := fun h => by
  cases h with
  | rep r => cases r with | lst h r => exact ⟨_, _, rfl, e _ _ h, r⟩
  | own h o => cases o with | lst r => exact ⟨_, _, rfl, h, r⟩
theorem VRep.tupH (e : Ex F H) {v : V} {ds : List D} : VRep K F H v (.tup ds) → ∃ p vs, v = .ref p ∧ H p = some (.tup vs) ∧ Reps K F vs ds := fun h => by
  cases h with
  | rep r => cases r with | tup h r => exact ⟨_, _, rfl, e _ _ h, r⟩
  | own h o => cases o
theorem VRep.tup (e : Ex F H) {v : V} {ds : List D} : VRep K F H v (.tup ds) → ∃ p vs, v = .ref p ∧ SqT K H p vs ∧ Reps K F vs ds := fun h => by
  obtain ⟨p, vs, h1, h2, h3⟩ := h.tupH e
  exact ⟨p, vs, h1, .inl (.inl h2), h3⟩
theorem VRep.scr (e : Ex F H) {v : V} {ns : List Int} : VRep K F H v (.scr ns) → ∃ p, v = .ref p ∧ SqL K H p (ns.map V.int) := fun h => by
  cases h with
  | rep r => cases r with | scr h => exact ⟨_, rfl, e.sl h⟩
  | own h o => cases o
theorem VRep.dct (e : Ex F H) {v : V} {ds : List (Key × D)} : VRep K F H v (.dct ds) → ∃ p vs, v = .ref p ∧ H p = some (.dK vs) ∧ RepK K F vs ds := fun h => by
  cases h with
  | rep r => cases r with | dct h r => exact ⟨_, _, rfl, e _ _ h, r⟩
  | own h o => cases o with | dct r => exact ⟨_, _, rfl, h, r⟩
theorem VRep.obj {v : V} {a : Nat} (h : VRep K F H v (.obj a)) : v = .ref a := by
  cases h with
  | rep r => cases r; rfl
  | own _ o => cases o
theorem Rep.nonN {v : V} : Rep K F v .non → v = .non
  | .non => rfl
theorem NRep.share {v : V} {d : D} (w : Wd K O Z σ Δ S F H) (n : NRep K O σ Δ Z S F H v d) : ∃ F', Ex F F' ∧ Wd K O Z σ Δ S F' H ∧ Rep K F' v d ∧ ∀ b o, F' b = some o → F b = some o ∨ v = .ref b := by
  obtain ⟨p, o, rfl, h2, h3, h4, h5, h6, h7⟩ := n
  have ef : Ex F (L2.upd F p o) := Ex.new h4
  refine ⟨L2.upd F p o, ef, ⟨fun b u q => ?_, w.zH, fun b u q => ?_, fun b ob q => ?_, fun j e nj q => ?_, fun j e nj q => ?_, w.sep, w.len⟩, (OwnO.mono ef h3).rep upd_same, fun b u q => ?_⟩
  · by_cases z : b = p
    · subst z; rw [upd_same] at q; cases q; exact h2
    · rw [upd_ne z] at q; exact w.fH b u q
  · by_cases z : b = p
    · subst z; exact h5
    · rw [upd_ne z] at q; exact w.fz b u q
  · obtain ⟨a1, a2, a3⟩ := w.st b ob q
    have z : b ≠ p := fun z => by rw [z, h6] at q; cases q
    exact ⟨(upd_ne z).trans a1, a2, a3.mono ef rfl⟩
  · obtain ⟨v, b1, b2⟩ := w.fr j e nj q
    exact ⟨v, b1, b2.mono ef⟩
  · obtain ⟨r, u, a1, a2, a3, a4, a5, a6⟩ := w.ow j e nj q
    refine ⟨r, u, a1, a2, a3.mono ef, (upd_ne fun z => ?_).trans a4, a5, a6⟩
    exact h7 j e nj q (z ▸ a1)
  · by_cases z : b = p
    · subst z; exact .inr rfl
    · rw [upd_ne z] at q; exact .inl q
end

/-! ### weakening -/
section
variable {X : Cx}
theorem pe_to {e : Expr} {t t' : TE} (h : PE X e t) (i : ∀ σ H Q, t' σ H Q → t σ H Q) : PE X e t' := ⟨fun pins s σ H Q I q => h.run pins s σ H Q I (i σ H Q q)⟩
theorem pt_to {e : Expr} {t t' : TT} (h : PT X e t) (i : ∀ σ H Q, t' σ H Q → t σ H Q) : PT X e t' := ⟨fun pins s σ H Q I q => h.run pins s σ H Q I (i σ H Q q)⟩
theorem pw_to {e : Expr} {t t' : TT} (h : PW X e t) (i : ∀ σ H Q, t' σ H Q → t σ H Q) : PW X e t' := ⟨fun wh pins s σ H Q I q => h.run wh pins s σ H Q I (i σ H Q q)⟩
theorem pa_to {e : List Expr} {t t' : TA} (h : PA X e t) (i : ∀ σ H Q, t' σ H Q → t σ H Q) : PA X e t' := ⟨fun pos pins s σ H Q I q => h.run pos pins s σ H Q I (i σ H Q q)⟩
theorem po_to {e : Option Expr} {t t' : TO} (h : PO X e t) (i : ∀ σ H Q, t' σ H Q → t σ H Q) : PO X e t' := ⟨fun pins s σ H Q I q => h.run pins s σ H Q I (i σ H Q q)⟩
theorem ps_to {e : Stmt} {t t' : TS} (h : PS X e t) (i : ∀ D σ H, t' D σ H → t D σ H) : PS X e t' := ⟨fun pins s σ H D I q => h.run pins s σ H D I (i D σ H q)⟩
theorem pss_to {e : List Stmt} {t t' : TS} (h : PSs X e t) (i : ∀ D σ H, t' D σ H → t D σ H) : PSs X e t' := ⟨fun pins s σ H D I q => h.run pins s σ H D I (i D σ H q)⟩

abbrev DE (X : Cx) (b : Bool) (O : List Nat) (E : XK) (e : Expr) (w : WE) : Prop := PE X e (rdE X.K X.mg b O E w)
abbrev DB (X : Cx) (b : Bool) (O : List Nat) (E : XK) (e : Expr) (w : WE) : Prop := PE X e (rdB X.K X.mg b O E w)
abbrev DN (X : Cx) (b : Bool) (O : List Nat) (E : XK) (e : Expr) (w : WE) : Prop := PE X e (rdN X.K X.mg b O E w)
abbrev DT (X : Cx) (b : Bool) (O : List Nat) (E : XK) (e : Expr) (w : WT) : Prop := PT X e (rdT X.K X.mg b O E w)
abbrev DA (X : Cx) (b : Bool) (O : List Nat) (E : XK) (es : List Expr) (w : WA) : Prop := PA X es (rdA X.K X.mg b O E w)
abbrev DAB (X : Cx) (b : Bool) (O : List Nat) (E : XK) (es : List Expr) (w : WA) : Prop := PA X es (rdAB X.K X.mg b O E w)
abbrev DO (X : Cx) (b : Bool) (O : List Nat) (E : XK) (e : Option Expr) (w : Env → W (Option Int)) : Prop := PO X e (rdO X.K X.mg b O E w)

variable {b : Bool} {O : List Nat} {E : XK} {e a c : Expr} {w wa wb wc : WE} {pos : Pos}
/-- both pure: the steps of two pure parts -/
theorem pure2 {b : Bool} {S S1 S2 : Sto} {F H F1 H1 F2 H2 : Hp} (p1 : b = true → S1 = S ∧ Al F H F1 H1) (p2 : b = true → S2 = S1 ∧ Al F1 H1 F2 H2) : b = true → S2 = S ∧ Al F H F2 H2 := fun h =>
  ⟨(p2 h).1.trans (p1 h).1, (p1 h).2.trans (p2 h).2⟩
theorem pureA {b : Bool} {S S1 : Sto} {F H F1 H1 F2 H2 : Hp} (p1 : b = true → S1 = S ∧ Al F H F1 H1) (p2 : Al F1 H1 F2 H2) : b = true → S1 = S ∧ Al F H F2 H2 := fun h => ⟨(p1 h).1, (p1 h).2.trans p2⟩
theorem de_eff (h : DE X true O E e w) : DE X false O E e w := pe_to h fun σ H Q ⟨Z, Δ, S, F, P, R, k, hw, hx, hq⟩ =>
  ⟨Z, Δ, S, F, P, R, k, hw, hx, fun v d S' F' H' k' e' _ r p => hq v d S' F' H' k' e' (fun z => nomatch z) r p⟩
theorem db_eff (h : DB X true O E e w) : DB X false O E e w := pe_to h fun σ H Q ⟨Z, Δ, S, F, P, R, k, hw, hx, hq⟩ =>
  ⟨Z, Δ, S, F, P, R, k, hw, hx, fun v d S' F' H' k' e' _ r p => hq v d S' F' H' k' e' (fun z => nomatch z) r p⟩
theorem dn_eff (h : DN X true O E e w) : DN X false O E e w := pe_to h fun σ H Q ⟨Z, Δ, S, F, P, R, k, hw, hx, hq⟩ =>
  ⟨Z, Δ, S, F, P, R, k, hw, hx, fun v d S' F' H' k' e' _ r _ p => hq v d S' F' H' k' e' (fun z => nomatch z) r (fun z => nomatch z) p⟩
theorem dt_eff {w : WT} (h : DT X true O E e w) : DT X false O E e w := pt_to h fun σ H Q ⟨Z, Δ, S, F, P, R, k, hw, hx, hq⟩ =>
  ⟨Z, Δ, S, F, P, R, k, hw, hx, fun v S' F' H' k' e' _ p => hq v S' F' H' k' e' (fun z => nomatch z) p⟩
theorem de_b (h : DE X b O E e w) : DB X b O E e w := pe_to h fun σ H Q ⟨Z, Δ, S, F, P, R, k, hw, hx, hq⟩ =>
  ⟨Z, Δ, S, F, P, R, k, hw, hx, fun v d S' F' H' k' e' p r => hq v d S' F' H' k' e' p (.inl r)⟩
/-- a new cell is shared -/
theorem dn_e (h : DN X b O E e w) : DE X b O E e w := pe_to h fun σ H Q ⟨Z, Δ, S, F, P, R, k, hw, hx, hq⟩ =>
  ⟨Z, Δ, S, F, P, R, k, hw, hx, fun v d S' F' H' k' e' pu r hn p => by
    obtain ⟨F2, f1, f2, f3, f4⟩ := r.share k'
    refine hq v d S' F2 H' f2 (e'.trans f1) (fun z => ⟨(pu z).1, ?_⟩) f3 p
    have al := (pu z).2
    refine ⟨e'.trans f1, al.h, f2.fH, fun c o q => ?_⟩
    rcases f4 c o q with y | y
    · exact al.n c o y
    · exact .inr (hn z c y)⟩

/-! ### names, constants -/
theorem de_var (i : Nat) {x : Str} (hi : i ∉ O) (h : PE X (.Name x pos) (tVar i)) : DE X true O E (.Name x pos) (eVar i) := pe_to h fun σ H Q ⟨Z, Δ, S, F, P, R, k, ⟨d, hd, hp⟩, hx, hq⟩ => by
  obtain ⟨v, h1, h2⟩ := k.fr i d hi hd
  exact ⟨v, h1, hq v d S F H k (Ex.refl _) (fun _ => ⟨rfl, Al.refl k.fH⟩) h2 hp⟩
theorem db_var (i : Nat) {x : Str} (hi : i ∈ O) (h : PE X (.Name x pos) (tVar i)) : DB X true O E (.Name x pos) (eVar i) := pe_to h fun σ H Q ⟨Z, Δ, S, F, P, R, k, ⟨d, hd, hp⟩, hx, hq⟩ => by
  obtain ⟨p, o, h1, h2⟩ := k.ow i d hi hd
  exact ⟨.ref p, h1, hq _ d S F H k (Ex.refl _) (fun _ => ⟨rfl, Al.refl k.fH⟩) (.inr ⟨i, hi, hd, h1⟩) hp⟩
theorem de_c {v : V} {d : D} (h : PE X e (tC v)) (r : ∀ F, Rep X.K F v d) : DE X true O E e (eC d) := pe_to h fun σ H Q ⟨Z, Δ, S, F, P, R, k, hp, hx, hq⟩ =>
  hq v d S F H k (Ex.refl _) (fun _ => ⟨rfl, Al.refl k.fH⟩) (r F) hp
theorem de_int {i : Int} {j : Nat} : DE X true O E (.Constant (.int i) j pos) (eC (.int i)) := de_c pe_int fun _ => .int i
theorem de_bl {i : Bool} {j : Nat} : DE X true O E (.Constant (.bool i) j pos) (eC (.bl i)) := de_c pe_bl fun _ => .bl i
theorem de_non {j : Nat} : DE X true O E (.Constant .none j pos) (eC .non) := de_c pe_non fun _ => .non
theorem de_str {x : Str} {j : Nat} : DE X true O E (.Constant (.str x) j pos) (eC (.str x)) := de_c pe_str fun _ => .str x

/-! ### operators -/
/-- an operator's rule serves f -/
def OpS (K : PySem.W.Frag) (f : D → D → Option D) (r : R2) : Prop := ∀ (F H : Hp) (x y : V) (d1 d2 z : D) (Q : VK), Ex F H → VRep K F H x d1 → VRep K F H y d2 → f d1 d2 = some z →
  (∀ v F' H', Al F H F' H' → Rep K F' v z → Q v H') → r x y H Q
def UnS (K : PySem.W.Frag) (f : D → Option D) (r : V → Hp → VK → Prop) : Prop := ∀ (F H : Hp) (x : V) (d1 z : D) (Q : VK), Ex F H → VRep K F H x d1 → f d1 = some z →
  (∀ v F' H', Al F H F' H' → Rep K F' v z → Q v H') → r x H Q
def FnS (K : PySem.W.Frag) (f : List D → Option D) (r : List V → Hp → VK → Prop) : Prop := ∀ (F H : Hp) (xs : List V) (ds : List D) (z : D) (Q : VK), Ex F H → VReps K F H xs ds → f ds = some z →
  (∀ v F' H', Al F H F' H' → Rep K F' v z → Q v H') → r xs H Q
theorem rd_bin {f : D → D → Option D} {r : R2} (hr : OpS X.K f r) : ∀ σ H Q, rdE X.K X.mg b O E (eBin f wa wb) σ H Q → tOp r (rdB X.K X.mg b O E wa) (rdB X.K X.mg b O E wb) σ H Q :=
  fun σ H Q ⟨Z, Δ, S, F, P, R, k, hw, hx, hq⟩ => ⟨Z, Δ, S, F, _, R, k, hw, hx, fun v d S1 F1 H1 k1 e1 p1 r1 h1 => ⟨Z, Δ, S1, F1, _, R, k1, h1, hx.mono e1, fun u c S2 F2 H2 k2 e2 p2 r2 ⟨z, hz, hp⟩ =>
    hr F2 H2 v u d c z Q k2.fH ((r1.mono e2).see k2) (r2.see k2) hz fun v' F3 H3 al r3 => hq v' z S2 F3 H3 (k2.al al) (e1.trans (e2.trans al.f)) (pureA (pure2 p1 p2) al) r3 hp⟩⟩
theorem de_bin {op : Operator} {f : D → D → Option D} {r : R2} (ho : OpR X (binaryOp op) r) (hr : OpS X.K f r) (ha : DB X b O E a wa) (hb : DB X b O E c wb) : DE X b O E (.BinOp a op c pos) (eBin f wa wb) :=
  pe_to (pe_op ho ha hb) (rd_bin hr)
theorem de_cmp {op : CmpOp} {f : D → D → Option D} {r : R2} (ho : OpR X (compareOp op) r) (hr : OpS X.K f r) (ha : DB X b O E a wa) (hb : DB X b O E c wb) (hm : behindInMarks op c = false) : DE X b O E (.Compare a [op] [c] pos) (eBin f wa wb) :=
  pe_to (pe_cmpR ho ha hb hm) (rd_bin hr)
theorem de_un {op : UnaryOp} {f : D → Option D} {r : V → Hp → VK → Prop} (ho : UnR X (unaryOp op) r) (hr : UnS X.K f r) (ha : DB X b O E a wa) : DE X b O E (.UnaryOp op a pos) (eUn f wa) :=
  pe_to (pe_un ho ha) fun σ H Q ⟨Z, Δ, S, F, P, R, k, hw, hx, hq⟩ => ⟨Z, Δ, S, F, _, R, k, hw, hx, fun v d S1 F1 H1 k1 e1 p1 r1 ⟨z, hz, hp⟩ =>
    hr F1 H1 v d z Q k1.fH (r1.see k1) hz fun v' F3 H3 al r3 => hq v' z S1 F3 H3 (k1.al al) (e1.trans al.f) (pureA p1 al) r3 hp⟩
end
end DL

/-! DR2: readings by meanings: booleans, tests, arguments, displays, subscripts, built-in functions and methods. -/
namespace DL
open PySem L2
section
variable {X : Cx} {b : Bool} {O : List Nat} {E : XK} {e a c : Expr} {es : List Expr} {w wa wb wc : WE} {t u : WT} {pos : Pos}

/-! ### and, or, not, if -/
theorem de_one {op : BoolOp} (h : DE X b O E a w) : DE X b O E (.BoolOp op [a] pos) w := pe_one h
theorem de_and {rest : List Expr} (ha : DE X b O E a wa) (hb : DE X b O E (.BoolOp .And (c :: rest) pos) wb) : DE X b O E (.BoolOp .And (a :: c :: rest) pos) (eAnd wa wb) :=
  pe_to (pe_and ha hb) fun σ H Q ⟨Z, Δ, S, F, P, R, k, hw, hx, hq⟩ => ⟨Z, Δ, S, F, _, R, k, hw, hx, fun v d S1 F1 H1 k1 e1 p1 r1 ⟨q, hd, h⟩ => by
    subst hd
    cases r1
    refine ⟨q, rfl, ?_⟩
    cases q with
    | true => exact ⟨Z, Δ, S1, F1, P, R, k1, h, hx.mono e1, fun v d S2 F2 H2 k2 e2 p2 r2 hp => hq v d S2 F2 H2 k2 (e1.trans e2) (pure2 p1 p2) r2 hp⟩
    | false => exact hq _ _ S1 F1 H1 k1 e1 p1 (.bl false) h⟩
theorem de_or {rest : List Expr} (ha : DE X b O E a wa) (hb : DE X b O E (.BoolOp .Or (c :: rest) pos) wb) : DE X b O E (.BoolOp .Or (a :: c :: rest) pos) (eOr wa wb) :=
  pe_to (pe_or ha hb) fun σ H Q ⟨Z, Δ, S, F, P, R, k, hw, hx, hq⟩ => ⟨Z, Δ, S, F, _, R, k, hw, hx, fun v d S1 F1 H1 k1 e1 p1 r1 ⟨q, hd, h⟩ => by
    subst hd
    cases r1
    refine ⟨q, rfl, ?_⟩
    cases q with
    | true => exact hq _ _ S1 F1 H1 k1 e1 p1 (.bl true) h
    | false => exact ⟨Z, Δ, S1, F1, P, R, k1, h, hx.mono e1, fun v d S2 F2 H2 k2 e2 p2 r2 hp => hq v d S2 F2 H2 k2 (e1.trans e2) (pure2 p1 p2) r2 hp⟩⟩
theorem de_not (ha : DE X b O E a wa) : DE X b O E (.UnaryOp .Not a pos) (eNot wa) :=
  pe_to (pe_not ha) fun σ H Q ⟨Z, Δ, S, F, P, R, k, hw, hx, hq⟩ => ⟨Z, Δ, S, F, _, R, k, hw, hx, fun v d S1 F1 H1 k1 e1 p1 r1 ⟨q, hd, h⟩ => by
    subst hd
    cases r1
    exact ⟨q, rfl, hq _ _ S1 F1 H1 k1 e1 p1 (.bl (!q)) h⟩⟩
theorem de_if {t : WT} (ht : DT X b O E e t) (ha : DE X b O E a wa) (hb : DE X b O E c wb) : DE X b O E (.IfExp e a c pos) (eIf t wa wb) :=
  pe_to (pe_ifExp ht ha hb) fun σ H Q ⟨Z, Δ, S, F, P, R, k, hw, hx, hq⟩ => ⟨Z, Δ, S, F, _, R, k, hw, hx, fun q S1 F1 H1 k1 e1 p1 h => by
    cases q with
    | true => exact ⟨Z, Δ, S1, F1, P, R, k1, h, hx.mono e1, fun v d S2 F2 H2 k2 e2 p2 r2 hp => hq v d S2 F2 H2 k2 (e1.trans e2) (pure2 p1 p2) r2 hp⟩
    | false => exact ⟨Z, Δ, S1, F1, P, R, k1, h, hx.mono e1, fun v d S2 F2 H2 k2 e2 p2 r2 hp => hq v d S2 F2 H2 k2 (e1.trans e2) (pure2 p1 p2) r2 hp⟩⟩

/-! ### tests -/
theorem dt_val (ha : DE X b O E e w) (he : ∀ whole, isTrue e X.env whole = (do let v ← whole; standAt e.pos; holding [v] (truthy v)) := by intro _; rfl) : DT X b O E e (tE w) :=
  pt_to (pt_val ha he) fun σ H Q ⟨Z, Δ, S, F, P, R, k, hw, hx, hq⟩ => ⟨Z, Δ, S, F, _, R, k, hw, hx, fun v d S1 F1 H1 k1 e1 p1 r1 ⟨q, hd, h⟩ => by
    subst hd
    cases r1
    exact ⟨q, rfl, hq q S1 F1 H1 k1 e1 p1 h⟩⟩
theorem dt_cmp {op : CmpOp} {f : D → D → Option D} {r : R2} (ho : OpR X (compareOp op) r) (hr : OpS X.K f r) (ha : DB X b O E a wa) (hb : DB X b O E c wb) (hm : behindInMarks op c = false) : DT X b O E (.Compare a [op] [c] pos) (tE (eBin f wa wb)) :=
  pt_to (pt_cmpR ho ha hb hm) fun σ H Q ⟨Z, Δ, S, F, P, R, k, hw, hx, hq⟩ => rd_bin hr σ H _ ⟨Z, Δ, S, F, _, R, k, hw, hx, fun v d S1 F1 H1 k1 e1 p1 r1 ⟨q, hd, h⟩ => by
    subst hd
    cases r1
    exact ⟨q, rfl, hq q S1 F1 H1 k1 e1 p1 h⟩⟩
theorem tru_see {K : PySem.W.Frag} {F H : Hp} {v : V} {d : D} {k : Bool} (e : Ex F H) (r : VRep K F H v d) (h : dTru d = some k) : TruV K v H k := by
  cases d with
  | non => cases r.non; cases h; exact rfl
  | bl q => cases r.bl; cases h; exact rfl
  | int i => cases r.int; cases h; exact rfl
  | str x =>
    cases r.str
    have h' : (if x.length ≤ LINE then some ((x.length : Int) != 0) else none) = some k := h
    by_cases hl : x.length ≤ LINE
    · rw [if_pos hl] at h'; cases h'; exact ⟨hl, rfl⟩
    · rw [if_neg hl] at h'; cases h'
  | lst xs =>
    obtain ⟨p, vs, rfl, hp, rr⟩ := r.lst e
    cases h
    refine .inl ⟨vs, .inl (.inl hp), ?_⟩
    cases rr <;> rfl
  | tup xs =>
    obtain ⟨p, vs, rfl, hp, rr⟩ := r.tup e
    cases h
    refine .inr (.inl ⟨vs, hp, ?_⟩)
    cases rr <;> rfl
  | dct xs =>
    obtain ⟨p, vs, rfl, hp, rr⟩ := r.dct e
    cases h
    refine .inr (.inr ⟨vs, hp, ?_⟩)
    cases rr <;> rfl
  | _ => cases h
theorem dt_tru (ha : DB X b O E e w) (he : ∀ whole, isTrue e X.env whole = (do let v ← whole; standAt e.pos; holding [v] (truthy v)) := by intro _; rfl) : DT X b O E e (tTru w) :=
  pt_to (pt_truth ha he) fun σ H Q ⟨Z, Δ, S, F, P, R, k, hw, hx, hq⟩ => ⟨Z, Δ, S, F, _, R, k, hw, hx, fun v d S1 F1 H1 k1 e1 p1 r1 ⟨q, hd, h⟩ =>
    ⟨q, tru_see k1.fH (r1.see k1) hd, hq q S1 F1 H1 k1 e1 p1 h⟩⟩
theorem dt_not (ht : DT X b O E e t) : DT X b O E (.UnaryOp .Not e pos) (tNot t) :=
  pt_to (pt_not ht) fun σ H Q ⟨Z, Δ, S, F, P, R, k, hw, hx, hq⟩ => ⟨Z, Δ, S, F, _, R, k, hw, hx, fun q S1 F1 H1 k1 e1 p1 h => hq _ S1 F1 H1 k1 e1 p1 h⟩
abbrev DW' (X : Cx) (b : Bool) (O : List Nat) (E : XK) (e : Expr) (w : WT) : Prop := PW X e (rdT X.K X.mg b O E w)
theorem dw_and1 (ha : DT X b O E a t) : DW' X b O E (.BoolOp .And [a] pos) t := pw_and1 ha
theorem dw_or1 (ha : DT X b O E a t) : DW' X b O E (.BoolOp .Or [a] pos) t := pw_or1 ha
theorem dw_and {rest : List Expr} (ha : DT X b O E a t) (hb : DW' X b O E (.BoolOp .And (c :: rest) pos) u) : DW' X b O E (.BoolOp .And (a :: c :: rest) pos) (tAnd t u) :=
  pw_to (pw_and ha hb) fun σ H Q ⟨Z, Δ, S, F, P, R, k, hw, hx, hq⟩ => ⟨Z, Δ, S, F, _, R, k, hw, hx, fun q S1 F1 H1 k1 e1 p1 h => by
    cases q with
    | true => exact ⟨Z, Δ, S1, F1, P, R, k1, h, hx.mono e1, fun d S2 F2 H2 k2 e2 p2 hp => hq d S2 F2 H2 k2 (e1.trans e2) (pure2 p1 p2) hp⟩
    | false => exact hq _ S1 F1 H1 k1 e1 p1 h⟩
theorem dw_or {rest : List Expr} (ha : DT X b O E a t) (hb : DW' X b O E (.BoolOp .Or (c :: rest) pos) u) : DW' X b O E (.BoolOp .Or (a :: c :: rest) pos) (tOr t u) :=
  pw_to (pw_or ha hb) fun σ H Q ⟨Z, Δ, S, F, P, R, k, hw, hx, hq⟩ => ⟨Z, Δ, S, F, _, R, k, hw, hx, fun q S1 F1 H1 k1 e1 p1 h => by
    cases q with
    | true => exact hq _ S1 F1 H1 k1 e1 p1 h
    | false => exact ⟨Z, Δ, S1, F1, P, R, k1, h, hx.mono e1, fun d S2 F2 H2 k2 e2 p2 hp => hq d S2 F2 H2 k2 (e1.trans e2) (pure2 p1 p2) hp⟩⟩
theorem dt_w {op : BoolOp} {l : List Expr} (h : DW' X b O E (.BoolOp op l pos) t) : DT X b O E (.BoolOp op l pos) t := h.pt
/-- a < b < c -/
theorem rd_chain {f g : D → D → Option D} {r r' : R2} (hr : OpS X.K f r) (hr' : OpS X.K g r') : ∀ σ H Q, rdE X.K X.mg b O E (eChain f g wa wb wc) σ H Q → tChain r r' (rdB X.K X.mg b O E wa) (rdB X.K X.mg b O E wb) (rdB X.K X.mg b O E wc) σ H Q :=
  fun σ H Q ⟨Z, Δ, S, F, P, R, k, hw, hx, hq⟩ => ⟨Z, Δ, S, F, _, R, k, hw, hx, fun v d S1 F1 H1 k1 e1 p1 r1 h1 => ⟨Z, Δ, S1, F1, _, R, k1, h1, hx.mono e1, fun v2 d2 S2 F2 H2 k2 e2 p2 r2 ⟨q, hz, hp⟩ =>
    hr F2 H2 v v2 d d2 (.bl q) _ k2.fH ((r1.mono e2).see k2) (r2.see k2) hz fun v' F3 H3 al r3 => ⟨q, by cases r3; rfl, by
      have k3 := k2.al al
      cases q with
      | true => exact ⟨Z, Δ, S2, F3, _, R, k3, hp, hx.mono ((e1.trans e2).trans al.f), fun v4 d4 S4 F4 H4 k4 e4 p4 r4 ⟨z, hz', hp'⟩ =>
          hr' F4 H4 v2 v4 d2 d4 z Q k4.fH ((r2.mono (al.f.trans e4)).see k4) (r4.see k4) hz' fun v5 F5 H5 al5 r5 => hq v5 z S4 F5 H5 (k4.al al5) (((e1.trans e2).trans al.f).trans (e4.trans al5.f)) (pureA (pure2 (pureA (pure2 p1 p2) al) p4) al5) r5 hp'⟩
      | false => exact hq _ _ S2 F3 H3 k3 ((e1.trans e2).trans al.f) (pureA (pure2 p1 p2) al) (.bl false) hp⟩⟩⟩
theorem de_chain {op op' : CmpOp} {f g : D → D → Option D} {r r' : R2} {e3 : Expr} (ho : OpR X (compareOp op) r) (hr : OpS X.K f r) (ho' : OpR X (compareOp op') r') (hr' : OpS X.K g r') (ha : DB X b O E a wa) (hb : DB X b O E c wb) (hc : DB X b O E e3 wc)
    (hm : lastMarks [op, op'] [c, e3] = false := by with_unfolding_all rfl) : DE X b O E (.Compare a [op, op'] [c, e3] pos) (eChain f g wa wb wc) := pe_to (pe_chain ho ho' ha hb hc hm) (rd_chain hr hr')
theorem dt_chain {op op' : CmpOp} {f g : D → D → Option D} {r r' : R2} {e3 : Expr} (ho : OpR X (compareOp op) r) (hr : OpS X.K f r) (ho' : OpR X (compareOp op') r') (hr' : OpS X.K g r') (ha : DB X b O E a wa) (hb : DB X b O E c wb) (hc : DB X b O E e3 wc)
    (hm : lastMarks [op, op'] [c, e3] = false := by with_unfolding_all rfl) : DT X b O E (.Compare a [op, op'] [c, e3] pos) (tE (eChain f g wa wb wc)) :=
  pt_to (pt_chain ho ho' ha hb hc hm) fun σ H Q ⟨Z, Δ, S, F, P, R, k, hw, hx, hq⟩ => rd_chain hr hr' σ H _ ⟨Z, Δ, S, F, _, R, k, hw, hx, fun v d S1 F1 H1 k1 e1 p1 r1 ⟨q, hd, h⟩ => by
    subst hd
    cases r1
    exact ⟨q, rfl, hq q S1 F1 H1 k1 e1 p1 h⟩⟩

/-! ### arguments, displays -/
theorem da_nil : DA X true O E [] aNil := pa_to pa_nil fun σ H Q ⟨Z, Δ, S, F, P, R, k, hw, hx, hq⟩ => hq [] [] S F H k (Ex.refl _) (fun _ => ⟨rfl, Al.refl k.fH⟩) .nil hw
theorem dab_nil : DAB X true O E [] aNil := pa_to pa_nil fun σ H Q ⟨Z, Δ, S, F, P, R, k, hw, hx, hq⟩ => hq [] [] S F H k (Ex.refl _) (fun _ => ⟨rfl, Al.refl k.fH⟩) .nil hw
theorem da_eff {w : WA} (h : DA X true O E es w) : DA X false O E es w := pa_to h fun σ H Q ⟨Z, Δ, S, F, P, R, k, hw, hx, hq⟩ =>
  ⟨Z, Δ, S, F, P, R, k, hw, hx, fun v d S' F' H' k' e' _ r p => hq v d S' F' H' k' e' (fun z => nomatch z) r p⟩
theorem dab_eff {w : WA} (h : DAB X true O E es w) : DAB X false O E es w := pa_to h fun σ H Q ⟨Z, Δ, S, F, P, R, k, hw, hx, hq⟩ =>
  ⟨Z, Δ, S, F, P, R, k, hw, hx, fun v d S' F' H' k' e' _ r p => hq v d S' F' H' k' e' (fun z => nomatch z) r p⟩
theorem da_cons {w : WA} (ha : DE X b O E e wa) (hr : DA X b O E es w) (hs : starEach (e :: es) X.env = (false, eval e X.env) :: starEach es X.env := by rfl) : DA X b O E (e :: es) (aCons wa w) :=
  pa_to (pa_cons ha hr hs) fun σ H Q ⟨Z, Δ, S, F, P, R, k, hw, hx, hq⟩ => ⟨Z, Δ, S, F, _, R, k, hw, hx, fun v d S1 F1 H1 k1 e1 p1 r1 h1 => ⟨Z, Δ, S1, F1, _, R, k1, h1, hx.mono e1, fun vs ds S2 F2 H2 k2 e2 p2 r2 hp =>
    hq (v :: vs) (d :: ds) S2 F2 H2 k2 (e1.trans e2) (pure2 p1 p2) (.cons (r1.mono e2) r2) hp⟩⟩
theorem dab_cons {w : WA} (ha : DB X b O E e wa) (hr : DAB X b O E es w) (hs : starEach (e :: es) X.env = (false, eval e X.env) :: starEach es X.env := by rfl) : DAB X b O E (e :: es) (aCons wa w) :=
  pa_to (pa_cons ha hr hs) fun σ H Q ⟨Z, Δ, S, F, P, R, k, hw, hx, hq⟩ => ⟨Z, Δ, S, F, _, R, k, hw, hx, fun v d S1 F1 H1 k1 e1 p1 r1 h1 => ⟨Z, Δ, S1, F1, _, R, k1, h1, hx.mono e1, fun vs ds S2 F2 H2 k2 e2 p2 r2 hp =>
    hq (v :: vs) (d :: ds) S2 F2 H2 k2 (e1.trans e2) (pure2 p1 p2) (.cons (r1.mono e2) r2) hp⟩⟩
theorem LINE_le {n : Nat} (h : n ≤ LINE) : n ≤ sizeLine := by rw [sizeLine_eq]; exact h
theorem LINE_lt {n : Nat} (h : n < LINE) : n < sizeLine := by rw [sizeLine_eq]; exact h
theorem line_le {n : Nat} (h : n ≤ sizeLine) : n ≤ LINE := by rw [sizeLine_eq] at h; exact h
/-- a place that no one knows, in every part of the state -/
theorem new_cell {K : PySem.W.Frag} {O : List Nat} {Z : Hp} {σ : L2.St} {Δ : Env} {S : Sto} {F H : Hp} (k : Wd K O Z σ Δ S F H) {p : Addr} (hp : H p = none) (o : HO) :
    Wd K O Z σ Δ S F (L2.upd H p o) ∧ F p = none ∧ Z p = none ∧ S p = none ∧ ∀ (j : Nat) (e : D), j ∈ O → Δ[j]? = some (some e) → σ[j]? ≠ some (some (.ref p)) := by
  have hF := k.fH.none hp
  have hS : S p = none := by
    cases q : S p with
    | none => rfl
    | some ob =>
      obtain ⟨_, _, r⟩ := k.st p ob q
      obtain ⟨u, hu⟩ := r.some
      rw [hp] at hu; cases hu
  refine ⟨k.al ⟨Ex.refl _, Ex.new hp, k.fH.mut hF, fun _ _ q => .inl q⟩, hF, k.zH.none hp, hS, fun j e hj hd hs => ?_⟩
  obtain ⟨p', o', a1, a2, _⟩ := k.ow j e hj hd
  rw [hs] at a1; cases a1
  rw [hp] at a2; cases a2
theorem dn_lst {w : WA} (h : DA X b O E es w) : DN X b O E (.List es pos) (eLst w) :=
  pe_to (pe_lst h) fun σ H Q ⟨Z, Δ, S, F, P, R, k, hw, hx, hq⟩ => ⟨Z, Δ, S, F, _, R, k, hw, hx, fun vs ds S1 F1 H1 k1 e1 p1 r1 ⟨hl, hp⟩ => ⟨LINE_le (by rw [r1.len]; exact hl), fun p np => by
    obtain ⟨k2, f1, f2, f3, f4⟩ := new_cell k1 np (.lst vs)
    exact hq (.ref p) (.lst ds) S1 F1 _ k2 e1 (pureA p1 ⟨Ex.refl _, Ex.new np, k2.fH, fun _ _ q => .inl q⟩) ⟨p, _, rfl, upd_same, .lst r1, f1, f2, f3, f4⟩ (fun z q hq => by cases hq; exact (p1 z).2.h.none np) hp⟩⟩
theorem de_tup {w : WA} {x1 : Nat} (h : DA X b O E es w) : DE X b O E (.Tuple es x1 pos) (eTup w) :=
  pe_to (pe_tup h) fun σ H Q ⟨Z, Δ, S, F, P, R, k, hw, hx, hq⟩ => ⟨Z, Δ, S, F, _, R, k, hw, hx, fun vs ds S1 F1 H1 k1 e1 p1 r1 ⟨hl, hp⟩ => ⟨LINE_le (by rw [r1.len]; exact hl), fun p np => by
    have al := Al.new (o := .tup vs) k1.fH np
    exact hq (.ref p) (.tup ds) S1 _ _ (k1.al al) (e1.trans al.f) (pureA p1 al) (.tup upd_same (r1.mono al.f)) hp⟩⟩
theorem dn_dict0 : DN X true O E (.Dict [] [] pos) (eC (.dct [])) :=
  pe_to pe_dnewK fun σ H Q ⟨Z, Δ, S, F, P, R, k, hp, hx, hq⟩ => fun p np => by
    obtain ⟨k2, f1, f2, f3, f4⟩ := new_cell k np (.dK [])
    exact hq (.ref p) (.dct []) S F _ k2 (Ex.refl _) (fun _ => ⟨rfl, ⟨Ex.refl _, Ex.new np, k2.fH, fun _ _ q => .inl q⟩⟩) ⟨p, _, rfl, upd_same, .dct .nil, f1, f2, f3, f4⟩ (fun z q hq => by cases hq; exact np) hp

/-! ### subscripts, slices -/
theorem de_ix {f : D → D → Option D} {r : R2} (ho : IxR X r) (hr : OpS X.K f r) (ha : DB X b O E a wa) (hb : DB X b O E c wb) (hs : PlainIx c) : DE X b O E (.Subscript a c pos) (eBin f wa wb) :=
  pe_to (pe_ix ho ha hb hs) (rd_bin hr)
theorem do_none : DO X true O E none oNone := po_to po_none fun σ H Q ⟨Z, Δ, S, F, P, R, k, hw, hx, hq⟩ => hq none S F H k (Ex.refl _) (fun _ => ⟨rfl, Al.refl k.fH⟩) hw
theorem do_some (ha : DE X b O E e w) : DO X b O E (some e) (oSome w) := po_to (po_some ha) fun σ H Q ⟨Z, Δ, S, F, P, R, k, hw, hx, hq⟩ => ⟨Z, Δ, S, F, _, R, k, hw, hx, fun v d S1 F1 H1 k1 e1 p1 r1 ⟨i, hd, h⟩ => by
    subst hd
    cases r1
    exact ⟨i, rfl, hq _ S1 F1 H1 k1 e1 p1 h⟩⟩
theorem do_eff {o : Option Expr} {w : Env → W (Option Int)} (h : DO X true O E o w) : DO X false O E o w := po_to h fun σ H Q ⟨Z, Δ, S, F, P, R, k, hw, hx, hq⟩ =>
  ⟨Z, Δ, S, F, P, R, k, hw, hx, fun v S' F' H' k' e' _ p => hq v S' F' H' k' e' (fun z => nomatch z) p⟩
/-- a slice of a list or a text -/
def rSlA (K : PySem.W.Frag) : V → Option Int → Option Int → Hp → VK → Prop := fun x lo hi H Q => rSlL K x lo hi H Q ∨ rSlS x lo hi H Q
theorem sl_any : SlR X (rSlA X.K) := sl_list.or sl_str
theorem sl_see {K : PySem.W.Frag} {F H : Hp} {v : V} {d z : D} {lo hi : Option Int} {Q : VK} (ex : Ex F H) (r : VRep K F H v d) (h : dSl d lo hi = some z) (hq : ∀ v F' H', Al F H F' H' → Rep K F' v z → Q v H') : rSlA K v lo hi H Q := by
  cases d with
  | lst xs =>
    obtain ⟨p, vs, rfl, hp, rr⟩ := r.lst ex
    cases h
    refine .inl ⟨p, vs, rfl, .inl (.inl hp), fun q nq => ?_⟩
    have al := Al.new (o := .lst (cutV vs lo hi)) ex nq
    exact hq _ _ _ al (.lst upd_same ((rr.cut lo hi).mono al.f))
  | scr ns =>
    obtain ⟨p, rfl, hp⟩ := r.scr ex
    cases h
    refine .inl ⟨p, _, rfl, hp, fun q nq => ?_⟩
    have al := Al.new (o := .lst (cutV (ns.map V.int) lo hi)) ex nq
    refine hq _ _ _ al (.lst upd_same ?_)
    have e1 : cutV (ns.map V.int) lo hi = (cutD ns lo hi).map V.int := by
      unfold cutV cutD
      rw [List.length_map, List.map_take, List.map_drop]
    rw [e1]
    exact Reps.ints
  | str x =>
    cases r.str
    have h' : (if x.length ≤ LINE then some (D.str (L2.cutS x lo hi)) else none) = some z := h
    by_cases hl : x.length ≤ LINE
    · rw [if_pos hl] at h'; cases h'
      exact .inr ⟨x, rfl, LINE_le hl, hq _ F H (Al.refl ex) (.str _)⟩
    · rw [if_neg hl] at h'; cases h'
  | _ => cases h
theorem de_sl {lo hi : Option Expr} {wl wh : Env → W (Option Int)} {p2 : Pos} (ha : DB X b O E e w) (hl : DO X b O E lo wl) (hh : DO X b O E hi wh) : DE X b O E (.Subscript e (.Slice lo hi none p2) pos) (eSl w wl wh) :=
  pe_to (pe_slice sl_any ha hl hh) fun σ H Q ⟨Z, Δ, S, F, P, R, k, hw, hx, hq⟩ => ⟨Z, Δ, S, F, _, R, k, hw, hx, fun v d S1 F1 H1 k1 e1 p1 r1 h1 => ⟨Z, Δ, S1, F1, _, R, k1, h1, hx.mono e1, fun lo S2 F2 H2 k2 e2 p2 h2 =>
    ⟨Z, Δ, S2, F2, _, R, k2, h2, hx.mono (e1.trans e2), fun hi S3 F3 H3 k3 e3 p3 ⟨z, hz, hp⟩ => sl_see k3.fH ((r1.mono (e2.trans e3)).see k3) hz fun v' F4 H4 al r4 =>
      hq v' z S3 F4 H4 (k3.al al) ((e1.trans (e2.trans e3)).trans al.f) (pureA (pure2 (pure2 p1 p2) p3) al) r4 hp⟩⟩⟩
/-- a slice of a list is a new list -/
theorem dn_sl {lo hi : Option Expr} {wl wh : Env → W (Option Int)} {p2 : Pos} (ha : DB X b O E e w) (hl : DO X b O E lo wl) (hh : DO X b O E hi wh) : DN X b O E (.Subscript e (.Slice lo hi none p2) pos) (fun Δ S P R => eSl w wl wh Δ S (fun d S1 => (∃ xs, d = .lst xs) ∧ P d S1) R) :=
  pe_to (pe_slice sl_list ha hl hh) fun σ H Q ⟨Z, Δ, S, F, P, R, k, hw, hx, hq⟩ => ⟨Z, Δ, S, F, _, R, k, hw, hx, fun v d S1 F1 H1 k1 e1 p1 r1 h1 => ⟨Z, Δ, S1, F1, _, R, k1, h1, hx.mono e1, fun lo S2 F2 H2 k2 e2 p2 h2 =>
    ⟨Z, Δ, S2, F2, _, R, k2, h2, hx.mono (e1.trans e2), fun hi S3 F3 H3 k3 e3 p3 ⟨z, hz, ⟨xs, hxs⟩, hp⟩ => by
      have rv := (r1.mono (e2.trans e3)).see k3
      have pp := pure2 (pure2 p1 p2) p3
      have ee := e1.trans (e2.trans e3)
      have fin : ∀ (p : Addr) (vs : List V) (ds : List D), H3 p = none → Reps X.K F3 vs ds → z = .lst ds → Q (.ref p) (L2.upd H3 p (.lst vs)) := fun p vs ds np rr hz' => by
        obtain ⟨k4, f1, f2, f3, f4⟩ := new_cell k3 np (.lst vs)
        subst hz'
        exact hq (.ref p) (.lst ds) S3 F3 _ k4 ee (pureA pp ⟨Ex.refl _, Ex.new np, k4.fH, fun _ _ q => .inl q⟩) ⟨p, _, rfl, upd_same, .lst rr, f1, f2, f3, f4⟩ (fun z q hq => by cases hq; exact (pp z).2.h.none np) hp
      cases d with
      | lst ys =>
        obtain ⟨p, vs, rfl, hp', rr⟩ := rv.lst k3.fH
        cases hz
        exact ⟨p, vs, rfl, .inl (.inl hp'), fun q nq => fin q _ _ nq (rr.cut lo hi) rfl⟩
      | scr ns =>
        obtain ⟨p, rfl, hp'⟩ := rv.scr k3.fH
        cases hz
        refine ⟨p, _, rfl, hp', fun q nq => fin q _ _ nq ?_ rfl⟩
        have e1 : cutV (ns.map V.int) lo hi = (cutD ns lo hi).map V.int := by
          unfold cutV cutD
          rw [List.length_map, List.map_take, List.map_drop]
        rw [e1]
        exact Reps.ints
      | str x =>
        subst hxs
        have h' : (if x.length ≤ LINE then some (D.str (L2.cutS x lo hi)) else none) = some (D.lst xs) := hz
        by_cases hl : x.length ≤ LINE
        · rw [if_pos hl] at h'; cases h'
        · rw [if_neg hl] at h'; cases h'
      | _ => cases hz⟩⟩⟩

/-! ### built-in functions -/
theorem rd_fn {f : List D → Option D} {r : List V → Hp → VK → Prop} {w : WA} (hr : FnS X.K f r) : ∀ σ H Q, rdE X.K X.mg b O E (eFn f w) σ H Q → tCB r (rdAB X.K X.mg b O E w) σ H Q :=
  fun σ H Q ⟨Z, Δ, S, F, P, R, k, hw, hx, hq⟩ => ⟨Z, Δ, S, F, _, R, k, hw, hx, fun vs ds S1 F1 H1 k1 e1 p1 r1 ⟨z, hz, hp⟩ =>
    hr F1 H1 vs ds z Q k1.fH (r1.see k1) hz fun v' F3 H3 al r3 => hq v' z S1 F3 H3 (k1.al al) (e1.trans al.f) (pureA p1 al) r3 hp⟩
theorem de_blt {id : String} {f : List D → Option D} {r : List V → Hp → VK → Prop} {w : WA} {x : Str} {p : Pos} (hc : CallR X (.builtin id) r) (hr : FnS X.K f r) (hg : Gl X x) (hm : X.mg x = none) (hv : bootBuiltins x = some (.builtin id)) (ha : DAB X b O E (e :: es) w)
    (hn : x ≠ "__name__" := by decide) (hdb : (x == ("__debug__" : Str)) = false := by decide) (he : starEach (e :: es) X.env = (false, eval e X.env) :: starEach es X.env := by rfl) (hpl : (backTo pos (starEach es X.env)).any (·.1) = false := by rfl) :
    DE X b O E (.Call (.Name x p) (e :: es) [] pos) (eFn f w) := pe_to (pe_callB hc hg hm hv ha hn hdb he hpl) (rd_fn hr)
theorem de_ty {T : String} {f : List D → Option D} {r : List V → Hp → VK → Prop} {w : WA} {x : Str} {p : Pos} (hc : CallR X (.type T) r) (hr : FnS X.K f r) (hg : Gl X x) (hm : X.mg x = none) (hv : bootBuiltins x = some (.type T)) (ha : DAB X b O E (e :: es) w)
    (hn : x ≠ "__name__" := by decide) (hdb : (x == ("__debug__" : Str)) = false := by decide) (he : starEach (e :: es) X.env = (false, eval e X.env) :: starEach es X.env := by rfl) (hpl : (backTo pos (starEach es X.env)).any (·.1) = false := by rfl) :
    DE X b O E (.Call (.Name x p) (e :: es) [] pos) (eFn f w) := pe_to (pe_callTy hc hg hm hv ha hn hdb he hpl) (rd_fn hr)
/-- a type's call that makes a new list -/
def FnN (K : PySem.W.Frag) (f : List D → Option D) (r : List V → Hp → VK → Prop) : Prop := ∀ (F H : Hp) (xs : List V) (ds : List D) (z : D) (Q : VK), Ex F H → VReps K F H xs ds → f ds = some z →
  (∀ p o, H p = none → OwnO K F o z → Q (.ref p) (L2.upd H p o)) → r xs H Q
theorem FnN.s {K : PySem.W.Frag} {f : List D → Option D} {r : List V → Hp → VK → Prop} (h : FnN K f r) : FnS K f r := fun F H xs ds z Q ex rr hz hq =>
  h F H xs ds z Q ex rr hz fun p o np ro => hq _ _ _ (Al.new ex np) ((ro.mono (Ex.new (ex.none np))).rep upd_same)
theorem dn_ty {T : String} {f : List D → Option D} {r : List V → Hp → VK → Prop} {w : WA} {x : Str} {p : Pos} (hc : CallR X (.type T) r) (hr : FnN X.K f r) (hg : Gl X x) (hm : X.mg x = none) (hv : bootBuiltins x = some (.type T)) (ha : DAB X b O E (e :: es) w)
    (hn : x ≠ "__name__" := by decide) (hdb : (x == ("__debug__" : Str)) = false := by decide) (he : starEach (e :: es) X.env = (false, eval e X.env) :: starEach es X.env := by rfl) (hpl : (backTo pos (starEach es X.env)).any (·.1) = false := by rfl) :
    DN X b O E (.Call (.Name x p) (e :: es) [] pos) (eFn f w) := pe_to (pe_callTy hc hg hm hv ha hn hdb he hpl) fun σ H Q ⟨Z, Δ, S, F, P, R, k, hw, hx, hq⟩ => ⟨Z, Δ, S, F, _, R, k, hw, hx, fun vs ds S1 F1 H1 k1 e1 p1 r1 ⟨z, hz, hp⟩ =>
    hr F1 H1 vs ds z Q k1.fH (r1.see k1) hz fun p o np ro => by
      obtain ⟨k2, f1, f2, f3, f4⟩ := new_cell k1 np o
      exact hq (.ref p) z S1 F1 _ k2 e1 (pureA p1 ⟨Ex.refl _, Ex.new np, k2.fH, fun _ _ q => .inl q⟩) ⟨p, _, rfl, upd_same, ro, f1, f2, f3, f4⟩ (fun y q hq => by cases hq; exact (p1 y).2.h.none np) hp⟩
theorem dn_blt {id : String} {f : List D → Option D} {r : List V → Hp → VK → Prop} {w : WA} {x : Str} {p : Pos} (hc : CallR X (.builtin id) r) (hr : FnN X.K f r) (hg : Gl X x) (hm : X.mg x = none) (hv : bootBuiltins x = some (.builtin id)) (ha : DAB X b O E (e :: es) w)
    (hn : x ≠ "__name__" := by decide) (hdb : (x == ("__debug__" : Str)) = false := by decide) (he : starEach (e :: es) X.env = (false, eval e X.env) :: starEach es X.env := by rfl) (hpl : (backTo pos (starEach es X.env)).any (·.1) = false := by rfl) :
    DN X b O E (.Call (.Name x p) (e :: es) [] pos) (eFn f w) := pe_to (pe_callB hc hg hm hv ha hn hdb he hpl) fun σ H Q ⟨Z, Δ, S, F, P, R, k, hw, hx, hq⟩ => ⟨Z, Δ, S, F, _, R, k, hw, hx, fun vs ds S1 F1 H1 k1 e1 p1 r1 ⟨z, hz, hp⟩ =>
    hr F1 H1 vs ds z Q k1.fH (r1.see k1) hz fun p o np ro => by
      obtain ⟨k2, f1, f2, f3, f4⟩ := new_cell k1 np o
      exact hq (.ref p) z S1 F1 _ k2 e1 (pureA p1 ⟨Ex.refl _, Ex.new np, k2.fH, fun _ _ q => .inl q⟩) ⟨p, _, rfl, upd_same, ro, f1, f2, f3, f4⟩ (fun y q hq => by cases hq; exact (p1 y).2.h.none np) hp⟩
end
end DL

/-! DR3: the operators, functions and methods of Python serve the operators on trees. -/
namespace DL
open PySem L2
section
variable {K : PySem.W.Frag} {F H : Hp}

/-! ### arithmetic -/
def r2Add : R2 := fun x y H Q => (∃ i j, x = .int i ∧ y = .int j ∧ Q (.int (i + j)) H) ∨ ((∃ i j, x = .str i ∧ y = .str j ∧ i.length + j.length ≤ sizeLine ∧ Q (.str (i ++ j)) H) ∨ rCat x y H Q)
theorem op_addA {X : Cx} : OpR X (binaryOp .Add) r2Add := op_add.or (op_add_str.or op_cat)
theorem ite_some {α : Type} {c : Prop} [Decidable c] {x z : α} (h : (if c then some x else none) = some z) : c ∧ x = z := by
  by_cases hc : c
  · rw [if_pos hc] at h; exact ⟨hc, Option.some.inj h⟩
  · rw [if_neg hc] at h; cases h
theorem s_add : OpS K dAdd r2Add := fun F H x y d1 d2 z Q ex r1 r2 hz hq => by
  cases d1 with
  | int a =>
    cases d2 with
    | int c => cases r1.int; cases r2.int; cases hz; exact .inl ⟨a, c, rfl, rfl, hq _ F H (Al.refl ex) (.int _)⟩
    | _ => cases hz
  | str a =>
    cases d2 with
    | str c =>
      cases r1.str; cases r2.str
      obtain ⟨hl, rfl⟩ := ite_some (show (if a.length + c.length ≤ LINE then some (D.str (a ++ c)) else none) = some z from hz)
      exact .inr (.inl ⟨a, c, rfl, rfl, LINE_le hl, hq _ F H (Al.refl ex) (.str _)⟩)
    | _ => cases hz
  | lst a =>
    cases d2 with
    | lst c =>
      obtain ⟨p, vs, rfl, hp, rv⟩ := r1.lst ex
      obtain ⟨q, us, rfl, hq', ru⟩ := r2.lst ex
      obtain ⟨hl, rfl⟩ := ite_some (show (if a.length + c.length ≤ LINE then some (D.lst (a ++ c)) else none) = some z from hz)
      refine .inr (.inr ⟨p, q, vs, us, rfl, rfl, hp, hq', LINE_le (by rw [rv.len, ru.len]; exact hl), fun t nt => ?_⟩)
      have al := Al.new (o := .lst (vs ++ us)) ex nt
      exact hq _ _ _ al (.lst upd_same ((rv.app ru).mono al.f))
    | _ => cases hz
  | _ => cases hz
theorem s_I0 {f : D → D → Option D} {g : Int → Int → V} {gd : Int → Int → D} (hf : ∀ d1 d2 z, f d1 d2 = some z → ∃ i j, d1 = .int i ∧ d2 = .int j ∧ z = gd i j) (hg : ∀ F i j, Rep K F (g i j) (gd i j)) : OpS K f (rI0 g) := fun F H x y d1 d2 z Q ex r1 r2 hz hq => by
  obtain ⟨i, j, rfl, rfl, rfl⟩ := hf d1 d2 z hz
  cases r1.int; cases r2.int
  exact ⟨i, j, rfl, rfl, hq _ F H (Al.refl ex) (hg F i j)⟩
theorem s_I {f : D → D → Option D} {C : Int → Int → Prop} {g : Int → Int → V} {gd : Int → Int → D} (hf : ∀ d1 d2 z, f d1 d2 = some z → ∃ i j, d1 = .int i ∧ d2 = .int j ∧ C i j ∧ z = gd i j) (hg : ∀ F i j, Rep K F (g i j) (gd i j)) : OpS K f (rI C g) := fun F H x y d1 d2 z Q ex r1 r2 hz hq => by
  obtain ⟨i, j, rfl, rfl, hc, rfl⟩ := hf d1 d2 z hz
  cases r1.int; cases r2.int
  exact ⟨i, j, rfl, rfl, hc, hq _ F H (Al.refl ex) (hg F i j)⟩
theorem s_sub : OpS K dSub (rI0 fun i j => .int (i - j)) := s_I0 (gd := fun i j => .int (i - j)) (fun d1 d2 z h => by
  cases d1 <;> cases d2 <;> first | (cases h; exact ⟨_, _, rfl, rfl, rfl⟩) | cases h) fun _ _ _ => .int _
theorem s_cmp (p : Int → Int → Bool) : OpS K (dCmp p) (rI0 fun i j => .bl (p i j)) := s_I0 (gd := fun i j => .bl (p i j)) (fun d1 d2 z h => by
  cases d1 <;> cases d2 <;> first | (cases h; exact ⟨_, _, rfl, rfl, rfl⟩) | cases h) fun _ _ _ => .bl _
theorem s_div : OpS K dDiv (rI CDiv fun i j => .int (i / j)) := s_I (gd := fun i j => .int (i / j)) (fun d1 d2 z h => by
  cases d1 <;> cases d2 <;> first | (rename_i a c; obtain ⟨hc, rfl⟩ := ite_some (show (if 0 < c ∧ c < 1073741824 then some (D.int (a / c)) else none) = some z from h); exact ⟨_, _, rfl, rfl, hc, rfl⟩) | cases h) fun _ _ _ => .int _
theorem s_mod : OpS K dMod (rI (fun _ j => 0 < j) fun i j => .int (i % j)) := s_I (gd := fun i j => .int (i % j)) (fun d1 d2 z h => by
  cases d1 <;> cases d2 <;> first | (rename_i a c; obtain ⟨hc, rfl⟩ := ite_some (show (if 0 < c then some (D.int (a % c)) else none) = some z from h); exact ⟨_, _, rfl, rfl, hc, rfl⟩) | cases h) fun _ _ _ => .int _
theorem s_pow : OpS K dPow (rI CPow fun i j => .int (i ^ j.toNat)) := s_I (gd := fun i j => .int (i ^ j.toNat)) (fun d1 d2 z h => by
  cases d1 <;> cases d2 <;> first | (rename_i a c; obtain ⟨hc, rfl⟩ := ite_some (show (if 0 ≤ c ∧ c ≤ 1000000 ∧ a.natAbs < 2 ^ 64 then some (D.int (a ^ c.toNat)) else none) = some z from h); exact ⟨_, _, rfl, rfl, hc, rfl⟩) | cases h) fun _ _ _ => .int _
def r2Mul : R2 := fun x y H Q => rI CMul (fun i j => .int (i * j)) x y H Q ∨ rI CMulW (fun i j => .int (i * j)) x y H Q ∨ rRep x y H Q
theorem op_mulA {X : Cx} : OpR X (binaryOp .Mult) r2Mul := op_mul.or (op_mulW.or op_rep)
theorem s_mul : OpS K dMul r2Mul := fun F H x y d1 d2 z Q ex r1 r2 hz hq => by
  cases d1 with
  | int a =>
    cases d2 with
    | int c =>
      cases r1.int; cases r2.int
      obtain ⟨hl, rfl⟩ := ite_some (show (if ((-(2 ^ 64) < a ∧ a < 2 ^ 64) ∨ (-(2 ^ 64) < c ∧ c < 2 ^ 64)) ∨ a.natAbs.log2 + c.natAbs.log2 < 1000000 then some (D.int (a * c)) else none) = some z from hz)
      rcases hl with hl | hl
      · exact .inl ⟨a, c, rfl, rfl, hl, hq _ F H (Al.refl ex) (.int _)⟩
      · exact .inr (.inl ⟨a, c, rfl, rfl, hl, hq _ F H (Al.refl ex) (.int _)⟩)
    | _ => cases hz
  | lst a =>
    cases d2 with
    | int c =>
      obtain ⟨p, vs, rfl, hp, rv⟩ := r1.lst ex
      cases r2.int
      obtain ⟨⟨h1, h2, h3⟩, rfl⟩ := ite_some (show (if -(2 ^ 63) ≤ c ∧ c < 2 ^ 63 ∧ a.length * c.toNat ≤ LINE then some (D.lst (List.replicate c.toNat a).flatten) else none) = some z from hz)
      refine .inr (.inr ⟨p, c, vs, rfl, rfl, hp, h1, h2, LINE_le (by rw [rv.len]; exact h3), fun t nt => ?_⟩)
      have al := Al.new (o := .lst (List.replicate c.toNat vs).flatten) ex nt
      exact hq _ _ _ al (.lst upd_same ((rv.rep _).mono al.f))
    | _ => cases hz
  | _ => cases hz
theorem s_neg : UnS K dNeg (rU fun i => .int (-i)) := fun F H x d1 z Q ex r1 hz hq => by
  cases d1 with
  | int a => cases r1.int; cases hz; exact ⟨a, rfl, hq _ F H (Al.refl ex) (.int _)⟩
  | _ => cases hz

/-! ### == -/
theorem dp_ints (ex : Ex F H) : ∀ ns : List Int, DpAll K H (ns.map V.int) (ns.map PyData.int)
  | [] => .nil
  | n :: ns => .cons (.int n) (dp_ints ex ns)
mutual
theorem Rep.dp (ex : Ex F H) : ∀ {v : V} {d : D}, Rep K F v d → (toPy d).canLay0 = true → Dp K H v (toPy d)
  | _, _, .non, _ => .non
  | _, _, .bl b, _ => .bl b
  | _, _, .int i, _ => .int i
  | _, _, .str x, _ => .str x
  | _, _, .lst h r, c => .lst (.inl (.inl (ex _ _ h))) (Reps.dp ex r (by simpa [toPy, PyData.canLay0] using c))
  | _, _, .tup h r, c => .tup (.inl (.inl (ex _ _ h))) (Reps.dp ex r (by simpa [toPy, PyData.canLay0] using c))
  | _, _, .dct _ _, c => by simp [toPy, PyData.canLay0] at c
  | _, _, .dcT _ _, c => by simp [toPy, PyData.canLay0] at c
  | _, _, .obj _, c => by simp [toPy, PyData.canLay0] at c
  | _, _, .scr h, _ => .lst (ex.sl h) (dp_ints ex _)
theorem Reps.dp (ex : Ex F H) : ∀ {vs : List V} {ds : List D}, Reps K F vs ds → PyData.canLayAll0 (toPyAll ds) = true → DpAll K H vs (toPyAll ds)
  | _, _, .nil, _ => .nil
  | _, _, .cons h r, c => by
    rw [toPyAll, PyData.canLayAll0, Bool.and_eq_true] at c
    rw [toPyAll]
    exact .cons (Rep.dp ex h c.1) (Reps.dp ex r c.2)
end
theorem VRep.dp (ex : Ex F H) {v : V} {d : D} (r : VRep K F H v d) (h : shD d = true) : Dp K H v (toPy d) := by
  have c : (toPy d).canLay0 = true := SeqAt.canLay_of_shaped h
  cases r with
  | rep r => exact r.dp ex c
  | own hp o =>
    cases o with
    | lst r => exact .lst (.inl (.inl hp)) (r.dp ex (by simpa [toPy, PyData.canLay0] using c))
    | dct r => simp [toPy, PyData.canLay0] at c
    | dcT r => simp [toPy, PyData.canLay0] at c
def r2Eq (K : PySem.W.Frag) : R2 := fun x y H Q => rEq x y H Q ∨ rEqD K x y H Q
def r2Ne (K : PySem.W.Frag) : R2 := fun x y H Q => rNe x y H Q ∨ rNeD K x y H Q
theorem op_eqA {X : Cx} (hu : X.A.units + 64 < cLine) : OpR X (compareOp .Eq) (r2Eq X.K) := op_eq.or (op_eqD hu)
theorem op_neA {X : Cx} (hu : X.A.units + 64 < cLine) : OpR X (compareOp .NotEq) (r2Ne X.K) := op_ne.or (op_neD hu)
theorem dEqB_cases {d1 d2 : D} {k : Bool} (h : dEqB d1 d2 = some k) : (∃ x y, d1 = .str x ∧ d2 = .str y ∧ k = decide (x = y)) ∨ (shD d1 = true ∧ shD d2 = true ∧ k = PyData.eqv (toPy d1) (toPy d2)) := by
  unfold dEqB at h
  split at h
  · exact .inl ⟨_, _, rfl, rfl, (Option.some.inj h).symm⟩
  · obtain ⟨⟨h1, h2⟩, rfl⟩ := ite_some h
    exact .inr ⟨h1, h2, rfl⟩
theorem s_eq : OpS K dEq (r2Eq K) := fun F H x y d1 d2 z Q ex r1 r2 hz hq => by
  obtain ⟨k, hk, rfl⟩ := Option.map_eq_some_iff.mp hz
  rcases dEqB_cases hk with ⟨a, c, rfl, rfl, rfl⟩ | ⟨h1, h2, rfl⟩
  · cases r1.str; cases r2.str
    refine .inl ⟨rfl, ?_⟩
    have e : decide (V.str a = V.str c) = decide (a = c) := by rw [decide_eq_decide]; exact ⟨fun z => V.str.inj z, fun z => by rw [z]⟩
    rw [e]
    exact hq _ F H (Al.refl ex) (.bl _)
  · exact .inr ⟨_, _, r1.dp ex h1, r2.dp ex h2, h1, h2, hq _ F H (Al.refl ex) (.bl _)⟩
theorem s_ne : OpS K dNe (r2Ne K) := fun F H x y d1 d2 z Q ex r1 r2 hz hq => by
  obtain ⟨k, hk, rfl⟩ := Option.map_eq_some_iff.mp hz
  rcases dEqB_cases hk with ⟨a, c, rfl, rfl, rfl⟩ | ⟨h1, h2, rfl⟩
  · cases r1.str; cases r2.str
    refine .inl ⟨rfl, ?_⟩
    have e : decide (V.str a = V.str c) = decide (a = c) := by rw [decide_eq_decide]; exact ⟨fun z => V.str.inj z, fun z => by rw [z]⟩
    rw [e]
    exact hq _ F H (Al.refl ex) (.bl _)
  · exact .inr ⟨_, _, r1.dp ex h1, r2.dp ex h2, h1, h2, hq _ F H (Al.refl ex) (.bl _)⟩
def r2Is : R2 := fun x y H Q => (y = .non ∧ Q (.bl (decide (x = .non))) H) ∨ rIsB x y H Q
def r2IsNot : R2 := fun x y H Q => (y = .non ∧ Q (.bl (!decide (x = .non))) H) ∨ rNotB x y H Q
theorem op_isA {X : Cx} : OpR X (compareOp .Is) r2Is := op_isN.or op_isBl
theorem op_isNotA {X : Cx} : OpR X (compareOp .IsNot) r2IsNot := op_notN.or op_notBl
theorem VRep.isNon {v : V} {d : D} (r : VRep K F H v d) : decide (v = .non) = isNonD d := by
  cases r with
  | rep r => cases r <;> simp [isNonD]
  | own hp o => cases o <;> simp [isNonD]
theorem s_is : OpS K dIs r2Is := fun F H x y d1 d2 z Q ex r1 r2 hz hq => by
  cases d2 with
  | non =>
    cases r2.non
    cases hz
    refine .inl ⟨rfl, ?_⟩
    rw [r1.isNon]
    exact hq _ F H (Al.refl ex) (.bl _)
  | bl c =>
    cases d1 with
    | bl a =>
      cases r1.bl; cases r2.bl
      cases hz
      refine .inr ⟨a, c, rfl, rfl, ?_⟩
      have e : decide (a = c) = (a == c) := by cases a <;> cases c <;> rfl
      rw [e]
      exact hq _ F H (Al.refl ex) (.bl _)
    | _ => cases hz
  | _ => cases d1 <;> cases hz
theorem s_isNot : OpS K dIsNot r2IsNot := fun F H x y d1 d2 z Q ex r1 r2 hz hq => by
  cases d2 with
  | non =>
    cases r2.non
    cases hz
    refine .inl ⟨rfl, ?_⟩
    rw [r1.isNon]
    exact hq _ F H (Al.refl ex) (.bl _)
  | bl c =>
    cases d1 with
    | bl a =>
      cases r1.bl; cases r2.bl
      cases hz
      refine .inr ⟨a, c, rfl, rfl, ?_⟩
      have e : decide (a = c) = (a == c) := by cases a <;> cases c <;> rfl
      rw [e]
      exact hq _ F H (Al.refl ex) (.bl _)
    | _ => cases hz
  | _ => cases d1 <;> cases hz

/-! ### items -/
theorem atI_reps {vs : List V} {ds : List D} {i : Int} {z : D} (r : Reps K F vs ds) (h : atI ds i = some z) : ∃ v, atI vs i = some v ∧ Rep K F v z := by
  unfold atI at h ⊢
  rw [r.len]
  cases e : ixN ds.length i with
  | none => rw [e] at h; cases h
  | some j =>
    rw [e] at h
    exact r.get h
theorem atI_map {α β : Type} (f : α → β) (xs : List α) (i : Int) : atI (xs.map f) i = (atI xs i).map f := by
  unfold atI
  rw [List.length_map]
  cases ixN xs.length i with
  | none => rfl
  | some j => exact List.getElem?_map ..
theorem s_ix : OpS K dIx (rIx K) := fun F H x y d1 d2 z Q ex r1 r2 hz hq => by
  cases d1 with
  | lst xs =>
    cases d2 with
    | int i =>
      obtain ⟨p, vs, rfl, hp, rv⟩ := r1.lst ex
      cases r2.int
      obtain ⟨v, h1, h2⟩ := atI_reps rv (show atI xs i = some z from hz)
      exact .inl ⟨p, vs, i, v, rfl, rfl, .inl (.inl hp), h1, hq v F H (Al.refl ex) h2⟩
    | _ => cases hz
  | tup xs =>
    cases d2 with
    | int i =>
      obtain ⟨p, vs, rfl, hp, rv⟩ := r1.tup ex
      cases r2.int
      obtain ⟨v, h1, h2⟩ := atI_reps rv (show atI xs i = some z from hz)
      exact .inr (.inl ⟨p, vs, i, v, rfl, rfl, hp, h1, hq v F H (Al.refl ex) h2⟩)
    | _ => cases hz
  | scr xs =>
    cases d2 with
    | int i =>
      obtain ⟨p, rfl, hp⟩ := r1.scr ex
      cases r2.int
      obtain ⟨n, h1, rfl⟩ := Option.map_eq_some_iff.mp (show (atI xs i).map D.int = some z from hz)
      exact .inl ⟨p, _, i, .int n, rfl, rfl, hp, by rw [atI_map, h1]; rfl, hq _ F H (Al.refl ex) (.int n)⟩
    | _ => cases hz
  | str x =>
    cases d2 with
    | int i =>
      cases r1.str; cases r2.int
      have h' : (if x.length ≤ LINE then (atI x.cps.toList i).map fun c => D.str ⟨#[c]⟩ else none) = some z := hz
      by_cases hl : x.length ≤ LINE
      · rw [if_pos hl] at h'
        obtain ⟨c, h1, rfl⟩ := Option.map_eq_some_iff.mp h'
        exact .inr (.inr ⟨x, i, c, rfl, rfl, LINE_le hl, h1, hq _ F H (Al.refl ex) (.str _)⟩)
      · rw [if_neg hl] at h'; cases h'
    | _ => cases hz
  | _ => cases hz
end
end DL

/-! DR4: built-in functions, isinstance, methods of built-in classes. -/
namespace DL
open PySem PySem.Spec PyProof.Rows L2
section
variable {K : PySem.W.Frag} {F H : Hp}
theorem VReps.one {xs : List V} {d : D} (r : VReps K F H xs [d]) : ∃ x, xs = [x] ∧ VRep K F H x d := by
  cases r with
  | cons h t => cases t; exact ⟨_, rfl, h⟩
theorem VReps.two {xs : List V} {d e : D} (r : VReps K F H xs [d, e]) : ∃ x y, xs = [x, y] ∧ VRep K F H x d ∧ VRep K F H y e := by
  cases r with
  | cons h t =>
    obtain ⟨y, rfl, h2⟩ := t.one
    exact ⟨_, y, rfl, h, h2⟩
theorem bools_see : ∀ {vs : List V} {ds : List D} {bs : List Bool}, Reps K F vs ds → boolsOf ds = some bs → vs = bs.map V.bl
  | _, _, _, .nil, h => by cases h; rfl
  | _, _, _, .cons (d := d) h r, e => by
    cases h with
    | bl b =>
      obtain ⟨cs, h1, rfl⟩ := Option.map_eq_some_iff.mp (show (boolsOf _).map (b :: ·) = some _ from e)
      rw [bools_see r h1]; rfl
    | _ => cases e
theorem ints_see : ∀ {vs : List V} {ds : List D} {bs : List Int}, Reps K F vs ds → intsOf ds = some bs → vs = bs.map V.int
  | _, _, _, .nil, h => by cases h; rfl
  | _, _, _, .cons (d := d) h r, e => by
    cases h with
    | int b =>
      obtain ⟨cs, h1, rfl⟩ := Option.map_eq_some_iff.mp (show (intsOf _).map (b :: ·) = some _ from e)
      rw [ints_see r h1]; rfl
    | _ => cases e
theorem strs_see : ∀ {vs : List V} {ds : List D} {bs : List Str}, Reps K F vs ds → strsOf ds = some bs → vs = bs.map V.str
  | _, _, _, .nil, h => by cases h; rfl
  | _, _, _, .cons (d := d) h r, e => by
    cases h with
    | str b =>
      obtain ⟨cs, h1, rfl⟩ := Option.map_eq_some_iff.mp (show (strsOf _).map (b :: ·) = some _ from e)
      rw [strs_see r h1]; rfl
    | _ => cases e
theorem Reps.strs : ∀ {ns : List Str}, Reps K F (ns.map V.str) (ns.map D.str)
  | [] => .nil
  | n :: ns => .cons (.str n) Reps.strs
/-! ### len -/
def rLenA (K : PySem.W.Frag) : List V → Hp → VK → Prop := fun xs H Q => (∃ x n, xs = [x] ∧ LenV K x H n ∧ Q (.int n) H) ∨ (∃ a kvs, xs = [V.ref a] ∧ H a = some (.dK kvs) ∧ Q (.int kvs.length) H)
theorem call_lenA {X : Cx} : CallR X (.builtin "len") (rLenA X.K) := call_len.or call_lenD
theorem s_len : FnS K fLen (rLenA K) := fun F H xs ds z Q ex r hz hq => by
  unfold fLen at hz
  split at hz
  · rename_i d
    obtain ⟨x, rfl, rx⟩ := r.one
    cases d with
    | lst ys =>
      obtain ⟨p, vs, rfl, hp, rv⟩ := rx.lst ex
      cases hz
      refine .inl ⟨_, vs.length, rfl, .inl ⟨vs, .inl (.inl hp), rfl⟩, ?_⟩
      rw [rv.len]; exact hq _ F H (Al.refl ex) (.int _)
    | tup ys =>
      obtain ⟨p, vs, rfl, hp, rv⟩ := rx.tup ex
      cases hz
      refine .inl ⟨_, vs.length, rfl, .inr ⟨vs, hp, rfl⟩, ?_⟩
      rw [rv.len]; exact hq _ F H (Al.refl ex) (.int _)
    | scr ys =>
      obtain ⟨p, rfl, hp⟩ := rx.scr ex
      cases hz
      refine .inl ⟨_, _, rfl, .inl ⟨_, hp, rfl⟩, ?_⟩
      rw [List.length_map]; exact hq _ F H (Al.refl ex) (.int _)
    | str y =>
      cases rx.str
      obtain ⟨hl, rfl⟩ := ite_some (show (if y.length ≤ LINE then some (D.int (y.length : Int)) else none) = some z from hz)
      exact .inl ⟨_, _, rfl, ⟨LINE_le hl, rfl⟩, hq _ F H (Al.refl ex) (.int _)⟩
    | dct ys =>
      obtain ⟨p, vs, rfl, hp, rv⟩ := rx.dct ex
      cases hz
      refine .inr ⟨p, vs, rfl, hp, ?_⟩
      rw [rv.len]; exact hq _ F H (Al.refl ex) (.int _)
    | _ => cases hz
  · cases hz
theorem s_all : FnS K fAll (rAll K) := fun F H xs ds z Q ex r hz hq => by
  unfold fAll at hz
  split at hz
  · obtain ⟨x, rfl, rx⟩ := r.one
    obtain ⟨bs, h1, rfl⟩ := Option.map_eq_some_iff.mp hz
    obtain ⟨p, vs, rfl, hp, rv⟩ := rx.lst ex
    cases bools_see rv h1
    exact ⟨p, bs, rfl, .inl (.inl hp), hq _ F H (Al.refl ex) (.bl _)⟩
  · cases hz
theorem s_any : FnS K fAny (rAny K) := fun F H xs ds z Q ex r hz hq => by
  unfold fAny at hz
  split at hz
  · obtain ⟨x, rfl, rx⟩ := r.one
    obtain ⟨bs, h1, rfl⟩ := Option.map_eq_some_iff.mp hz
    obtain ⟨p, vs, rfl, hp, rv⟩ := rx.lst ex
    cases bools_see rv h1
    exact ⟨p, bs, rfl, .inl (.inl hp), hq _ F H (Al.refl ex) (.bl _)⟩
  · cases hz
theorem s_sum : FnS K fSum (rSum K) := fun F H xs ds z Q ex r hz hq => by
  unfold fSum at hz
  split at hz
  · obtain ⟨x, rfl, rx⟩ := r.one
    obtain ⟨bs, h1, rfl⟩ := Option.map_eq_some_iff.mp hz
    obtain ⟨p, vs, rfl, hp, rv⟩ := rx.lst ex
    cases ints_see rv h1
    exact ⟨p, bs, rfl, .inl (.inl hp), hq _ F H (Al.refl ex) (.int _)⟩
  · cases hz
theorem s_abs : FnS K fAbs (fun xs H Q => ∃ i, xs = [.int i] ∧ Q (.int (if i < 0 then -i else i)) H) := fun F H xs ds z Q ex r hz hq => by
  unfold fAbs at hz
  split at hz
  · obtain ⟨x, rfl, rx⟩ := r.one
    cases rx.int; cases hz
    exact ⟨_, rfl, hq _ F H (Al.refl ex) (.int _)⟩
  · cases hz
theorem s_max : FnS K fMax (fun xs H Q => ∃ i j, xs = [.int i, .int j] ∧ Q (.int (if j > i then j else i)) H) := fun F H xs ds z Q ex r hz hq => by
  unfold fMax at hz
  split at hz
  · obtain ⟨x, y, rfl, rx, ry⟩ := r.two
    cases rx.int; cases ry.int; cases hz
    exact ⟨_, _, rfl, hq _ F H (Al.refl ex) (.int _)⟩
  · cases hz
theorem s_min : FnS K fMin (fun xs H Q => ∃ i j, xs = [.int i, .int j] ∧ Q (.int (if j < i then j else i)) H) := fun F H xs ds z Q ex r hz hq => by
  unfold fMin at hz
  split at hz
  · obtain ⟨x, y, rfl, rx, ry⟩ := r.two
    cases rx.int; cases ry.int; cases hz
    exact ⟨_, _, rfl, hq _ F H (Al.refl ex) (.int _)⟩
  · cases hz
def rIntA : List V → Hp → VK → Prop := fun xs H Q => ((∃ i, xs = [.int i] ∧ Q (.int i) H) ∨ ∃ k, xs = [.bl k] ∧ Q (.int (if k then 1 else 0)) H) ∨ (∃ a n, xs = [.str a] ∧ PySem.intText? a = some n ∧ a.length ≤ 640 ∧ Q (.int n) H)
theorem call_intA {X : Cx} : CallR X (.type "int") rIntA := call_int1.or call_int_str
theorem s_int : FnS K fInt rIntA := fun F H xs ds z Q ex r hz hq => by
  unfold fInt at hz
  split at hz
  · obtain ⟨x, rfl, rx⟩ := r.one
    cases rx.int; cases hz
    exact .inl (.inl ⟨_, rfl, hq _ F H (Al.refl ex) (.int _)⟩)
  · obtain ⟨x, rfl, rx⟩ := r.one
    cases rx.bl; cases hz
    exact .inl (.inr ⟨_, rfl, hq _ F H (Al.refl ex) (.int _)⟩)
  · rename_i a
    obtain ⟨x, rfl, rx⟩ := r.one
    cases rx.str
    by_cases hl : a.length ≤ 640
    · rw [if_pos hl] at hz
      obtain ⟨n, h1, rfl⟩ := Option.map_eq_some_iff.mp hz
      exact .inr ⟨a, n, rfl, h1, hl, hq _ F H (Al.refl ex) (.int _)⟩
    · rw [if_neg hl] at hz; cases hz
  · cases hz
def rStrA : List V → Hp → VK → Prop := fun xs H Q => (∃ i, xs = [.int i] ∧ i.natAbs.log2 < 1920 ∧ Q (.str (toString i)) H) ∨ ∃ a, xs = [.str a] ∧ Q (.str a) H
theorem s_str : FnS K fStr rStrA := fun F H xs ds z Q ex r hz hq => by
  unfold fStr at hz
  split at hz
  · obtain ⟨x, rfl, rx⟩ := r.one
    cases rx.int
    obtain ⟨hl, rfl⟩ := ite_some hz
    exact .inl ⟨_, rfl, hl, hq _ F H (Al.refl ex) (.str _)⟩
  · obtain ⟨x, rfl, rx⟩ := r.one
    cases rx.str; cases hz
    exact .inr ⟨_, rfl, hq _ F H (Al.refl ex) (.str _)⟩
  · cases hz
theorem n_list : FnN K fList (fun xs H Q => ∃ p ys, xs = [.ref p] ∧ (SqL K H p ys ∨ SqT K H p ys) ∧ ∀ l, H l = none → Q (.ref l) (L2.upd H l (.lst ys))) := fun F H xs ds z Q ex r hz hq => by
  unfold fList at hz
  split at hz
  · obtain ⟨x, rfl, rx⟩ := r.one
    obtain ⟨p, vs, rfl, hp, rv⟩ := rx.lst ex
    cases hz
    exact ⟨p, vs, rfl, .inl (.inl (.inl hp)), fun l nl => hq l _ nl (.lst rv)⟩
  · obtain ⟨x, rfl, rx⟩ := r.one
    obtain ⟨p, vs, rfl, hp, rv⟩ := rx.tup ex
    cases hz
    exact ⟨p, vs, rfl, .inr hp, fun l nl => hq l _ nl (.lst rv)⟩
  · obtain ⟨x, rfl, rx⟩ := r.one
    obtain ⟨p, rfl, hp⟩ := rx.scr ex
    cases hz
    exact ⟨p, _, rfl, .inl hp, fun l nl => hq l _ nl (.lst Reps.ints)⟩
  · cases hz
theorem s_tup : FnS K fTup (fun xs H Q => ∃ p ys, xs = [.ref p] ∧ ((SqL K H p ys ∧ ∀ l, H l = none → Q (.ref l) (L2.upd H l (.tup ys))) ∨ (SqT K H p ys ∧ Q (.ref p) H))) := fun F H xs ds z Q ex r hz hq => by
  unfold fTup at hz
  split at hz
  · obtain ⟨x, rfl, rx⟩ := r.one
    obtain ⟨p, vs, rfl, hp, rv⟩ := rx.lst ex
    cases hz
    refine ⟨p, vs, rfl, .inl ⟨.inl (.inl hp), fun l nl => ?_⟩⟩
    have al := Al.new (o := .tup vs) ex nl
    exact hq _ _ _ al (.tup upd_same (rv.mono al.f))
  · obtain ⟨x, rfl, rx⟩ := r.one
    cases hz
    cases rx with
    | rep rr =>
      cases rr with
      | tup h rv => exact ⟨_, _, rfl, .inr ⟨.inl (.inl (ex _ _ h)), hq _ F H (Al.refl ex) (.tup h rv)⟩⟩
    | own h o => cases o
  · cases hz

/-! ### isinstance -/
theorem tyx_see (ex : Ex F H) {v : V} {d : D} {T : Ty5} {b : Bool} (r : VRep K F H v d) (h : dIsI d T = some b) : ∃ t : String, TyX K H v (.type t) ∧ kitB t T.nm = some b := by
  cases d with
  | non => cases r.non; exact ⟨"NoneType", .base .non, by cases T <;> cases h <;> decide +kernel⟩
  | bl k => cases r.bl; exact ⟨"bool", .base (.bl k), by cases T <;> cases h <;> decide +kernel⟩
  | int i => cases r.int; exact ⟨"int", .base (.int i), by cases T <;> cases h <;> decide +kernel⟩
  | str i => cases r.str; exact ⟨"str", .base (.str i), by cases T <;> cases h <;> decide +kernel⟩
  | lst xs =>
    obtain ⟨p, vs, rfl, hp, rv⟩ := r.lst ex
    exact ⟨"list", .base (.lst hp), by cases T <;> cases h <;> decide +kernel⟩
  | tup xs =>
    obtain ⟨p, vs, rfl, hp, rv⟩ := r.tup ex
    refine ⟨"tuple", ?_, by cases T <;> cases h <;> decide +kernel⟩
    rcases hp with (hp | ⟨o, hp⟩) | ⟨o, its, n, h1, h2, _⟩
    · exact .base (.tup hp)
    · exact .fTuple hp
    · exact .kTuple h1 h2
  | scr xs =>
    obtain ⟨p, rfl, hp⟩ := r.scr ex
    refine ⟨"list", ?_, by cases T <;> cases h <;> decide +kernel⟩
    rcases hp with (hp | ⟨o, hp⟩) | ⟨o, its, n, h1, h2, _⟩
    · exact .base (.lst hp)
    · exact .base (.frz hp)
    · exact .kList h1 h2
  | dct xs =>
    obtain ⟨p, vs, rfl, hp, rv⟩ := r.dct ex
    exact ⟨"dict", .base (.dK hp), by cases T <;> cases h <;> decide +kernel⟩
  | _ => cases T <;> cases h
theorem tyx_fun {v : V} (ex : Ex F H) {d : D} (r : VRep K F H v d) : (∃ t : String, TyX K H v (.type t) ∧ ∀ (T : Ty5) (b : Bool), dIsI d T = some b → kitB t T.nm = some b) ∨ ∀ T : Ty5, dIsI d T = none := by
  cases d with
  | non => exact .inl ⟨"NoneType", by cases r.non; exact .base .non, fun T b h => by cases T <;> cases h <;> decide +kernel⟩
  | bl k => exact .inl ⟨"bool", by cases r.bl; exact .base (.bl k), fun T b h => by cases T <;> cases h <;> decide +kernel⟩
  | int i => exact .inl ⟨"int", by cases r.int; exact .base (.int i), fun T b h => by cases T <;> cases h <;> decide +kernel⟩
  | str i => exact .inl ⟨"str", by cases r.str; exact .base (.str i), fun T b h => by cases T <;> cases h <;> decide +kernel⟩
  | lst xs =>
    obtain ⟨p, vs, rfl, hp, rv⟩ := r.lst ex
    exact .inl ⟨"list", .base (.lst hp), fun T b h => by cases T <;> cases h <;> decide +kernel⟩
  | tup xs =>
    obtain ⟨p, vs, rfl, hp, rv⟩ := r.tup ex
    refine .inl ⟨"tuple", ?_, fun T b h => by cases T <;> cases h <;> decide +kernel⟩
    rcases hp with (hp | ⟨o, hp⟩) | ⟨o, its, n, h1, h2, _⟩
    · exact .base (.tup hp)
    · exact .fTuple hp
    · exact .kTuple h1 h2
  | scr xs =>
    obtain ⟨p, rfl, hp⟩ := r.scr ex
    refine .inl ⟨"list", ?_, fun T b h => by cases T <;> cases h <;> decide +kernel⟩
    rcases hp with (hp | ⟨o, hp⟩) | ⟨o, its, n, h1, h2, _⟩
    · exact .base (.lst hp)
    · exact .base (.frz hp)
    · exact .kList h1 h2
  | dct xs =>
    obtain ⟨p, vs, rfl, hp, rv⟩ := r.dct ex
    exact .inl ⟨"dict", .base (.dK hp), fun T b h => by cases T <;> cases h <;> decide +kernel⟩
  | _ => exact .inr fun T => by cases T <;> rfl
theorem kitAny_see {t : String} {d : D} (ht : ∀ (T : Ty5) (b : Bool), dIsI d T = some b → kitB t T.nm = some b) : ∀ {Ts : List Ty5} {k : Bool}, dIsAny d Ts = some k → PySem.W.kitAny K (.type t) (Ts.map fun T => Value.type T.nm) = some k
  | [], k, h => by cases h; exact kitAny_nil
  | T :: Ts, k, h => by
    obtain ⟨b, h1, h2⟩ := Option.bind_eq_some_iff.mp (show (dIsI d T).bind (fun b => if b = true then some true else dIsAny d Ts) = some k from h)
    cases b with
    | true => cases h2; exact kitAny_cons (kit_ty (ht T true h1)) (fun z => nomatch z) fun _ => rfl
    | false => exact kitAny_cons (kit_ty (ht T false h1)) (fun _ => kitAny_see ht h2) fun z => nomatch z
end
section
variable {X : Cx} {b : Bool} {O : List Nat} {E : XK} {e a c : Expr} {es : List Expr} {w wa wb wc : WE} {pos : Pos}
theorem boot_isi : bootBuiltins "isinstance" = some (.builtin "isinstance") := by decide +kernel
theorem clsv (T : Ty5) : ClsV (.ty T.nm) (.type T.nm) := by cases T <;> constructor
theorem clsvs : ∀ Ts : List Ty5, Paired ClsV (Ts.map fun T => V.ty T.nm) (Ts.map fun T => Value.type T.nm)
  | [] => .nil
  | T :: Ts => .cons (clsv T) (clsvs Ts)
theorem de_isi {T : Ty5} {p q : Pos} {x : Str} (hg : Gl X "isinstance") (hm : X.mg "isinstance" = none) (ha : DB X b O E a w) (ht : PE X (.Name x q) (tC (.ty T.nm)))
    (he : starEach [a, .Name x q] X.env = (false, eval a X.env) :: starEach [.Name x q] X.env := by rfl) (he2 : starEach [.Name x q] X.env = (false, eval (.Name x q) X.env) :: starEach [] X.env := by rfl) (hpl : (backTo pos (starEach [.Name x q] X.env)).any (·.1) = false := by rfl) :
    DE X b O E (.Call (.Name "isinstance" p) [a, .Name x q] [] pos) (eIsI [T] w) :=
  pe_to (pe_callB call_isi hg hm boot_isi (pa_cons ha (pa_cons ht pa_nil he2) he) (he := he) (hpl := hpl)) fun σ H Q ⟨Z, Δ, S, F, P, R, k, hw, hx, hq⟩ => ⟨Z, Δ, S, F, _, R, k, hw, hx, fun v d S1 F1 H1 k1 e1 p1 r1 ⟨q, hd, h⟩ => by
    obtain ⟨b', h1, h2⟩ := Option.bind_eq_some_iff.mp (show (dIsI d T).bind (fun b => if b = true then some true else some false) = some q from hd)
    obtain ⟨t, ty, hk⟩ := tyx_see k1.fH (r1.see k1) h1
    have e2 : b' = q := by cases b' <;> (cases h2; rfl)
    subst e2
    exact ⟨v, .ty T.nm, .type t, .type T.nm, b', rfl, clsv T, ty, kit_ty hk, hq _ _ S1 F1 H1 k1 e1 p1 (.bl _) h⟩⟩
theorem de_isiT {Ts : List Ty5} {p q : Pos} {k0 : Nat} {ts : List Expr} (hg : Gl X "isinstance") (hm : X.mg "isinstance" = none) (ha : DB X b O E a w) (ht : PA X ts (fun _ H Q => Q (Ts.map fun T => V.ty T.nm) H)) (hl : Ts.length ≤ 10) (hne : Ts ≠ [])
    (he : starEach [a, .Tuple ts k0 q] X.env = (false, eval a X.env) :: starEach [.Tuple ts k0 q] X.env := by rfl) (he2 : starEach [.Tuple ts k0 q] X.env = (false, eval (.Tuple ts k0 q) X.env) :: starEach [] X.env := by rfl) (hpl : (backTo pos (starEach [.Tuple ts k0 q] X.env)).any (·.1) = false := by rfl) :
    DE X b O E (.Call (.Name "isinstance" p) [a, .Tuple ts k0 q] [] pos) (eIsI Ts w) :=
  pe_to (pe_callB call_isiT hg hm boot_isi (pa_cons ha (pa_cons (pe_tup ht) pa_nil he2) he) (he := he) (hpl := hpl)) fun σ H Q ⟨Z, Δ, S, F, P, R, k, hw, hx, hq⟩ => ⟨Z, Δ, S, F, _, R, k, hw, hx, fun v d S1 F1 H1 k1 e1 p1 r1 ⟨q, hd, h⟩ => ⟨by
      rw [List.length_map]; exact LINE_le (Nat.le_trans hl (by decide)), fun tp ntp => by
    have al := Al.new (o := .tup (Ts.map fun T => V.ty T.nm)) k1.fH ntp
    have k2 := k1.al al
    rcases tyx_fun k2.fH ((r1.mono al.f).see k2) with ⟨t, ty, hk⟩ | no
    · exact ⟨v, tp, _, .type t, _, q, rfl, upd_same, clsvs Ts, ty, kitAny_see hk hd, hq _ _ S1 _ _ k2 (e1.trans al.f) (pureA p1 al) (.bl _) h⟩
    · cases Ts with
      | nil => exact absurd rfl hne
      | cons T Ts =>
        have z : (dIsI d T).bind (fun b => if b = true then some true else dIsAny d Ts) = some q := hd
        rw [no T] at z; cases z⟩⟩

/-! ### methods of built-in classes -/
/-- a method's rule serves f; ok tells the class's trees -/
def MtS (K : PySem.W.Frag) (f : D → List D → Option D) (r : V → List V → Hp → VK → Prop) : Prop := ∀ (F H : Hp) (x : V) (xs : List V) (d : D) (ds : List D) (z : D) (Q : VK), Ex F H → VRep K F H x d → VReps K F H xs ds → f d ds = some z →
  (∀ v F' H', Al F H F' H' → Rep K F' v z → Q v H') → r x xs H Q
def TyS (K : PySem.W.Frag) (T : String) (ok : D → Bool) : Prop := ∀ (F H : Hp) (x : V) (d : D), Ex F H → VRep K F H x d → ok d = true → tyV K T x H
theorem ty_str {K : PySem.W.Frag} : TyS K "str" isStr := fun F H x d ex r h => by
  cases d with
  | str y => cases r.str; exact rfl
  | _ => cases h
theorem ty_lst {K : PySem.W.Frag} : TyS K "list" isLst := fun F H x d ex r h => by
  cases d with
  | lst y => obtain ⟨p, vs, rfl, hp, _⟩ := r.lst ex; exact .inl ⟨rfl, _, .inl (.inl hp)⟩
  | _ => cases h
theorem de_mt {T id : String} {name : Str} {f : D → List D → Option D} {ok : D → Bool} {r : V → List V → Hp → VK → Prop} {wo : WE} {wA : WA} {o : Expr} {apos : Pos} (pa : PlainAttrs T) (slot : Slot T name id) (hty : typeOf (.builtin id) = pure (.type "method_descriptor"))
    (hm : MtR X id r) (hr : MtS X.K f r) (ht : TyS X.K T ok) (ho : DB X b O E o wo) (ha : DAB X b O E (e :: es) wA) (hp : ∀ {t}, PA X (e :: es) t → ∀ {to}, PE X o to → PE X (.Call (.Attribute o name apos) (e :: es) [] pos) (tBM X.K T r to t)) :
    DE X b O E (.Call (.Attribute o name apos) (e :: es) [] pos) (eMt ok f wo wA) :=
  pe_to (hp ha ho) fun σ H Q ⟨Z, Δ, S, F, P, R, k, hw, hx, hq⟩ => ⟨Z, Δ, S, F, _, R, k, hw, hx, fun v d S1 F1 H1 k1 e1 p1 r1 ⟨h1, h2⟩ => ⟨ht F1 H1 v d k1.fH (r1.see k1) h1, Z, Δ, S1, F1, _, R, k1, h2, hx.mono e1, fun vs ds S2 F2 H2 k2 e2 p2 r2 ⟨z, hz, hp⟩ =>
    hr F2 H2 v vs d ds z Q k2.fH ((r1.mono e2).see k2) (r2.see k2) hz fun v' F3 H3 al r3 => hq v' z S2 F3 H3 (k2.al al) ((e1.trans e2).trans al.f) (pureA (pure2 p1 p2) al) r3 hp⟩⟩
theorem s_join {K : PySem.W.Frag} : MtS K mJoin (fun x xs H Q => ∃ a p, ∃ ys : List Str, x = .str a ∧ xs = [.ref p] ∧ (SqL K H p (ys.map V.str) ∨ SqT K H p (ys.map V.str)) ∧ (ys.map (·.length)).sum + ys.length * a.length ≤ 16777216 ∧ Q (.str (Txt.join a ys)) H) := fun F H x xs d ds z Q ex r rs hz hq => by
  unfold mJoin at hz
  split at hz
  · cases r.str
    obtain ⟨y, rfl, ry⟩ := rs.one
    obtain ⟨ys, h1, h2⟩ := Option.bind_eq_some_iff.mp hz
    obtain ⟨p, vs, rfl, hp, rv⟩ := ry.lst ex
    cases strs_see rv h1
    obtain ⟨hl, rfl⟩ := ite_some h2
    exact ⟨_, p, ys, rfl, rfl, .inl (.inl (.inl hp)), hl, hq _ F H (Al.refl ex) (.str _)⟩
  · cases hz
theorem s_split {K : PySem.W.Frag} : MtS K mSplit (fun x xs H Q => ∃ a b, x = .str a ∧ xs = [.str b] ∧ (b.length == 0) = false ∧ a.length + 2 ≤ sizeLine ∧ rNewStrs (Txt.split a b) H Q) := fun F H x xs d ds z Q ex r rs hz hq => by
  unfold mSplit at hz
  split at hz
  · rename_i A B
    cases r.str
    obtain ⟨y, rfl, ry⟩ := rs.one
    cases ry.str
    obtain ⟨⟨h1, h2⟩, rfl⟩ := ite_some hz
    refine ⟨_, _, rfl, rfl, h1, LINE_le h2, fun p np => ?_⟩
    have al := Al.new (o := .lst ((Txt.split A B).map V.str)) ex np
    exact hq _ _ _ al (.lst upd_same Reps.strs)
  · cases hz
theorem s_count {K : PySem.W.Frag} : MtS K mCount (rCntI K) := fun F H x xs d ds z Q ex r rs hz hq => by
  unfold mCount at hz
  split at hz
  · obtain ⟨y, rfl, ry⟩ := rs.one
    cases ry.int
    obtain ⟨ns, h1, rfl⟩ := Option.map_eq_some_iff.mp hz
    obtain ⟨p, vs, rfl, hp, rv⟩ := r.lst ex
    cases ints_see rv h1
    exact ⟨p, ns, _, rfl, rfl, .inl (.inl hp), hq _ F H (Al.refl ex) (.int _)⟩
  · cases hz

/-! ### len(set(x)) -/
theorem firstMet_dedup (ns : List Int) : PyProof.Rows.firstMet (fun i => ns.getD i 0) ns.length = dedup ns := by
  unfold PyProof.Rows.firstMet dedup
  have e : (List.range ns.length).map (fun i => ns.getD i 0) = ns := by
    apply List.ext_getElem
    · simp
    · intro i h1 h2
      simp at h1
      simp [h1]
  rw [e]
  rfl
def tLenSet (K : PySem.W.Frag) (ta : TE) : TE := fun σ H Q => ta σ H fun x H1 => ∃ (l : Addr) (ns : List Int), x = .ref l ∧ SqL K H1 l (ns.map V.int) ∧ ns.length + 1 < 4096 ∧ Q (.int ((dedup ns).length : Nat)) H1
theorem pe_lenSet {ta : TE} {p p2 q : Pos} (hg : Gl X "len") (hm : X.mg "len" = none) (hg2 : Gl X "set") (hm2 : X.mg "set" = none) (hc : X.calm = true) (ha : PE X a ta) (na : starEach [a] X.env = (false, eval a X.env) :: starEach [] X.env := by rfl) :
    PE X (.Call (.Name "len" p) [.Call (.Name "set" p2) [a] [] q] [] pos) (tLenSet X.K ta) := by
  refine ⟨fun pins s σ H Q I h => Call_ (ld_blt I hg hm boot_len (callWith_builtin1 (args_cons ?_ rfl) rfl rfl))⟩
  refine Call_ (ld_blt I hg2 hm2 boot_set (callWith_type1 (args_cons (thn (ha.run pins s σ H _ I h) fun v s1 hh => args_nil ?_) na) na rfl))
  obtain ⟨x, H1, I1, r1, l, ns, rfl, hq, hl, q1⟩ := hh
  cases r1
  obtain ⟨its, r, pl, hz⟩ := I1.list hq
  have hlen : its.toArray.size = ns.length := by rw [List.size_toArray, ← r.length, List.length_map]
  refine PySem.call_set_list (I1.ok.hd hc) pl.isList (by simpa using RZ.intsAre_vals r) (by rw [hlen]; unfold scanBound; omega) fun h' tk hS hk => PyProof.Rows.args_nil ?_
  rw [hlen, firstMet_dedup ns] at hS
  obtain ⟨o, es, ep, t, ho, hex, hd, _, _, _, hf, hn⟩ := hS
  have I2 : Inv X pins σ H1 { s1 with heap := h', toks := tk } := I1.kept fun b o e => hk b o (Heap.lt_size e) e
  have hle : (dedup ns).length ≤ ns.length := by
    rw [← firstMet_dedup]; exact PyProof.Rows.firstMet_length_le _ _
  exact call_len_set ho hex hd hf (by rw [hn] <;> omega) ⟨.int (dedup ns).length, H1, I2.tok _, ⟨_, by rw [hn]⟩, q1⟩
theorem de_lenSet {p p2 q : Pos} (hg : Gl X "len") (hm : X.mg "len" = none) (hg2 : Gl X "set") (hm2 : X.mg "set" = none) (hc : X.calm = true) (ha : DB X b O E a w) (na : starEach [a] X.env = (false, eval a X.env) :: starEach [] X.env := by rfl) :
    DE X b O E (.Call (.Name "len" p) [.Call (.Name "set" p2) [a] [] q] [] pos) (eUn dLenSet w) :=
  pe_to (pe_lenSet hg hm hg2 hm2 hc ha na) fun σ H Q ⟨Z, Δ, S, F, P, R, k, hw, hx, hq⟩ => ⟨Z, Δ, S, F, _, R, k, hw, hx, fun v d S1 F1 H1 k1 e1 p1 r1 ⟨z, hd, h⟩ => by
    unfold dLenSet at hd
    split at hd
    · obtain ⟨l, vs, rfl, hp, rv⟩ := (r1.see k1).lst k1.fH
      obtain ⟨ns, h1, h2⟩ := Option.bind_eq_some_iff.mp hd
      obtain ⟨hl, rfl⟩ := ite_some h2
      cases ints_see rv h1
      exact ⟨l, ns, rfl, .inl (.inl hp), hl, hq _ _ S1 F1 H1 k1 e1 p1 (.int _) h⟩
    · cases hd⟩
end
end DL

/-! DR5: repr; defs and their calls, where no repr is under way. -/
namespace DL
open PySem PySem.Spec PyProof.Rows L2

/-! ### repr -/
section
variable {X : Cx}
def rRepr (K : PySem.W.Frag) : List V → Hp → VK → Prop := fun xs H Q => ∃ x d, xs = [x] ∧ Dp K H x d ∧ d.showable = true ∧ d.hasDict = false ∧ d.depth ≤ 64 ∧ d.shown.length + 64 ≤ sizeLine ∧ Q (.str d.shown) H
theorem call_reprA (hg : X.A.guards = some []) (hu : X.A.units + 70 < cLine) : CallR X (.builtin "repr") (rRepr X.K) := by
  intro pins s σ H xs us Q I r h
  obtain ⟨x, d, rfl, hd, hs, hn, hp, hz, q⟩ := h
  cases r with
  | cons rx rt =>
    rename_i u ut
    cases rt
    obtain ⟨as, rr⟩ := Dp.reads I d x u hd rx
    cases hd with
    | non => cases rx; exact PySem.P.repr_of_none ⟨.str _, H, I.tok _, ⟨_, rfl⟩, q⟩
    | bl b => cases rx; exact PySem.P.repr_of_bool ⟨.str _, H, I.tok _, ⟨_, rfl⟩, q⟩
    | int i =>
      obtain ⟨t, rfl⟩ := rx
      exact PySem.P.repr_of_int (by simpa [PyData.showable] using hs) ⟨.str _, H, I.tok _, ⟨_, rfl⟩, q⟩
    | str x =>
      obtain ⟨t, rfl⟩ := rx
      exact PySem.P.repr_of_str ⟨.str _, H, I.tok _, ⟨_, rfl⟩, q⟩ (Nat.le_trans (Nat.le_add_right _ 64) hz)
    | lst h1 h2 =>
      cases rx
      exact repr_of_reads' rr hs (PyData.noDict_hsm hn) hg (by omega) (fun _ _ e => e) (fun h' u tk hk => ⟨.str _, H, I.kept hk, ⟨_, rfl⟩, q⟩) (Nat.le_trans (Nat.le_add_right _ 64) hz)
    | tup h1 h2 =>
      cases rx
      exact repr_of_reads' rr hs (PyData.noDict_hsm hn) hg (by omega) (fun _ _ e => e) (fun h' u tk hk => ⟨.str _, H, I.kept hk, ⟨_, rfl⟩, q⟩) (Nat.le_trans (Nat.le_add_right _ 64) hz)
def fRepr : List D → Option D
  | [x] => dRepr x
  | _ => none
theorem s_repr {K : PySem.W.Frag} : FnS K fRepr (rRepr K) := fun F H xs ds z Q ex r hz hq => by
  unfold fRepr at hz
  split at hz
  · rename_i d
    obtain ⟨x, rfl, rx⟩ := r.one
    unfold dRepr at hz
    obtain ⟨⟨h1, h2, h3, h4⟩, rfl⟩ := ite_some hz
    have dp : Dp K H x (toPy d) := by
      cases rx with
      | rep rr => exact rr.dp ex h1
      | own hp o =>
        cases o with
        | lst rr => exact .lst (.inl (.inl hp)) (rr.dp ex (by simpa [toPy, PyData.canLay0] using h1))
        | dct rr => simp [toPy, PyData.canLay0] at h1
        | dcT rr => simp [toPy, PyData.canLay0] at h1
    exact ⟨x, _, rfl, dp, h2, PyData.hasDict_of_canLay _ h1, h3, LINE_le h4, hq _ F H (Al.refl ex) (.str _)⟩
  · cases hz
end

/-! ### a def, called where no repr is under way -/
structure FnG (P : Program) (w : World) (K : PySem.W.Frag) (mg : Str → Option Value) (base : Heap) (CX : CXT) (k : Nat) (f : Addr) (fd : FuncData) (ps : List Str) (sp : Sp) : Prop where
  len : ∀ vs H Q E, sp vs H Q E → vs.length = ps.length
  run : ∀ (A : Around) (outer : List PySem.Env) (s : Shared) (H : Hp) (args : Args) (us : List Value) (vs : List V) (Q : VK) (E : XK), A.guards = some [] → Room k A → Env0 P w K mg base A outer s H →
    BindsTo s fd args (ps.zip us) → Vals vs us → sp vs H Q E → codeAny (model P w) A (.call (.ref f) args) (CR CX outer P w H s Q E) s
theorem FnG.up {P : Program} {w : World} {K : PySem.W.Frag} {mg : Str → Option Value} {base : Heap} {CX : CXT} {j k : Nat} {f : Addr} {fd : FuncData} {ps : List Str} {sp : Sp} (F : FnG P w K mg base CX j f fd ps sp) (h : j ≤ k) : FnG P w K mg base CX k f fd ps sp :=
  ⟨F.len, fun A outer s H args us vs Q E g hr => F.run A outer s H args us vs Q E g (hr.mono h)⟩
theorem FnG.imp {P : Program} {w : World} {K : PySem.W.Frag} {mg : Str → Option Value} {base : Heap} {CX : CXT} {k : Nat} {f : Addr} {fd : FuncData} {ps : List Str} {sp sp' : Sp} (F : FnG P w K mg base CX k f fd ps sp) (h : ∀ vs H Q E, sp' vs H Q E → sp vs H Q E) :
    FnG P w K mg base CX k f fd ps sp' := ⟨fun vs H Q E q => F.len vs H Q E (h _ _ _ _ q), fun A outer s H args us vs Q E g hr e0 hb r q => F.run A outer s H args us vs Q E g hr e0 hb r (h _ _ _ _ q)⟩
section
variable {X : Cx} {CX : CXT} {k : Nat} {f C : Addr} {fd : FuncData} {ps : List Str} {sp : Sp} {dvs : List V} {ds : List Value} {E : XK} {x m : Str} {p pos apos : Pos} {e o : Expr} {es : List Expr} {ta : TE} {t : TA}
theorem run_fnG {pins : List (Addr × Obj)} {σ : L2.St} {H : Hp} {s : Shared} {Q : VK} {us : List Value} {vs : List V} (F : FnG X.prog X.w X.K X.mg X.base CX k f fd ps sp) (hgu : X.A.guards = some []) (hr : Room k X.A) (hb : Binds X.K fd ps ds)
    (hd : Vals dvs ds) (hx : Passes CX X E) (I : L2.Inv X pins σ H s) (r : Vals vs us) (h : sp (vs ++ dvs) H Q E) : wpAny (model X.prog X.w) X.A (PySem.call (.ref f) us) (EP X pins σ Q) X.xe s := by
  have rr : Vals (vs ++ dvs) (us ++ ds) := r.append hd
  have hl : (us ++ ds).length = ps.length := rr.length.symm.trans (F.len _ _ _ _ h)
  refine wpAny_call (codeAny_mono (F.run X.A X.stack s H ⟨us, []⟩ _ _ Q E hgu hr I.env0 (hb s us I.kIn hl) rr h) fun res s' q => ?_)
  rcases res with e | fl
  · exact hx pins σ H s e s' I q
  · cases fl with
    | ret u => exact I.after q
    | next => exact q.elim
    | brk => exact q.elim
    | cont => exact q.elim
theorem pe_callG (F : FnG X.prog X.w X.K X.mg X.base CX k f fd ps sp) (hgu : X.A.guards = some []) (hr : Room k X.A) (hg : Gl X x) (hm : X.mg x = some (.ref f)) (hk : PySem.W.keepIn X.K (.ref f) = true) (hb : Binds X.K fd ps ds) (hd : Vals dvs ds) (hx : Passes CX X E)
    (ha : PA X (e :: es) t) (hdb : (x == ("__debug__" : Str)) = false := by decide) (he : starEach (e :: es) X.env = (false, eval e X.env) :: starEach es X.env := by rfl) (hpl : (backTo pos (starEach es X.env)).any (·.1) = false := by rfl) :
    PE X (.Call (.Name x p) (e :: es) [] pos) (tCall sp dvs E t) :=
  ⟨fun pins s σ H Q I h => wpAny_Call_Name_kw (ld_glob I hg hm (PySem.W.callWith_K (h₀ := X.base) I.ok.mod.kin hk (thn (ha.run pos pins s σ H _ I h) fun us s1 ⟨vs, H1, I1, r, q⟩ => ⟨I1.kIn, run_fnG F hgu hr hb hd hx I1 r q⟩) he hpl) hdb)⟩
end

/-- a def of the text holds its promise, by its body -/
theorem fnG_of {CX : CXT} {P : Program} {w : World} {K : PySem.W.Frag} {mg : Str → Option Value} {base : Heap} {k : Nat} {f : Addr} {name qual : Str} {params : Arguments} {body : List Stmt} {scope : Scope} {dV kV doc pm cdv ct oc : Value} {an od : Option Addr}
    {osl : Array (Option Value)} {N ps : List Str} {sp : Sp} (lk : K.lookup f = some ⟨oc, od, .func (PySem.W.fnOf name qual params body scope dV kV doc pm an cdv ct), osl⟩) (hcd : PySem.W.codeIn K cdv qual = true) (S : FnScope N ps scope)
    (len : ∀ vs H Q E, sp vs H Q E → vs.length = ps.length)
    (hbody : ∀ (A : Around) (outer : List PySem.Env) (s : Shared) (H : Hp) (vs : List V) (Q : VK) (E : XK), A.guards = some [] → Room k (A.deeper (envOfC qual scope s.heap.objs.size f cdv)) → sp vs H Q E →
      ∃ t, PSs (cxOf CX P w K mg base N qual scope f cdv A outer s H E) body t ∧ t { nx := fun _ H' => Q .non H', rt := Q } (start N vs) H) :
    FnG P w K mg base CX (k + 1) f (PySem.W.fnOf name qual params body scope dV kV doc pm an cdv ct) ps sp := by
  refine ⟨len, ?_⟩
  intro A outer s H args us vs Q E hgu hr e0 hb r hsp
  have KX : K.In s.heap := e0.mod.kin.keeps fun b o e => (e0.bs b o e).1
  have lim := e0.mod.nolimit.keeps fun b o e => (e0.bs b o e).1
  have hkind : ∀ y ∈ ps.zip us, scope.names.lookup y.1 = some .local ∨ (scope.names.lookup y.1 = some .cell ∧ ((cellsFrom (s.heap.objs.size + 1) scope.names []).lookup y.1).isSome = true) := by
    rintro ⟨n, v⟩ hy
    exact (S.par n (List.of_mem_zip hy).1).imp (fun q => q) fun q => ⟨q, PySem.W.cellsFrom_some _ _ _ (.inl q)⟩
  refine codeAny_call_function hr.depth (KX _ _ lk) rfl S.co S.gen rfl (PySem.W.codeRec_of KX hcd) (hb _ _ _ _ (wpAny_newFunctionEnv_cells S.kind hkind fun env he s1 x => ?_))
  subst he
  obtain ⟨t, ht, hq⟩ := hbody A outer s H vs Q E hgu (hr.deeper _) hsp
  have I := inv_start (CX := CX) (E := E) S hr.hd e0 (len _ _ _ _ hsp) r x
  refine ⟨lim.keeps x.toInCall.keep, codeAny_func (wpAny_mono (ht.run [] s1 (start N vs) H _ I hq) (fun fl s' hs => ?_) fun e s' hs => hs)⟩
  cases fl with
  | ret u =>
    obtain ⟨v, σ', H', J, rv, q⟩ := hs
    exact ⟨v, H', J.os, J.bare, J.base, J.hok, rv, q⟩
  | next =>
    obtain ⟨σ', H', J, q⟩ := hs
    exact ⟨.non, H', J.os, J.bare, J.base, J.hok, rfl, q⟩
  | brk => obtain ⟨_, _, _, q⟩ := hs; exact q.elim
  | cont => obtain ⟨_, _, _, q⟩ := hs; exact q.elim

/-! ### a def by what it means -/
/-- what a def hands back: something shared, or a new cell -/
def RetR (K : PySem.W.Frag) (own : Bool) (Z : Hp) (S : Sto) (F H : Hp) (v : V) (d : D) : Prop := if own = true then NRep K [] [] [] Z S F H v d else Rep K F v d
def spW (K : PySem.W.Frag) (mg : Str → Option Value) (own : Bool) (f : Fn) : Sp := fun vs H Q E => ∃ Z ds S F P R, Wd K [] Z (vs.map some) (ds.map some) S F H ∧ f ds S P R ∧ XQ K mg E Z F R ∧
  ∀ v d S' F' H', Wd K [] Z [] [] S' F' H' → Ex F F' → RetR K own Z S' F' H' v d → P d S' → Q v H'
section
variable {K : PySem.W.Frag} {mg : Str → Option Value} {O : List Nat} {Z : Hp} {σ : L2.St} {Δ : Env} {S : Sto} {F H : Hp}
theorem zo_le (k : Wd K O Z σ Δ S F H) : Ex Z (zo O σ Δ Z H) := fun b o q => by
  by_cases h : ∃ i ∈ O, ∃ d, Δ[i]? = some (some d) ∧ σ[i]? = some (some (.ref b))
  · rw [zo_yes h]; exact k.zH b o q
  · rw [zo_no h]; exact q
theorem wd_args {vs : List V} {ds : List D} (k : Wd K O Z σ Δ S F H) (r : Reps K F vs ds) : Wd K [] (zo O σ Δ Z H) (vs.map some) (ds.map some) S F H where
  fH := k.fH
  zH := fun b o q => by
    by_cases h : ∃ i ∈ O, ∃ d, Δ[i]? = some (some d) ∧ σ[i]? = some (some (.ref b))
    · rw [zo_yes h] at q; exact q
    · rw [zo_no h] at q; exact k.zH b o q
  fz := fun b o q => by
    by_cases h : ∃ i ∈ O, ∃ d, Δ[i]? = some (some d) ∧ σ[i]? = some (some (.ref b))
    · obtain ⟨i, hi, d, h1, h2⟩ := h
      obtain ⟨p, o', a1, a2, a3, a4, _⟩ := k.ow i d hi h1
      rw [h2] at a1; cases a1
      rw [q] at a4; cases a4
    · rw [zo_no h]; exact k.fz b o q
  st := fun a ob q => by
    obtain ⟨h1, h2, h3⟩ := k.st a ob q
    refine ⟨h1, ?_, h3⟩
    by_cases h : ∃ i ∈ O, ∃ d, Δ[i]? = some (some d) ∧ σ[i]? = some (some (.ref a))
    · obtain ⟨i, hi, d, y1, y2⟩ := h
      obtain ⟨p, o', a1, a2, a3, a4, a5, a6⟩ := k.ow i d hi y1
      rw [y2] at a1; cases a1
      rw [q] at a6; cases a6
    · rw [zo_no h]; exact h2
  fr := fun i d _ q => by
    rw [List.getElem?_map] at q
    cases e : ds[i]? with
    | none => rw [e] at q; cases q
    | some d' =>
      rw [e] at q
      cases q
      obtain ⟨v, h1, h2⟩ := r.get e
      exact ⟨v, by rw [List.getElem?_map, h1]; rfl, h2⟩
  ow := fun i d hi => absurd hi (by simp)
  sep := fun i j d e p hi => absurd hi (by simp)
  len := by rw [List.length_map, List.length_map, r.len]
/-- behind a call -/
theorem wd_back {S' : Sto} {F' H' : Hp} (k : Wd K O Z σ Δ S F H) (c : Wd K [] (zo O σ Δ Z H) [] [] S' F' H') (e : Ex F F') : Wd K O Z σ Δ S' F' H' where
  fH := c.fH
  zH := (zo_le k).trans c.zH
  fz := fun b o q => (zo_le k).none (c.fz b o q)
  st := fun a ob q => by
    obtain ⟨h1, h2, h3⟩ := c.st a ob q
    exact ⟨h1, (zo_le k).none h2, h3⟩
  fr := fun i d ni q => by
    obtain ⟨v, h1, h2⟩ := k.fr i d ni q
    exact ⟨v, h1, h2.mono e⟩
  ow := fun i d ni q => by
    obtain ⟨p, o, a1, a2, a3, a4, a5, a6⟩ := k.ow i d ni q
    have hz : zo O σ Δ Z H p = some o := by rw [zo_yes ⟨i, ni, d, q, a1⟩]; exact a2
    refine ⟨p, o, a1, c.zH p o hz, a3.mono e, ?_, a5, ?_⟩
    · cases y : F' p with
      | none => rfl
      | some u => rw [c.fz p u y] at hz; cases hz
    · cases y : S' p with
      | none => rfl
      | some u => rw [(c.st p u y).2.1] at hz; cases hz
  sep := k.sep
  len := k.len
theorem wd_less {Z' : Hp} (c : Wd K [] Z' [] [] S F H) (h : Ex Z Z') : Wd K [] Z [] [] S F H := ⟨c.fH, h.trans c.zH, fun b o q => h.none (c.fz b o q), fun a ob q => ⟨(c.st a ob q).1, h.none (c.st a ob q).2.1, (c.st a ob q).2.2⟩, c.fr, fun i d hi => absurd hi (by simp), c.sep, c.len⟩
theorem XQ.less {E : XK} {R : RX} {Z' : Hp} (x : XQ K mg E Z F R) (h : Ex Z Z') : XQ K mg E Z' F R := fun a b c d f g w e r q => x a b c d f g (wd_less w h) e r q
/-- the frame of a pure call: all but what is shared -/
noncomputable def zp (F H : Hp) : Hp := by
  classical
  exact fun b => if F b = none then H b else none
theorem wd_argsP {vs : List V} {ds : List D} (k : Wd K O Z σ Δ S F H) (r : Reps K F vs ds) : Wd K [] (zp F H) (vs.map some) (ds.map some) noS F H where
  fH := k.fH
  zH := fun b o q => by
    unfold zp at q
    by_cases h : F b = none
    · rw [if_pos h] at q; exact q
    · rw [if_neg h] at q; cases q
  fz := fun b o q => by
    unfold zp
    rw [if_neg (by rw [q]; simp)]
  st := fun a ob q => by cases q
  fr := (wd_args k r).fr
  ow := fun i d hi => absurd hi (by simp)
  sep := fun i j d e p hi => absurd hi (by simp)
  len := by rw [List.length_map, List.length_map, r.len]
theorem al_back {S' : Sto} {F' H' : Hp} (k : Wd K O Z σ Δ S F H) (c : Wd K [] (zp F H) [] [] S' F' H') (e : Ex F F') : Al F H F' H' := by
  refine ⟨e, fun b o q => ?_, c.fH, fun b o q => ?_⟩
  · cases y : F b with
    | some u =>
      have z := k.fH b u y
      rw [q] at z; cases z
      exact c.fH b _ (e b _ y)
    | none => exact c.zH b o (by unfold zp; rw [if_pos y]; exact q)
  · cases y : F b with
    | some u => rw [e b u y] at q; cases q; exact .inl rfl
    | none =>
      have z := c.fz b o q
      unfold zp at z
      rw [if_pos y] at z
      exact .inr z
end
section
variable {X : Cx} {CX : CXT} {k : Nat} {f : Addr} {fd : FuncData} {ps : List Str} {ds : List Value} {dvs : List V} {dd : List D} {b own : Bool} {O : List Nat} {E : XK} {fn : Fn} {x : Str} {p pos : Pos} {e : Expr} {es : List Expr} {w : WA}
theorem reps_def {K : PySem.W.Frag} {F : Hp} {vs dvs : List V} {ds dd : List D} (r : Reps K F vs ds) (hd : Reps K F dvs dd) : Reps K F (vs ++ dvs) (ds ++ dd) := r.app hd
theorem rd_call (hd : ∀ F, Reps X.K F dvs dd) (σ : L2.St) (H : Hp) (Q : VK) (h : rdE X.K X.mg false O E (eCall fn (aDef w dd)) σ H Q) : tCall (spW X.K X.mg false fn) dvs E (rdA X.K X.mg false O E w) σ H Q := by
  obtain ⟨Z, Δ, S, F, P, R, k, hw, hx, hq⟩ := h
  refine ⟨Z, Δ, S, F, _, R, k, hw, hx, fun vs ds S1 F1 H1 k1 e1 p1 r1 h1 => ?_⟩
  refine ⟨zo O σ Δ Z H1, ds ++ dd, S1, F1, P, R, wd_args k1 (r1.app (hd F1)), h1, (hx.mono e1).less (zo_le k1), fun v d S' F' H' c e r hp => ?_⟩
  exact hq v d S' F' H' (wd_back k1 c e) (e1.trans e) (fun z => nomatch z) r hp
theorem rd_callN (hd : ∀ F, Reps X.K F dvs dd) (σ : L2.St) (H : Hp) (Q : VK) (h : rdN X.K X.mg false O E (eCall fn (aDef w dd)) σ H Q) : tCall (spW X.K X.mg true fn) dvs E (rdA X.K X.mg false O E w) σ H Q := by
  obtain ⟨Z, Δ, S, F, P, R, k, hw, hx, hq⟩ := h
  refine ⟨Z, Δ, S, F, _, R, k, hw, hx, fun vs ds S1 F1 H1 k1 e1 p1 r1 h1 => ?_⟩
  refine ⟨zo O σ Δ Z H1, ds ++ dd, S1, F1, P, R, wd_args k1 (r1.app (hd F1)), h1, (hx.mono e1).less (zo_le k1), fun v d S' F' H' c e r hp => ?_⟩
  have k2 := wd_back k1 c e
  obtain ⟨p, o, rfl, h2, h3, h4, h5, h6, _⟩ := (show NRep X.K [] [] [] (zo O σ Δ Z H1) S' F' H' v d from r)
  refine hq _ d S' F' H' k2 (e1.trans e) (fun z => nomatch z) ⟨p, o, rfl, h2, h3, h4, (zo_le k1).none h5, h6, fun j e hj hd' hs => ?_⟩ (fun z => nomatch z) hp
  obtain ⟨p', o', a1, a2, _⟩ := k1.ow j e hj hd'
  rw [hs] at a1; cases a1
  rw [zo_yes ⟨j, hj, e, hd', hs⟩, a2] at h5; cases h5
theorem rd_callP (hd : ∀ F, Reps X.K F dvs dd) (σ : L2.St) (H : Hp) (Q : VK) (h : rdE X.K X.mg b O E (eCallP fn (aDef w dd)) σ H Q) : tCall (spW X.K X.mg false fn) dvs E (rdA X.K X.mg b O E w) σ H Q := by
  obtain ⟨Z, Δ, S, F, P, R, k, hw, hx, hq⟩ := h
  refine ⟨Z, Δ, S, F, _, R, k, hw, hx, fun vs ds S1 F1 H1 k1 e1 p1 r1 h1 => ?_⟩
  refine ⟨zp F1 H1, ds ++ dd, noS, F1, _, _, wd_argsP k1 (r1.app (hd F1)), h1, fun x cls dd' S' F' H' c e hr hR => ?_, fun v d S' F' H' c e r hp => ?_⟩
  · have al := al_back k1 c e
    have k2 := k1.al al
    exact hx x cls dd' S1 F' H' ⟨k2.fH, k2.zH, k2.fz, k2.st, fun i d _ q => by simp at q, fun i d hi => absurd hi (by simp), fun i j d e p hi => absurd hi (by simp), rfl⟩ (e1.trans e) hr hR
  · have al := al_back k1 c e
    exact hq v d S1 F' H' (k1.al al) (e1.trans e) (pureA p1 al) r hp
theorem rd_callPN (hd : ∀ F, Reps X.K F dvs dd) (σ : L2.St) (H : Hp) (Q : VK) (h : rdN X.K X.mg b O E (eCallP fn (aDef w dd)) σ H Q) : tCall (spW X.K X.mg true fn) dvs E (rdA X.K X.mg b O E w) σ H Q := by
  obtain ⟨Z, Δ, S, F, P, R, k, hw, hx, hq⟩ := h
  refine ⟨Z, Δ, S, F, _, R, k, hw, hx, fun vs ds S1 F1 H1 k1 e1 p1 r1 h1 => ?_⟩
  refine ⟨zp F1 H1, ds ++ dd, noS, F1, _, _, wd_argsP k1 (r1.app (hd F1)), h1, fun x cls dd' S' F' H' c e hr hR => ?_, fun v d S' F' H' c e r hp => ?_⟩
  · have al := al_back k1 c e
    have k2 := k1.al al
    exact hx x cls dd' S1 F' H' ⟨k2.fH, k2.zH, k2.fz, k2.st, fun i d _ q => by simp at q, fun i d hi => absurd hi (by simp), fun i j d e p hi => absurd hi (by simp), rfl⟩ (e1.trans e) hr hR
  · have al := al_back k1 c e
    have k2 := k1.al al
    obtain ⟨p, o, rfl, h2, h3, h4, h5, h6, _⟩ := (show NRep X.K [] [] [] (zp F1 H1) S' F' H' v d from r)
    have hF : F1 p = none := e.none h4
    have hH : H1 p = none := by
      unfold zp at h5
      rw [if_pos hF] at h5
      exact h5
    obtain ⟨_, _, g2, g3, g4⟩ := new_cell k1 hH o
    exact hq _ d S1 F' H' k2 (e1.trans e) (pureA p1 al) ⟨p, o, rfl, h2, h3, h4, g2, g3, g4⟩ (fun z q hq => by cases hq; exact (p1 z).2.h.none hH) hp
theorem de_call (hd : ∀ F, Reps X.K F dvs dd) (h : PE X e (tCall (spW X.K X.mg false fn) dvs E (rdA X.K X.mg false O E w))) : DE X false O E e (eCall fn (aDef w dd)) := pe_to h (rd_call hd)
theorem dn_call (hd : ∀ F, Reps X.K F dvs dd) (h : PE X e (tCall (spW X.K X.mg true fn) dvs E (rdA X.K X.mg false O E w))) : DN X false O E e (eCall fn (aDef w dd)) := pe_to h (rd_callN hd)
theorem de_callP (hd : ∀ F, Reps X.K F dvs dd) (h : PE X e (tCall (spW X.K X.mg false fn) dvs E (rdA X.K X.mg b O E w))) : DE X b O E e (eCallP fn (aDef w dd)) := pe_to h (rd_callP hd)
theorem dn_callP (hd : ∀ F, Reps X.K F dvs dd) (h : PE X e (tCall (spW X.K X.mg true fn) dvs E (rdA X.K X.mg b O E w))) : DN X b O E e (eCallP fn (aDef w dd)) := pe_to h (rd_callPN hd)
end
end DL

/-! DR6: statements, targets, walks, loops, comprehensions. -/
namespace DL
open PySem PySem.Spec PyProof.Rows L2

/-! ### statements -/
section
variable (K : PySem.W.Frag) (mg : Str → Option Value)
/-- what is wanted behind, told twice -/
structure EndsR (On L : List Nat) (E : XK) (own : Bool) (Z F : Hp) (B : EndsD) (R : RX) (D : Ends) : Prop where
  nx : ∀ σ' Δ' S' F' H', Wd K On Z σ' Δ' S' F' H' → Ex F F' → B.nx Δ' S' → D.nx σ' H'
  rt : ∀ v d S' F' H', Wd K [] Z [] [] S' F' H' → Ex F F' → RetR K own Z S' F' H' v d → B.rt d S' → D.rt v H'
  bk : ∀ σ' Δ' S' F' H', Wd K L Z σ' Δ' S' F' H' → Ex F F' → B.bk Δ' S' → D.bk σ' H'
  ct : ∀ σ' Δ' S' F' H', Wd K L Z σ' Δ' S' F' H' → Ex F F' → B.ct Δ' S' → D.ct σ' H'
  ex : XQ K mg E Z F R
def rdS (O On L : List Nat) (E : XK) (own : Bool) (g : WS) : TS := fun D σ H => ∃ Z Δ S F B R, Wd K O Z σ Δ S F H ∧ g Δ S B R ∧ EndsR K mg On L E own Z F B R D
/-- a target -/
def rdG (O : List Nat) (g : WG) : TG := fun v σ H Q => ∃ Z Δ S F d Kn, Wd K O Z σ Δ S F H ∧ Rep K F v d ∧ g d Δ Kn ∧ ∀ σ' Δ', Wd K O Z σ' Δ' S F H → Kn Δ' → Q σ' H
def rdGs (O : List Nat) (g : WGs) : TGs := fun vs σ H Q => ∃ Z Δ S F ds Kn, Wd K O Z σ Δ S F H ∧ Reps K F vs ds ∧ g ds Δ Kn ∧ ∀ σ' Δ', Wd K O Z σ' Δ' S F H → Kn Δ' → Q σ' H
/-- what a loop walks: J gives the trees, one a turn -/
structure Gives (F0 : Hp) (J : It) (items : List D) : Prop where
  w : ∃ G Y, Walk J items.length G Y ∧ (∀ Hx, Ex F0 Hx → G Hx) ∧
    ∀ i F H x H', Ex F0 F → Ex F H → Y i H x H' → ∃ d F2, items[i]? = some d ∧ Al F H F2 H' ∧ Rep K F2 x d
def rdI (b : Bool) (O : List Nat) (E : XK) (w : WI) : TI := fun σ H Q => ∃ Z Δ S F P R, Wd K O Z σ Δ S F H ∧ w Δ S P R ∧ XQ K mg E Z F R ∧
  ∀ J items S' F' H', Wd K O Z σ Δ S' F' H' → Ex F F' → (b = true → S' = S ∧ Al F H F' H') → Gives K F' J items → P items S' → Q J H'
end
section
variable {X : Cx} {b : Bool} {O On O1 L : List Nat} {E : XK} {own : Bool} {K : PySem.W.Frag} {mg : Str → Option Value} {Z F F' : Hp} {B : EndsD} {R : RX} {D0 : Ends}
theorem EndsR.mono (r : EndsR K mg On L E own Z F B R D0) (e : Ex F F') : EndsR K mg On L E own Z F' B R D0 :=
  ⟨fun a b c d f w e' => r.nx a b c d f w (e.trans e'), fun a b c d f w e' => r.rt a b c d f w (e.trans e'), fun a b c d f w e' => r.bk a b c d f w (e.trans e'), fun a b c d f w e' => r.ct a b c d f w (e.trans e'), r.ex.mono e⟩
abbrev DS (X : Cx) (O On L : List Nat) (E : XK) (own : Bool) (st : Stmt) (g : WS) : Prop := PS X st (rdS X.K X.mg O On L E own g)
abbrev DSs (X : Cx) (O On L : List Nat) (E : XK) (own : Bool) (st : List Stmt) (g : WS) : Prop := PSs X st (rdS X.K X.mg O On L E own g)
abbrev DG (X : Cx) (O : List Nat) (t : Expr) (g : WG) : Prop := PG X t (rdG X.K O g)
abbrev DGs (X : Cx) (O : List Nat) (t : List Expr) (g : WGs) : Prop := PGs X t (rdGs X.K O g)
abbrev DI (X : Cx) (b : Bool) (O : List Nat) (E : XK) (tg e : Expr) (w : WI) : Prop := PI X tg e (rdI X.K X.mg b O E w)
variable {st : Stmt} {rest body : List Stmt} {g h : WS} {e tg iter : Expr} {w : WE} {t : WT} {pos : Pos}
theorem Wd.end0 {σ : L2.St} {Δ : Env} {S : Sto} {H : Hp} (k : Wd K O Z σ Δ S F H) : Wd K [] Z [] [] S F H := ⟨k.fH, k.zH, k.fz, k.st, fun i d _ q => by simp at q, fun i d hi => absurd hi (by simp), fun i j d e p hi => absurd hi (by simp), rfl⟩
theorem dss_nil : DSs X O O L E own [] gNext := pss_to pss_nil fun D σ H ⟨Z, Δ, S, F, B, R, k, hg, er⟩ => er.nx σ Δ S F H k (Ex.refl _) hg
theorem ds_pass : DS X O O L E own (.Pass pos) gNext := ps_to ps_pass fun D σ H ⟨Z, Δ, S, F, B, R, k, hg, er⟩ => er.nx σ Δ S F H k (Ex.refl _) hg
theorem ds_break : DS X O O O E own (.Break pos) gBrk := ps_to ps_break fun D σ H ⟨Z, Δ, S, F, B, R, k, hg, er⟩ => er.bk σ Δ S F H k (Ex.refl _) hg
theorem ds_continue : DS X O O O E own (.Continue pos) gCnt := ps_to ps_continue fun D σ H ⟨Z, Δ, S, F, B, R, k, hg, er⟩ => er.ct σ Δ S F H k (Ex.refl _) hg
theorem ds_doc {x : Str} {j : Nat} {pos' : Pos} : DS X O O L E own (.Expr (.Constant (.str x) j pos) pos') gNext := ps_to ps_doc fun D σ H ⟨Z, Δ, S, F, B, R, k, hg, er⟩ => er.nx σ Δ S F H k (Ex.refl _) hg
theorem ds_never : DS X O On L E own st gNever := ps_to ps_never fun D σ H ⟨Z, Δ, S, F, B, R, k, hg, er⟩ => hg.elim
theorem dss_cons (h1 : DS X O O1 L E own st g) (h2 : DSs X O1 On L E own rest h) : DSs X O On L E own (st :: rest) (gSeq g h) :=
  pss_to (pss_cons h1 h2) fun D σ H ⟨Z, Δ, S, F, B, R, k, hg, er⟩ => ⟨Z, Δ, S, F, _, R, k, hg, ⟨fun σ' Δ' S' F' H' k' e' q => ⟨Z, Δ', S', F', B, R, k', q, er.mono e'⟩, er.rt, er.bk, er.ct, er.ex⟩⟩
theorem dss_one (h1 : DS X O On L E own st g) : DSs X O On L E own [st] g := pss_one h1
/-- a slot's cell is shared from here on -/
theorem dss_freeze (i : Nat) (h1 : DSs X (drp i O) On L E own rest g) : DSs X O On L E own rest g := pss_to h1 fun D σ H ⟨Z, Δ, S, F, B, R, k, hg, er⟩ => by
  obtain ⟨F2, e2, k2⟩ := k.freeze i
  exact ⟨Z, Δ, S, F2, B, R, k2, hg, er.mono e2⟩
/-- names are forgotten behind -/
theorem killL_mode {O1 O2 : List Nat} {is : List Nat} {σ : L2.St} {Δ : Env} {S : Sto} {H : Hp} (k : Wd K O1 Z σ Δ S F H) (hm : ∀ i, i ∉ is → (i ∈ O1 ↔ i ∈ O2)) : Wd K O2 Z σ (killL is Δ) S F H :=
  (k.kill is).mode fun i d q => hm i (killL_some is Δ q).2
theorem dss_drop {O2 : List Nat} (is : List Nat) (hm : ∀ i, i ∉ is → (i ∈ O1 ↔ i ∈ O2)) (hl : ∀ i, i ∉ is → (i ∈ L ↔ i ∈ O2)) (hb : L = O2) (h1 : DSs X O O1 L E own rest g) : DSs X O O2 L E own rest (gDrop is g) := pss_to h1 fun D σ H ⟨Z, Δ, S, F, B, R, k, hg, er⟩ =>
  ⟨Z, Δ, S, F, _, R, k, hg, ⟨fun σ' Δ' S' F' H' k' e' q => er.nx σ' _ S' F' H' (killL_mode k' hm) e' q, er.rt, er.bk, fun σ' Δ' S' F' H' k' e' q => er.ct σ' _ S' F' H' (k'.kill is) e' q, er.ex⟩⟩
theorem ds_ret (he : DE X b O E e w) : DS X O On L E false (.Return (some e) pos) (gRet w) :=
  ps_to (ps_ret he) fun D σ H ⟨Z, Δ, S, F, B, R, k, hg, er⟩ => ⟨Z, Δ, S, F, _, R, k, hg, er.ex, fun v d S' F' H' k' e' _ r p => er.rt v d S' F' H' k'.end0 e' r p⟩
theorem NRep.end0 {σ : L2.St} {Δ : Env} {S : Sto} {H : Hp} {v : V} {d : D} : NRep K O σ Δ Z S F H v d → NRep K [] [] [] Z S F H v d := fun ⟨p, o, h1, h2, h3, h4, h5, h6, _⟩ => ⟨p, o, h1, h2, h3, h4, h5, h6, fun j e hj => absurd hj (by simp)⟩
/-- a new cell is handed back -/
theorem ds_retNew (he : DN X b O E e w) : DS X O On L E true (.Return (some e) pos) (gRet w) :=
  ps_to (ps_ret he) fun D σ H ⟨Z, Δ, S, F, B, R, k, hg, er⟩ => ⟨Z, Δ, S, F, _, R, k, hg, er.ex, fun v d S' F' H' k' e' _ r _ p => er.rt v d S' F' H' k'.end0 e' r.end0 p⟩
/-- an owned cell is handed back -/
theorem ds_retOwn (i : Nat) {x : Str} {p2 : Pos} (hi : i ∈ O) (h : PE X (.Name x p2) (tVar i)) : DS X O On L E true (.Return (some (.Name x p2)) pos) (gRet (eVar i)) :=
  ps_to (ps_ret h) fun D σ H ⟨Z, Δ, S, F, B, R, k, ⟨d, hd, hp⟩, er⟩ => by
    obtain ⟨p, o, h1, h2, h3, h4, h5, h6⟩ := k.ow i d hi hd
    exact ⟨.ref p, h1, er.rt _ d S F H k.end0 (Ex.refl _) ⟨p, o, rfl, h2, h3, h4, h5, h6, fun j e hj => absurd hj (by simp)⟩ hp⟩
theorem ds_retN : DS X O On L E false (.Return none pos) gRetN := ps_to ps_retN fun D σ H ⟨Z, Δ, S, F, B, R, k, hg, er⟩ => er.rt .non .non S F H k.end0 (Ex.refl _) .non hg
theorem ds_if {c : Expr} {a b' : List Stmt} (hc : DT X b O E c t) (ha : DSs X O On L E own a g) (hb : DSs X O On L E own b' h) : DS X O On L E own (.If c a b' pos) (gIf t g h) :=
  ps_to (ps_if hc ha hb) fun D σ H ⟨Z, Δ, S, F, B, R, k, hg, er⟩ => ⟨Z, Δ, S, F, _, R, k, hg, er.ex, fun q S1 F1 H1 k1 e1 _ h1 => by
    cases q with
    | true => exact ⟨Z, Δ, S1, F1, B, R, k1, h1, er.mono e1⟩
    | false => exact ⟨Z, Δ, S1, F1, B, R, k1, h1, er.mono e1⟩⟩
theorem ds_expr (he : DB X b O E e w) (hs : swapsWith e none pos.line X.env = pure false := by rfl) : DS X O O L E own (.Expr e pos) (gExpr w) :=
  ps_to (ps_expr he hs) fun D σ H ⟨Z, Δ, S, F, B, R, k, hg, er⟩ => ⟨Z, Δ, S, F, _, R, k, hg, er.ex, fun v d S' F' H' k' e' _ r p => er.nx σ Δ S' F' H' k' e' p⟩

/-! ### targets -/
theorem pg_to {t t' : TG} (h : PG X tg t) (i : ∀ v σ H Q, t' v σ H Q → t v σ H Q) : PG X tg t' := ⟨fun pins s σ H v u Q I r q => h.run pins s σ H v u Q I r (i v σ H Q q)⟩
theorem pgs_to {ts : List Expr} {t t' : TGs} (h : PGs X ts t) (i : ∀ v σ H Q, t' v σ H Q → t v σ H Q) : PGs X ts t' := ⟨fun pins s σ H v u Q I r q => h.run pins s σ H v u Q I r (i v σ H Q q)⟩
theorem dg_name {i : Nat} {x : Str} (hi : i ∉ O) (hp : PG X (.Name x pos) (gName i)) : DG X O (.Name x pos) (gtName i) :=
  pg_to hp fun v σ H Q ⟨Z, Δ, S, F, d, Kn, k, r, hg, hq⟩ => hq _ _ (k.set hi r) hg
theorem dgs_nil : DGs X O [] gtNil := pgs_to pgs_nil fun v σ H Q ⟨Z, Δ, S, F, ds, Kn, k, r, ⟨hd, hg⟩, hq⟩ => by
  subst hd
  cases r
  exact ⟨rfl, hq _ _ k hg⟩
theorem dgs_cons {a : Expr} {as : List Expr} {g : WG} {gs : WGs} (h1 : DG X O a g) (h2 : DGs X O as gs) (hs : (assignEach (a :: as) X.env).map (·.2) = assign a X.env :: (assignEach as X.env).map (·.2) := by rfl) : DGs X O (a :: as) (gtCons g gs) :=
  pgs_to (pgs_cons h1 h2 hs) fun vs σ H Q ⟨Z, Δ, S, F, ds, Kn, k, r, ⟨d, t, hd, hg⟩, hq⟩ => by
    subst hd
    cases r with
    | cons r1 r2 => exact ⟨_, _, rfl, Z, Δ, S, F, d, _, k, r1, hg, fun σ1 Δ1 k1 h1 => ⟨Z, Δ1, S, F, t, _, k1, r2, h1, hq⟩⟩
theorem dg_tup {es : List Expr} {kk : Nat} {gs : WGs} {n : Nat} (hc : X.calm = true) (h : DGs X O es gs) (hn : (assignEach es X.env).length = n := by rfl) (hst : (assignEach es X.env).findIdx? (·.1) = none := by rfl) : DG X O (.Tuple es kk pos) (gtTup n gs) := by
  have p1 := pg_tup (k := kk) (pos := pos) hc h hn hst
  have p2 := pg_unl (k := kk) (pos := pos) hc h hn hst
  refine ⟨fun pins s σ H v u Q I r q => ?_⟩
  obtain ⟨Z, Δ, S, F, d, Kn, k, rr, ⟨ds, hd, hl, hg⟩, hq⟩ := q
  cases rr with
  | tup hp rs =>
    cases hd
    exact p1.run pins s σ H _ u Q I r ⟨_, _, rfl, (.inl (.inl (k.fH _ _ hp))), by rw [rs.len]; exact hl, Z, Δ, S, F, ds, Kn, k, rs, hg, hq⟩
  | lst hp rs =>
    cases hd
    exact p2.run pins s σ H _ u Q I r ⟨_, _, rfl, .inl (.inl (k.fH _ _ hp)), by rw [rs.len]; exact hl, Z, Δ, S, F, ds, Kn, k, rs, hg, hq⟩
  | _ => cases hd

/-! ### assignments -/
theorem ds_set {i : Nat} {x : Str} {pos' : Pos} (hi : i ∉ O) (hN : X.N.Nodup) (hx : X.N[i]? = some x) (hl : Loc X.env.scope x) (he : DE X b O E e w) (hs : swapsWith e (some (.Name x pos')) pos.line X.env = pure false := by rfl)
    (hf : X.fn x = true ∨ X.env.scope.names.lookup x = some .local := by first | exact .inl rfl | exact .inr rfl | assumption) : DS X O O L E own (.Assign [.Name x pos'] e pos) (gAsg w (gtName i)) :=
  ps_to (ps_set hN hx hl he hs hf) fun D σ H ⟨Z, Δ, S, F, B, R, k, hg, er⟩ => ⟨Z, Δ, S, F, _, R, k, hg, er.ex, fun v d S' F' H' k' e' _ r p => er.nx _ _ S' F' H' (k'.set hi r) e' p⟩
/-- a name takes a new cell -/
theorem ds_own {i : Nat} {x : Str} {pos' : Pos} (hi : i ∈ O) (hN : X.N.Nodup) (hx : X.N[i]? = some x) (hl : Loc X.env.scope x) (he : DN X b O E e w) (hs : swapsWith e (some (.Name x pos')) pos.line X.env = pure false := by rfl)
    (hf : X.fn x = true ∨ X.env.scope.names.lookup x = some .local := by first | exact .inl rfl | exact .inr rfl | assumption) : DS X O O L E own (.Assign [.Name x pos'] e pos) (gAsg w (gtName i)) :=
  ps_to (ps_set hN hx hl he hs hf) fun D σ H ⟨Z, Δ, S, F, B, R, k, hg, er⟩ => ⟨Z, Δ, S, F, _, R, k, hg, er.ex, fun v d S' F' H' k' e' _ r _ p => by
    obtain ⟨q, o, rfl, h2, h3, h4, h5, h6, h7⟩ := r
    exact er.nx _ _ S' F' H' (k'.own hi h2 h3 h4 h5 h6 h7) e' p⟩
theorem ds_asg {g : WG} (he : DE X b O E e w) (hg : DG X O tg g) (hs : swapsWithSole [tg] e pos.line X.env = pure false := by rfl) (hw : swappedStores [tg] e X.env = pure none := by rfl)
    (h1 : (assignEach [tg] X.env).map (·.2) = [assign tg X.env] := by rfl) : DS X O O L E own (.Assign [tg] e pos) (gAsg w g) :=
  ps_to (ps_asg he hg hs hw h1) fun D σ H ⟨Z, Δ, S, F, B, R, k, hg, er⟩ => ⟨Z, Δ, S, F, _, R, k, hg, er.ex, fun v d S' F' H' k' e' _ r p => ⟨Z, Δ, S', F', d, _, k', r, p, fun σ1 Δ1 k1 q => er.nx σ1 Δ1 S' F' H' k1 e' q⟩⟩
/-- a, b = e1, e2 -/
def gPar (i j : Nat) (a : WA) : WS := fun Δ S B R => a Δ S (fun ds S1 => ∃ x y, ds = [x, y] ∧ B.nx ((Δ.set i (some x)).set j (some y)) S1) R
theorem ds_par {i j : Nat} {a c : Expr} {wA : WA} (hi : i ∉ O) (hj : j ∉ O) (ha : DA X b O E [a, c] wA)
    (hp : ∀ {ta}, PA X [a, c] ta → PS X st (tPar i j ta)) : DS X O O L E own st (gPar i j wA) :=
  ps_to (hp ha) fun D σ H ⟨Z, Δ, S, F, B, R, k, hg, er⟩ => ⟨Z, Δ, S, F, _, R, k, hg, er.ex, fun vs ds S' F' H' k' e' _ r ⟨x, y, hd, p⟩ => by
    subst hd
    cases r with
    | cons r1 r2 =>
      cases r2 with
      | cons r2 r3 =>
        cases r3
        exact ⟨_, _, rfl, er.nx _ _ S' F' H' ((k'.set hi r1).set hj r2) e' p⟩⟩
theorem ds_aug {i : Nat} {x : Str} {op : Operator} {r : R2} {f : D → D → Option D} {pos' : Pos} (hi : i ∉ O) (hN : X.N.Nodup) (hx : X.N[i]? = some x) (hl : Loc X.env.scope x) (he : DB X b O E e w) (ho : PIp X op r) (hr : OpS X.K f r)
    (hf : X.fn x = true ∨ X.env.scope.names.lookup x = some .local := by first | exact .inl rfl | exact .inr rfl | assumption) : DS X O O L E own (.AugAssign (.Name x pos') op e pos) (gAug i f w) :=
  ps_to (ps_aug hN hx hl he ho hf) fun D σ H ⟨Z, Δ, S, F, B, R, k, ⟨x, hx, hg⟩, er⟩ => by
    obtain ⟨v0, a1, a2⟩ := k.fr i x hi hx
    exact ⟨v0, a1, Z, Δ, S, F, _, R, k, hg, er.ex, fun v d S' F' H' k' e' _ r1 ⟨z, hz, p⟩ => hr F' H' v0 v x d z _ k'.fH (.rep (a2.mono e')) (r1.see k') hz fun v' F3 H3 al r3 => er.nx _ _ S' F3 H3 ((k'.al al).set hi r3) (e'.trans al.f) p⟩
/-- found.append(e) and the like: the method's rule changes the owner's cell -/
def OwnS (K : PySem.W.Frag) (f : D → List D → Option (D × D)) (r : V → List V → Hp → VK → Prop) : Prop := ∀ (F H : Hp) (p : Addr) (o : HO) (d d' rd : D) (xs : List V) (ds : List D) (Q : VK), Ex F H → H p = some o → OwnO K F o d → Reps K F xs ds → f d ds = some (d', rd) →
  (∀ v o', OwnO K F o' d' → Rep K F v rd → Q v (L2.upd H p o')) → r (.ref p) xs H Q
def TyO (K : PySem.W.Frag) (T : String) (ok : D → Bool) : Prop := ∀ (F H : Hp) (p : Addr) (o : HO) (d : D), H p = some o → OwnO K F o d → ok d = true → tyV K T (.ref p) H
theorem tyo_lst {K : PySem.W.Frag} : TyO K "list" isLst := fun F H p o d hp ow h => by
  cases ow with
  | lst r => exact .inl ⟨rfl, _, .inl (.inl hp)⟩
  | dct r => cases h
  | dcT r => cases h
theorem ds_ownM {i : Nat} {T : String} {ok : D → Bool} {r : V → List V → Hp → VK → Prop} {f : D → List D → Option (D × D)} {x : Str} {p2 : Pos} {wA : WA} {es : List Expr} (hi : i ∈ O) (hr : OwnS X.K f r) (hT : TyO X.K T ok) (hv : PE X (.Name x p2) (tVar i)) (ha : DA X b O E es wA)
    (hp : ∀ {t to}, PA X es t → PE X (.Name x p2) to → PE X e (tBM X.K T r to t)) (hs : swapsWith e none pos.line X.env = pure false := by rfl) : DS X O O L E own (.Expr e pos) (gOwn i ok f wA) :=
  ps_to (ps_expr (hp ha hv) hs) fun D σ H ⟨Z, Δ, S, F, B, R, k, ⟨x, hx, hok, hg⟩, er⟩ => by
    obtain ⟨p, o, a1, a2, a3, a4, a5, a6⟩ := k.ow i x hi hx
    refine ⟨.ref p, a1, hT F H p o x a2 a3 hok, Z, Δ, S, F, _, R, k, hg, er.ex, fun vs ds S' F' H' k' e' _ rs ⟨z, rd, hf, hn⟩ => ?_⟩
    obtain ⟨p', o', b1, b2, b3, _⟩ := k'.ow i x hi hx
    rw [a1] at b1; cases b1
    exact hr F' H' p o' x z rd vs ds _ k'.fH b2 b3 rs hf fun v o2 ow rv => er.nx _ _ S' F' _ (k'.change hi hx a1 ow) e' hn
/-- the same where there is no argument -/
theorem ds_ownM0 {i : Nat} {T : String} {ok : D → Bool} {r : V → List V → Hp → VK → Prop} {f : D → List D → Option (D × D)} {x : Str} {p2 : Pos} (hi : i ∈ O) (hr : OwnS X.K f r) (hT : TyO X.K T ok) (hv : PE X (.Name x p2) (tVar i))
    (hp : ∀ {to}, PE X (.Name x p2) to → PE X e (tBM0 X.K T r to)) (hs : swapsWith e none pos.line X.env = pure false := by rfl) : DS X O O L E own (.Expr e pos) (gOwn i ok f aNil) :=
  ps_to (ps_expr (hp hv) hs) fun D σ H ⟨Z, Δ, S, F, B, R, k, ⟨x, hx, hok, z, rd, hf, hn⟩, er⟩ => by
    obtain ⟨p, o, a1, a2, a3, a4, a5, a6⟩ := k.ow i x hi hx
    exact ⟨.ref p, a1, hT F H p o x a2 a3 hok, hr F H p o x z rd [] [] _ k.fH a2 a3 .nil hf fun v o2 ow rv => er.nx _ _ S F _ (k.change hi hx a1 ow) (Ex.refl _) hn⟩
theorem Reps.one {F : Hp} {xs : List V} {d : D} (r : Reps K F xs [d]) : ∃ x, xs = [x] ∧ Rep K F x d := by
  cases r with
  | cons h t => cases t; exact ⟨_, rfl, h⟩
theorem o_append : OwnS K oAppend rAppend := fun F H p o d d' rd xs ds Q ex hp ow rs hf hq => by
  unfold oAppend at hf
  split at hf
  · obtain ⟨x, rfl, rx⟩ := rs.one
    obtain ⟨hl, he⟩ := ite_some hf
    cases he
    cases ow with
    | lst r => exact ⟨p, _, x, rfl, rfl, hp, LINE_lt (by rw [r.len]; exact hl), hq _ _ (.lst (r.app (.cons rx .nil))) .non⟩
  · cases hf
theorem o_extend : OwnS K oExtend rExtend := fun F H p o d d' rd xs ds Q ex hp ow rs hf hq => by
  unfold oExtend at hf
  split at hf
  · obtain ⟨x, rfl, rx⟩ := rs.one
    obtain ⟨hl, he⟩ := ite_some hf
    cases he
    cases rx with
    | lst hx rx =>
      cases ow with
      | lst r => exact ⟨p, _, _, _, rfl, rfl, hp, ex _ _ hx, LINE_le (by rw [r.len, rx.len]; exact hl), hq _ _ (.lst (r.app rx)) .non⟩
  · cases hf
theorem Reps.dropLast {F : Hp} : ∀ {vs : List V} {ds : List D}, Reps K F vs ds → Reps K F vs.dropLast ds.dropLast := fun {vs ds} r => by
  rw [List.dropLast_eq_take, List.dropLast_eq_take, r.len]
  exact r.take _
theorem o_pop : OwnS K oPop rPop := fun F H p o d d' rd xs ds Q ex hp ow rs hf hq => by
  unfold oPop at hf
  split at hf
  · cases rs
    obtain ⟨y, h1, he⟩ := Option.map_eq_some_iff.mp hf
    cases he
    cases ow with
    | lst r =>
      obtain ⟨v, a1, a2⟩ := r.get h1
      exact ⟨p, _, v, rfl, rfl, hp, by rw [r.len]; exact a1, hq _ _ (.lst r.dropLast) a2⟩
  · cases hf
/-- d[k] = e -/
theorem RepK.any {F : Hp} {k : Key} : ∀ {vs : List (Key × V)} {ds : List (Key × D)}, RepK K F vs ds → (vs.any fun kv => decide (kv.1 = k)) = ds.any fun kv => decide (kv.1 = k)
  | _, _, .nil => rfl
  | _, _, .cons _ r => by rw [List.any_cons, List.any_cons, RepK.any r]
theorem RepK.repl {F : Hp} {k : Key} {x : V} {y : D} (r1 : Rep K F x y) : ∀ {vs : List (Key × V)} {ds : List (Key × D)}, RepK K F vs ds → RepK K F (vs.map fun kv => if kv.1 = k then (kv.1, x) else kv) (ds.map fun kv => if kv.1 = k then (kv.1, y) else kv)
  | _, _, .nil => .nil
  | _, _, .cons (k := j) h r => by
    rw [List.map_cons, List.map_cons]
    by_cases e : j = k
    · rw [if_pos e, if_pos e]; exact .cons r1 (RepK.repl r1 r)
    · rw [if_neg e, if_neg e]; exact .cons h (RepK.repl r1 r)
theorem RepK.snoc {F : Hp} {k : Key} {x : V} {y : D} (r1 : Rep K F x y) : ∀ {vs : List (Key × V)} {ds : List (Key × D)}, RepK K F vs ds → RepK K F (vs ++ [(k, x)]) (ds ++ [(k, y)])
  | _, _, .nil => .cons r1 .nil
  | _, _, .cons h r => .cons h (RepK.snoc r1 r)
theorem RepK.put {F : Hp} {k : Key} {x : V} {y : D} (r1 : Rep K F x y) {vs : List (Key × V)} {ds : List (Key × D)} (r : RepK K F vs ds) : RepK K F (putK vs k x) (putD ds k y) := by
  unfold putK putD
  rw [r.any]
  by_cases h : (ds.any fun kv => decide (kv.1 = k)) = true
  · rw [if_pos h, if_pos h]; exact r.repl r1
  · rw [if_neg h, if_neg h]; exact r.snoc r1
theorem key_see {F H : Hp} {v : V} {d : D} {k : Key} (r : VRep K F H v d) (h : keyD d = some k) : v = kV k := by
  cases d with
  | int i => cases r.int; cases h; rfl
  | str i => cases r.str; cases h; rfl
  | _ => cases h
theorem ds_dput {i : Nat} {ix val : Expr} {x : Str} {p2 : Pos} {wv wi : WE} (hi : i ∈ O) (hv : DE X b O E val wv) (ho : PE X (.Name x p2) (tVar i)) (hx : DE X b O E ix wi) (hp : ∀ {tv td ty}, PE X val tv → PE X (.Name x p2) td → PE X ix ty → PS X st (sDPut td ty tv)) :
    DS X O O L E own st (fun Δ S B R => gPut i (fun Δ S P R => (∃ kvs, Δ[i]? = some (some (.dct kvs))) ∧ wv Δ S P R) wi Δ S B R) :=
  ps_to (hp hv ho hx) fun D σ H ⟨Z, Δ, S, F, B, R, k, ⟨⟨kvs, hk⟩, hg⟩, er⟩ => ⟨Z, Δ, S, F, _, R, k, hg, er.ex, fun v d S1 F1 H1 k1 e1 _ r1 ⟨x, hx, h1⟩ => by
    rw [hk] at hx; cases hx
    obtain ⟨p, o, a1, a2, a3, a4, a5, a6⟩ := k1.ow i _ hi hk
    refine ⟨.ref p, a1, Z, Δ, S1, F1, _, R, k1, h1, er.ex.mono e1, fun y dk S2 F2 H2 k2 e2 _ r2 ⟨z, hz, hn⟩ => ?_⟩
    obtain ⟨p', o', b1, b2, b3, _⟩ := k2.ow i _ hi hk
    rw [a1] at b1; cases b1
    have hz' : (if kvs.length < LINE then (keyD dk).map fun k => DL.D.dct (putD kvs k d) else none) = some z := hz
    by_cases hl : kvs.length < LINE
    · rw [if_pos hl] at hz'
      obtain ⟨key, hkey, rfl⟩ := Option.map_eq_some_iff.mp hz'
      cases b3 with
      | dct rk =>
        cases key_see (H := H2) (.rep r2) hkey
        exact ⟨p, _, rfl, DPut.k b2 (LINE_lt (by rw [rk.len]; exact hl)), er.nx _ _ S2 F2 _ (k2.change hi hk a1 (.dct (rk.put (r1.mono e2)))) (e1.trans e2) hn⟩
    · rw [if_neg hl] at hz'; cases hz'⟩
end

/-! ### walks -/
section
variable {X : Cx} {b : Bool} {O On O1 L : List Nat} {E : XK} {own : Bool} {K : PySem.W.Frag} {e tg a c : Expr} {w wa wb : WE} {pos : Pos}
theorem pi_to {iter : Expr} {t t' : TI} (h : PI X tg iter t) (i : ∀ σ H R, t' σ H R → t σ H R) : PI X tg iter t' := ⟨fun pins s σ H R I q => h.run pins s σ H R I (i σ H R q)⟩
theorem gives_lst {F : Hp} {p : Addr} {vs : List V} {ds : List D} (h : SqL K F p vs) (r : Reps K F vs ds) : Gives K F (Itl K p) ds :=
  ⟨⟨fun H => SqL K H p vs, YAt vs, r.len ▸ walk_list, fun H e => e.sl h, fun i F2 H x H' e1 e2 ⟨y1, y2⟩ => by
    subst y1
    obtain ⟨d, h1, h2⟩ := r.getV y2
    exact ⟨d, F2, h1, Al.refl e2, h2.mono e1⟩⟩⟩
theorem gives_tup {F : Hp} {p : Addr} {vs : List V} {ds : List D} (h : SqT K F p vs) (r : Reps K F vs ds) : Gives K F (Itt K p) ds :=
  ⟨⟨fun H => SqT K H p vs, YAt vs, r.len ▸ walk_tup, fun H e => e.st h, fun i F2 H x H' e1 e2 ⟨y1, y2⟩ => by
    subst y1
    obtain ⟨d, h1, h2⟩ := r.getV y2
    exact ⟨d, F2, h1, Al.refl e2, h2.mono e1⟩⟩⟩
theorem rngD_get {lo : Int} {n i : Nat} (h : i < n) : (rngD lo n)[i]? = some (.int (lo + (i : Nat))) := by
  unfold rngD
  rw [List.getElem?_map, List.getElem?_range h]
  rfl
theorem rngD_len (lo : Int) (n : Nat) : (rngD lo n).length = n := by unfold rngD; simp
theorem gives_rng {F : Hp} {lo : Int} {n : Nat} : Gives K F (Itr lo n) (rngD lo n) :=
  ⟨⟨fun H => True, fun i H x H' => i < n ∧ H' = H ∧ x = .int (lo + i), by
    rw [rngD_len]
    exact ⟨fun i H hi _ => hi, fun H _ => Nat.le_refl _, fun i H x H' hi _ y => ⟨hi, y⟩⟩, fun H e => trivial, fun i F2 H x H' e1 e2 ⟨hi, y1, y2⟩ => by
    subst y1 y2
    exact ⟨_, F2, rngD_get hi, Al.refl e2, .int _⟩⟩⟩
theorem Itl_go {pins : List (Addr × Obj)} {σ : L2.St} {H : Hp} {s1 : Shared} {a : Addr} {R : It → Hp → Prop} (I1 : L2.Inv X pins σ H s1) (hs : ∃ xs, SqL X.K H a xs) (q : R (Itl X.K a) H) : wpAny (model X.prog X.w) X.A (pyIter (.ref a)) (PIE X pins σ tg R) X.xe s1 := by
  obtain ⟨xs, hq⟩ := hs
  obtain ⟨its, rv, p, hz⟩ := I1.list hq
  have fp : ∀ b ∈ [s1.heap.objs.size], FpOk X pins H b := fun b hb => by
    cases List.mem_singleton.mp hb
    exact I1.fpOk (Nat.le_refl _) I1.fresh
  exact wpAny_pyIter_list p.isList ⟨_, _, _, _, H, rfl, I1.kept (t' := s1.toks) (fun b o e => Heap.get?_push_of_some _ e), turn_list a _, ⟨_, Heap.get?_push_size _ rfl, rfl, rfl⟩, fp, q⟩
theorem Itt_go {pins : List (Addr × Obj)} {σ : L2.St} {H : Hp} {s1 : Shared} {a : Addr} {R : It → Hp → Prop} (I1 : L2.Inv X pins σ H s1) (hs : ∃ xs, SqT X.K H a xs) (q : R (Itt X.K a) H) : wpAny (model X.prog X.w) X.A (pyIter (.ref a)) (PIE X pins σ tg R) X.xe s1 := by
  obtain ⟨xs, hq⟩ := hs
  obtain ⟨its, rv, p, hz⟩ := I1.tuple hq
  have fp : ∀ b ∈ [s1.heap.objs.size], FpOk X pins H b := fun b hb => by
    cases List.mem_singleton.mp hb
    exact I1.fpOk (Nat.le_refl _) I1.fresh
  exact wpAny_pyIter_tuple (show s1.heap.IsTuple a its.toArray from p) ⟨_, _, _, _, H, rfl, I1.kept (t' := s1.toks) (fun b o e => Heap.get?_push_of_some _ e), turn_tuple a _, ⟨_, Heap.get?_push_size _ rfl, rfl, rfl⟩, fp, q⟩
/-- a list or a tuple, whichever it is -/
theorem di_seq (h : DE X b O E e w) : DI X b O E tg e (iSeq w) := by
  have key : ∀ σ H R, rdI X.K X.mg b O E (iSeq w) σ H R → rdE X.K X.mg b O E w σ H fun x H1 => (∃ a, x = .ref a ∧ (∃ xs, SqL X.K H1 a xs) ∧ R (Itl X.K a) H1) ∨ (∃ a, x = .ref a ∧ (∃ xs, SqT X.K H1 a xs) ∧ R (Itt X.K a) H1) := by
    rintro σ H R ⟨Z, Δ, S, F, P, Rx, k, hw, hx, hq⟩
    refine ⟨Z, Δ, S, F, _, Rx, k, hw, hx, fun v d S1 F1 H1 k1 e1 p1 r1 ⟨xs, hd, hp⟩ => ?_⟩
    cases r1 with
    | lst h r => cases hd; exact .inl ⟨_, rfl, ⟨_, .inl (.inl (k1.fH _ _ h))⟩, hq _ _ S1 F1 H1 k1 e1 p1 (gives_lst (.inl (.inl h)) r) hp⟩
    | tup h r => cases hd; exact .inr ⟨_, rfl, ⟨_, (.inl (.inl (k1.fH _ _ h)))⟩, hq _ _ S1 F1 H1 k1 e1 p1 (gives_tup (.inl (.inl h)) r) hp⟩
    | scr h => cases hd; exact .inl ⟨_, rfl, ⟨_, k1.fH.sl h⟩, hq _ _ S1 F1 H1 k1 e1 p1 (gives_lst h Reps.ints) hp⟩
    | _ => cases hd
  refine ⟨fun pins s σ H R I q => ?_⟩
  refine thn (h.run pins s σ H _ I (key σ H R q)) fun v s1 ⟨x, H1, I1, r1, q1⟩ => ?_
  rcases q1 with ⟨a, rfl, hs, q1⟩ | ⟨a, rfl, hs, q1⟩
  · cases r1
    exact Itl_go I1 hs q1
  · cases r1
    exact Itt_go I1 hs q1
theorem di_rng1 {p : Pos} (hg : Gl X "range") (hm : X.mg "range" = none) (ha : DE X b O E a w) (hs : starEach [a] X.env = [(false, eval a X.env)] := by rfl) : DI X b O E tg (.Call (.Name "range" p) [a] [] pos) (iRng1 w) :=
  pi_to (pi_range1 hg hm (pa_cons ha pa_nil hs) hs) fun σ H R ⟨Z, Δ, S, F, P, Rx, k, hw, hx, hq⟩ => ⟨Z, Δ, S, F, _, Rx, k, hw, hx, fun v d S1 F1 H1 k1 e1 p1 r1 ⟨j, hd, q1, q2, hp⟩ => by
    subst hd
    cases r1
    exact ⟨j, rfl, q1, q2, hq _ _ S1 F1 H1 k1 e1 p1 gives_rng hp⟩⟩
theorem di_rng2 {p : Pos} (hg : Gl X "range") (hm : X.mg "range" = none) (ha : DE X b O E a wa) (hc : DE X b O E c wb) (hs : starEach [a, c] X.env = [(false, eval a X.env), (false, eval c X.env)] := by rfl) (hs2 : starEach [c] X.env = [(false, eval c X.env)] := by rfl) :
    DI X b O E tg (.Call (.Name "range" p) [a, c] [] pos) (iRng2 wa wb) :=
  pi_to (pi_range2 hg hm (pa_cons ha (pa_cons hc pa_nil hs2) (by rw [hs, hs2])) hs hs2) fun σ H R ⟨Z, Δ, S, F, P, Rx, k, hw, hx, hq⟩ => ⟨Z, Δ, S, F, _, Rx, k, hw, hx, fun v d S1 F1 H1 k1 e1 p1 r1 h1 => ⟨Z, Δ, S1, F1, _, Rx, k1, h1, hx.mono e1, fun u d2 S2 F2 H2 k2 e2 p2 r2 ⟨i, j, hd1, hd2, hb, hp⟩ => by
    subst hd1 hd2
    cases r1
    cases r2
    exact ⟨i, j, rfl, hb, hq _ _ S2 F2 H2 k2 (e1.trans e2) (pure2 p1 p2) gives_rng hp⟩⟩⟩
theorem enumD_get : ∀ (xs : List D) (n i : Nat), (enumD n xs)[i]? = (xs[i]?).map fun x => .tup [.int ((n + i : Nat) : Int), x]
  | [], _, _ => by simp [enumD]
  | x :: xs, n, 0 => by simp [enumD]
  | x :: xs, n, i + 1 => by
    have h := enumD_get xs (n + 1) i
    have e : n + 1 + i = n + (i + 1) := by omega
    rw [e] at h
    simpa [enumD] using h
theorem enumD_len : ∀ (xs : List D) (n : Nat), (enumD n xs).length = xs.length
  | [], _ => rfl
  | x :: xs, n => by simp [enumD, enumD_len xs]
theorem gives_enum {F : Hp} {p : Addr} {vs : List V} {ds : List D} (h : SqL K F p vs) (r : Reps K F vs ds) : Gives K F (Ite K p) (enumD 0 ds) := by
  refine ⟨⟨fun H => SqL K H p vs, YPair (fun i => some (.int (i : Nat))) (fun i => vs[i]?), ?_, fun H e => e.sl h, ?_⟩⟩
  · rw [enumD_len, ← r.len]; exact walk_enum
  · rintro i F2 H x H' e1 e2 ⟨T, x1, x2, rfl, hT, rfl, h1, h2⟩
    cases h1
    obtain ⟨d, h3, h4⟩ := r.getV h2
    have al := Al.new (o := .tup [.int (i : Nat), x2]) e2 hT
    refine ⟨_, _, ?_, al, .tup upd_same (.cons (.int (i : Nat)) (.cons (h4.mono (e1.trans al.f)) .nil))⟩
    rw [enumD_get, h3, Nat.zero_add]
    rfl
end
end DL

/-! DR7: enumerate over lists and tuples; for, while, comprehensions. -/
namespace DL
open PySem PySem.Spec PyProof.Rows L2

theorem meets_enum1 {v : Value} {o : Obj} {H : Heap → Prop} (B : Begins v o H) : Meets (Builtin.«enumerate.__new__» ⟨[.type "enumerate", v], []⟩) (fun _ R s => H s.heap ∧
    R (.ok (.ret (.ref (s.heap.push o).objs.size))) { s with heap := (s.heap.push o).push { cls := .type "enumerate", data := .fields #[.none, .bool false, .ref s.heap.objs.size, rawInt 0, .none, .none] } }) := by
  refine .of_wp fun prog w A R s h => ?_
  obtain ⟨hp, g, d, tk, os⟩ := s
  obtain ⟨h1, h⟩ := h
  have hsub := sub_enumerate
  have q1 : ∀ {A' : Around} {E : Value → Shared → Prop} {Q : Value → Shared → Prop}, Q (.ref hp.objs.size) ⟨hp.push o, g, d, tk, os⟩ → wpAny (model prog w) A' (pyIter v) Q E ⟨hp, g, d, tk, os⟩ := fun q => B.iter prog w _ _ ⟨hp, g, d, tk, os⟩ _ h1 q
  wp_walk using q1
  refine wpAny_stack_any fun st => wpAny_pure ?_
  split
  · rename_i c _ _ _ _ _
    cases (c == Value.type "enumerate") <;> (wp_walk using q1; exact ⟨_, rfl, h⟩)
  · wp_walk using q1
    exact ⟨_, rfl, h⟩
theorem call_enum1 {prog : Program} {w : World} {A : Around} {E : Value → Shared → Prop} {s : Shared} {v : Value} {o : Obj} {H : Heap → Prop} {Q : Value → Shared → Prop} (B : Begins v o H) (h1 : H s.heap)
    (h : ∀ h', IsEnum h' (s.heap.objs.size + 1) s.heap.objs.size 0 .none → h'.get? s.heap.objs.size = some o → (∀ b o, s.heap.get? b = some o → h'.get? b = some o) → Q (.ref (s.heap.objs.size + 1)) { s with heap := h' }) :
    wpAny (model prog w) A (PySem.call (.type "enumerate") [v]) Q E s := by
  refine callType_new F.called_enumerate (by decide) (F.typeCall_enumerate_1 _) (F.newCall_enumerate_1 _) (fun obj => F.args_object_init_2 obj _) F.entry_enumerate_new (meets_enum1 B) ⟨h1, ?_⟩
  have hz : (s.heap.push o).objs.size = s.heap.objs.size + 1 := Heap.size_push ..
  show _ ∧ _
  rw [hz]
  have he : IsEnum ((s.heap.push o).push { cls := .type "enumerate", data := .fields #[.none, .bool false, .ref s.heap.objs.size, rawInt 0, .none, .none] }) (s.heap.objs.size + 1) s.heap.objs.size 0 .none := by
    have e := Heap.get?_push_size (s.heap.push o) (o := { cls := .type "enumerate", data := .fields #[.none, .bool false, .ref s.heap.objs.size, rawInt 0, .none, .none] }) rfl
    rw [hz] at e
    exact e
  exact ⟨⟨_, he, rfl⟩, h _ he (Heap.get?_push_of_some _ (Heap.get?_push_size _ B.free)) fun b o x => Heap.get?_push_of_some _ (Heap.get?_push_of_some _ x)⟩
/-- enumerate over a tuple, turn by turn -/
def IteT (K : PySem.W.Frag) (a : Addr) : It :=
  ⟨fun i H => ∃ (xs : List V) (x : V), SqT K H a xs ∧ xs[i]? = some x, fun i H v H' => ∃ T x, v = .ref T ∧ H T = none ∧ H' = L2.upd H T (.tup [.int (i : Nat), x]) ∧ ∀ xs, SqT K H a xs → xs[i]? = some x, fun i H => ∃ xs : List V, SqT K H a xs ∧ xs.length = i⟩
theorem turn_enumT {P : Program} {w : World} {K : PySem.W.Frag} {elts : List Expr} {kk : Nat} {tpos : Pos} (a e it : Addr) (hae : a ≠ it) (hee : a ≠ e) : Turn P w K (.Tuple elts kk tpos) (IteT K a) [e, it] e (fun i h => (∃ old, IsEnum h e it ((i : Nat) : Int) old) ∧ h.IsTupleIter it a i ∧ e ≠ it) where
  mem := by simp
  obj := fun i h st b hb => by
    obtain ⟨⟨old, he⟩, ⟨o, ho, hc, hd⟩, _⟩ := st
    rcases (show b = e ∨ b = it by simpa using hb) with rfl | rfl
    · exact ⟨_, he, fun v q => nomatch q⟩
    · exact ⟨o, ho, fun v q => by rw [hd] at q; cases q⟩
  keep := fun i h h' st k => let ⟨⟨old, he⟩, hi, hne⟩ := st; ⟨⟨old, k e (by simp) _ he⟩, hi.at fun o q => k it (by simp) o q, hne⟩
  item := by
    intro X hP hw hK hc i pins s σ H E I hf st hg
    subst hP hw hK
    obtain ⟨⟨old, he⟩, hit, hne⟩ := st
    obtain ⟨xs, x, hq, hx⟩ := hg
    obtain ⟨its, rv, p, hz⟩ := I.tuple hq
    obtain ⟨u, hu, ru⟩ := rv.get hx
    have hel : e < s.heap.objs.size := Heap.lt_size he
    have hil : it < s.heap.objs.size := by obtain ⟨_, q, _⟩ := hit; exact Heap.lt_size q
    have Dr := Draws.tuple (prog := X.prog) (w := X.w) (A := X.A.in1) (I.ok.hd hc) it a hae its.toArray
    have hn : i < its.toArray.size := by rw [List.size_toArray, ← rv.length]; exact (List.getElem?_eq_some_iff.mp hx).1
    have hef : e ∉ [it, a] := by
      intro z
      rcases (show e = it ∨ e = a by simpa using z) with z | z
      · exact hne z
      · exact hee z.symm
    refine wpAny_pyNext_enum_itemD Dr he ⟨hit, p⟩ hn hne hef fun y h' tk hy ho hst' hT hsz hk => ?_
    have ey : y = u := by
      rw [show its.toArray[i]? = some u by simpa using hu] at hy
      exact (Option.some.inj hy).symm
    subst ey
    refine ⟨_, rfl, wpAny_letOwnedTupleGo_enum (s := { s with heap := h', toks := tk + 1 }) ho fun h'' he' sb => ?_⟩
    have hT2 : h''.get? s.heap.objs.size = some { cls := .type "tuple", data := .seq #[.int i tk, y] } := (sb.2 _ (Nat.ne_of_gt hel)).trans hT
    have new : ObjOk X.prog X.w (L2.upd H s.heap.objs.size (.tup [.int (i : Nat), x])) h'' s.heap.objs.size (.tup [.int (i : Nat), x]) := ⟨by show 2 ≤ sizeLine; decide, [.int i tk, y], .cons ⟨_, rfl⟩ (.cons ru .nil), ⟨_, hT2, rfl, _, rfl⟩⟩
    have I1 : L2.Inv X pins σ (L2.upd H s.heap.objs.size (.tup [.int (i : Nat), x])) { s with heap := h'', toks := tk + 1 } :=
      I.turnedNew (ch := [e, it]) (fun b ob hb q => (sb.2 b (fun z => hb (by simp [z]))).trans (hk b ob (fun z => hb (by simp [z])) (fun z => hb (by simp [z])) q)) hf (Nat.le_refl _) new
    refine ⟨.ref s.heap.objs.size, _, I1, rfl, ⟨_, x, rfl, I.fresh, rfl, fun ys hy => by rw [I.tuple_inj hy hq]; exact hx⟩, ⟨⟨y, ?_⟩, hst'.1.at fun o q => (sb.2 it (Ne.symm hne)).trans q, hne⟩, fun b hb => ?_⟩
    · have e1 : ((i + 1 : Nat) : Int) = (i : Int) + 1 := by omega
      rw [e1]; exact he'
    · have hb' : b < s.heap.objs.size := by
        rcases (show b = e ∨ b = it by simpa using hb) with rfl | rfl
        · exact hel
        · exact hil
      rw [upd_ne (Nat.ne_of_lt hb')]
      exact (hf b hb).1
  done := by
    intro X hP hw hK hc i pins s σ H E I hf st hg
    subst hP hw hK
    obtain ⟨⟨old, he⟩, hit, hne⟩ := st
    obtain ⟨xs, hq, hx⟩ := hg
    obtain ⟨its, rv, p, hz⟩ := I.tuple hq
    obtain ⟨f0, f1, f2, f3, f4, f5⟩ := hf it (by simp)
    have Dr := Draws.tuple (prog := X.prog) (w := X.w) (A := X.A.in1) (I.ok.hd hc) it a hae its.toArray
    have hn : i = its.toArray.size := by rw [List.size_toArray, ← rv.length]; exact hx.symm
    rw [hn] at hit he
    exact wpAny_pyNext_enum_endD Dr he ⟨hit, p⟩ fun h' eb => ⟨rfl, I.turned (t' := s.toks) (fun b o hb q => eb b o hb q) f0 f1 f3 f4 f5⟩
  self := fun A i s Q E st h => let ⟨⟨_, he⟩, _⟩ := st; wpAny_pyIter_enum he h

theorem walk_enumT {K : PySem.W.Frag} {a : Addr} {xs : List V} : Walk (IteT K a) xs.length (fun H => SqT K H a xs) (YPair (fun i => some (.int (i : Nat))) (fun i => xs[i]?)) :=
  ⟨fun i H hi h => ⟨xs, xs[i], h, by simp [hi]⟩, fun H h => ⟨xs, h, rfl⟩, fun i H x H' hi h ⟨T, y, e1, e2, e3, e4⟩ => ⟨T, .int (i : Nat), y, e1, e2, e3, rfl, e4 xs h⟩⟩
section
variable {X : Cx} {b : Bool} {O On O1 L : List Nat} {E : XK} {own : Bool} {K : PySem.W.Frag} {e tg a c : Expr} {w wa wb : WE} {pos : Pos}
theorem gives_enumT {F : Hp} {p : Addr} {vs : List V} {ds : List D} (h : SqT K F p vs) (r : Reps K F vs ds) : Gives K F (IteT K p) (enumD 0 ds) := by
  refine ⟨⟨fun H => SqT K H p vs, YPair (fun i => some (.int (i : Nat))) (fun i => vs[i]?), ?_, fun H e => e.st h, ?_⟩⟩
  · rw [enumD_len, ← r.len]; exact walk_enumT
  · rintro i F2 H x H' e1 e2 ⟨T, x1, x2, rfl, hT, rfl, h1, h2⟩
    cases h1
    obtain ⟨d, h3, h4⟩ := r.getV h2
    have al := Al.new (o := .tup [.int (i : Nat), x2]) e2 hT
    refine ⟨_, _, ?_, al, .tup upd_same (.cons (.int (i : Nat)) (.cons (h4.mono (e1.trans al.f)) .nil))⟩
    rw [enumD_get, h3, Nat.zero_add]
    rfl
def iEnumA (K : PySem.W.Frag) (ta : TA) : TI := fun σ H R => ta σ H fun vs H1 => ∃ a xs, vs = [.ref a] ∧ ((SqL K H1 a xs ∧ R (Ite K a) H1) ∨ (SqT K H1 a xs ∧ R (IteT K a) H1))
theorem pi_enumA {ta : TA} {p tpos : Pos} {elts : List Expr} {kk : Nat} (hg : Gl X "enumerate") (hm : X.mg "enumerate" = none) (ha : PA X [a] ta) (hs : starEach [a] X.env = [(false, eval a X.env)] := by rfl) :
    PI X (.Tuple elts kk tpos) (.Call (.Name "enumerate" p) [a] [] pos) (iEnumA X.K ta) := by
  refine ⟨fun pins s σ H R I h => Call_ (ld_blt I hg hm boot_enumerate (callWith_type1 (thn (ha.run pos pins s σ H _ I h) ?_) hs rfl))⟩
  rintro us s1 ⟨vs, H1, I1, r1, l, xs, rfl, q⟩
  cases r1 with
  | cons r rr =>
    cases rr
    cases r
    have two : ∀ b, b ∈ [s1.heap.objs.size + 1, s1.heap.objs.size] → FpOk X pins H1 b := fun b hb => by
      have hle : s1.heap.objs.size ≤ b := by
        rcases (show b = s1.heap.objs.size + 1 ∨ b = s1.heap.objs.size by simpa using hb) with z | z
        · rw [z]; exact Nat.le_succ _
        · exact Nat.le_of_eq z.symm
      exact I1.fpOk hle (I1.hok.fresh hle)
    rcases q with ⟨hq, q⟩ | ⟨hq, q⟩
    · obtain ⟨its, rv, p', hz⟩ := I1.list hq
      exact call_enumerate_list p'.isList fun h' he hit hsz hk => wpAny_pyIter_enum he ⟨_, _, _, _, H1, rfl, I1.kept (t' := s1.toks) hk, turn_enum l (s1.heap.objs.size + 1) s1.heap.objs.size, ⟨⟨.none, he⟩, hit, Nat.succ_ne_self _⟩, two, q⟩
    · obtain ⟨its, rv, p', hz⟩ := I1.tuple hq
      have hl : l < s1.heap.objs.size := p'.lt
      exact call_enum1 (begins_tuple l its.toArray) p' fun h' he hit hk => wpAny_pyIter_enum he ⟨_, _, _, _, H1, rfl, I1.kept (t' := s1.toks) hk, turn_enumT l (s1.heap.objs.size + 1) s1.heap.objs.size (Nat.ne_of_lt hl) (Nat.ne_of_lt (Nat.lt_succ_of_lt hl)), ⟨⟨.none, he⟩, ⟨_, hit, rfl, rfl⟩, Nat.succ_ne_self _⟩, two, q⟩
theorem di_enum {p tpos : Pos} {elts : List Expr} {kk : Nat} (hg : Gl X "enumerate") (hm : X.mg "enumerate" = none) (ha : DE X b O E a w) (hs : starEach [a] X.env = [(false, eval a X.env)] := by rfl) :
    DI X b O E (.Tuple elts kk tpos) (.Call (.Name "enumerate" p) [a] [] pos) (iEnum w) :=
  pi_to (pi_enumA hg hm (pa_cons ha pa_nil hs) hs) fun σ H R ⟨Z, Δ, S, F, P, Rx, k, hw, hx, hq⟩ => ⟨Z, Δ, S, F, _, Rx, k, hw, hx, fun v d S1 F1 H1 k1 e1 p1 r1 ⟨xs, hd, hp⟩ => by
    cases r1 with
    | lst h r => cases hd; exact ⟨_, _, rfl, .inl ⟨.inl (.inl (k1.fH _ _ h)), hq _ _ S1 F1 H1 k1 e1 p1 (gives_enum (.inl (.inl h)) r) hp⟩⟩
    | tup h r => cases hd; exact ⟨_, _, rfl, .inr ⟨(.inl (.inl (k1.fH _ _ h))), hq _ _ S1 F1 H1 k1 e1 p1 (gives_enumT (.inl (.inl h)) r) hp⟩⟩
    | scr h => cases hd; exact ⟨_, _, rfl, .inl ⟨k1.fH.sl h, hq _ _ S1 F1 H1 k1 e1 p1 (gives_enum h Reps.ints) hp⟩⟩
    | _ => cases hd⟩

/-! ### for, while -/
variable {st : Stmt} {rest body : List Stmt} {g h : WS} {iter : Expr} {t : WT} {gt : WG} {wi : WI}
theorem ds_for (hp : PassesOwn (model X.prog X.w) X.A X.env X.xe) (hc : X.calm = true) (hi : DI X b O E tg iter wi) (hg : DG X O tg gt) (hb : DSs X O O O E own body g) (hs : ∀ x, foldedSetIterable iter X.env x = pure x := by intro _; rfl) :
    DS X O O L E own (.For tg iter body [] pos) (gFor wi gt g) :=
  ps_to (ps_for hp hc hi hg hb hs) fun D σ H ⟨Z, Δ, S, F, B, R, k, hw, er⟩ => ⟨Z, Δ, S, F, _, R, k, hw, er.ex, fun J items S1 F1 H1 k1 e1 _ gv h1 => by
    obtain ⟨G, Y, W, hG, hY⟩ := gv.w
    refine for_it W (fun i σ' H' => ∃ Δ' S' F', Wd X.K O Z σ' Δ' S' F' H' ∧ Ex F1 F' ∧ forL gt g R B (items.drop i) Δ' S') ⟨Δ, S1, F1, k1, Ex.refl _, h1⟩ (fun i σ' H' _ ⟨Δ', S', F', k', e', _⟩ => hG H' (e'.trans k'.fH)) ?_ ?_
    · rintro i x σ' H' H2 hi ⟨Δ', S', F', k', e', hf⟩ hy
      obtain ⟨d, F2, hd, al, r2⟩ := hY i F' H' x H2 e' k'.fH hy
      have hdrop : items.drop i = d :: items.drop (i + 1) := by
        obtain ⟨hlt, rfl⟩ := List.getElem?_eq_some_iff.mp hd
        exact List.drop_eq_getElem_cons hlt
      rw [hdrop] at hf
      have e2 := e'.trans al.f
      refine ⟨Z, Δ', S', F2, d, _, k'.al al, r2, hf, fun σ3 Δ3 k3 h3 => ⟨Z, Δ3, S', F2, _, R, k3, h3, ⟨fun σ4 Δ4 S4 F4 H4 k4 e4 q => ⟨Δ4, S4, F4, k4, e2.trans e4, q⟩, fun v d S4 F4 H4 k4 e4 r q => er.rt v d S4 F4 H4 k4 ((e1.trans e2).trans e4) r q,
        fun σ4 Δ4 S4 F4 H4 k4 e4 q => er.nx σ4 Δ4 S4 F4 H4 k4 ((e1.trans e2).trans e4) q, fun σ4 Δ4 S4 F4 H4 k4 e4 q => ⟨Δ4, S4, F4, k4, e2.trans e4, q⟩, er.ex.mono (e1.trans e2)⟩⟩⟩
    · rintro σ' H' ⟨Δ', S', F', k', e', hf⟩
      rw [List.drop_length] at hf
      exact er.nx σ' Δ' S' F' H' k' (e1.trans e') hf⟩
theorem ds_while {c : Expr} (hp : PassesOwn (model X.prog X.w) X.A X.env X.xe) (hc : DT X b O E c t) (hb : DSs X O O O E own body g) : DS X O O L E own (.While c body [] pos) (gWhile t g) :=
  ps_to (ps_while hp hc hb) fun D σ H ⟨Z, Δ, S, F, B, R, k, ⟨I, ⟨m0, h0⟩, hI⟩, er⟩ => by
    refine ⟨fun m σ' H' => ∃ Δ' S' F', Wd X.K O Z σ' Δ' S' F' H' ∧ Ex F F' ∧ I m Δ' S', ⟨m0, Δ, S, F, k, Ex.refl _, h0⟩, ?_⟩
    rintro m σ1 H1 ⟨Δ1, S1, F1, k1, e1, h1⟩
    refine ⟨Z, Δ1, S1, F1, _, R, k1, hI m Δ1 S1 h1, er.ex.mono e1, fun q S2 F2 H2 k2 e2 _ h2 => ?_⟩
    cases q with
    | true =>
      refine ⟨fun σ' H' => ∃ m', m' < m ∧ ∃ Δ' S' F', Wd X.K O Z σ' Δ' S' F' H' ∧ Ex F F' ∧ I m' Δ' S', fun σ' H' q => q, Z, Δ1, S2, F2, _, R, k2, h2, ?_⟩
      exact ⟨fun σ4 Δ4 S4 F4 H4 k4 e4 ⟨m', hm, q⟩ => ⟨m', hm, Δ4, S4, F4, k4, (e1.trans e2).trans e4, q⟩, fun v d S4 F4 H4 k4 e4 r q => er.rt v d S4 F4 H4 k4 ((e1.trans e2).trans e4) r q,
        fun σ4 Δ4 S4 F4 H4 k4 e4 q => er.nx σ4 Δ4 S4 F4 H4 k4 ((e1.trans e2).trans e4) q, fun σ4 Δ4 S4 F4 H4 k4 e4 ⟨m', hm, q⟩ => ⟨m', hm, Δ4, S4, F4, k4, (e1.trans e2).trans e4, q⟩, er.ex.mono (e1.trans e2)⟩
    | false => exact er.nx σ1 Δ1 S2 F2 H2 k2 (e1.trans e2) h2
end
end DL

/-! DR8: comprehensions. -/
namespace DL
open PySem PySem.Spec PyProof.Rows L2

/-- slots and names agree but on own -/
def Kept (own : List Nat) (σ : L2.St) (Δ : Env) (σ' : L2.St) (Δ' : Env) : Prop := σ'.length = σ.length ∧ Δ'.length = Δ.length ∧ ∀ i, i ∉ own → σ'[i]? = σ[i]? ∧ Δ'[i]? = Δ[i]?
theorem Kept.refl {own : List Nat} {σ : L2.St} {Δ : Env} : Kept own σ Δ σ Δ := ⟨rfl, rfl, fun _ _ => ⟨rfl, rfl⟩⟩
theorem Kept.set {own : List Nat} {σ : L2.St} {Δ : Env} {i : Nat} {v : Option V} {d : Option D} (h : i ∈ own) : Kept own σ Δ (σ.set i v) (Δ.set i d) :=
  ⟨List.length_set, List.length_set, fun j hj => by
    have z : i ≠ j := fun e => hj (e ▸ h)
    exact ⟨List.getElem?_set_ne z, List.getElem?_set_ne z⟩⟩
theorem Kept.trans {own : List Nat} {σ σ1 σ2 : L2.St} {Δ Δ1 Δ2 : Env} (a : Kept own σ Δ σ1 Δ1) (b : Kept own σ1 Δ1 σ2 Δ2) : Kept own σ Δ σ2 Δ2 :=
  ⟨b.1.trans a.1, b.2.1.trans a.2.1, fun i h => ⟨(b.2.2 i h).1.trans (a.2.2 i h).1, (b.2.2 i h).2.trans (a.2.2 i h).2⟩⟩
theorem wipe_in {σ : L2.St} {i : Nat} : ∀ {vs : List Nat}, i ∈ vs → (wipe σ vs)[i]? = if i < σ.length then some none else none
  | v :: vs, h => by
    unfold wipe
    by_cases e : v = i
    · subst e
      rw [List.getElem?_set]
      simp [wipe_length]
    · rw [List.getElem?_set_ne e]
      rcases List.mem_cons.mp h with h | h
      · exact absurd h.symm e
      · exact wipe_in h
theorem wipe_kept {own : List Nat} {σ σ' : L2.St} (hl : σ'.length = σ.length) (h : ∀ i, i ∉ own → σ'[i]? = σ[i]?) : wipe σ' own = wipe σ own := by
  apply List.ext_getElem?
  intro i
  by_cases hi : i ∈ own
  · rw [wipe_in hi, wipe_in hi, hl]
  · rw [wipe_out hi, wipe_out hi, h i hi]
theorem wipe_wipe {own : List Nat} {σ : L2.St} : wipe (wipe σ own) own = wipe σ own := wipe_kept (wipe_length _ _) fun i hi => wipe_out hi
theorem killL_out {is : List Nat} {Δ : Env} {i : Nat} : i ∉ is → (killL is Δ)[i]? = Δ[i]? := by
  unfold killL
  induction is generalizing Δ with
  | nil => intro _; rfl
  | cons j is ih =>
    intro h
    rw [List.foldl_cons, ih fun z => h (List.mem_cons_of_mem _ z)]
    have z : j ≠ i := fun z => h (z ▸ List.mem_cons_self)
    exact List.getElem?_set_ne z
section
variable {K : PySem.W.Frag} {O own : List Nat} {Z Z' : Hp} {σ σ' : L2.St} {Δ Δ' : Env} {S S' : Sto} {F F' H H' : Hp}
theorem Wd.toZ (k : Wd K O Z σ Δ S F H) {p : Addr} {o : HO} (hp : H p = some o) (hF : F p = none) (hZ : Z p = none) (hS : S p = none) (hn : ∀ (j : Nat) (e : D), j ∈ O → Δ[j]? = some (some e) → σ[j]? ≠ some (some (.ref p))) : Wd K O (L2.upd Z p o) σ Δ S F H where
  fH := k.fH
  zH := fun b u q => by
    by_cases z : b = p
    · subst z; rw [upd_same] at q; cases q; exact hp
    · rw [upd_ne z] at q; exact k.zH b u q
  fz := fun b u q => by
    have z : b ≠ p := fun z => by rw [z, hF] at q; cases q
    rw [upd_ne z]; exact k.fz b u q
  st := fun a ob q => by
    obtain ⟨h1, h2, h3⟩ := k.st a ob q
    have z : a ≠ p := fun z => by rw [z, hS] at q; cases q
    exact ⟨h1, (upd_ne z).trans h2, h3⟩
  fr := k.fr
  ow := fun i d ni q => by
    obtain ⟨r, u, a1, a2, a3, a4, a5, a6⟩ := k.ow i d ni q
    have z : r ≠ p := fun z => hn i d ni q (z ▸ a1)
    exact ⟨r, u, a1, a2, a3, a4, (upd_ne z).trans a5, a6⟩
  sep := k.sep
  len := k.len
theorem Wd.unZ {p : Addr} {o : HO} (k : Wd K O (L2.upd Z p o) σ Δ S F H) (hZ : Z p = none) : Wd K O Z σ Δ S F H := by
  have e : Ex Z (L2.upd Z p o) := Ex.new hZ
  exact ⟨k.fH, e.trans k.zH, fun b u q => e.none (k.fz b u q), fun a ob q => ⟨(k.st a ob q).1, e.none (k.st a ob q).2.1, (k.st a ob q).2.2⟩, k.fr, fun i d ni q => by
    obtain ⟨r, u, a1, a2, a3, a4, a5, a6⟩ := k.ow i d ni q
    exact ⟨r, u, a1, a2, a3, a4, e.none a5, a6⟩, k.sep, k.len⟩
/-- the frame's own cell is changed -/
theorem Wd.setZ {p : Addr} {o o' : HO} (k : Wd K O (L2.upd Z p o) σ Δ S F H) : Wd K O (L2.upd Z p o') σ Δ S F (L2.upd H p o') := by
  have hz : (L2.upd Z p o) p = some o := upd_same
  have hF : F p = none := by
    cases q : F p with
    | none => rfl
    | some u => rw [k.fz p u q] at hz; cases hz
  have hS : S p = none := by
    cases q : S p with
    | none => rfl
    | some u => rw [(k.st p u q).2.1] at hz; cases hz
  refine ⟨k.fH.mut hF, fun b u q => ?_, fun b u q => ?_, fun a ob q => ?_, k.fr, fun i d ni q => ?_, k.sep, k.len⟩
  · by_cases z : b = p
    · subst z; rw [upd_same] at q ⊢; exact q
    · rw [upd_ne z] at q ⊢; exact k.zH b u (by rw [upd_ne z]; exact q)
  · have z : b ≠ p := fun z => by rw [z, hF] at q; cases q
    have y := k.fz b u q
    rw [upd_ne z] at y ⊢; exact y
  · obtain ⟨h1, h2, h3⟩ := k.st a ob q
    have z : a ≠ p := fun z => by rw [z, hS] at q; cases q
    rw [upd_ne z] at h2
    exact ⟨h1, (upd_ne z).trans h2, h3.mono (Ex.refl _) (upd_ne z)⟩
  · obtain ⟨r, u, a1, a2, a3, a4, a5, a6⟩ := k.ow i d ni q
    have z : r ≠ p := fun z => by rw [z, hz] at a5; cases a5
    rw [upd_ne z] at a5
    exact ⟨r, u, a1, (upd_ne z).trans a2, a3, a4, (upd_ne z).trans a5, a6⟩
/-- the block's names forgotten -/
theorem Wd.wipe (k : Wd K O Z σ Δ S F H) : Wd K O Z (L2.wipe σ own) (killL own Δ) S F H := k.weak (by rw [wipe_length, killL_len, k.len]) fun i d q => by
  obtain ⟨h1, h2⟩ := killL_some own Δ q
  exact ⟨h1, wipe_out h2⟩
/-- back from the block -/
theorem Wd.unwipe (k : Wd K O Z σ Δ S F H) (c : Wd K O Z' σ' Δ' S' F' H') (e : Ex F F') (hl : σ'.length = σ.length ∧ Δ'.length = Δ.length) (ho : ∀ i, i ∈ O → σ'[i]? = σ[i]? ∧ Δ'[i]? = Δ[i]?) : Wd K O Z' σ Δ S' F' H' where
  fH := c.fH
  zH := c.zH
  fz := c.fz
  st := c.st
  fr := fun i d ni q => by
    obtain ⟨v, h1, h2⟩ := k.fr i d ni q
    exact ⟨v, h1, h2.mono e⟩
  ow := fun i d ni q => by
    obtain ⟨h1, h2⟩ := ho i ni
    rw [← h1]
    exact c.ow i d ni (h2.trans q)
  sep := fun i j d e p hi hj hn q1 q2 q3 => by
    rw [← (ho i hi).1] at q3
    rw [← (ho j hj).1]
    exact c.sep i j d e p hi hj hn ((ho i hi).2.trans q1) ((ho j hj).2.trans q2) q3
  len := k.len
end
section
variable (K : PySem.W.Frag)
/-- a block's target: only own is set -/
def rdGc (O own : List Nat) (g : WG) : TG := fun v σ H Q => ∃ Z Δ S F d Kn, Wd K O Z σ Δ S F H ∧ Rep K F v d ∧ g d Δ Kn ∧ ∀ σ' Δ', Wd K O Z σ' Δ' S F H → Kept own σ Δ σ' Δ' → Kn Δ' → Q σ' H
def rdGcs (O own : List Nat) (g : WGs) : TGs := fun vs σ H Q => ∃ Z Δ S F ds Kn, Wd K O Z σ Δ S F H ∧ Reps K F vs ds ∧ g ds Δ Kn ∧ ∀ σ' Δ', Wd K O Z σ' Δ' S F H → Kept own σ Δ σ' Δ' → Kn Δ' → Q σ' H
end
section
variable {X : Cx} {b : Bool} {O own : List Nat} {E E1 : XK} {e tg iter elt : Expr} {w we : WE} {t : WT} {wi : WI} {gt : WG} {pos : Pos}
abbrev DGc (X : Cx) (O own : List Nat) (t : Expr) (g : WG) : Prop := PG X t (rdGc X.K O own g)
abbrev DGcs (X : Cx) (O own : List Nat) (t : List Expr) (g : WGs) : Prop := PGs X t (rdGcs X.K O own g)
abbrev DTs (X : Cx) (b : Bool) (O : List Nat) (E : XK) (ifs : List Expr) (t : WT) : Prop := PTs X ifs (rdT X.K X.mg b O E t)
theorem dgc_name {i : Nat} {x : Str} (hi : i ∉ O) (ho : i ∈ own) (hp : PG X (.Name x pos) (gName i)) : DGc X O own (.Name x pos) (gtName i) :=
  pg_to hp fun v σ H Q ⟨Z, Δ, S, F, d, Kn, k, r, hg, hq⟩ => hq _ _ (k.set hi r) (Kept.set ho) hg
theorem dgcs_nil : DGcs X O own [] gtNil := pgs_to pgs_nil fun v σ H Q ⟨Z, Δ, S, F, ds, Kn, k, r, ⟨hd, hg⟩, hq⟩ => by
  subst hd
  cases r
  exact ⟨rfl, hq _ _ k Kept.refl hg⟩
theorem dgcs_cons {a : Expr} {as : List Expr} {g : WG} {gs : WGs} (h1 : DGc X O own a g) (h2 : DGcs X O own as gs) (hs : (assignEach (a :: as) X.env).map (·.2) = assign a X.env :: (assignEach as X.env).map (·.2) := by rfl) : DGcs X O own (a :: as) (gtCons g gs) :=
  pgs_to (pgs_cons h1 h2 hs) fun vs σ H Q ⟨Z, Δ, S, F, ds, Kn, k, r, ⟨d, t, hd, hg⟩, hq⟩ => by
    subst hd
    cases r with
    | cons r1 r2 => exact ⟨_, _, rfl, Z, Δ, S, F, d, _, k, r1, hg, fun σ1 Δ1 k1 kp h1 => ⟨Z, Δ1, S, F, t, _, k1, r2, h1, fun σ2 Δ2 k2 kp2 h2 => hq σ2 Δ2 k2 (kp.trans kp2) h2⟩⟩
theorem dgc_tup {es : List Expr} {kk : Nat} {gs : WGs} {n : Nat} (hc : X.calm = true) (h : DGcs X O own es gs) (hn : (assignEach es X.env).length = n := by rfl) (hst : (assignEach es X.env).findIdx? (·.1) = none := by rfl) : DGc X O own (.Tuple es kk pos) (gtTup n gs) := by
  have p1 := pg_tup (k := kk) (pos := pos) hc h hn hst
  have p2 := pg_unl (k := kk) (pos := pos) hc h hn hst
  refine ⟨fun pins s σ H v u Q I r q => ?_⟩
  obtain ⟨Z, Δ, S, F, d, Kn, k, rr, ⟨ds, hd, hl, hg⟩, hq⟩ := q
  cases rr with
  | tup hp rs =>
    cases hd
    exact p1.run pins s σ H _ u Q I r ⟨_, _, rfl, (.inl (.inl (k.fH _ _ hp))), by rw [rs.len]; exact hl, Z, Δ, S, F, ds, Kn, k, rs, hg, hq⟩
  | lst hp rs =>
    cases hd
    exact p2.run pins s σ H _ u Q I r ⟨_, _, rfl, .inl (.inl (k.fH _ _ hp)), by rw [rs.len]; exact hl, Z, Δ, S, F, ds, Kn, k, rs, hg, hq⟩
  | _ => cases hd
theorem dts_nil : DTs X b O E [] tYes := ⟨fun pins s σ H Q I ⟨Z, Δ, S, F, P, R, k, hp, hx, hq⟩ => pts_nil.run pins s σ H Q I (hq true S F H k (Ex.refl _) (fun _ => ⟨rfl, Al.refl k.fH⟩) hp)⟩
theorem dts_one {c : Expr} (h : DT X b O E c t) : DTs X b O E [c] t := pts_one h
/-- the block's context -/
abbrev BlkC (X : Cx) (scope : Scope) (p : Cx → Prop) : Prop := ∀ (s : Shared) (H : Hp) (C : Addr) (cl : List (Str × Addr)) (fp : List Addr), p (X.blk s H scope (compEnvC scope cl C X.env) fp)
theorem rd_lc (hO : ∀ i, i ∈ own → i ∉ O) (σ : L2.St) (H : Hp) (Q : VK) (h : rdN X.K X.mg b O E (eLc wi own gt t we) σ H Q) :
    tLc (rdI X.K X.mg b O E wi) (rdGc X.K O own gt) (rdT X.K X.mg b O E1 t) (rdE X.K X.mg b O E1 we) own σ H Q := by
  obtain ⟨Z, Δ, S, F, P, R, k, hw, hx, hq⟩ := h
  refine ⟨Z, Δ, S, F, _, R, k, hw, hx, fun J items S1 F1 H1 k1 e1 p1 gv ⟨hl, h1⟩ D hD => ?_⟩
  obtain ⟨G, Y, W, hG, hY⟩ := gv.w
  obtain ⟨k2, hF, hZ, hS, hn⟩ := new_cell k1 hD (.lst [])
  have k3 := (k2.toZ upd_same hF hZ hS hn).wipe (own := own)
  refine lc_it W (fun i H' => ∃ S' F' acc accD, Wd X.K O (L2.upd Z D (.lst acc)) (L2.wipe σ own) (killL own Δ) S' F' H' ∧ Ex F1 F' ∧ (b = true → S' = S1 ∧ Al F1 H1 F' H') ∧ Reps X.K F' acc accD ∧ acc.length ≤ i ∧ lcL gt t we (killL own Δ) (items.drop i) accD S' P)
    ⟨S1, F1, [], [], k3, Ex.refl _, fun _ => ⟨rfl, Ex.refl _, Ex.new hD, k1.fH.mut hF, fun _ _ q => .inl q⟩, .nil, Nat.zero_le _, h1⟩ (fun i H' _ ⟨S', F', acc, accD, k', e', _⟩ => hG H' (e'.trans k'.fH)) ?_ ?_
  · rintro i x H' H2 hi ⟨S', F', acc, accD, k', e', pu, ra, hacc, hf⟩ hy
    obtain ⟨d, F2, hd, al, r2⟩ := hY i F' H' x H2 e' k'.fH hy
    have hdrop : items.drop i = d :: items.drop (i + 1) := by
      obtain ⟨hlt, rfl⟩ := List.getElem?_eq_some_iff.mp hd
      exact List.drop_eq_getElem_cons hlt
    rw [hdrop] at hf
    have kt := k'.al al
    refine ⟨_, killL own Δ, S', F2, d, _, kt, r2, hf, fun σ2 Δ2 kg kp ht => ⟨(wipe_kept kp.1 fun j hj => (kp.2.2 j hj).1).trans wipe_wipe, _, Δ2, S', F2, _, noR, kg, ht, XQ.never, fun q S3 F3 H3 kk3 e3 p3 h3 => ?_⟩⟩
    have hback : ∀ {Zx : Hp} {Sx : Sto} {Fx Hx : Hp}, Wd X.K O Zx σ2 Δ2 Sx Fx Hx → Ex F2 Fx → Wd X.K O Zx (L2.wipe σ own) (killL own Δ) Sx Fx Hx := fun {Zx Sx Fx Hx} c ec =>
      kt.unwipe c ec ⟨kp.1, kp.2.1⟩ fun j hj => kp.2.2 j fun z => hO j z hj
    cases q with
    | true =>
      refine ⟨_, Δ2, S3, F3, _, noR, kk3, h3, XQ.never, fun v dv S4 F4 H4 k4 e4 p4 r4 h4 => ⟨acc, k4.zH D _ upd_same, LINE_lt (by have := (List.getElem?_eq_some_iff.mp hd).1; omega), S4, F4, acc ++ [v], accD ++ [dv], ?_, ?_, ?_, ?_, ?_, h4⟩⟩
      · exact (hback k4 (e3.trans e4)).setZ
      · exact ((e'.trans al.f).trans e3).trans e4
      · intro hb
        have q1 := pu hb
        have q3 := p3 hb
        have q4 := p4 hb
        have a := ((q1.2.trans al).trans q3.2).trans q4.2
        have kz := (hback k4 (e3.trans e4)).setZ (o' := HO.lst (acc ++ [v]))
        exact ⟨(q4.1.trans q3.1).trans q1.1, a.f, a.h.mut hD, kz.fH, fun c o z => a.n c o z⟩
      · exact (ra.mono ((al.f.trans e3).trans e4)).app (.cons r4 .nil)
      · rw [List.length_append]; simp; omega
    | false =>
      exact ⟨S3, F3, acc, accD, hback kk3 e3, (e'.trans al.f).trans e3, fun hb => ⟨((p3 hb).1).trans (pu hb).1, ((pu hb).2.trans al).trans (p3 hb).2⟩, ra.mono (al.f.trans e3), by omega, h3⟩
  · rintro H' ⟨S', F', acc, accD, k', e', pu, ra, hacc, hf⟩
    rw [List.drop_length] at hf
    have hz := k'.zH D _ upd_same
    have hF' : F' D = none := by
      cases q : F' D with
      | none => rfl
      | some u => have := k'.fz D u q; rw [upd_same] at this; cases this
    have hS' : S' D = none := by
      cases q : S' D with
      | none => rfl
      | some u => have := (k'.st D u q).2.1; rw [upd_same] at this; cases this
    have hk : Wd X.K O Z σ Δ S' F' H' := (k1.unwipe k' e' ⟨wipe_length _ _, killL_len _ _⟩ fun j hj => ⟨wipe_out fun z => hO j z hj, killL_out fun z => hO j z hj⟩).unZ hZ
    refine hq _ _ S' F' H' hk (e1.trans e') (fun hb => ⟨(pu hb).1.trans (p1 hb).1, (p1 hb).2.trans (pu hb).2⟩) ⟨D, _, rfl, hz, .lst ra, hF', hZ, hS', hn⟩ (fun hb p hp => ?_) hf
    cases hp
    exact (p1 hb).2.h.none hD
theorem dn_lc {scope : Scope} {ownN : List (Str × Nat)} {ifs : List Expr} (hc : X.calm = true) (hN : X.N.Nodup) (hi : DI X b O E tg iter wi) (ok : BlkOk X.N X.env.scope scope ownN) (hown : ownN.map (·.2) = own) (hO : ∀ i, i ∈ own → i ∉ O)
    (hg : BlkC X scope fun Y => DGc Y O own tg gt) (ht : BlkC X scope fun Y => DTs Y b O E1 ifs t) (he : BlkC X scope fun Y => DE Y b O E1 elt we) (hs : ∀ x, foldedSetIterable iter X.env x = pure x := by intro _; rfl) :
    DN X b O E (.ListComp elt [⟨tg, iter, ifs, 0⟩] scope pos) (eLc wi own gt t we) := by
  subst hown
  exact pe_to (pe_lc hc hN hi ok hg ht he hs) (rd_lc hO)
/-- name = [..] on one line, the name a local: shared, owned -/
theorem ds_setLc {L : List Nat} {own' : Bool} {i : Nat} {y : Str} {py spos : Pos} {scope : Scope} {ownN : List (Str × Nat)} {ifs : List Expr} (hc : X.calm = true) (hN : X.N.Nodup) (hy : X.N[i]? = some y) (hyl : X.env.scope.names.lookup y = some .local)
    (hsw : swapsWith (.ListComp elt [⟨tg, iter, ifs, 0⟩] scope pos) (some (.Name y py)) spos.line X.env = pure true) (hi : DI X b O E tg iter wi) (ok : BlkOk X.N X.env.scope scope ownN) (hown : ownN.map (·.2) = own) (hO : ∀ i, i ∈ own → i ∉ O)
    (hg : BlkC X scope fun Y => DGc Y O own tg gt) (ht : BlkC X scope fun Y => DTs Y b O E1 ifs t) (he : BlkC X scope fun Y => DE Y b O E1 elt we) (hs : ∀ x, foldedSetIterable iter X.env x = pure x := by intro _; rfl) :
    DS X O O L E own' (.Assign [.Name y py] (.ListComp elt [⟨tg, iter, ifs, 0⟩] scope pos) spos) (gAsg (eLc wi own gt t we) (gtName i)) := by
  subst hown
  refine ps_to (ps_setLc hc hN hy hyl hsw hi ok hg ht he hs) fun D σ H ⟨Z, Δ, S, F, B, R, k, hg, er⟩ => rd_lc (E := E) hO σ H _ ⟨Z, Δ, S, F, _, R, k, hg, er.ex, fun v d S' F' H' k' e' _ r _ p => ?_⟩
  by_cases hio : i ∈ O
  · obtain ⟨q, o, rfl, h2, h3, h4, h5, h6, h7⟩ := r
    exact er.nx _ _ S' F' H' (k'.own hio h2 h3 h4 h5 h6 h7) e' p
  · obtain ⟨F2, f1, f2, f3, f4⟩ := r.share k'
    exact er.nx _ _ S' F2 H' (f2.set hio f3) (e'.trans f1) p
end
end DL

/-! DR9: a def by its body's meaning; the law's end. -/
namespace DL
open PySem PySem.Spec PyProof.Rows L2

/-- the meaning of a def that hands back a new cell -/
def fnWo (k n : Nat) (g : WS) : Fn := fun ds S P R => ds.length = k ∧ g (ds.map some ++ List.replicate (n - ds.length) none) S { nx := fun _ _ => False, rt := P } R
section
variable {K : PySem.W.Frag} {Z : Hp} {S : Sto} {F H : Hp}
theorem Wd.start {O : List Nat} {vs : List V} {ds : List D} {m : Nat} (k : Wd K [] Z (vs.map some) (ds.map some) S F H) (hO : ∀ i, i ∈ O → ds.length ≤ i) : Wd K O Z (vs.map some ++ List.replicate m none) (ds.map some ++ List.replicate m none) S F H where
  fH := k.fH
  zH := k.zH
  fz := k.fz
  st := k.st
  fr := fun i d _ q => by
    have hl : vs.length = ds.length := by simpa using k.len
    rcases Nat.lt_or_ge i ds.length with h | h
    · rw [List.getElem?_append_left (by simpa using h)] at q
      obtain ⟨v, h1, h2⟩ := k.fr i d (by simp) q
      exact ⟨v, by rw [List.getElem?_append_left (by simpa [hl] using h)]; exact h1, h2⟩
    · rw [List.getElem?_append_right (by simpa using h), List.getElem?_replicate] at q
      split at q <;> cases q
  ow := fun i d hi q => by
    rw [List.getElem?_append_right (by simpa using hO i hi), List.getElem?_replicate] at q
    split at q <;> cases q
  sep := fun i j d e p hi _ _ q => by
    rw [List.getElem?_append_right (by simpa using hO i hi), List.getElem?_replicate] at q
    split at q <;> cases q
  len := by
    have hl : vs.length = ds.length := by simpa using k.len
    simp [hl]
end
section
variable {CX : CXT} {P : Program} {w : World} {K : PySem.W.Frag} {mg : Str → Option Value} {base : Heap} {k : Nat} {f : Addr} {name qual : Str} {params : Arguments} {body : List Stmt} {scope : Scope} {dV kV doc pm cdv ct oc : Value} {an od : Option Addr}
    {osl : Array (Option Value)} {N ps : List Str} {O On L : List Nat} {g : WS}
/-- what is asked of a def's body -/
abbrev Body (CX : CXT) (P : Program) (w : World) (K : PySem.W.Frag) (mg : Str → Option Value) (base : Heap) (N : List Str) (qual : Str) (scope : Scope) (f : Addr) (cdv : Value) (k : Nat) (p : Cx → XK → Prop) : Prop :=
  ∀ (A : Around) (outer : List PySem.Env) (s : Shared) (H : Hp) (E : XK), A.guards = some [] → Room k (A.deeper (envOfC qual scope s.heap.objs.size f cdv)) → p (cxOf CX P w K mg base N qual scope f cdv A outer s H E) E
theorem body_guards {A : Around} {env : PySem.Env} (h : A.guards = some []) : (A.deeper env).guards = some [] := h
theorem fnG_w (lk : K.lookup f = some ⟨oc, od, .func (PySem.W.fnOf name qual params body scope dV kV doc pm an cdv ct), osl⟩) (hcd : PySem.W.codeIn K cdv qual = true) (S : FnScope N ps scope) (hO : ∀ i, i ∈ O → ps.length ≤ i)
    (hb : Body CX P w K mg base N qual scope f cdv k fun X E => DSs X O On L E false body g) :
    FnG P w K mg base CX (k + 1) f (PySem.W.fnOf name qual params body scope dV kV doc pm an cdv ct) ps (spW K mg false (fnW ps.length N.length g)) := by
  have len : ∀ vs H Q E, spW K mg false (fnW ps.length N.length g) vs H Q E → vs.length = ps.length := fun vs H Q E ⟨Z, ds, S, F, P, R, k, hf, _⟩ => by
    have := k.len
    simp at this
    exact this.trans hf.1
  refine fnG_of lk hcd S len fun A outer s H vs Q E hg hr h => ⟨_, hb A outer s H E hg hr, ?_⟩
  have hlv := len vs H Q E h
  obtain ⟨Z, ds, S, F, P, R, kk, ⟨hl, hf⟩, hx, hq⟩ := h
  have hls : vs.length = ds.length := hlv.trans hl.symm
  refine ⟨Z, _, S, F, _, R, ?_, hf, ⟨fun σ' Δ' S' F' H' k' e' q => hq .non .non S' F' H' k'.end0 e' .non q, fun v d S' F' H' k' e' r q => hq v d S' F' H' k' e' r q, fun _ _ _ _ _ _ _ q => q.elim, fun _ _ _ _ _ _ _ q => q.elim, hx⟩⟩
  unfold L2.start
  rw [hls]
  exact kk.start fun i hi => by rw [hl]; exact hO i hi
theorem fnG_wo (lk : K.lookup f = some ⟨oc, od, .func (PySem.W.fnOf name qual params body scope dV kV doc pm an cdv ct), osl⟩) (hcd : PySem.W.codeIn K cdv qual = true) (S : FnScope N ps scope) (hO : ∀ i, i ∈ O → ps.length ≤ i)
    (hb : Body CX P w K mg base N qual scope f cdv k fun X E => DSs X O On L E true body g) :
    FnG P w K mg base CX (k + 1) f (PySem.W.fnOf name qual params body scope dV kV doc pm an cdv ct) ps (spW K mg true (fnWo ps.length N.length g)) := by
  have len : ∀ vs H Q E, spW K mg true (fnWo ps.length N.length g) vs H Q E → vs.length = ps.length := fun vs H Q E ⟨Z, ds, S, F, P, R, k, hf, _⟩ => by
    have := k.len
    simp at this
    exact this.trans hf.1
  refine fnG_of lk hcd S len fun A outer s H vs Q E hg hr h => ⟨_, hb A outer s H E hg hr, ?_⟩
  have hlv := len vs H Q E h
  obtain ⟨Z, ds, S, F, P, R, kk, ⟨hl, hf⟩, hx, hq⟩ := h
  have hls : vs.length = ds.length := hlv.trans hl.symm
  refine ⟨Z, _, S, F, _, R, ?_, hf, ⟨fun σ' Δ' S' F' H' k' e' q => q.elim, fun v d S' F' H' k' e' r q => hq v d S' F' H' k' e' r q, fun _ _ _ _ _ _ _ q => q.elim, fun _ _ _ _ _ _ _ q => q.elim, hx⟩⟩
  unfold L2.start
  rw [hls]
  exact kk.start fun i hi => by rw [hl]; exact hO i hi
/-- what a def means may be said otherwise -/
theorem spW_imp {own : Bool} {f g : Fn} (h : ∀ ds S P R, g ds S P R → f ds S P R) : ∀ vs H Q E, spW K mg own g vs H Q E → spW K mg own f vs H Q E :=
  fun vs H Q E ⟨Z, ds, S, F, P, R, k, hf, hq⟩ => ⟨Z, ds, S, F, P, R, k, h _ _ _ _ hf, hq⟩
theorem FnG.by {fd : FuncData} {own : Bool} {f' g' : Fn} (F : FnG P w K mg base CX k f fd ps (spW K mg own f')) (h : ∀ ds S P R, g' ds S P R → f' ds S P R) : FnG P w K mg base CX k f fd ps (spW K mg own g') := F.imp (spW_imp h)
end

/-! ### the law's end -/
section
variable {P : Program} {w : World} {K : PySem.W.Frag} {mg mb : Str → Option Value} {CX : CXT} {k : Nat} {fa a : Addr} {fd : FuncData} {x : Str} {s₁ : Shared} {vs : List Value} {ns : List Int}
/-- the one object that is tracked at the law's call: the script, unless the module holds it -/
noncomputable def atScript (K : PySem.W.Frag) (a : Addr) (o : Obj) (ns : List Int) : Hp := by
  classical
  exact fun b => if b = a ∧ K.lookup a = none then some (.frz o (.lst (ns.map V.int))) else none
theorem at_yes {o : Obj} (h : K.lookup a = none) : atScript K a o ns a = some (.frz o (.lst (ns.map V.int))) := by unfold atScript; rw [if_pos ⟨rfl, h⟩]
theorem at_some {o : Obj} {b : Addr} {u : HO} (h : atScript K a o ns b = some u) : b = a ∧ K.lookup a = none ∧ u = .frz o (.lst (ns.map V.int)) := by
  unfold atScript at h
  by_cases q : b = a ∧ K.lookup a = none
  · rw [if_pos q] at h; cases h; exact ⟨q.1, q.2, rfl⟩
  · rw [if_neg q] at h; cases h
theorem law_callG {f : Fn} (KX : K.In s₁.heap) (hns : s₁.heap.Ns mainGlobals mg) (hb : s₁.heap.Ns builtinsNs mb) (hbb : ∀ x : Str, x ≠ "__name__" → mb x = bootBuiltins x) (hlim : s₁.heap.NoLimit) (hg : s₁.gens = #[])
    (ha : s₁.heap.get? a = some { cls := .type "list", data := .seq vs.toArray }) (hi : IntsAre vs ns) (hl : ns.length ≤ sizeLine) (hr : Room k callerA)
    (F : ∀ base : Heap, K.In base → base.Ns mainGlobals mg → FnG P w K mg base CX k fa fd [x] (spW K mg false f)) (hbind : ∀ (s : Shared) (u : Value), BindsTo s fd ⟨[u], []⟩ [(x, u)])
    (hf : f [.scr ns] noS (fun d _ => d = .bl true) noR) (hCX : ∀ H e s', CX [] H s₁ (fun _ _ _ => False) e s' → False) :
    codeAny (model P w) callerA (.call (.ref fa) ⟨[.ref a], []⟩) (fun r s' => r = .ok (.ret (.bool true)) ∧ OldK s₁.heap s'.heap ∧ s'.os = s₁.os ∧ AllBare s'.gens) s₁ := by
  have rv := vals_ints hi
  have lenV := hi.length
  generalize hH : atScript K a { cls := .type "list", data := .seq vs.toArray } ns = H
  have hsome : ∀ {b : Addr} {u : HO}, H b = some u → b = a ∧ K.lookup a = none ∧ u = .frz { cls := .type "list", data := .seq vs.toArray } (.lst (ns.map V.int)) := fun h => at_some (by rw [hH]; exact h)
  have hS : SqL K H a (ns.map V.int) := by
    cases hk : K.lookup a with
    | none => exact .inl (.inr ⟨_, by rw [← hH]; exact at_yes hk⟩)
    | some o =>
      have e := KX a o hk
      rw [ha] at e
      cases e
      exact .inr ⟨_, vs.toArray, _, hk, rfl, rfl, rfl, by rw [List.size_toArray, lenV]; exact hl, by simpa using rv⟩
  have ok : HOk P w H s₁.heap := fun b u q => by
    obtain ⟨rfl, _, rfl⟩ := hsome q
    exact ⟨ha, by rw [List.length_map]; exact hl, vs, _, rv, ha⟩
  -- what is not the script stands in the ground
  have kp : ∀ {b : Addr} {o : Obj}, s₁.heap.get? b = some o → (b = a → K.lookup a ≠ none) → (hidT s₁.heap H).get? b = some o := fun {b o} e n => hidT_get e (by
    cases q : H b with
    | none => rfl
    | some u =>
      obtain ⟨h1, h2, _⟩ := hsome q
      exact absurd h2 (n h1))
  have nsK : ∀ {b : Addr} {m : Str → Option Value}, s₁.heap.Ns b m → (hidT s₁.heap H).Ns b m := fun {b m} ⟨o, es, ep, e, d, r⟩ => ⟨o, es, ep, kp e (fun z => by
    subst z
    rw [ha] at e; cases e
    cases d), d, r⟩
  have hKb : K.In (hidT s₁.heap H) := fun b o e => kp (KX b o e) fun z y => by
    subst z
    rw [y] at e; cases e
  have hM : Mod K mg (hidT s₁.heap H) := ⟨hKb, nsK hns, ⟨mb, nsK hb, hbb⟩, hlim.imp fun mc h => ⟨nsK h.1, h.2⟩⟩
  have e0 : Env0 P w K mg (hidT s₁.heap H) callerA [] s₁ H := ⟨rfl, hM, fun b o e => of_hidT e, Nat.le_of_eq (hidT_size _ _), trivial, fun b hb => absurd (show b ∈ ([] : List Addr) from hb) (by simp), ok, .of_eq hg⟩
  have hsp : spW K mg false f [.ref a] H (fun v _ => v = .bl true) fun _ _ _ => False :=
    ⟨fun _ => none, [.scr ns], noS, H, _, noR, ⟨Ex.refl _, (fun _ _ q => nomatch q), (fun _ _ _ => rfl), (fun _ _ q => nomatch q), (fun i d _ q => by
      cases i with
      | zero => cases q; exact ⟨_, rfl, .scr hS⟩
      | succ i => simp at q), (fun i d hi => absurd hi (by simp)), (fun i j d e p hi => absurd hi (by simp)), rfl⟩, hf, XQ.never, fun v d S' F' H' _ _ r q => by
        subst q
        have r' : Rep K F' v (.bl true) := r
        cases r'
        rfl⟩
  refine codeAny_mono ((F _ hKb (nsK hns)).run callerA [] s₁ H ⟨[.ref a], []⟩ [.ref a] [.ref a] _ _ rfl hr e0 (hbind s₁ (.ref a)) (.cons rfl .nil) hsp) fun r s' h => ?_
  cases r with
  | error e => exact (hCX H e s' h).elim
  | ok fl =>
    cases fl with
    | next => exact False.elim h
    | brk => exact False.elim h
    | cont => exact False.elim h
    | ret u =>
      obtain ⟨v, H', os, bare, un, hok', r', q⟩ := h
      have q' : v = .bl true := q
      subst q'
      obtain rfl : u = Value.bool true := r'
      refine ⟨rfl, OldK.of_keep fun b o e => ?_, os, bare⟩
      cases q : H b with
      | none => exact un.keep b o e q (by intro z; exact absurd (show b ∈ ([] : List Addr) from z) (by simp)) (by simp)
      | some u =>
        obtain ⟨rfl, _, rfl⟩ := hsome q
        obtain ⟨e2, _⟩ := hok' b _ (un.frzs b _ _ q)
        rw [ha] at e; cases e
        exact e2
end
/-- the goal that the head leaves, from what the law's def means -/
theorem walkG {l : PySem.W.OpenLaw} {n k : Nat} {q : Program} {loose : List Str} {XP : (Str → Option Value) → Heap → Prop} {YP : World → Heap → Prop} {d : DefRec} {K : Params → PySem.W.Frag} {CX : CXT} {x : Str} {f : Fn}
    (hn : l.most = some n) (hn2 : n ≤ sizeLine) (hdf : d.params.defaults = []) (hr : Room k callerA) (hY : ∀ (w : World) (h : Heap), YP w h → (K w.params).In h)
    (F : ∀ (w : World) (mg : Str → Option Value) (fa : Addr) (h : Heap), (K w.params).In h → h.Ns mainGlobals mg → mg d.name = some (.ref fa) →
      ∃ fd : FuncData, (∀ (s : Shared) (u : Value), BindsTo s fd ⟨[u], []⟩ [(x, u)]) ∧ ∀ base : Heap, (K w.params).In base → base.Ns mainGlobals mg → FnG l.prog w (K w.params) mg base CX k fa fd [x] (spW (K w.params) mg false f))
    (hf : ∀ ns : List Int, ns.length ≤ n → f [.scr ns] noS (fun d _ => d = .bl true) noR) (hCX : ∀ (H : Hp) (s : Shared) (e : Value) (s' : Shared), CX [] H s (fun _ _ _ => False) e s' → False) :
    PySem.W.WalkO q loose XP YP l.row.toRowW d [] (fun f vs => PySem.call f vs) := by
  refine Att.attach_call hn hdf fun w s₀ s₁ mg mb fa o pm cd doc a vs ns G Y ho hd hcd hmg hobj hints hlen hg => ?_
  have KX := hY w _ Y
  obtain ⟨fd, hb, hF⟩ := F w mg fa _ KX G.T.g hmg
  exact law_callG KX G.T.g G.T.b G.T.builtins G.T.nolimit hg hobj hints (Nat.le_trans hlen hn2) hr hF hb (hf ns hlen) fun H e s' => hCX H s₁ e s'
end DL

/-! DR10: dead code, names of the module, dicts' reading, calls that borrow, texts walked. -/
namespace DL
open PySem PySem.Spec PyProof.Rows L2

section
variable {X : Cx} {b : Bool} {O : List Nat} {E : XK} {e a c o tg : Expr} {w wa wb wc wo : WE} {pos : Pos} {t : WT}
/-! ### dead code -/
def eNever : WE := fun _ _ _ _ => False
def tNever : WT := fun _ _ _ _ => False
theorem pe_never : PE X e (fun _ _ _ => False) := ⟨fun _ _ _ _ _ _ h => h.elim⟩
theorem de_never : DE X b O E e eNever := pe_to pe_never fun σ H Q ⟨Z, Δ, S, F, P, R, k, hw, _⟩ => hw
theorem dn_never : DN X b O E e eNever := pe_to pe_never fun σ H Q ⟨Z, Δ, S, F, P, R, k, hw, _⟩ => hw
theorem dn_if (ht : DT X b O E e t) (ha : DN X b O E a wa) (hb : DN X b O E c wb) : DN X b O E (.IfExp e a c pos) (eIf t wa wb) :=
  pe_to (pe_ifExp ht ha hb) fun σ H Q ⟨Z, Δ, S, F, P, R, k, hw, hx, hq⟩ => ⟨Z, Δ, S, F, _, R, k, hw, hx, fun q S1 F1 H1 k1 e1 p1 h => by
    cases q with
    | true => exact ⟨Z, Δ, S1, F1, P, R, k1, h, hx.mono e1, fun v d S2 F2 H2 k2 e2 p2 r2 n2 hp => hq v d S2 F2 H2 k2 (e1.trans e2) (pure2 p1 p2) r2 (fun z p q => (p1 z).2.h.none (n2 z p q)) hp⟩
    | false => exact ⟨Z, Δ, S1, F1, P, R, k1, h, hx.mono e1, fun v d S2 F2 H2 k2 e2 p2 r2 n2 hp => hq v d S2 F2 H2 k2 (e1.trans e2) (pure2 p1 p2) r2 (fun z p q => (p1 z).2.h.none (n2 z p q)) hp⟩⟩
theorem db_if (ht : DT X b O E e t) (ha : DB X b O E a wa) (hb : DB X b O E c wb) : DB X b O E (.IfExp e a c pos) (eIf t wa wb) :=
  pe_to (pe_ifExp ht ha hb) fun σ H Q ⟨Z, Δ, S, F, P, R, k, hw, hx, hq⟩ => ⟨Z, Δ, S, F, _, R, k, hw, hx, fun q S1 F1 H1 k1 e1 p1 h => by
    cases q with
    | true => exact ⟨Z, Δ, S1, F1, P, R, k1, h, hx.mono e1, fun v d S2 F2 H2 k2 e2 p2 r2 hp => hq v d S2 F2 H2 k2 (e1.trans e2) (pure2 p1 p2) r2 hp⟩
    | false => exact ⟨Z, Δ, S1, F1, P, R, k1, h, hx.mono e1, fun v d S2 F2 H2 k2 e2 p2 r2 hp => hq v d S2 F2 H2 k2 (e1.trans e2) (pure2 p1 p2) r2 hp⟩⟩

/-! ### a constant of the module -/
theorem de_glob {x : Str} {v : V} {u : Value} {d : D} (hg : Gl X x) (hm : X.mg x = some u) (r : RelV v u) (rd : ∀ F, Rep X.K F v d) (hd : (x == ("__debug__" : Str)) = false := by decide) : DE X true O E (.Name x pos) (eC d) := de_c (pe_glob hg hm r hd) rd

/-! ### a sign in a text -/
def dInS : D → D → Option D
  | .str x, .str z => if x.cps.size = 1 then some (.bl (decide (x.cps.toList.head! ∈ z.cps.toList))) else none
  | _, _ => none
def rInS : R2 := fun x y H Q => ∃ (c : Nat) (z : Str), x = .str ⟨#[c]⟩ ∧ y = .str z ∧ Q (.bl (decide (c ∈ z.cps.toList))) H
theorem str_one {x : Str} (h : x.cps.size = 1) : ∃ c, x = ⟨#[c]⟩ := by
  obtain ⟨⟨l⟩⟩ := x
  match l, h with
  | [c], _ => exact ⟨c, rfl⟩
theorem s_inS {K : PySem.W.Frag} : OpS K dInS rInS := fun F H x y d1 d2 z Q ex r1 r2 hz hq => by
  unfold dInS at hz
  split at hz
  · cases r1.str
    cases r2.str
    obtain ⟨h1, rfl⟩ := ite_some hz
    obtain ⟨c, rfl⟩ := str_one h1
    exact ⟨c, _, rfl, rfl, hq _ F H (Al.refl ex) (.bl _)⟩
  · cases hz

/-! ### dicts are read -/
theorem dget_see {K : PySem.W.Frag} {F H : Hp} {v y : V} {kvs : List (Key × D)} {dk : D} {k : Key} (ex : Ex F H) (r : VRep K F H v (.dct kvs)) (ry : VRep K F H y dk) (hk : keyD dk = some k) :
    ∃ p ov, v = .ref p ∧ DGet H p y ov ∧ ((∃ u d, ov = some u ∧ getD kvs k = some d ∧ Rep K F u d) ∨ (ov = none ∧ getD kvs k = none)) := by
  obtain ⟨p, vs, rfl, hp, rk⟩ := r.dct ex
  cases key_see ry hk
  refine ⟨p, _, rfl, DGet.k hp, ?_⟩
  rcases rk.find (k := k) with ⟨u, d, h1, h2, h3⟩ | ⟨h1, h2⟩
  · exact .inl ⟨u, d, h1, h2, h3⟩
  · exact .inr ⟨h1, h2⟩
theorem isD_see {K : PySem.W.Frag} {F H : Hp} {v : V} {kvs : List (Key × D)} (ex : Ex F H) (r : VRep K F H v (.dct kvs)) : ∃ p, v = .ref p ∧ IsD H p := by
  obtain ⟨p, vs, rfl, hp, _⟩ := r.dct ex
  exact ⟨p, rfl, .inl ⟨vs, .inl hp⟩⟩
theorem de_get2 {apos : Pos} (hu : X.A.units + 1 < cLine) (ho : DB X b O E o wo) (ha : DE X b O E a wa) (hc : DE X b O E c wc) (m : M2 X o "get" apos a c pos) : DE X b O E (.Call (.Attribute o "get" apos) [a, c] [] pos) (eGet2 wo wa wc) :=
  pe_to (pe_dget2 hu ho ha hc m) fun σ H Q ⟨Z, Δ, S, F, P, R, k, hw, hx, hq⟩ => ⟨Z, Δ, S, F, _, R, k, hw, hx, fun v d S1 F1 H1 k1 e1 p1 r1 ⟨⟨kvs, hd⟩, h1⟩ => by
    subst hd
    obtain ⟨p, rfl, hD⟩ := isD_see k1.fH (r1.see k1)
    refine ⟨p, rfl, hD, Z, Δ, S1, F1, _, R, k1, h1, hx.mono e1, fun y dy S2 F2 H2 k2 e2 p2 r2 h2 => ⟨Z, Δ, S2, F2, _, R, k2, h2, hx.mono (e1.trans e2), fun z dz S3 F3 H3 k3 e3 p3 r3 ⟨res, hg, hp⟩ => ?_⟩⟩
    obtain ⟨key, hk, rfl⟩ := Option.map_eq_some_iff.mp hg
    obtain ⟨p', ov, hpe, hget, hres⟩ := dget_see k3.fH ((r1.mono (e2.trans e3)).see k3) (.rep (r2.mono e3)) hk
    cases hpe
    refine ⟨ov, hget, hq _ _ S3 F3 H3 k3 (e1.trans (e2.trans e3)) (pure2 (pure2 p1 p2) p3) ?_ hp⟩
    rcases hres with ⟨u, d, rfl, h, r⟩ | ⟨rfl, h⟩
    · rw [h]; exact r
    · rw [h]; exact r3⟩
/-- d[k] -/
theorem de_dget (hu : X.A.units + 1 < cLine) (ho : DB X b O E o wo) (ha : DE X b O E a wa) (hs : NoSl a) : DE X b O E (.Subscript o a pos) (eBin dGet wo wa) :=
  pe_to (pe_dget hu ho ha hs) fun σ H Q ⟨Z, Δ, S, F, P, R, k, hw, hx, hq⟩ => ⟨Z, Δ, S, F, _, R, k, hw, hx, fun v d S1 F1 H1 k1 e1 p1 r1 h1 => ⟨Z, Δ, S1, F1, _, R, k1, h1, hx.mono e1, fun y dy S2 F2 H2 k2 e2 p2 r2 ⟨z, hz, hp⟩ => by
    unfold dGet at hz
    split at hz
    · obtain ⟨key, hk, hg⟩ := Option.bind_eq_some_iff.mp hz
      obtain ⟨p', ov, rfl, hget, hres⟩ := dget_see k2.fH ((r1.mono e2).see k2) (.rep r2) hk
      rcases hres with ⟨u, d, rfl, h, r⟩ | ⟨rfl, h⟩
      · rw [hg] at h; cases h
        exact ⟨p', u, rfl, hget, hq _ _ S2 F2 H2 k2 (e1.trans e2) (pure2 p1 p2) r hp⟩
      · rw [hg] at h; cases h
    · cases hz⟩⟩
theorem rd_din : ∀ σ H Q, rdE X.K X.mg b O E (eBin dInK wa wo) σ H Q → tDIn (rdE X.K X.mg b O E wa) (rdB X.K X.mg b O E wo) σ H Q :=
  fun σ H Q ⟨Z, Δ, S, F, P, R, k, hw, hx, hq⟩ => ⟨Z, Δ, S, F, _, R, k, hw, hx, fun v d S1 F1 H1 k1 e1 p1 r1 h1 => ⟨Z, Δ, S1, F1, _, R, k1, h1, hx.mono e1, fun y dy S2 F2 H2 k2 e2 p2 r2 ⟨z, hz, hp⟩ => by
    unfold dInK at hz
    split at hz
    · obtain ⟨key, hk, rfl⟩ := Option.map_eq_some_iff.mp hz
      obtain ⟨p', ov, rfl, hget, hres⟩ := dget_see k2.fH (r2.see k2) (.rep (r1.mono e2)) hk
      refine ⟨p', ov, rfl, hget, hq _ _ S2 F2 H2 k2 (e1.trans e2) (pure2 p1 p2) ?_ hp⟩
      rcases hres with ⟨u, d, rfl, h, r⟩ | ⟨rfl, h⟩
      · rw [h]; exact .bl _
      · rw [h]; exact .bl _
    · cases hz⟩⟩
theorem rd_dnotin : ∀ σ H Q, rdE X.K X.mg b O E (eBin dNotInK wa wo) σ H Q → tDNotIn (rdE X.K X.mg b O E wa) (rdB X.K X.mg b O E wo) σ H Q :=
  fun σ H Q ⟨Z, Δ, S, F, P, R, k, hw, hx, hq⟩ => ⟨Z, Δ, S, F, _, R, k, hw, hx, fun v d S1 F1 H1 k1 e1 p1 r1 h1 => ⟨Z, Δ, S1, F1, _, R, k1, h1, hx.mono e1, fun y dy S2 F2 H2 k2 e2 p2 r2 ⟨z, hz, hp⟩ => by
    unfold dNotInK at hz
    split at hz
    · obtain ⟨key, hk, rfl⟩ := Option.map_eq_some_iff.mp hz
      obtain ⟨p', ov, rfl, hget, hres⟩ := dget_see k2.fH (r2.see k2) (.rep (r1.mono e2)) hk
      refine ⟨p', ov, rfl, hget, hq _ _ S2 F2 H2 k2 (e1.trans e2) (pure2 p1 p2) ?_ hp⟩
      rcases hres with ⟨u, d, rfl, h, r⟩ | ⟨rfl, h⟩
      · rw [h]; exact .bl _
      · rw [h]; exact .bl _
    · cases hz⟩⟩
theorem de_din (hu : X.A.units + 1 < cLine) (ha : DE X b O E a wa) (ho : DB X b O E o wo) (hm : behindInMarks .In o = false := by rfl) : DE X b O E (.Compare a [.In] [o] pos) (eBin dInK wa wo) := pe_to (pe_cmp (pc_din hu ha ho) hm) rd_din
theorem de_dnotin (hu : X.A.units + 1 < cLine) (ha : DE X b O E a wa) (ho : DB X b O E o wo) (hm : behindInMarks .NotIn o = false := by rfl) : DE X b O E (.Compare a [.NotIn] [o] pos) (eBin dNotInK wa wo) := pe_to (pe_cmp (pc_dnotin hu ha ho) hm) rd_dnotin
theorem dt_din (hu : X.A.units + 1 < cLine) (ha : DE X b O E a wa) (ho : DB X b O E o wo) (hm : behindInMarks .In o = false := by rfl) : DT X b O E (.Compare a [.In] [o] pos) (tE (eBin dInK wa wo)) := pt_to (pt_cmp (pc_din hu ha ho) hm) fun σ H Q ⟨Z, Δ, S, F, P, R, k, hw, hx, hq⟩ => rd_din σ H _ ⟨Z, Δ, S, F, _, R, k, hw, hx, fun v d S1 F1 H1 k1 e1 p1 r1 ⟨q, hd, h⟩ => by
    subst hd
    cases r1
    exact ⟨q, rfl, hq q S1 F1 H1 k1 e1 p1 h⟩⟩
theorem dt_dnotin (hu : X.A.units + 1 < cLine) (ha : DE X b O E a wa) (ho : DB X b O E o wo) (hm : behindInMarks .NotIn o = false := by rfl) : DT X b O E (.Compare a [.NotIn] [o] pos) (tE (eBin dNotInK wa wo)) := pt_to (pt_cmp (pc_dnotin hu ha ho) hm) fun σ H Q ⟨Z, Δ, S, F, P, R, k, hw, hx, hq⟩ => rd_dnotin σ H _ ⟨Z, Δ, S, F, _, R, k, hw, hx, fun v d S1 F1 H1 k1 e1 p1 r1 ⟨q, hd, h⟩ => by
    subst hd
    cases r1
    exact ⟨q, rfl, hq q S1 F1 H1 k1 e1 p1 h⟩⟩

/-! ### a text walked -/
theorem gives_str {K : PySem.W.Frag} {F : Hp} {z : Str} : Gives K F (Its z) (z.cps.toList.map fun c => D.str ⟨#[c]⟩) :=
  ⟨⟨fun _ => True, fun i H v H' => H' = H ∧ ∃ c, z.cps[i]? = some c ∧ v = .str ⟨#[c]⟩, by
    rw [List.length_map, Array.length_toList]
    exact walk_str, fun H e => trivial, fun i F2 H x H' e1 e2 ⟨y1, c, y2, y3⟩ => by
    subst y1 y3
    refine ⟨.str ⟨#[c]⟩, F2, ?_, Al.refl e2, .str _⟩
    rw [List.getElem?_map, Array.getElem?_toList, y2]
    rfl⟩⟩
theorem di_str (ha : DE X b O E e w) : DI X b O E tg e (iStr w) :=
  pi_to (pi_str ha) fun σ H R ⟨Z, Δ, S, F, P, Rx, k, hw, hx, hq⟩ => ⟨Z, Δ, S, F, _, Rx, k, hw, hx, fun v d S1 F1 H1 k1 e1 p1 r1 ⟨z, hd, hp⟩ => by
    subst hd
    cases r1
    exact ⟨z, rfl, hq _ _ S1 F1 H1 k1 e1 p1 gives_str hp⟩⟩

/-! ### a pure def is called with owned cells, and hands back a scalar -/
/-- the owned cells shared for the while of a call -/
noncomputable def fo (O : List Nat) (σ : L2.St) (Δ : Env) (F H : Hp) : Hp := by
  classical
  exact fun b => if ∃ i ∈ O, ∃ d, Δ[i]? = some (some d) ∧ σ[i]? = some (some (.ref b)) then H b else F b
section
variable {K : PySem.W.Frag} {mg : Str → Option Value} {O : List Nat} {Z : Hp} {σ : L2.St} {Δ : Env} {S : Sto} {F H : Hp}
theorem fo_ex (k : Wd K O Z σ Δ S F H) : Ex F (fo O σ Δ F H) ∧ Ex (fo O σ Δ F H) H := by
  refine ⟨fun b o q => ?_, fun b o q => ?_⟩
  · unfold fo
    split
    · exact k.fH b o q
    · exact q
  · unfold fo at q
    split at q
    · exact q
    · exact k.fH b o q
theorem BRep.fo (k : Wd K O Z σ Δ S F H) {v : V} {d : D} : BRep K O σ Δ F v d → Rep K (fo O σ Δ F H) v d
  | .inl r => r.mono (fo_ex k).1
  | .inr ⟨i, h1, h2, h3⟩ => by
    obtain ⟨p, o, a1, a2, a3, _⟩ := k.ow i d h1 h2
    rw [h3] at a1; cases a1
    refine (OwnO.mono (fo_ex k).1 a3).rep ?_
    unfold DL.fo
    rw [if_pos ⟨i, h1, d, h2, h3⟩]
    exact a2
theorem BReps.fo (k : Wd K O Z σ Δ S F H) : ∀ {vs : List V} {ds : List D}, BReps K O σ Δ F vs ds → Reps K (fo O σ Δ F H) vs ds
  | _, _, .nil => .nil
  | _, _, .cons h r => .cons (h.fo k) (BReps.fo k r)
theorem pure_args {F2 : Hp} {vs : List V} {ds : List D} (e : Ex F2 H) (r : Reps K F2 vs ds) : Wd K [] (zp F2 H) (vs.map some) (ds.map some) noS F2 H :=
  wd_argsP (σ := []) (Δ := []) (O := []) (Z := fun _ => none) (S := noS) ⟨e, (fun _ _ q => nomatch q), (fun _ _ _ => rfl), (fun _ _ q => nomatch q), (fun i d _ q => by simp at q), (fun i d hi => absurd hi (by simp)), (fun i j d e p hi => absurd hi (by simp)), rfl⟩ r
end
theorem isScal_rep {K : PySem.W.Frag} {F F' : Hp} {v : V} {d : D} (r : Rep K F v d) (h : isScal d = true) : Rep K F' v d := by
  cases r with
  | non => exact .non
  | bl b => exact .bl b
  | int i => exact .int i
  | str x => exact .str x
  | _ => cases h
/-- a pure call that borrows -/
def eCallB (f : Fn) (a : WA) : WE := fun Δ S P R => a Δ S (fun xs S1 => f xs noS (fun d _ => isScal d = true ∧ P d S1) noR) R
variable {fn : Fn} {dvs : List V} {dd : List D} {wA : WA}
theorem rd_callB (hd : ∀ F, Reps X.K F dvs dd) (σ : L2.St) (H : Hp) (Q : VK) (h : rdE X.K X.mg b O E (eCallB fn (aDef wA dd)) σ H Q) : tCall (spW X.K X.mg false fn) dvs E (rdAB X.K X.mg b O E wA) σ H Q := by
  obtain ⟨Z, Δ, S, F, P, R, k, hw, hx, hq⟩ := h
  refine ⟨Z, Δ, S, F, _, R, k, hw, hx, fun vs ds S1 F1 H1 k1 e1 p1 r1 h1 => ?_⟩
  obtain ⟨x1, x2⟩ := fo_ex k1
  refine ⟨zp (fo O σ Δ F1 H1) H1, ds ++ dd, noS, fo O σ Δ F1 H1, _, noR, pure_args x2 ((r1.fo k1).app (hd _)), h1, XQ.never, fun v d S' F' H' c e r hp => ?_⟩
  have hH : Ex H1 H' := fun b o q => by
    cases y : fo O σ Δ F1 H1 b with
    | some u =>
      have z := x2 b u y
      rw [q] at z; cases z
      exact c.fH b _ (e b _ y)
    | none => exact c.zH b o (by unfold zp; rw [if_pos y]; exact q)
  have al : Al F1 H1 F1 H' := ⟨Ex.refl _, hH, k1.fH.trans hH, fun _ _ q => .inl q⟩
  exact hq v d S1 F1 H' (k1.al al) e1 (pureA p1 al) (isScal_rep (show Rep X.K F' v d from r) hp.1) hp.2
theorem de_callB (hd : ∀ F, Reps X.K F dvs dd) (h : PE X e (tCall (spW X.K X.mg false fn) dvs E (rdAB X.K X.mg b O E wA))) : DE X b O E e (eCallB fn (aDef wA dd)) := pe_to h (rd_callB hd)
end
end DL

/-! DR11: springs; defs as the top leaves them, and their calls. -/
namespace DL
open PySem PySem.Spec PyProof.Rows L2

/-! ### an object is changed -/
theorem ObR.get {K : PySem.W.Frag} {F H : Hp} {a : Addr} {o : Ob} (h : ObR K F H a o) : H a ≠ none := by
  obtain ⟨u, hu⟩ := h.some
  rw [hu]; simp
theorem Wd.obSet {K : PySem.W.Frag} {O : List Nat} {Z : Hp} {σ : L2.St} {Δ : Env} {S : Sto} {F H : Hp} (k : Wd K O Z σ Δ S F H) {a : Addr} {ob ob' : Ob} {o : HO} (ha : S a = some ob) (hn : ObR K F (L2.upd H a o) a ob') :
    Wd K O Z σ Δ (S.upd a ob') F (L2.upd H a o) := by
  obtain ⟨f1, z1, o1⟩ := k.st a ob ha
  refine ⟨k.fH.mut f1, k.zH.mut z1, k.fz, fun b u q => ?_, k.fr, fun i d ni q => ?_, k.sep, k.len⟩
  · unfold Sto.upd at q
    by_cases z : b = a
    · subst z
      rw [if_pos rfl] at q; cases q
      exact ⟨f1, z1, hn⟩
    · rw [if_neg z] at q
      obtain ⟨h1, h2, h3⟩ := k.st b u q
      exact ⟨h1, h2, h3.mono (Ex.refl _) (upd_ne z)⟩
  · obtain ⟨p, u, a1, a2, a3, a4, a5, a6⟩ := k.ow i d ni q
    have z : p ≠ a := fun z => by rw [z, ha] at a6; cases a6
    refine ⟨p, u, a1, (upd_ne z).trans a2, a3, a4, a5, ?_⟩
    unfold Sto.upd
    rw [if_neg z]; exact a6
/-- a new object -/
theorem Wd.obNew {K : PySem.W.Frag} {O : List Nat} {Z : Hp} {σ : L2.St} {Δ : Env} {S : Sto} {F H : Hp} (k : Wd K O Z σ Δ S F H) {a : Addr} {ob : Ob} (hF : F a = none) (hZ : Z a = none) (hw : ∀ (j : Nat) (e : D), j ∈ O → Δ[j]? = some (some e) → σ[j]? ≠ some (some (.ref a))) (hn : ObR K F H a ob) :
    Wd K O Z σ Δ (S.upd a ob) F H := by
  refine ⟨k.fH, k.zH, k.fz, fun b u q => ?_, k.fr, fun i d ni q => ?_, k.sep, k.len⟩
  · unfold Sto.upd at q
    by_cases z : b = a
    · subst z
      rw [if_pos rfl] at q; cases q
      exact ⟨hF, hZ, hn⟩
    · rw [if_neg z] at q; exact k.st b u q
  · obtain ⟨p, u, a1, a2, a3, a4, a5, a6⟩ := k.ow i d ni q
    have z : p ≠ a := fun z => hw i d ni q (z ▸ a1)
    refine ⟨p, u, a1, a2, a3, a4, a5, ?_⟩
    unfold Sto.upd
    rw [if_neg z]; exact a6

/-! ### springs: three ints, of which only the ranges are told -/
def sprOk (i v : Int) : Prop := (i = 0 → 0 ≤ v) ∧ (i = 1 → 0 ≤ v ∧ v < 2 ^ 61)
def eSpr (o : WE) (i : Int) : WE := fun Δ S P R => o Δ S (fun x S1 => ∃ a, x = .obj a ∧ S1 a = some .spr ∧ (i = 0 ∨ i = 1 ∨ i = 2) ∧ ∀ v, sprOk i v → P (.int v) S1) R
def gSprPut (o : WE) (i : Int) (e : WE) : WS := fun Δ S B R => e Δ S (fun v S1 => ∃ n, v = .int n ∧ o Δ S1 (fun x S2 => ∃ a, x = .obj a ∧ S2 a = some .spr ∧ (i = 0 ∨ i = 1 ∨ i = 2) ∧ sprOk i n ∧ B.nx Δ S2) R) R
section
variable {X : Cx} {b : Bool} {O L : List Nat} {E : XK} {own : Bool} {o e : Expr} {wo we : WE} {pos p1 p2 : Pos} {i : Int} {j : Nat}
theorem de_spr (ho : DE X b O E o wo) (hs : PlainIx (.Constant (.int i) j p1)) : DE X b O E (.Subscript o (.Constant (.int i) j p1) pos) (eSpr wo i) :=
  pe_to (pe_ix ix_seq ho pe_int hs) fun σ H Q ⟨Z, Δ, S, F, P, R, k, hw, hx, hq⟩ => ⟨Z, Δ, S, F, _, R, k, hw, hx, fun v d S1 F1 H1 k1 e1 p1 r1 ⟨a, hd, ha, hi, h1⟩ => by
    subst hd
    cases r1
    obtain ⟨_, _, x, s, c, hl, h0, h2, h3⟩ := k1.st a _ ha
    have fin : ∀ y : Int, atI [V.int x, V.int s, V.int c] i = some (.int y) → sprOk i y → rIx X.K (.ref a) (.int i) H1 Q := fun y hy hok => .inl ⟨a, _, i, _, rfl, rfl, .inl (.inl hl), hy, hq _ _ S1 F1 H1 k1 e1 p1 (.int y) (h1 y hok)⟩
    rcases hi with rfl | rfl | rfl
    · exact fin x rfl ⟨fun _ => h0, fun z => absurd z (by decide)⟩
    · exact fin s rfl ⟨fun z => absurd z (by decide), fun _ => ⟨h2, h3⟩⟩
    · exact fin c rfl ⟨fun z => absurd z (by decide), fun z => absurd z (by decide)⟩⟩
theorem ds_sprPut (ho : DE X b O E o wo) (he : DE X b O E e we) (hp : ∀ {te to}, PE X e te → PE X o to → PS X (.Assign [.Subscript o (.Constant (.int i) j p1) p2] e pos) (tAsg te (gSub to (tC (.int i)) rSetL))) :
    DS X O O L E own (.Assign [.Subscript o (.Constant (.int i) j p1) p2] e pos) (gSprPut wo i we) :=
  ps_to (hp he ho) fun D σ H ⟨Z, Δ, S, F, B, R, k, hg, er⟩ => ⟨Z, Δ, S, F, _, R, k, hg, er.ex, fun v d S1 F1 H1 k1 e1 _ r1 ⟨n, hd, h1⟩ => by
    subst hd
    cases r1
    refine ⟨Z, Δ, S1, F1, _, R, k1, h1, er.ex.mono e1, fun y dy S2 F2 H2 k2 e2 _ r2 ⟨a, hy, ha, hi, hok, hn⟩ => ?_⟩
    subst hy
    cases r2
    obtain ⟨_, _, x, s, c, hl, h0, h2, h3⟩ := k2.st a _ ha
    have fin : ∀ (m : Nat) (x' s' c' : Int), ixN 3 i = some m → [V.int x, V.int s, V.int c].set m (.int n) = [V.int x', V.int s', V.int c'] → 0 ≤ x' → 0 ≤ s' → s' < 2 ^ 61 →
        rSetL (.ref a) (.int i) (.int n) H2 (fun H3 => D.nx σ H3) := fun m x' s' c' hm hset g0 g1 g2 => ⟨a, _, i, m, rfl, rfl, hl, hm, by
      rw [hset]
      have hS : S2.upd a .spr = S2 := by
        funext b
        unfold Sto.upd
        by_cases z : b = a
        · rw [if_pos z, z, ha]
        · rw [if_neg z]
      have kk := k2.obSet (ob' := .spr) ha ⟨x', s', c', upd_same, g0, g1, g2⟩
      rw [hS] at kk
      exact er.nx σ Δ S2 F2 _ kk (e1.trans e2) hn⟩
    rcases hi with rfl | rfl | rfl
    · exact fin 0 n s c rfl rfl (hok.1 rfl) h2 h3
    · exact fin 1 x n c rfl rfl h0 (hok.2 rfl).1 (hok.2 rfl).2
    · exact fin 2 x s n rfl rfl h0 h2 h3⟩
end
/-- a new list of three ints as a spring -/
def sprBox (f : Fn) : Fn := fun ds S P R => f ds S (fun d S1 => ∃ x s c : Int, d = .lst [.int x, .int s, .int c] ∧ 0 ≤ x ∧ 0 ≤ s ∧ s < 2 ^ 61 ∧ ∀ a, S1 a = none → P (.obj a) (S1.upd a .spr)) R
theorem spW_spr {K : PySem.W.Frag} {mg : Str → Option Value} {f : Fn} : ∀ vs H Q E, spW K mg false (sprBox f) vs H Q E → spW K mg true f vs H Q E :=
  fun vs H Q E ⟨Z, ds, S, F, P, R, k, hf, hx, hq⟩ => ⟨Z, ds, S, F, _, R, k, hf, hx, fun v d S' F' H' k' e' r ⟨x, s, c, hd, h0, h1, h2, hp⟩ => by
    subst hd
    obtain ⟨p, o, rfl, a2, a3, a4, a5, a6, _⟩ := (show NRep K [] [] [] Z S' F' H' v _ from r)
    refine hq (.ref p) (.obj p) _ F' H' (k'.obNew a4 a5 (fun j e hj => absurd hj (by simp)) (ob := .spr) ?_) e' (.obj p) (hp p a6)
    cases a3 with
    | lst rr =>
      cases rr with
      | cons r1 rr => cases rr with
        | cons r2 rr => cases rr with
          | cons r3 rr =>
            cases rr; cases r1; cases r2; cases r3
            exact ⟨x, s, c, a2, h0, h1, h2⟩⟩

/-! ### defs as the top leaves them -/
/-- a def of the top by its promise -/
structure FnT (P : Program) (w : World) (K : PySem.W.Frag) (mg : Str → Option Value) (base : Heap) (CX : CXT) (k : Nat) (n x : Str) (st : Stmt) (dvs : List V) (ps : List Str) (sp : Sp) : Prop where
  ex : ∃ f fd, FnG P w K mg base CX k f fd ps sp ∧ FunD K x x (defArgs st) (defBody st) (defScope st) dvs [] f fd ∧ mg n = some (.ref f)
/-- what the top says of a def -/
structure DefT (K : PySem.W.Frag) (mg : Str → Option Value) (n x : Str) (st : Stmt) (dvs : List V) : Prop where
  ex : ∃ f fd, FunD K x x (defArgs st) (defBody st) (defScope st) dvs [] f fd ∧ mg n = some (.ref f)
section
variable {P : Program} {w : World} {K : PySem.W.Frag} {mg : Str → Option Value} {base : Heap} {CX : CXT} {k : Nat} {nm x : Str} {st : Stmt} {dvs : List V} {N ps : List Str} {O On L : List Nat} {g : WS}
theorem FnT.imp {sp sp' : Sp} (F : FnT P w K mg base CX k nm x st dvs ps sp) (h : ∀ vs H Q E, sp' vs H Q E → sp vs H Q E) : FnT P w K mg base CX k nm x st dvs ps sp' := by
  obtain ⟨f, fd, h1, h2⟩ := F.ex
  exact ⟨f, fd, h1.imp h, h2⟩
theorem FnT.by {own : Bool} {f' g' : Fn} (F : FnT P w K mg base CX k nm x st dvs ps (spW K mg own f')) (h : ∀ ds S P R, g' ds S P R → f' ds S P R) : FnT P w K mg base CX k nm x st dvs ps (spW K mg own g') := F.imp (spW_imp h)
theorem FnT.up {j : Nat} {sp : Sp} (F : FnT P w K mg base CX j nm x st dvs ps sp) (h : j ≤ k) : FnT P w K mg base CX k nm x st dvs ps sp := by
  obtain ⟨f, fd, h1, h2⟩ := F.ex
  exact ⟨f, fd, h1.up h, h2⟩
theorem DefT.fn (T : DefT K mg nm x st dvs) (S : FnScope N ps (defScope st)) (hO : ∀ i, i ∈ O → ps.length ≤ i) (hb : ∀ f cdv, Body CX P w K mg base N x (defScope st) f cdv k fun X E => DSs X O On L E false (defBody st) g) :
    FnT P w K mg base CX (k + 1) nm x st dvs ps (spW K mg false (fnW ps.length N.length g)) := by
  obtain ⟨f, fd, F, hm⟩ := T.ex
  obtain ⟨oc, od, dV, kV, doc, pm, an, cdv, ct, osl, rfl, lk, hcd, _, _⟩ := id F.ex
  exact ⟨f, _, fnG_w lk hcd S hO (hb f cdv), F, hm⟩
theorem DefT.fno (T : DefT K mg nm x st dvs) (S : FnScope N ps (defScope st)) (hO : ∀ i, i ∈ O → ps.length ≤ i) (hb : ∀ f cdv, Body CX P w K mg base N x (defScope st) f cdv k fun X E => DSs X O On L E true (defBody st) g) :
    FnT P w K mg base CX (k + 1) nm x st dvs ps (spW K mg true (fnWo ps.length N.length g)) := by
  obtain ⟨f, fd, F, hm⟩ := T.ex
  obtain ⟨oc, od, dV, kV, doc, pm, an, cdv, ct, osl, rfl, lk, hcd, _, _⟩ := id F.ex
  exact ⟨f, _, fnG_wo lk hcd S hO (hb f cdv), F, hm⟩
/-- a def as it is called with some of its arguments, the others by default -/
structure CalG (P : Program) (w : World) (K : PySem.W.Frag) (mg : Str → Option Value) (base : Heap) (CX : CXT) (k : Nat) (x : Str) (sp : Sp) (dvs : List V) (dd : List D) : Prop where
  ex : ∃ f fd ps ds, FnG P w K mg base CX k f fd ps sp ∧ mg x = some (.ref f) ∧ PySem.W.keepIn K (.ref f) = true ∧ Binds K fd ps ds ∧ Vals dvs ds
  rep : ∀ F, Reps K F dvs dd
theorem FnT.call {sp : Sp} (F : FnT P w K mg base CX k nm x st [] ps sp)
    (h : ∀ (kV doc pm : Value) (an : Option Addr) (cdv ct : Value) (us : List Value), us.length = ps.length → bindArgs (PySem.W.fnOf x x (defArgs st) (defBody st) (defScope st) .none kV doc pm an cdv ct) ⟨us, []⟩ = pure (ps.zip us)) : CalG P w K mg base CX k nm sp [] [] := by
  obtain ⟨f, fd, h1, h2, h3⟩ := F.ex
  obtain ⟨oc, od, dV, kV, doc, pm, an, cdv, ct, osl, rfl, lk, hcd, hD, _⟩ := id h2.ex
  refine ⟨⟨f, _, ps, [], h1, h3, h2.kp, ?_, .nil⟩, fun _ => .nil⟩
  rcases hD with ⟨_, rfl⟩ | ⟨e, _⟩
  · exact .all (h kV doc pm an cdv ct)
  · exact absurd rfl e
theorem FnT.callD {sp : Sp} {dd : List D} (F : FnT P w K mg base CX k nm x st dvs ps sp) (n j : Nat) (hd : dvs ≠ []) (hn : n + (dvs.length - j) = ps.length)
    (h : ∀ (T : Addr) (kV doc pm : Value) (an : Option Addr) (cdv ct : Value) (us its : List Value), us.length = n → its.length = dvs.length →
      ∃ k, bindArgs (PySem.W.fnOf x x (defArgs st) (defBody st) (defScope st) (.ref T) kV doc pm an cdv ct) ⟨us, []⟩ = seqItems? (.ref T) >>= k ∧ k (some its.toArray) = pure (ps.zip (us ++ its.drop j)))
    (hr : ∀ F, Reps K F (dvs.drop j) dd) : CalG P w K mg base CX k nm sp (dvs.drop j) dd := by
  obtain ⟨f, fd, h1, h2, h3⟩ := F.ex
  obtain ⟨ds, hv, hb⟩ := h2.binds1 n j hd hn h
  exact ⟨⟨f, fd, ps, ds, h1, h3, h2.kp, hb, hv⟩, hr⟩
end
section
variable {X : Cx} {CX : CXT} {k : Nat} {x : Str} {own b : Bool} {fn : Fn} {dvs : List V} {dd : List D} {E : XK} {O : List Nat} {e : Expr} {es : List Expr} {p pos : Pos} {wA : WA} {sp : Sp} {t : TA}
theorem pe_cal (C : CalG X.prog X.w X.K X.mg X.base CX k x sp dvs dd) (hgu : X.A.guards = some []) (hr : Room k X.A) (hg : Gl X x) (hx : Passes CX X E) (ha : PA X (e :: es) t)
    (hdb : (x == ("__debug__" : Str)) = false := by decide) (he : starEach (e :: es) X.env = (false, eval e X.env) :: starEach es X.env := by rfl) (hpl : (backTo pos (starEach es X.env)).any (·.1) = false := by rfl) :
    PE X (.Call (.Name x p) (e :: es) [] pos) (tCall sp dvs E t) := by
  obtain ⟨f, fd, ps, ds, h1, h2, h3, h4, h5⟩ := C.ex
  exact pe_callG h1 hgu hr hg h2 h3 h4 h5 hx ha hdb he hpl
theorem ce_call (C : CalG X.prog X.w X.K X.mg X.base CX k x (spW X.K X.mg false fn) dvs dd) (hgu : X.A.guards = some []) (hr : Room k X.A) (hg : Gl X x) (hx : Passes CX X E) (ha : DA X false O E (e :: es) wA)
    (hdb : (x == ("__debug__" : Str)) = false := by decide) (he : starEach (e :: es) X.env = (false, eval e X.env) :: starEach es X.env := by rfl) (hpl : (backTo pos (starEach es X.env)).any (·.1) = false := by rfl) :
    DE X false O E (.Call (.Name x p) (e :: es) [] pos) (eCall fn (aDef wA dd)) := de_call C.rep (pe_cal C hgu hr hg hx ha hdb he hpl)
theorem cn_call (C : CalG X.prog X.w X.K X.mg X.base CX k x (spW X.K X.mg true fn) dvs dd) (hgu : X.A.guards = some []) (hr : Room k X.A) (hg : Gl X x) (hx : Passes CX X E) (ha : DA X false O E (e :: es) wA)
    (hdb : (x == ("__debug__" : Str)) = false := by decide) (he : starEach (e :: es) X.env = (false, eval e X.env) :: starEach es X.env := by rfl) (hpl : (backTo pos (starEach es X.env)).any (·.1) = false := by rfl) :
    DN X false O E (.Call (.Name x p) (e :: es) [] pos) (eCall fn (aDef wA dd)) := dn_call C.rep (pe_cal C hgu hr hg hx ha hdb he hpl)
theorem ce_callP (C : CalG X.prog X.w X.K X.mg X.base CX k x (spW X.K X.mg false fn) dvs dd) (hgu : X.A.guards = some []) (hr : Room k X.A) (hg : Gl X x) (hx : Passes CX X E) (ha : DA X b O E (e :: es) wA)
    (hdb : (x == ("__debug__" : Str)) = false := by decide) (he : starEach (e :: es) X.env = (false, eval e X.env) :: starEach es X.env := by rfl) (hpl : (backTo pos (starEach es X.env)).any (·.1) = false := by rfl) :
    DE X b O E (.Call (.Name x p) (e :: es) [] pos) (eCallP fn (aDef wA dd)) := de_callP C.rep (pe_cal C hgu hr hg hx ha hdb he hpl)
theorem cn_callP (C : CalG X.prog X.w X.K X.mg X.base CX k x (spW X.K X.mg true fn) dvs dd) (hgu : X.A.guards = some []) (hr : Room k X.A) (hg : Gl X x) (hx : Passes CX X E) (ha : DA X b O E (e :: es) wA)
    (hdb : (x == ("__debug__" : Str)) = false := by decide) (he : starEach (e :: es) X.env = (false, eval e X.env) :: starEach es X.env := by rfl) (hpl : (backTo pos (starEach es X.env)).any (·.1) = false := by rfl) :
    DN X b O E (.Call (.Name x p) (e :: es) [] pos) (eCallP fn (aDef wA dd)) := dn_callP C.rep (pe_cal C hgu hr hg hx ha hdb he hpl)
theorem ce_callB (C : CalG X.prog X.w X.K X.mg X.base CX k x (spW X.K X.mg false fn) dvs dd) (hgu : X.A.guards = some []) (hr : Room k X.A) (hg : Gl X x) (hx : Passes CX X E) (ha : DAB X b O E (e :: es) wA)
    (hdb : (x == ("__debug__" : Str)) = false := by decide) (he : starEach (e :: es) X.env = (false, eval e X.env) :: starEach es X.env := by rfl) (hpl : (backTo pos (starEach es X.env)).any (·.1) = false := by rfl) :
    DE X b O E (.Call (.Name x p) (e :: es) [] pos) (eCallB fn (aDef wA dd)) := de_callB C.rep (pe_cal C hgu hr hg hx ha hdb he hpl)
theorem passN {X : Cx} {E : XK} : Passes CX0 X E := fun _ _ _ _ _ _ _ h => h.elim
/-- nothing leaves where nothing is wished -/
theorem passC {X : Cx} : Passes (L2.CX X.prog X.w) X E0 := fun _ _ _ _ _ _ _ ⟨_, _, _, _, _, _, _, _, _, _, _, _, h⟩ => h.elim
end
end DL

/-! DR12: small words for the printed walks. -/
namespace DL
open PySem PySem.Spec PyProof.Rows L2
theorem _root_.L2.Room.u70 {k : Nat} {A : Around} (r : Room k A) : A.units + 70 < cLine := by have := r.un; omega
/-- a constant of the module -/
def GlobT (K : PySem.W.Frag) (mg : Str → Option Value) (x : Str) (d : D) : Prop := ∃ v u, mg x = some u ∧ RelV v u ∧ ∀ F, Rep K F v d
theorem de_globT {X : Cx} {O : List Nat} {E : XK} {x : Str} {pos : Pos} {d : D} (hg : Gl X x) (h : GlobT X.K X.mg x d) (hd : (x == ("__debug__" : Str)) = false := by decide) : DE X true O E (.Name x pos) (eC d) := by
  obtain ⟨v, u, h1, h2, h3⟩ := h
  exact de_glob hg h1 h2 h3 hd
def gDPut (i : Nat) (e ix : WE) : WS := fun Δ S B R => gPut i (fun Δ S P R => (∃ kvs, Δ[i]? = some (some (.dct kvs))) ∧ e Δ S P R) ix Δ S B R
def eSlN (a : WE) (l h : Env → W (Option Int)) : WE := fun Δ S P R => eSl a l h Δ S (fun d S1 => (∃ xs, d = .lst xs) ∧ P d S1) R
theorem DefT.never {P : Program} {w : World} {K : PySem.W.Frag} {mg : Str → Option Value} {base : Heap} {CX : CXT} {k : Nat} {nm x : Str} {st : Stmt} {dvs : List V} {ps : List Str} {own : Bool} (T : DefT K mg nm x st dvs) :
    FnT P w K mg base CX k nm x st dvs ps (spW K mg own fun _ _ _ _ => False) := by
  obtain ⟨f, fd, F, hm⟩ := T.ex
  exact ⟨f, fd, ⟨fun vs H Q E ⟨_, _, _, _, _, _, _, h, _⟩ => h.elim, fun A outer s H args us vs Q E _ _ _ _ _ ⟨_, _, _, _, _, _, _, h, _⟩ => h.elim⟩, F, hm⟩
end DL
namespace DL
open PySem PySem.Spec PyProof.Rows L2
/-- the law's def, its function object told once -/
theorem law_fin {l : PySem.W.OpenLaw} {w : World} {K : PySem.W.Frag} {mg : Str → Option Value} {CX : CXT} {k : Nat} {st : Stmt} {x : Str} {sp : Sp} {fa : Addr} (T : DefT K mg "law" "law" st []) (hfa : mg "law" = some (.ref fa))
    (hb : ∀ (kV doc pm : Value) (an : Option Addr) (cdv ct u : Value), bindArgs (PySem.W.fnOf "law" "law" (defArgs st) (defBody st) (defScope st) .none kV doc pm an cdv ct) ⟨[u], []⟩ = pure [(x, u)])
    (h : ∀ base : Heap, FnT l.prog w K mg base CX k "law" "law" st [] [x] sp) :
    ∃ fd : FuncData, (∀ (s : Shared) (u : Value), BindsTo s fd ⟨[u], []⟩ [(x, u)]) ∧ ∀ base : Heap, K.In base → base.Ns mainGlobals mg → FnG l.prog w K mg base CX k fa fd [x] sp := by
  obtain ⟨f, fd, F, hm⟩ := T.ex
  rw [hfa] at hm
  cases hm
  obtain ⟨oc, od, dV, kV, doc, pm, an, cdv, ct, osl, rfl, lk, hcd, hD, _⟩ := F.ex
  rcases hD with ⟨_, rfl⟩ | ⟨e, _⟩
  · refine ⟨_, fun s u => .of_eq (hb kV doc pm an cdv ct u), fun base _ _ => ?_⟩
    obtain ⟨f2, fd2, G2, F2, hm2⟩ := (h base).ex
    rw [hfa] at hm2
    cases hm2
    obtain ⟨_, _, _, _, _, _, _, _, _, _, e2, lk2, _⟩ := F2.ex
    rw [lk] at lk2
    cases lk2
    exact G2
  · exact absurd rfl e
end DL

/-! DR13: in, index, reversal; lists that are objects; bags. -/
namespace DL
open PySem PySem.Spec PyProof.Rows L2

/-! ### x in a list or tuple of scalars -/
def scEq : D → D → Bool
  | .non, .non => true
  | .bl a, .bl b => a == b
  | .bl a, .int b => (if a then 1 else 0) == b
  | .int a, .bl b => a == (if b then 1 else 0)
  | .int a, .int b => a == b
  | .str a, .str b => a == b
  | _, _ => false
def seqB : D → Option (List D)
  | .lst xs => some xs
  | .tup xs => some xs
  | _ => none
def dInL (x y : D) : Option D := (seqB y).bind fun xs => if isScal x = true ∧ xs.all isScal = true then some (.bl (xs.any fun z => scEq z x)) else none
def dNotInL (x y : D) : Option D := (seqB y).bind fun xs => if isScal x = true ∧ xs.all isScal = true then some (.bl (!xs.any fun z => scEq z x)) else none
theorem rep_flat {K : PySem.W.Frag} {F : Hp} {v : V} {d : D} (r : Rep K F v d) (h : isScal d = true) : flatV v = true := by
  cases r with
  | non => rfl
  | bl b => rfl
  | int i => rfl
  | str x => rfl
  | _ => cases h
theorem rep_eq {K : PySem.W.Frag} {F : Hp} {v u : V} {d e : D} (r : Rep K F v d) (s : Rep K F u e) (h : isScal d = true) (h2 : isScal e = true) : eqV v u = scEq d e := by
  cases r <;> first | (cases h; done) | (cases s <;> first | rfl | (cases h2; done))
theorem reps_flat {K : PySem.W.Frag} {F : Hp} : ∀ {vs : List V} {ds : List D}, Reps K F vs ds → ds.all isScal = true → vs.all flatV = true
  | _, _, .nil, _ => rfl
  | _, _, .cons r t, h => by
    rw [List.all_cons, Bool.and_eq_true] at h
    rw [List.all_cons, rep_flat r h.1, reps_flat t h.2]
    rfl
theorem reps_any {K : PySem.W.Frag} {F : Hp} {u : V} {e : D} (s : Rep K F u e) (h2 : isScal e = true) : ∀ {vs : List V} {ds : List D}, Reps K F vs ds → ds.all isScal = true → (vs.any fun y => eqV y u) = ds.any fun z => scEq z e
  | _, _, .nil, _ => rfl
  | _, _, .cons r t, h => by
    rw [List.all_cons, Bool.and_eq_true] at h
    rw [List.any_cons, List.any_cons, rep_eq r s h.1 h2, reps_any s h2 t h.2]
theorem scal_see {K : PySem.W.Frag} {F H : Hp} {v : V} {d : D} (r : VRep K F H v d) (h : isScal d = true) : Rep K F v d := by
  cases r with
  | rep r => exact r
  | own _ o => cases o <;> cases h
theorem seq_see {K : PySem.W.Frag} {F H : Hp} {v : V} {d : D} {xs : List D} (ex : Ex F H) (r : VRep K F H v d) (h : seqB d = some xs) : ∃ p vs, v = .ref p ∧ (SqL K H p vs ∨ SqT K H p vs) ∧ Reps K F vs xs := by
  cases d with
  | lst ys => cases h; obtain ⟨p, vs, rfl, hp, rr⟩ := r.lst ex; exact ⟨p, vs, rfl, .inl (.inl (.inl hp)), rr⟩
  | tup ys => cases h; obtain ⟨p, vs, rfl, hp, rr⟩ := r.tup ex; exact ⟨p, vs, rfl, .inr hp, rr⟩
  | _ => cases h
theorem s_inL {K : PySem.W.Frag} : OpS K dInL (rIn K false) := fun F H x y d1 d2 z Q ex r1 r2 hz hq => by
  obtain ⟨xs, hs, h⟩ := Option.bind_eq_some_iff.mp hz
  obtain ⟨⟨hx, ha⟩, rfl⟩ := ite_some h
  obtain ⟨p, vs, rfl, hv, rr⟩ := seq_see ex r2 hs
  have rx := scal_see r1 hx
  refine ⟨p, vs, rfl, hv, rep_flat rx hx, reps_flat rr ha, ?_⟩
  have e : inV x vs = xs.any fun z => scEq z d1 := reps_any rx hx rr ha
  simp only [Bool.false_eq_true, if_false, e]
  exact hq _ F H (Al.refl ex) (.bl _)
theorem s_notInL {K : PySem.W.Frag} : OpS K dNotInL (rIn K true) := fun F H x y d1 d2 z Q ex r1 r2 hz hq => by
  obtain ⟨xs, hs, h⟩ := Option.bind_eq_some_iff.mp hz
  obtain ⟨⟨hx, ha⟩, rfl⟩ := ite_some h
  obtain ⟨p, vs, rfl, hv, rr⟩ := seq_see ex r2 hs
  have rx := scal_see r1 hx
  refine ⟨p, vs, rfl, hv, rep_flat rx hx, reps_flat rr ha, ?_⟩
  have e : inV x vs = xs.any fun z => scEq z d1 := reps_any rx hx rr ha
  simp only [if_true, e]
  exact hq _ F H (Al.refl ex) (.bl _)
/-- xs.index(y) -/
def mIndex : D → List D → Option D
  | .lst xs, [y] => if isScal y = true ∧ xs.all isScal = true ∧ (xs.any fun z => scEq z y) = true then some (.int (xs.findIdx fun z => scEq z y : Nat)) else none
  | _, _ => none
theorem s_index {K : PySem.W.Frag} : MtS K mIndex (rIndex K) := fun F H x xs d ds z Q ex r rs hz hq => by
  unfold mIndex at hz
  split at hz
  · rename_i ys y
    obtain ⟨⟨hy, ha, hany⟩, rfl⟩ := ite_some hz
    obtain ⟨p, vs, rfl, hp, rr⟩ := r.lst ex
    obtain ⟨v, rfl, rv⟩ := rs.one
    have ry := scal_see rv hy
    have hlt : (ys.findIdx fun z => scEq z y) < ys.length := List.findIdx_lt_length.mpr (List.any_eq_true.mp hany)
    obtain ⟨u, hu, ru⟩ := rr.get (List.getElem?_eq_getElem hlt)
    have hflat := List.all_eq_true.mp ha
    refine ⟨p, vs, v, _, u, rfl, rfl, .inl (.inl hp), rep_flat ry hy, reps_flat rr ha, hu, ?_, fun m z' hm hz' => ?_, hq _ F H (Al.refl ex) (.int _)⟩
    · rw [rep_eq ru ry (hflat _ (List.getElem_mem hlt)) hy]
      exact List.findIdx_getElem (w := hlt)
    · obtain ⟨d', hd', rd'⟩ := rr.getV hz'
      rw [rep_eq rd' ry (hflat _ (List.mem_of_getElem? hd')) hy]
      have := List.not_of_lt_findIdx hm
      obtain ⟨hl2, rfl⟩ := List.getElem?_eq_some_iff.mp hd'
      simpa using this
  · cases hz
section
variable {X : Cx} {b : Bool} {O On L : List Nat} {E : XK} {own : Bool} {o e c : Expr} {wo we wi : WE} {pos : Pos}
/-- xs[::-1] -/
def eRev (a : WE) : WE := fun Δ S P R => a Δ S (fun x S1 => ∃ xs, x = .lst xs ∧ P (.lst xs.reverse) S1) R
theorem Reps.rev {K : PySem.W.Frag} {F : Hp} : ∀ {vs : List V} {ds : List D}, Reps K F vs ds → Reps K F vs.reverse ds.reverse
  | _, _, .nil => .nil
  | _, _, .cons r t => by
    rw [List.reverse_cons, List.reverse_cons]
    exact (Reps.rev t).app (.cons r .nil)
theorem dn_rev {k : Nat} {p1 p2 p3 : Pos} (ho : DB X b O E o wo) : DN X b O E (.Subscript o (.Slice none none (some (.UnaryOp .USub (.Constant (.int 1) k p1) p2)) p3) pos) (eRev wo) :=
  pe_to (pe_revL ho) fun σ H Q ⟨Z, Δ, S, F, P, R, k, hw, hx, hq⟩ => ⟨Z, Δ, S, F, _, R, k, hw, hx, fun v d S1 F1 H1 k1 e1 p1 r1 ⟨xs, hd, hp⟩ => by
    subst hd
    obtain ⟨p, vs, rfl, hv, rr⟩ := (r1.see k1).lst k1.fH
    refine ⟨p, vs, rfl, .inl (.inl hv), fun q nq => ?_⟩
    obtain ⟨k2, f1, f2, f3, f4⟩ := new_cell k1 nq (.lst vs.reverse)
    exact hq (.ref q) (.lst xs.reverse) S1 F1 _ k2 e1 (pureA p1 ⟨Ex.refl _, Ex.new nq, k2.fH, fun _ _ q => .inl q⟩) ⟨q, _, rfl, upd_same, .lst (Reps.rev rr), f1, f2, f3, f4⟩ (fun y q hq => by cases hq; exact (p1 y).2.h.none nq) hp⟩

/-! ### lists that are objects -/
def eObj (wo wi : WE) : WE := fun Δ S P R => wo Δ S (fun x S1 => wi Δ S1 (fun y S2 => ∃ a ds k z, x = .obj a ∧ S2 a = some (.lst ds) ∧ y = .int k ∧ L2.atI ds k = some z ∧ P z S2) R) R
def gObjPut (wo wi we : WE) : WS := fun Δ S B R => we Δ S (fun v S1 => wo Δ S1 (fun x S2 => wi Δ S2 (fun y S3 => ∃ a ds k j, x = .obj a ∧ S3 a = some (.lst ds) ∧ y = .int k ∧ L2.ixN ds.length k = some j ∧ B.nx Δ (S3.upd a (.lst (ds.set j v)))) R) R) R
theorem de_obj (ho : DE X b O E o wo) (hi : DE X b O E c wi) (hs : PlainIx c) : DE X b O E (.Subscript o c pos) (eObj wo wi) :=
  pe_to (pe_ix ix_seq ho hi hs) fun σ H Q ⟨Z, Δ, S, F, P, R, k, hw, hx, hq⟩ => ⟨Z, Δ, S, F, _, R, k, hw, hx, fun v d S1 F1 H1 k1 e1 p1 r1 h1 => ⟨Z, Δ, S1, F1, _, R, k1, h1, hx.mono e1, fun u e S2 F2 H2 k2 e2 p2 r2 ⟨a, ds, i, z, hd, ha, he, hz, hp⟩ => by
    subst hd he
    cases r1
    cases r2
    obtain ⟨_, _, vs, hv, rr⟩ := k2.st a _ ha
    obtain ⟨y, hy, ry⟩ := atI_reps rr hz
    exact .inl ⟨a, vs, i, y, rfl, rfl, .inl (.inl hv), hy, hq y z S2 F2 H2 k2 (e1.trans e2) (pure2 p1 p2) ry hp⟩⟩⟩
theorem ds_objPut {p2 : Pos} (ho : DE X b O E o wo) (hi : DE X b O E c wi) (he : DE X b O E e we) (hp : ∀ {te to ti}, PE X e te → PE X o to → PE X c ti → PS X (.Assign [.Subscript o c p2] e pos) (tAsg te (gSub to ti rSetL))) :
    DS X O O L E own (.Assign [.Subscript o c p2] e pos) (gObjPut wo wi we) :=
  ps_to (hp he ho hi) fun D σ H ⟨Z, Δ, S, F, B, R, k, hg, er⟩ => ⟨Z, Δ, S, F, _, R, k, hg, er.ex, fun v d S1 F1 H1 k1 e1 _ r1 h1 => ⟨Z, Δ, S1, F1, _, R, k1, h1, er.ex.mono e1, fun x dx S2 F2 H2 k2 e2 _ r2 h2 => ⟨Z, Δ, S2, F2, _, R, k2, h2, er.ex.mono (e1.trans e2), fun y dy S3 F3 H3 k3 e3 _ r3 ⟨a, ds, i, j, hx, ha, hy, hj, hn⟩ => by
    subst hx hy
    cases r2
    cases r3
    obtain ⟨_, _, vs, hv, rr⟩ := k3.st a _ ha
    refine ⟨a, vs, i, j, rfl, rfl, hv, by rw [rr.len]; exact hj, ?_⟩
    exact er.nx σ Δ _ F3 _ (k3.obSet (ob' := .lst (ds.set j d)) ha ⟨_, upd_same, rr.set j (r1.mono (e2.trans e3))⟩) (e1.trans (e2.trans e3)) hn⟩⟩⟩
end
/-! ### bags -/
theorem Wd.obTell {K : PySem.W.Frag} {O : List Nat} {Z : Hp} {σ : L2.St} {Δ : Env} {S : Sto} {F H : Hp} (k : Wd K O Z σ Δ S F H) {a : Addr} {ob ob' : Ob} (ha : S a = some ob) (hn : ObR K F H a ob') : Wd K O Z σ Δ (S.upd a ob') F H := by
  obtain ⟨f1, z1, o1⟩ := k.st a ob ha
  refine ⟨k.fH, k.zH, k.fz, fun b u q => ?_, k.fr, fun i d ni q => ?_, k.sep, k.len⟩
  · unfold Sto.upd at q
    by_cases z : b = a
    · subst z
      rw [if_pos rfl] at q; cases q
      exact ⟨f1, z1, hn⟩
    · rw [if_neg z] at q; exact k.st b u q
  · obtain ⟨p, u, a1, a2, a3, a4, a5, a6⟩ := k.ow i d ni q
    have z : p ≠ a := fun z => by rw [z, ha] at a6; cases a6
    refine ⟨p, u, a1, a2, a3, a4, a5, ?_⟩
    unfold Sto.upd
    rw [if_neg z]; exact a6
/-- a new list of a bag's shape as a bag -/
def bagBox (f : Fn) : Fn := fun ds S P R => f ds S (fun d S1 => ∃ c, d = .lst c ∧ BagOk 0 c ∧ ∀ a, S1 a = none → P (.obj a) (S1.upd a (.bag 0))) R
theorem spW_bag {K : PySem.W.Frag} {mg : Str → Option Value} {f : Fn} : ∀ vs H Q E, spW K mg false (bagBox f) vs H Q E → spW K mg true f vs H Q E :=
  fun vs H Q E ⟨Z, ds, S, F, P, R, k, hf, hx, hq⟩ => ⟨Z, ds, S, F, _, R, k, hf, hx, fun v d S' F' H' k' e' r ⟨c, hd, hok, hp⟩ => by
    subst hd
    obtain ⟨p, o, rfl, a2, a3, a4, a5, a6, _⟩ := (show NRep K [] [] [] Z S' F' H' v _ from r)
    refine hq (.ref p) (.obj p) _ F' H' (k'.obNew a4 a5 (fun j e hj => absurd hj (by simp)) (ob := .bag 0) ?_) e' (.obj p) (hp p a6)
    cases a3 with
    | lst rr => exact ⟨c, _, hok, a2, rr⟩⟩
/-- a bag is opened for the while of a call; m counts its draws -/
def bagUse (f : Fn) : Fn := fun ds S P R => ∃ a m, S a = some (.bag m) ∧ ∀ c, BagOk m c → f ds (S.upd a (.lst c)) (fun d S1 => ∃ c', BagOk (m + 1) c' ∧ S1 a = some (.lst c') ∧ P d (S1.upd a (.bag (m + 1)))) noR
theorem spW_bagUse {K : PySem.W.Frag} {mg : Str → Option Value} {f : Fn} : ∀ vs H Q E, spW K mg false (bagUse f) vs H Q E → spW K mg false f vs H Q E :=
  fun vs H Q E ⟨Z, ds, S, F, P, R, k, ⟨a, m, ha, hf⟩, hx, hq⟩ => by
    obtain ⟨_, _, c, us, hok, hu, ru⟩ := k.st a _ ha
    refine ⟨Z, ds, _, F, _, noR, k.obTell (ob' := .lst c) ha ⟨us, hu, ru⟩, hf c hok, XQ.never, fun v d S' F' H' k' e' r ⟨c', hok', hc', hp⟩ => ?_⟩
    obtain ⟨_, _, us', hu', ru'⟩ := k'.st a _ hc'
    exact hq v d _ F' H' (k'.obTell (ob' := .bag (m + 1)) hc' ⟨c', us', hok', hu', ru'⟩) e' r hp
theorem Sto.upd_same (S : Sto) (a : Nat) (o : Ob) : S.upd a o a = some o := if_pos rfl
theorem Sto.upd_upd (S : Sto) (a : Nat) (o o' : Ob) : (S.upd a o).upd a o' = S.upd a o' := by
  funext b
  unfold Sto.upd
  by_cases z : b = a
  · rw [if_pos z, if_pos z]
  · rw [if_neg z, if_neg z, if_neg z]
theorem obj_rd {a : Nat} {k : Int} {S : Sto} {c : List D} {z : D} {p : D → Prop} (hs : S a = some (.lst c)) (hz : L2.atI c k = some z) (hp : p z) : ∃ a' ds k' z', D.obj a = .obj a' ∧ S a' = some (.lst ds) ∧ D.int k = .int k' ∧ L2.atI ds k' = some z' ∧ p z' := ⟨a, c, k, z, rfl, hs, rfl, hz, hp⟩
theorem obj_wr {a : Nat} {k : Int} {S : Sto} {c : List D} {v : D} {j : Nat} {p : Sto → Prop} (hs : S a = some (.lst c)) (hj : L2.ixN c.length k = some j) (hp : p (S.upd a (.lst (c.set j v)))) :
    ∃ a' ds k' j', D.obj a = .obj a' ∧ S a' = some (.lst ds) ∧ D.int k = .int k' ∧ L2.ixN ds.length k' = some j' ∧ p (S.upd a' (.lst (ds.set j' v))) := ⟨a, c, k, j, rfl, hs, rfl, hj, hp⟩
/-! ### n += k -/
def dAddI : D → D → Option D
  | .int a, .int b => some (.int (a + b))
  | _, _ => none
def dSubI : D → D → Option D
  | .int a, .int b => some (.int (a - b))
  | _, _ => none
theorem s_addI {K : PySem.W.Frag} : OpS K dAddI (ipI fun i j => i + j) := fun F H x y d1 d2 z Q ex r1 r2 hz hq => by
  unfold dAddI at hz
  split at hz
  · cases r1.int; cases r2.int; cases hz
    exact ⟨_, _, rfl, rfl, hq _ F H (Al.refl ex) (.int _)⟩
  · cases hz
theorem s_subI {K : PySem.W.Frag} : OpS K dSubI (ipI fun i j => i - j) := fun F H x y d1 d2 z Q ex r1 r2 hz hq => by
  unfold dSubI at hz
  split at hz
  · cases r1.int; cases r2.int; cases hz
    exact ⟨_, _, rfl, rfl, hq _ F H (Al.refl ex) (.int _)⟩
  · cases hz
end DL

namespace DL
open PySem PySem.SeqAt PySem.Spec PyProof.Rows
theorem dict_eq_declines_str (l : Addr) (es : Array DictEntry) (n : Nat) (dd : Option Addr) (sl : Array (Option Value)) (b : Str) (u : Tok) :
    Meets (Builtin.«dict.__eq__» ⟨[.ref l, .str b u], []⟩) (fun _ R s => s.heap.get? l = some { cls := .type "dict", dict := dd, data := .dict es n, slots := sl } ∧ R (.ok (.ret .notImplemented)) s) :=
  .of_wp fun prog w A R s h => by obtain ⟨hp, g, d, tk, os⟩ := s; obtain ⟨hl, h⟩ := h; have f1 := F.sub_str_dict; wp_walk using wpAny_loadPart' hl; exact ⟨_, rfl, h⟩
theorem str_eq_declines_dict (b : Str) (u : Tok) (l : Addr) (c : Value) (es : Array DictEntry) (n : Nat) (dd : Option Addr) (sl : Array (Option Value)) :
    Meets (Builtin.«str.__eq__» ⟨[.str b u, .ref l], []⟩) (fun _ R s => s.heap.get? l = some { cls := c, dict := dd, data := .dict es n, slots := sl } ∧ R (.ok (.ret .notImplemented)) s) :=
  .of_wp fun prog w A R s h => by obtain ⟨hp, g, d, tk, os⟩ := s; obtain ⟨hl, h⟩ := h; wp_walk using wpAny_loadPart' hl, wpAny_load hl; exact ⟨_, rfl, h⟩
/-- a dict of the heap, as an object -/
def IsDct (h : Heap) (l : Addr) : Prop := ∃ (es : Array DictEntry) (n : Nat) (dd : Option Addr) (sl : Array (Option Value)), h.get? l = some { cls := .type "dict", dict := dd, data := .dict es n, slots := sl }
section
variable {A : Around} {s : Shared}
theorem RcAt.dict_str {l : Addr} (b : Str) (u : Tok) (hl : IsDct s.heap l) (hu : A.units < cLine) : RcAt A s (.ref l) (.str b u) false := fun prog w E Q h => by
  obtain ⟨es, n, dd, sl, ho⟩ := hl
  exact rc_eq_decline_or (k := false) ⟨_, ho, rfl⟩ (typeIs_str s b u) (by decide) F.sub_str_dict F.slot_dict_eq F.slot_str_eq_refl
    (fun _ hq => call_meets F.slot_dict_eq ⟨_, ho, rfl⟩ F.entry_dict_eq (F.args_dict_eq_2 _ _) (dict_eq_declines_str l es n dd sl b u) ⟨ho, hq⟩)
    (fun _ hq => call_meets F.slot_str_eq_refl (typeIs_str s b u) F.entry_str_eq (F.args_str_eq_2 _ _) (str_eq_declines_dict b u l (.type "dict") es n dd sl) ⟨ho, hq⟩)
    (fun _ hq => wpAny_of_eq (rfl : isSame (.ref l) (.str b u) = pure false) hq) (.inr hu) h
theorem EqAt.dict_str {l : Addr} (b : Str) (u : Tok) (hl : IsDct s.heap l) (hu : A.units < cLine) : EqAt A s (.ref l) (.str b u) false := fun prog w E Q h => by
  unfold eqBool
  refine wpAny_holding ?_
  refine wpAny_ite_split (fun hab => absurd (eq_of_beq hab) nofun) (fun _ => ?_)
  exact wpAny_bind (RcAt.dict_str b u hl hu prog w E _ (wpAny_truthy_bool h))
end
end DL

/-! DR14: a def's own lists as objects of the store: made, popped, inserted into, forgotten at its end. -/
namespace DL
open PySem PySem.Spec PyProof.Rows L2

/-- a part of the store -/
def SubS (S2 S1 : Sto) : Prop := ∀ a o, S2 a = some o → S1 a = some o
theorem SubS.refl (S : Sto) : SubS S S := fun _ _ h => h
theorem SubS.upd {S : Sto} {a : Nat} {o : Ob} (h : S a = none) : SubS S (S.upd a o) := fun b u q => by
  unfold Sto.upd
  by_cases z : b = a
  · rw [z, h] at q; cases q
  · rw [if_neg z]; exact q
theorem Wd.sub {K : PySem.W.Frag} {O : List Nat} {Z : Hp} {σ : L2.St} {Δ : Env} {S1 S2 : Sto} {F H : Hp} (k : Wd K O Z σ Δ S1 F H) (h : SubS S2 S1) : Wd K O Z σ Δ S2 F H where
  fH := k.fH
  zH := k.zH
  fz := k.fz
  st := fun a ob q => k.st a ob (h a ob q)
  fr := k.fr
  ow := fun i d ni q => by
    obtain ⟨p, u, a1, a2, a3, a4, a5, a6⟩ := k.ow i d ni q
    refine ⟨p, u, a1, a2, a3, a4, a5, ?_⟩
    cases y : S2 p with
    | none => rfl
    | some o =>
      rw [h p o y] at a6
      cases a6
  sep := k.sep
  len := k.len
/-- objects that no one knows any more are forgotten behind a def -/
def fnSub (f : Fn) : Fn := fun ds S P R => f ds S (fun d S1 => ∃ S2, SubS S2 S1 ∧ P d S2) R
theorem spW_sub {K : PySem.W.Frag} {mg : Str → Option Value} {f : Fn} : ∀ vs H Q E, spW K mg false (fnSub f) vs H Q E → spW K mg false f vs H Q E :=
  fun vs H Q E ⟨Z, ds, S, F, P, R, k, hf, hx, hq⟩ => ⟨Z, ds, S, F, _, R, k, hf, hx, fun v d S' F' H' k' e' r ⟨S2, hs, hp⟩ => hq v d S2 F' H' (k'.sub hs) e' r hp⟩
/-- a new list, known as an object -/
def eNewObj (a : WE) : WE := fun Δ S P R => a Δ S (fun d S1 => ∃ ds, d = .lst ds ∧ ∀ p, S1 p = none → P (.obj p) (S1.upd p (.lst ds))) R
/-- o.pop(i) -/
def eObjPop (wo wi : WE) : WE := fun Δ S P R => wo Δ S (fun x S1 => ∃ a, x = .obj a ∧ (∃ ds, S1 a = some (.lst ds)) ∧ wi Δ S1 (fun y S2 => ∃ ds j z, S2 a = some (.lst ds) ∧ ds.length ≤ LINE ∧ y = .int (j : Nat) ∧ ds[j]? = some z ∧ P z (S2.upd a (.lst (ds.eraseIdx j)))) R) R
section
variable {X : Cx} {O On L : List Nat} {E : XK} {own : Bool} {o e c : Expr} {wo we wi : WE} {pos : Pos}
theorem de_newObj (h : DN X false O E e we) : DE X false O E e (eNewObj we) := pe_to h fun σ H Q ⟨Z, Δ, S, F, P, R, k, hw, hx, hq⟩ => ⟨Z, Δ, S, F, _, R, k, hw, hx, fun v d S1 F1 H1 k1 e1 p1 r1 n1 ⟨ds, hd, hp⟩ => by
  subst hd
  obtain ⟨p, u, rfl, h2, h3, h4, h5, h6, h7⟩ := r1
  cases h3 with
  | lst rr => exact hq (.ref p) (.obj p) _ F1 H1 (k1.obNew (ob := .lst ds) h4 h5 h7 ⟨_, h2, rr⟩) e1 (fun z => nomatch z) (.obj p) (hp p h6)⟩
theorem Reps.erase {K : PySem.W.Frag} {F : Hp} : ∀ {vs : List V} {ds : List D} (j : Nat), Reps K F vs ds → Reps K F (vs.eraseIdx j) (ds.eraseIdx j)
  | _, _, _, .nil => .nil
  | _, _, 0, .cons _ r => r
  | _, _, j + 1, .cons h r => .cons h (Reps.erase j r)
theorem seqIx {n j : Nat} (h : j < n) : seqIndex? (j : Int) n = some j := by
  have h1 : ¬ ((j : Int) < 0) := by omega
  have h2 : (decide ((0 : Int) ≤ (j : Int)) && decide ((j : Int) < (n : Int))) = true := by simp; omega
  unfold seqIndex?
  simp only [if_neg h1]
  rw [if_pos h2]
  rfl
theorem de_objPop (ho : DE X false O E o wo) (hi : DE X false O E c wi) (hp : ∀ {t : TA} {to : TE}, PA X [c] t → PE X o to → PE X e (tBM X.K "list" rPopAt to t)) (hs : starEach [c] X.env = (false, eval c X.env) :: starEach [] X.env := by rfl) : DE X false O E e (eObjPop wo wi) :=
  pe_to (hp (da_cons hi (da_eff da_nil) hs) ho) fun σ H Q ⟨Z, Δ, S, F, P, R, k, hw, hx, hq⟩ => ⟨Z, Δ, S, F, _, R, k, hw, hx, fun v d S1 F1 H1 k1 e1 p1 r1 ⟨a, hd, ⟨ds0, h0⟩, h1⟩ => by
    subst hd
    cases r1
    obtain ⟨_, _, vs0, hv0, _⟩ := k1.st a _ h0
    refine ⟨.inl ⟨rfl, _, .inl (.inl hv0)⟩, Z, Δ, S1, F1, fun xs S2 => (match xs with
      | [y] => ∃ ds j z, S2 a = some (.lst ds) ∧ ds.length ≤ LINE ∧ y = .int (j : Nat) ∧ ds[j]? = some z ∧ P z (S2.upd a (.lst (ds.eraseIdx j)))
      | _ => False), R, k1, h1, hx.mono e1, fun us ys S2 F2 H2 k2 e2 p2 r2 h2 => ?_⟩
    match ys, r2, h2 with
    | [y], r2, ⟨ds, j, z, ha, hll, hy, hz, hpp⟩ =>
      subst hy
      obtain ⟨u, rfl, ru⟩ := r2.one
      cases ru
      obtain ⟨f2, z2, vs, hv, rr⟩ := k2.st a _ ha
      obtain ⟨y, hy, ry⟩ := rr.get hz
      have hlt : j < vs.length := (List.getElem?_eq_some_iff.mp hy).1
      have hsz : vs.length ≤ sizeLine := LINE_le (by rw [rr.len]; exact hll)
      have hb : sizeLine < 2 ^ 63 := by rw [sizeLine_eq]; decide
      refine ⟨a, vs, (j : Int), j, y, rfl, rfl, hv, by omega, by omega, seqIx hlt, hy, ?_⟩
      exact hq y z _ F2 _ (k2.obSet (ob' := .lst (ds.eraseIdx j)) ha ⟨_, upd_same, Reps.erase j rr⟩) (e1.trans e2) (fun z => nomatch z) ry hpp⟩
/-- o.insert(i, e) -/
def rIns : V → List V → Hp → VK → Prop := fun x vs H Q => ∃ (l : Addr) (xs : List V) (i : Int) (y : V), x = .ref l ∧ vs = [.int i, y] ∧ H l = some (.lst xs) ∧ xs.length < sizeLine ∧ 0 ≤ i ∧ i < 2 ^ 63 ∧ Q .non (L2.upd H l (.lst (xs.take i.toNat ++ [y] ++ xs.drop i.toNat)))
def gObjIns (wo wi we : WE) : WS := fun Δ S B R => wo Δ S (fun x S1 => ∃ a, x = .obj a ∧ (∃ ds, S1 a = some (.lst ds)) ∧ wi Δ S1 (fun y S2 => we Δ S2 (fun z S3 => ∃ ds j, S3 a = some (.lst ds) ∧ ds.length < LINE ∧ y = .int (j : Nat) ∧ j ≤ ds.length ∧ B.nx Δ (S3.upd a (.lst (ds.take j ++ [z] ++ ds.drop j)))) R) R) R
theorem ds_objIns {c2 : Expr} (ho : DE X false O E o wo) (hi : DE X false O E c wi) (hv : DE X false O E c2 we) (hp : ∀ {t : TA} {to : TE}, PA X [c, c2] t → PE X o to → PE X e (tBM X.K "list" rIns to t))
    (hs : starEach [c, c2] X.env = (false, eval c X.env) :: starEach [c2] X.env := by rfl) (hs2 : starEach [c2] X.env = (false, eval c2 X.env) :: starEach [] X.env := by rfl) (hsw : swapsWith e none pos.line X.env = pure false := by rfl) :
    DS X O O L E own (.Expr e pos) (gObjIns wo wi we) :=
  ps_to (ps_expr (hp (da_cons hi (da_cons hv (da_eff da_nil) hs2) hs) ho) hsw) fun D σ H ⟨Z, Δ, S, F, B, R, k, hg, er⟩ => ⟨Z, Δ, S, F, _, R, k, hg, er.ex, fun v d S1 F1 H1 k1 e1 p1 r1 ⟨a, hd, ⟨ds0, h0⟩, h1⟩ => by
    subst hd
    cases r1
    obtain ⟨_, _, vs0, hv0, _⟩ := k1.st a _ h0
    refine ⟨.inl ⟨rfl, _, .inl (.inl hv0)⟩, Z, Δ, S1, F1, fun xs S3 => (match xs with
      | [y, z] => ∃ ds j, S3 a = some (.lst ds) ∧ ds.length < LINE ∧ y = .int (j : Nat) ∧ j ≤ ds.length ∧ B.nx Δ (S3.upd a (.lst (ds.take j ++ [z] ++ ds.drop j)))
      | _ => False), R, k1, h1, er.ex.mono e1, fun us ys S2 F2 H2 k2 e2 p2 r2 h2 => ?_⟩
    match ys, r2, h2 with
    | [y, z], .cons ry (.cons rz .nil), ⟨ds, j, ha, hll, hy, hj, hpp⟩ =>
      subst hy
      cases ry
      obtain ⟨f2, z2, vs, hv, rr⟩ := k2.st a _ ha
      have hb : sizeLine < 2 ^ 63 := by rw [sizeLine_eq]; decide
      have hlen := rr.len
      have hsz : vs.length < sizeLine := LINE_lt (by rw [hlen]; exact hll)
      refine ⟨a, vs, (j : Int), _, rfl, rfl, hv, hsz, by omega, by omega, ?_⟩
      rw [Int.toNat_natCast]
      exact er.nx σ Δ _ F2 _ (k2.obSet (ob' := .lst (ds.take j ++ [z] ++ ds.drop j)) ha ⟨_, upd_same, ((rr.take j).app (.cons rz .nil)).app (rr.drop j)⟩) (e1.trans e2) hpp⟩
end
end DL

/-! DR15: zip. -/
namespace DL
open PySem PySem.Spec PyProof.Rows L2
theorem zipD_get : ∀ (xs ys : List D) (i : Nat) (x y : D), xs[i]? = some x → ys[i]? = some y → (zipD xs ys)[i]? = some (.tup [x, y])
  | a :: xs, b :: ys, 0, x, y, h1, h2 => by cases h1; cases h2; rfl
  | a :: xs, b :: ys, i + 1, x, y, h1, h2 => zipD_get xs ys i x y (by simpa using h1) (by simpa using h2)
  | [], _, i, x, y, h1, _ => by simp at h1
  | _ :: _, [], i, x, y, _, h2 => by simp at h2
theorem zipD_len : ∀ (xs ys : List D), (zipD xs ys).length = min xs.length ys.length
  | a :: xs, b :: ys => by simp [zipD, zipD_len xs ys]
  | [], _ => by simp [zipD]
  | _ :: _, [] => by simp [zipD]
theorem gives_zip {K : PySem.W.Frag} {F : Hp} {p q : Addr} {vs us : List V} {ds es : List D} (h : SqL K F p vs) (h2 : SqL K F q us) (r : Reps K F vs ds) (r2 : Reps K F us es) : Gives K F (Itz K p q) (zipD ds es) := by
  refine ⟨⟨fun H => SqL K H p vs ∧ SqL K H q us, YPair (fun i => vs[i]?) (fun i => us[i]?), ?_, fun H e => ⟨e.sl h, e.sl h2⟩, ?_⟩⟩
  · exact walk_zip (by rw [zipD_len, r.len, r2.len])
  · rintro i F2 H x H' e1 e2 ⟨T, x1, x2, rfl, hT, rfl, h1, h2⟩
    obtain ⟨d, h3, h4⟩ := r.getV h1
    obtain ⟨d2, h5, h6⟩ := r2.getV h2
    have al := Al.new (o := .tup [x1, x2]) e2 hT
    exact ⟨_, _, zipD_get ds es i d d2 h3 h5, al, .tup upd_same (.cons (h4.mono (e1.trans al.f)) (.cons (h6.mono (e1.trans al.f)) .nil))⟩
section
variable {X : Cx} {b : Bool} {O : List Nat} {E : XK} {a c : Expr} {wa wb : WE}
theorem di_zip {p pos tpos : Pos} {elts : List Expr} {kk : Nat} (hg : Gl X "zip") (hm : X.mg "zip" = none) (ha : DE X b O E a wa) (hc : DE X b O E c wb) (hs : starEach [a, c] X.env = (false, eval a X.env) :: starEach [c] X.env := by rfl) (hs2 : starEach [c] X.env = (false, eval c X.env) :: starEach [] X.env := by rfl)
    (hpl : (backTo pos (starEach [c] X.env)).any (·.1) = false := by rfl) : DI X b O E (.Tuple elts kk tpos) (.Call (.Name "zip" p) [a, c] [] pos) (iZip wa wb) :=
  pi_to (pi_zip hg hm (pa_cons ha (pa_cons hc pa_nil hs2) hs) hs hpl) fun σ H R ⟨Z, Δ, S, F, P, Rx, k, hw, hx, hq⟩ => ⟨Z, Δ, S, F, _, Rx, k, hw, hx, fun v d S1 F1 H1 k1 e1 p1 r1 h1 => ⟨Z, Δ, S1, F1, _, Rx, k1, h1, hx.mono e1, fun u d2 S2 F2 H2 k2 e2 p2 r2 ⟨xs, ys, hd1, hd2, hp⟩ => by
    subst hd1 hd2
    cases r1.mono e2 with
    | lst h r => cases r2 with
      | lst h2 r2 => exact ⟨_, _, _, _, rfl, .inl (.inl (k2.fH _ _ h)), .inl (.inl (k2.fH _ _ h2)), hq _ _ S2 F2 H2 k2 (e1.trans e2) (pure2 p1 p2) (gives_zip (.inl (.inl h)) (.inl (.inl h2)) r r2) hp⟩⟩⟩
/-- xs[i] = e, the list a name's own -/
theorem ds_lput {L : List Nat} {own : Bool} {st : Stmt} {i : Nat} {ix val : Expr} {x : Str} {p2 : Pos} {wv wi : WE} (hi : i ∈ O) (hv : DE X b O E val wv) (ho : PE X (.Name x p2) (tVar i)) (hx : DE X b O E ix wi) (hp : ∀ {tv td ty}, PE X val tv → PE X (.Name x p2) td → PE X ix ty → PS X st (tAsg tv (gSub td ty rSetL))) :
    DS X O O L E own st (fun Δ S B R => gPut i (fun Δ S P R => (∃ xs, Δ[i]? = some (some (.lst xs))) ∧ wv Δ S P R) wi Δ S B R) :=
  ps_to (hp hv ho hx) fun D σ H ⟨Z, Δ, S, F, B, R, k, ⟨⟨xs, hk⟩, hg⟩, er⟩ => ⟨Z, Δ, S, F, _, R, k, hg, er.ex, fun v d S1 F1 H1 k1 e1 _ r1 ⟨x, hx, h1⟩ => by
    rw [hk] at hx; cases hx
    obtain ⟨p, o, a1, a2, a3, a4, a5, a6⟩ := k1.ow i _ hi hk
    refine ⟨.ref p, a1, Z, Δ, S1, F1, _, R, k1, h1, er.ex.mono e1, fun y dk S2 F2 H2 k2 e2 _ r2 ⟨z, hz, hn⟩ => ?_⟩
    obtain ⟨p', o', b1, b2, b3, _⟩ := k2.ow i _ hi hk
    rw [a1] at b1; cases b1
    cases dk with
    | int n =>
      obtain ⟨j, hj, rfl⟩ := Option.map_eq_some_iff.mp (show (ixN xs.length n).map (fun j => DL.D.lst (xs.set j d)) = some z from hz)
      cases r2
      cases b3 with
      | lst rr => exact ⟨p, _, n, j, rfl, rfl, b2, by rw [rr.len]; exact hj, er.nx _ _ S2 F2 _ (k2.change hi hk a1 (.lst (rr.set j (r1.mono e2)))) (e1.trans e2) hn⟩
    | _ => cases hz⟩
def gLPut (i : Nat) (e ix : WE) : WS := fun Δ S B R => gPut i (fun Δ S P R => (∃ xs, Δ[i]? = some (some (.lst xs))) ∧ e Δ S P R) ix Δ S B R
end
end DL

/-! DR16: dict of a list of pairs. -/
namespace DL
open PySem PySem.Spec PyProof.Rows L2
def pairsOf : List D → Option (List (Key × D))
  | [] => some []
  | .tup [k, v] :: r => (keyD k).bind fun k => (pairsOf r).map ((k, v) :: ·)
  | _ :: _ => none
/-- dict([(k, v), ..]) -/
def fDictP : List D → Option D
  | [.lst xs] => (pairsOf xs).map fun kvs => .dct (kvs.foldl (fun acc kv => putD acc kv.1 kv.2) [])
  | _ => none
theorem pairs_see {K : PySem.W.Frag} {F H : Hp} (ex : Ex F H) : ∀ {xs : List D} {vs : List V} {kds : List (Key × D)}, Reps K F vs xs → pairsOf xs = some kds → ∃ (ps : List Addr) (kvs : List (Key × V)), vs = ps.map V.ref ∧ Paired (fun p kv => SqT K H p [kV kv.1, kv.2]) ps kvs ∧ RepK K F kvs kds
  | [], _, _, .nil, h => by cases h; exact ⟨[], [], rfl, .nil, .nil⟩
  | x :: xs, _, _, .cons r rs, h => by
    unfold pairsOf at h
    split at h
    · rename_i hnil; cases hnil
    · rename_i k v rest heq
      cases heq
      obtain ⟨key, hk, h2⟩ := Option.bind_eq_some_iff.mp h
      obtain ⟨kds', hr, rfl⟩ := Option.map_eq_some_iff.mp h2
      obtain ⟨ps, kvs, rfl, hp, hq⟩ := pairs_see ex rs hr
      cases r with
      | tup ht rr =>
        cases rr with
        | cons rk rr => cases rr with
          | cons rv rr =>
            cases rr
            cases key_see (H := H) (.rep rk) hk
            exact ⟨_ :: ps, (key, _) :: kvs, rfl, .cons ((.inl (.inl (ex _ _ ht)))) hp, .cons rv hq⟩
    · cases h
theorem merge_rep {K : PySem.W.Frag} {F : Hp} : ∀ {kvs : List (Key × V)} {kds : List (Key × D)}, RepK K F kvs kds → ∀ {a : List (Key × V)} {b : List (Key × D)}, RepK K F a b → RepK K F (mergeK a kvs) (kds.foldl (fun acc kv => putD acc kv.1 kv.2) b)
  | _, _, .nil, _, _, h => h
  | _, _, .cons r rs, _, _, h => merge_rep rs (RepK.put r h)
theorem n_dictP {K : PySem.W.Frag} : FnN K fDictP (fun xs H Q => ∃ (a : Addr) (ps : List Addr) (kvs : List (Key × V)), xs = [.ref a] ∧ SqL K H a (ps.map V.ref) ∧ Paired (fun p kv => SqT K H p [kV kv.1, kv.2]) ps kvs ∧
    ∀ p, H p = none → Q (.ref p) (L2.upd H p (.dK (mergeK [] kvs)))) := fun F H xs ds z Q ex r hz hq => by
  unfold fDictP at hz
  split at hz
  · obtain ⟨v, rfl, rv⟩ := r.one
    obtain ⟨kds, hk, rfl⟩ := Option.map_eq_some_iff.mp hz
    obtain ⟨p, vs, rfl, hv, rr⟩ := rv.lst ex
    obtain ⟨ps, kvs, rfl, hp, hr⟩ := pairs_see ex rr hk
    exact ⟨p, ps, kvs, rfl, .inl (.inl hv), hp, fun q nq => hq q _ nq (.dct (merge_rep hr .nil))⟩
  · cases hz
end DL

/-! DR17: dicts against texts; any plain value in a tuple of texts; repr of values with empty dicts. -/
namespace DL
open PySem PySem.SeqAt PySem.Spec PyProof.Rows
theorem dict_ne_no_str (p : Addr) (ents : Array DictEntry) (m : Nat) (own : Option Addr) (slo : Array (Option Value)) (z : Str) (tk : Tok) :
    Meets (Builtin.«dict.__ne__» ⟨[.ref p, .str z tk], []⟩) (fun _ Rr st => st.heap.get? p = some { cls := .type "dict", dict := own, data := .dict ents m, slots := slo } ∧ Rr (.ok (.ret .notImplemented)) st) :=
  .of_wp fun pr w0 A0 Rr st hh => by
    obtain ⟨hp, g, d, tq, os⟩ := st
    obtain ⟨hl, hh⟩ := hh
    have f1 := F.sub_str_dict
    wp_walk using wpAny_loadPart' hl
    exact ⟨_, rfl, hh⟩
theorem str_ne_no_dict (z : Str) (tk : Tok) (p : Addr) (c : Value) (ents : Array DictEntry) (m : Nat) (own : Option Addr) (slo : Array (Option Value)) :
    Meets (Builtin.«str.__ne__» ⟨[.str z tk, .ref p], []⟩) (fun _ Rr st => st.heap.get? p = some { cls := c, dict := own, data := .dict ents m, slots := slo } ∧ Rr (.ok (.ret .notImplemented)) st) :=
  .of_wp fun pr w0 A0 Rr st hh => by
    obtain ⟨hp, g, d, tq, os⟩ := st
    obtain ⟨hl, hh⟩ := hh
    wp_walk using wpAny_loadPart' hl, wpAny_load hl
    exact ⟨_, rfl, hh⟩
section
variable {A : Around} {s : Shared}
theorem RcNeAt.dict_str {p : Addr} (z : Str) (tk : Tok) (hd : IsDct s.heap p) (hu : A.units < cLine) : RcNeAt A s (.ref p) (.str z tk) true := fun pr w0 E0 Q0 hq0 => by
  obtain ⟨ents, m, own, slo, ho⟩ := hd
  refine rc_ne_decline_or (k := false) ⟨_, ho, rfl⟩ (typeIs_str s z tk) (by decide) F.sub_str_dict F.slot_dict_ne F.slot_str_ne_refl (fun _ hq => ?_) (fun _ hq => ?_) (fun _ hq => ?_) (.inr hu) hq0
  · exact call_meets F.slot_dict_ne ⟨_, ho, rfl⟩ F.entry_dict_ne (F.args_dict_ne_2 _ _) (dict_ne_no_str p ents m own slo z tk) ⟨ho, hq⟩
  · exact call_meets F.slot_str_ne_refl (typeIs_str s z tk) F.entry_str_ne (F.args_str_ne_2 _ _) (str_ne_no_dict z tk p (.type "dict") ents m own slo) ⟨ho, hq⟩
  · exact wpAny_of_eq (rfl : isSame (.ref p) (.str z tk) = pure false) hq
theorem RcAt.str_dict {p : Addr} (z : Str) (tk : Tok) (hd : IsDct s.heap p) (hu : A.units < cLine) : RcAt A s (.str z tk) (.ref p) false := fun pr w0 E0 Q0 hq0 => by
  obtain ⟨ents, m, own, slo, ho⟩ := hd
  refine rc_eq_decline_or (k := false) (typeIs_str s z tk) ⟨_, ho, rfl⟩ (by decide) F.sub_dict_str F.slot_str_eq F.slot_dict_eq_refl (fun _ hq => ?_) (fun _ hq => ?_) (fun _ hq => ?_) (.inr hu) hq0
  · exact call_meets F.slot_str_eq (typeIs_str s z tk) F.entry_str_eq (F.args_str_eq_2 _ _) (str_eq_declines_dict z tk p (.type "dict") ents m own slo) ⟨ho, hq⟩
  · exact call_meets F.slot_dict_eq_refl ⟨_, ho, rfl⟩ F.entry_dict_eq (F.args_dict_eq_2 _ _) (dict_eq_declines_str p ents m own slo z tk) ⟨ho, hq⟩
  · exact wpAny_of_eq (rfl : isSame (.str z tk) (.ref p) = pure false) hq
theorem EqAt.str_dict {p : Addr} (z : Str) (tk : Tok) (hd : IsDct s.heap p) (hu : A.units < cLine) : EqAt A s (.str z tk) (.ref p) false := fun pr w0 E0 Q0 hq0 => by
  unfold eqBool
  refine wpAny_holding (wpAny_ite_split (fun hab => absurd (eq_of_beq hab) nofun) fun _ => ?_)
  exact wpAny_bind (RcAt.str_dict z tk hd hu pr w0 E0 _ (wpAny_truthy_bool hq0))
end
end DL
namespace DL
open PySem PySem.Spec PyProof.Rows L2
section
variable {X : Cx}
/-- a dict against a text -/
def rDS (K : PySem.W.Frag) (b : Bool) : R2 := fun x y H Q => ∃ a z, x = .ref a ∧ ((∃ xs, SqL K H a xs) ∨ (∃ xs, SqT K H a xs) ∨ ∃ kvs, H a = some (.dK kvs)) ∧ y = .str z ∧ Q (.bl b) H
theorem isDct_of {pins : List (Addr × Obj)} {σ : L2.St} {H : Hp} {s : Shared} (I : L2.Inv X pins σ H s) {a : Addr} {kvs : List (Key × V)} (h : H a = some (.dK kvs)) : IsDct s.heap a ∧ a ≠ sysModules ∧ ∃ vs, KV kvs vs ∧ s.heap.DictOf (mixKind X.prog X.w) a vs := by
  obtain ⟨_, hs, vs, kv, o, es, ep, h1, h2, h3⟩ := dk_of I.hok h
  refine ⟨?_, ne_of_beq_false hs, vs, kv, o, es, ep, h1, h2, h3⟩
  obtain ⟨c, dd, da, sl⟩ := o
  have hc := h2
  simp only at hc h3
  obtain ⟨rfl, _⟩ := id h2
  exact ⟨es, ep, dd, sl, by rw [h1]; simp_all⟩
end
section
variable {X : Cx} {K : PySem.W.Frag}
theorem op_eqDS (hu : X.A.units + 64 < cLine) : OpR X (compareOp .Eq) (rDS X.K false) := by
  intro pins s σ H x y v u Q I rx ry h
  obtain ⟨a, z, rfl, ha, rfl, q⟩ := h
  cases rx
  obtain ⟨t, rfl⟩ := ry
  rcases ha with ⟨xs, ha⟩ | ⟨xs, ha⟩ | ⟨kvs, ha⟩
  · obtain ⟨its, _, pl, _⟩ := I.list ha
    exact SeqAt.RcAt.list_str z t pl.isList (by omega) _ _ _ _ ⟨.bl _, H, I, rfl, q⟩
  · obtain ⟨its, _, pl, _⟩ := I.tuple ha
    exact SeqAt.RcAt.tuple_str z t pl (by omega) _ _ _ _ ⟨.bl _, H, I, rfl, q⟩
  · exact RcAt.dict_str z t (isDct_of I ha).1 (by omega) _ _ _ _ ⟨.bl _, H, I, rfl, q⟩
theorem op_neDS (hu : X.A.units + 64 < cLine) : OpR X (compareOp .NotEq) (rDS X.K true) := by
  intro pins s σ H x y v u Q I rx ry h
  obtain ⟨a, z, rfl, ha, rfl, q⟩ := h
  cases rx
  obtain ⟨t, rfl⟩ := ry
  rcases ha with ⟨xs, ha⟩ | ⟨xs, ha⟩ | ⟨kvs, ha⟩
  · obtain ⟨its, _, pl, _⟩ := I.list ha
    exact SeqAt.RcNeAt.list_str z t pl.isList (by omega) _ _ _ _ ⟨.bl _, H, I, rfl, q⟩
  · obtain ⟨its, _, pl, _⟩ := I.tuple ha
    exact SeqAt.RcNeAt.tuple_str z t pl (by omega) _ _ _ _ ⟨.bl _, H, I, rfl, q⟩
  · exact RcNeAt.dict_str z t (isDct_of I ha).1 (by omega) _ _ _ _ ⟨.bl _, H, I, rfl, q⟩
/-- == where the right one may be a text, the left one anything then -/
def isBox : D → Bool
  | .lst _ => true | .tup _ => true | .dct _ => true | .scr _ => true | _ => false
def dEqXB (x y : D) : Option Bool := if isBox x = true ∧ isStr y = true then some false else dEqB x y
def dEqX (x y : D) : Option D := (dEqXB x y).map D.bl
def dNeX (x y : D) : Option D := (dEqXB x y).map fun b => D.bl (!b)
def r2EqX (K : PySem.W.Frag) : R2 := fun x y H Q => r2Eq K x y H Q ∨ rDS K false x y H Q
def r2NeX (K : PySem.W.Frag) : R2 := fun x y H Q => r2Ne K x y H Q ∨ rDS K true x y H Q
theorem op_eqX (hu : X.A.units + 64 < cLine) : OpR X (compareOp .Eq) (r2EqX X.K) := (op_eqA hu).or (op_eqDS hu)
theorem op_neX (hu : X.A.units + 64 < cLine) : OpR X (compareOp .NotEq) (r2NeX X.K) := (op_neA hu).or (op_neDS hu)
theorem box_see {F H : Hp} (ex : Ex F H) {v : V} {d : D} (r : VRep K F H v d) (h : isBox d = true) : ∃ a, v = .ref a ∧ ((∃ xs, SqL K H a xs) ∨ (∃ xs, SqT K H a xs) ∨ ∃ kvs, H a = some (.dK kvs)) := by
  cases d with
  | lst xs => obtain ⟨a, us, rfl, ha, _⟩ := r.lst ex; exact ⟨a, rfl, .inl ⟨us, .inl (.inl ha)⟩⟩
  | tup xs => obtain ⟨a, us, rfl, ha, _⟩ := r.tup ex; exact ⟨a, rfl, .inr (.inl ⟨us, ha⟩)⟩
  | scr ns => obtain ⟨a, rfl, ha⟩ := r.scr ex; exact ⟨a, rfl, .inl ⟨_, ha⟩⟩
  | dct kvs => obtain ⟨a, us, rfl, ha, _⟩ := r.dct ex; exact ⟨a, rfl, .inr (.inr ⟨us, ha⟩)⟩
  | _ => cases h
theorem dEqXB_cases {x y : D} {k : Bool} (h : dEqXB x y = some k) : (isBox x = true ∧ ∃ z, y = .str z ∧ k = false) ∨ dEqB x y = some k := by
  unfold dEqXB at h
  split at h
  · rename_i c
    cases h
    obtain ⟨c1, c2⟩ := c
    cases y with
    | str z => exact .inl ⟨c1, z, rfl, rfl⟩
    | _ => cases c2
  · exact .inr h
theorem s_eqX : OpS K dEqX (r2EqX K) := fun F H x y d1 d2 z Q ex r1 r2 hz hq => by
  unfold dEqX at hz
  cases hk : dEqXB d1 d2 with
  | none => rw [hk] at hz; cases hz
  | some k =>
    rw [hk] at hz; cases hz
    rcases dEqXB_cases hk with ⟨hb, w, rfl, rfl⟩ | he
    · obtain ⟨p, rfl, hp⟩ := box_see ex r1 hb
      cases r2.str
      exact .inr ⟨p, w, rfl, hp, rfl, hq _ F H (Al.refl ex) (.bl _)⟩
    · exact .inl (s_eq F H x y d1 d2 _ Q ex r1 r2 (by unfold dEq; rw [he]; rfl) hq)
theorem s_neX : OpS K dNeX (r2NeX K) := fun F H x y d1 d2 z Q ex r1 r2 hz hq => by
  unfold dNeX at hz
  cases hk : dEqXB d1 d2 with
  | none => rw [hk] at hz; cases hz
  | some k =>
    rw [hk] at hz; cases hz
    rcases dEqXB_cases hk with ⟨hb, w, rfl, rfl⟩ | he
    · obtain ⟨p, rfl, hp⟩ := box_see ex r1 hb
      cases r2.str
      exact .inr ⟨p, w, rfl, hp, rfl, hq _ F H (Al.refl ex) (.bl _)⟩
    · exact .inl (s_ne F H x y d1 d2 _ Q ex r1 r2 (by unfold dNe; rw [he]; rfl) hq)

/-! ### any plain value in a tuple of texts -/
def isT (y : Str) : D → Bool
  | .str x => decide (y = x)
  | _ => false
def anyK : D → Bool
  | .non => true | .bl _ => true | .int _ => true | .str _ => true | .lst _ => true | .tup _ => true | .dct _ => true | .scr _ => true | _ => false
def dInT (x y : D) : Option D := match y with
  | .tup ys => (strsOf ys).bind fun zs => if anyK x = true then some (.bl (zs.any fun z => isT z x)) else none
  | _ => none
def rInT (K : PySem.W.Frag) : R2 := fun x y H Q => ∃ p, ∃ zs : List Str, y = .ref p ∧ SqT K H p (zs.map V.str) ∧
  ∃ a, x = .ref a ∧ ((∃ xs, SqL K H a xs) ∨ (∃ xs, SqT K H a xs) ∨ ∃ kvs, H a = some (.dK kvs)) ∧ Q (.bl false) H
theorem vals_str {ys : List Str} : ∀ {us : List Value}, Vals (ys.map V.str) us → ∀ w ∈ us, ∃ z t, w = .str z t := by
  induction ys with
  | nil => intro us r w hw; cases r; cases hw
  | cons y ys ih =>
    intro us r w hw
    cases r with
    | cons r1 r2 =>
      rcases List.mem_cons.mp hw with e | hw
      · obtain ⟨t, e2⟩ := r1; exact ⟨y, t, e.trans e2⟩
      · exact ih r2 w hw
theorem op_inTs (hu : X.A.units + 70 < cLine) : OpR X (compareOp .In) (rInT X.K) := by
  intro pins s σ H x y v u Q I rx ry h
  obtain ⟨p, zs, rfl, hq, a, rfl, ha, q⟩ := h
  cases ry
  cases rx
  obtain ⟨its, r, pl, hz⟩ := I.tuple hq
  have h1 : X.A.in1.units < cLine := by show X.A.units + 1 < cLine; omega
  refine SeqAt.in_tupleAt (fun _ => false) pl (fun w hw => ?_) ⟨.bl _, H, I, rfl, ?_⟩
  · obtain ⟨z, t, rfl⟩ := vals_str r w (by simpa using hw)
    rcases ha with ⟨xs, ha⟩ | ⟨xs, ha⟩ | ⟨kvs, ha⟩
    · obtain ⟨it2, _, pl2, _⟩ := I.list ha
      exact SeqAt.EqAt.str_list z t pl2.isList h1
    · obtain ⟨it2, _, pl2, _⟩ := I.tuple ha
      exact SeqAt.EqAt.str_tuple z t pl2 h1
    · exact EqAt.str_dict z t (isDct_of I ha).1 h1
  · rw [show its.toArray.any (fun _ => false) = false by simp]
    exact q
def rInA (K : PySem.W.Frag) : R2 := fun x y H Q => rIn K false x y H Q ∨ rInT K x y H Q
theorem shD_non : shD .non = true := by simp [shD, SeqAt.shaped, toPy, PyData.canLay0, PyData.depth]
theorem shD_bl {b : Bool} : shD (.bl b) = true := by simp [shD, SeqAt.shaped, toPy, PyData.canLay0, PyData.depth]
theorem shD_int {b : Int} : shD (.int b) = true := by simp [shD, SeqAt.shaped, toPy, PyData.canLay0, PyData.depth]
theorem sh_e {a : D} {w : Str} (h1 : isScal a = true) (h2 : isStr a = false) (hw : shD (.str w) = true) : dEqXB a (.str w) = some false := by
  cases a with
  | non => show (if _ then _ else if _ then _ else _) = _; rw [if_neg (by simp [isBox]), if_pos ⟨shD_non, hw⟩]; simp [toPy, PyData.eqv]
  | bl b => show (if _ then _ else if _ then _ else _) = _; rw [if_neg (by simp [isBox]), if_pos ⟨shD_bl, hw⟩]; simp [toPy, PyData.eqv]
  | int b => show (if _ then _ else if _ then _ else _) = _; rw [if_neg (by simp [isBox]), if_pos ⟨shD_int, hw⟩]; simp [toPy, PyData.eqv]
  | str x => cases h2
  | _ => cases h1
theorem sh_no {a : D} {w : Str} (h1 : isScal a = true) (h2 : isStr a = false) (hw : shD (.str w) = true) : dEqX a (.str w) = some (.bl (isT w a)) := by
  unfold dEqX
  rw [sh_e h1 h2 hw]
  cases a <;> first | rfl | (cases h1; done) | (cases h2; done)
theorem sh_no2 {a : D} {w : Str} (h1 : isScal a = true) (h2 : isStr a = false) (hw : shD (.str w) = true) : dNeX a (.str w) = some (.bl (!isT w a)) := by
  unfold dNeX
  rw [sh_e h1 h2 hw]
  cases a <;> first | rfl | (cases h1; done) | (cases h2; done)
/-- any plain value against a text -/
theorem eqX_str {a : D} (h : anyK a = true) {w : Str} (hw : shD (.str w) = true) : dEqX a (.str w) = some (.bl (isT w a)) := by
  cases a with
  | str x =>
    show (dEqXB (.str x) (.str w)).map D.bl = _
    unfold dEqXB
    rw [if_neg (by simp [isBox])]
    show some (D.bl (decide (x = w))) = some (.bl (decide (w = x)))
    congr 2
    exact decide_eq_decide.mpr eq_comm
  | non => exact sh_no rfl rfl hw
  | bl b => exact sh_no rfl rfl hw
  | int b => exact sh_no rfl rfl hw
  | _ => first | rfl | cases h
theorem neX_str {a : D} (h : anyK a = true) {w : Str} (hw : shD (.str w) = true) : dNeX a (.str w) = some (.bl (!isT w a)) := by
  cases a with
  | str x =>
    show (dEqXB (.str x) (.str w)).map (fun b => D.bl (!b)) = _
    unfold dEqXB
    rw [if_neg (by simp [isBox])]
    show some (D.bl (!decide (x = w))) = some (.bl (!decide (w = x)))
    congr 3
    exact decide_eq_decide.mpr eq_comm
  | non => exact sh_no2 rfl rfl hw
  | bl b => exact sh_no2 rfl rfl hw
  | int b => exact sh_no2 rfl rfl hw
  | _ => first | rfl | cases h
theorem op_inT (hu : X.A.units + 70 < cLine) : OpR X (compareOp .In) (rInA X.K) := op_in_seq.or (op_inTs hu)
theorem flat_strs : ∀ zs : List Str, (zs.map V.str).all flatV = true
  | [] => rfl
  | z :: zs => by rw [List.map_cons, List.all_cons, flat_strs zs]; rfl
theorem inV_strs (v : V) (d : D) (zs : List Str) (h : ∀ z, eqV (.str z) v = isT z d) : inV v (zs.map V.str) = zs.any fun z => isT z d := by
  unfold inV
  rw [List.any_map]
  congr 1
  funext z
  exact h z
theorem s_inT : OpS K dInT (rInA K) := fun F H x y d1 d2 z Q ex r1 r2 hz hq => by
  unfold dInT at hz
  split at hz
  · rename_i ys
    cases hs : strsOf ys with
    | none => rw [hs] at hz; cases hz
    | some zs =>
      rw [hs] at hz
      obtain ⟨hc, rfl⟩ := ite_some (show (if anyK d1 = true then some (D.bl (zs.any fun z => isT z d1)) else none) = some z from hz)
      obtain ⟨p, vs, rfl, hp, rr⟩ := r2.tup ex
      have hv := strs_see rr hs
      subst hv
      have hqq := hq _ F H (Al.refl ex) (.bl _)
      have no : ∀ d : D, (∀ z, isT z d = false) → (zs.any fun z => isT z d) = false := fun d h => by simp [h]
      have flat : ∀ (v : V) (d : D), flatV v = true → (∀ z, eqV (.str z) v = isT z d) → Q (.bl (zs.any fun z => isT z d)) H → rInA K v (.ref p) H Q := fun v d hf he q =>
        .inl ⟨p, _, rfl, .inr hp, hf, flat_strs zs, by rw [inV_strs v d zs he]; exact q⟩
      cases d1 with
      | non => rw [r1.non]; exact flat _ .non rfl (fun z => rfl) hqq
      | bl b => rw [r1.bl]; exact flat _ (.bl b) rfl (fun z => rfl) hqq
      | int i => rw [r1.int]; exact flat _ (.int i) rfl (fun z => rfl) hqq
      | str w =>
        rw [r1.str]
        refine flat _ (.str w) rfl (fun z => ?_) hqq
        show eqV (.str z) (.str w) = decide (z = w)
        unfold eqV
        first | rfl | simp
      | lst xs =>
        obtain ⟨a, us, rfl, ha, _⟩ := r1.lst ex
        exact .inr ⟨p, zs, rfl, hp, a, rfl, .inl ⟨us, .inl (.inl ha)⟩, by rw [← no (.lst xs) fun _ => rfl]; exact hqq⟩
      | tup xs =>
        obtain ⟨a, us, rfl, ha, _⟩ := r1.tup ex
        exact .inr ⟨p, zs, rfl, hp, a, rfl, .inr (.inl ⟨us, ha⟩), by rw [← no (.tup xs) fun _ => rfl]; exact hqq⟩
      | scr ns =>
        obtain ⟨a, rfl, ha⟩ := r1.scr ex
        exact .inr ⟨p, zs, rfl, hp, a, rfl, .inl ⟨_, ha⟩, by rw [← no (.scr ns) fun _ => rfl]; exact hqq⟩
      | dct kvs =>
        obtain ⟨a, us, rfl, ha, _⟩ := r1.dct ex
        exact .inr ⟨p, zs, rfl, hp, a, rfl, .inr (.inr ⟨us, ha⟩), by rw [← no (.dct kvs) fun _ => rfl]; exact hqq⟩
      | _ => cases hc
  · cases hz

/-! ### repr, with empty dicts -/
theorem canLay_ints' : ∀ ns : List Int, PyData.canLayAll0 (ns.map PyData.int) = true
  | [] => by simp [PyData.canLayAll0]
  | n :: ns => by simp [PyData.canLayAll0, PyData.canLay0, canLay_ints' ns]
mutual
def rpD : D → Bool
  | .non => true | .bl _ => true | .int _ => true | .str _ => true | .scr _ => true
  | .lst xs => rpDs xs | .tup xs => rpDs xs
  | .dct [] => true
  | _ => false
def rpDs : List D → Bool
  | [] => true
  | x :: xs => rpD x && rpDs xs
end
section
variable {pins : List (Addr × Obj)} {σ : L2.St} {H F : Hp} {s : Shared} {P : Program} {w : World}
theorem empty_dict (I : L2.Inv X pins σ H s) {a : Addr} (h : H a = some (.dK [])) : a ≠ sysModules ∧ ∃ o ep, s.heap.get? a = some o ∧ o.cls = .type "dict" ∧ o.data = .dict #[] ep := by
  obtain ⟨⟨_, _, _, _, _⟩, hs, vs, kv, o, es, ep, h1, h2, h3, _, h5, _⟩ := isDct_of I h
  cases kv
  obtain ⟨l⟩ := es
  have hl : l = [] := by
    cases l with
    | nil => rfl
    | cons e l => cases h5
  subst hl
  exact ⟨hs, o, ep, h1, h2.1, h3⟩
theorem dct_rp {kvs : List (Key × D)} (h : rpD (.dct kvs) = true) : kvs = [] := by
  cases kvs with
  | nil => rfl
  | cons k kvs => simp [rpD] at h
mutual
theorem Rep.rds (I : L2.Inv X pins σ H s) (ex : Ex F H) : ∀ {d : D} {v : V} {u : Value}, Rep X.K F v d → rpD d = true → RelV v u → ∃ as, Reads s.heap u (toPy d) as
  | _, _, _, .non, _, r => by cases r; exact ⟨_, by rw [toPy]; exact .none⟩
  | _, _, _, .bl b, _, r => by cases r; exact ⟨_, by rw [toPy]; exact .bool b⟩
  | _, _, _, .int i, _, r => by obtain ⟨t, rfl⟩ := r; exact ⟨_, by rw [toPy]; exact .int i t⟩
  | _, _, _, .str x, _, r => by obtain ⟨t, rfl⟩ := r; exact ⟨_, by rw [toPy]; exact .str x t⟩
  | _, _, _, .scr (ns := ns) q, _, r => by
    rw [toPy]
    exact Dp.reads I _ _ _ (.lst (ex.sl q) (dp_ints (K := X.K) (H := H) ex ns)) r
  | _, _, _, .lst q rr, h, r => by
    cases r
    obtain ⟨its, rv, ⟨o, n, ho, hc, _, hd⟩, _⟩ := I.list (.inl (.inl (ex _ _ q)))
    obtain ⟨as, ra⟩ := Reps.rdsAll I ex rr (by simpa [rpD] using h) rv
    exact ⟨_, by rw [toPy]; exact .list ho hc hd ra⟩
  | _, _, _, .tup q rr, h, r => by
    cases r
    obtain ⟨its, rv, ⟨o, ho, hc, n, hd⟩, _⟩ := I.tuple (.inl (.inl (ex _ _ q)))
    obtain ⟨as, ra⟩ := Reps.rdsAll I ex rr (by simpa [rpD] using h) rv
    exact ⟨_, by rw [toPy]; exact .tuple ho hc hd ra⟩
  | _, _, _, .dct q rr, h, r => by
    cases r
    have e := dct_rp h
    subst e
    cases rr
    obtain ⟨_, o, ep, h1, h2, h3⟩ := empty_dict I (ex _ _ q)
    exact ⟨_, by rw [toPy, toPyKv]; exact .dict h1 h2 h3 .nil .nil⟩
  | _, _, _, .obj a, h, _ => by simp [rpD] at h
  | _, _, _, .dcT _ _, h, _ => by simp [rpD] at h
theorem Reps.rdsAll (I : L2.Inv X pins σ H s) (ex : Ex F H) : ∀ {ds : List D} {vs : List V} {us : List Value}, Reps X.K F vs ds → rpDs ds = true → Vals vs us → ∃ as, ReadsAll s.heap us (toPyAll ds) as
  | _, _, _, .nil, _, r => by cases r; exact ⟨_, by rw [toPyAll]; exact .nil⟩
  | _, _, _, .cons (d := d) (ds := ds) q qs, h, r => by
    cases r with
    | cons r1 r2 =>
      have h' : rpD d = true ∧ rpDs ds = true := by simpa [rpDs] using h
      obtain ⟨as, a1⟩ := Rep.rds I ex q h'.1 r1
      obtain ⟨bs, a2⟩ := Reps.rdsAll I ex qs h'.2 r2
      exact ⟨_, by rw [toPyAll]; exact .cons a1 a2⟩
end
/-- what a value is shown as, item by item -/
def Shw (P : Program) (w : World) (h : Heap) (u : Value) (p : PyData) : Prop := ∃ bs, ReadAtMost h p.depth bs ∧ ReprK P w bs h p.depth u p.shown
def ShwAll (P : Program) (w : World) (h : Heap) (us : List Value) (ps : List PyData) : Prop := ∃ bs, ReadAtMost h (PyData.depthAll ps) bs ∧ ReprAllK P w bs h (PyData.depthAll ps) us (PyData.shownAll ps)
theorem ShwAll.cons {h : Heap} {u : Value} {p : PyData} {us : List Value} {ps : List PyData} (a : Shw P w h u p) (b : ShwAll P w h us ps) : ShwAll P w h (u :: us) (p :: ps) := by
  obtain ⟨b1, m1, k1⟩ := a
  obtain ⟨b2, m2, k2⟩ := b
  refine ⟨b1 ++ b2, ReadAtMost.append (m1.mono ?_) (m2.mono ?_), ?_⟩
  · rw [PyData.depthAll]; exact Nat.le_max_left _ _
  · rw [PyData.depthAll]; exact Nat.le_max_right _ _
  rw [PyData.depthAll, PyData.shownAll]
  exact ReprAllK.cons ((k1.more fun c hc => List.mem_append_left _ hc).level_le (Nat.le_max_left _ _)) (ReprAllK.more_le (fun c hc => List.mem_append_right _ hc) (Nat.le_max_right _ _) k2)
theorem nil_of_reads {h : Heap} {ps : List PyData} {as : List Addr} (r : ReadsAll h [] ps as) : ps = [] := by cases r; rfl
theorem shw_list {h : Heap} {a : Addr} {o : Obj} {vs : Array Value} {n : Nat} {ps : List PyData} {as : List Addr} (h1 : h.get? a = some o) (h2 : o.cls = .type "list") (h3 : o.data = .seq vs n) (h4 : ReadsAll h vs.toList ps as) (k : ShwAll P w h vs.toList ps) : Shw P w h (.ref a) (.list ps) := by
  obtain ⟨bs, m, k⟩ := k
  have rd : Reads h (.ref a) (.list ps) _ := .list h1 h2 h3 h4
  have nin : a ∉ bs := not_mem_of_deeper rd (by rw [PyData.depth]; omega) m
  refine ⟨a :: bs, ReadAtMost.cons rd (by rw [PyData.depth]; omega) m, ?_⟩
  rw [PyData.depth, PyData.shown]
  obtain ⟨lv⟩ := vs
  cases lv with
  | nil =>
    have e := nil_of_reads h4
    subst e
    rw [PyData.shownAll, listText_nil]
    exact ReprK.listEmpty h1 h2 h3
  | cons x l =>
    refine ReprK.list h1 h2 h3 nin ?_ fun i y e => k.item i y (by simpa using e)
    simpa using k.length_eq
mutual
theorem Rep.shw (I : L2.Inv X pins σ H s) (ex : Ex F H) : ∀ {d : D} {v : V} {u : Value}, Rep X.K F v d → rpD d = true → RelV v u → (toPy d).showable = true → (toPy d).shown.length ≤ sizeLine → Shw P w s.heap u (toPy d)
  | _, _, _, .non, _, r, hs, hz => by cases r; rw [toPy] at hs hz ⊢; exact ReprK.of_reads .none hs (PyData.noDict_hsm (by rw [PyData.hasDict])) hz
  | _, _, _, .bl b, _, r, hs, hz => by cases r; rw [toPy] at hs hz ⊢; exact ReprK.of_reads (.bool b) hs (PyData.noDict_hsm (by rw [PyData.hasDict])) hz
  | _, _, _, .int i, _, r, hs, hz => by obtain ⟨t, rfl⟩ := r; rw [toPy] at hs hz ⊢; exact ReprK.of_reads (.int i t) hs (PyData.noDict_hsm (by rw [PyData.hasDict])) hz
  | _, _, _, .str x, _, r, hs, hz => by obtain ⟨t, rfl⟩ := r; rw [toPy] at hs hz ⊢; exact ReprK.of_reads (.str x t) hs (PyData.noDict_hsm (by rw [PyData.hasDict])) hz
  | _, _, _, .scr (ns := ns) q, h, r, hs, hz => by
    obtain ⟨as, rd⟩ := Rep.rds I ex (.scr q) h r
    have hl : (toPy (.scr ns)).canLay0 = true := by rw [toPy, PyData.canLay0]; exact canLay_ints' ns
    exact ReprK.of_reads rd hs (PyData.noDict_hsm (PyData.hasDict_of_canLay _ hl)) hz
  | _, _, _, .lst (ds := ds) q rr, h, r, hs, hz => by
    cases r
    obtain ⟨its, rv, ⟨o, n, ho, hc, _, hd⟩, _⟩ := I.list (.inl (.inl (ex _ _ q)))
    have h' : rpDs ds = true := by simpa [rpD] using h
    obtain ⟨as, ra⟩ := Reps.rdsAll I ex rr h' rv
    rw [toPy] at hs hz ⊢
    exact shw_list ho hc hd ra (Reps.shwAll I ex rr h' rv (by simpa [PyData.showable] using hs) fun t ht => Nat.le_trans (listText_mem_le ht) (by rw [← PyData.shown]; exact hz))
  | _, _, _, .tup (ds := ds) q rr, h, r, hs, hz => by
    cases r
    obtain ⟨its, rv, ⟨o, ho, hc, n, hd⟩, _⟩ := I.tuple (.inl (.inl (ex _ _ q)))
    have h' : rpDs ds = true := by simpa [rpD] using h
    obtain ⟨as, ra⟩ := Reps.rdsAll I ex rr h' rv
    rw [toPy] at hs hz ⊢
    obtain ⟨bs, m, k⟩ : ShwAll P w s.heap its (toPyAll ds) := Reps.shwAll I ex rr h' rv (by simpa [PyData.showable] using hs) fun t ht => Nat.le_trans (tupleText_mem_le ht) (by rw [← PyData.shown]; exact hz)
    have rd : Reads s.heap (.ref _) (.tuple (toPyAll ds)) _ := .tuple ho hc hd ra
    refine ⟨_ :: bs, ReadAtMost.cons rd (by rw [PyData.depth]; omega) m, ?_⟩
    rw [PyData.depth, PyData.shown]
    exact ReprK.tuple ho hc hd (not_mem_of_deeper rd (by rw [PyData.depth]; omega) m) k
  | _, _, _, .dct q rr, h, r, hs, hz => by
    cases r
    have e := dct_rp h
    subst e
    cases rr
    obtain ⟨hn, o, ep, h1, h2, h3⟩ := empty_dict I (ex _ _ q)
    rw [toPy, toPyKv] at hs hz ⊢
    exact ReprK.of_reads (.dict h1 h2 h3 .nil .nil) hs (fun _ hm => hn (by rcases List.mem_cons.mp hm with e | hm; exact e.symm; cases hm)) hz
  | _, _, _, .obj a, h, _, _, _ => by simp [rpD] at h
  | _, _, _, .dcT _ _, h, _, _, _ => by simp [rpD] at h
theorem Reps.shwAll (I : L2.Inv X pins σ H s) (ex : Ex F H) : ∀ {ds : List D} {vs : List V} {us : List Value}, Reps X.K F vs ds → rpDs ds = true → Vals vs us → PyData.showableAll (toPyAll ds) = true → (∀ t ∈ PyData.shownAll (toPyAll ds), t.length ≤ sizeLine) → ShwAll P w s.heap us (toPyAll ds)
  | _, _, _, .nil, _, r, _, _ => by
    cases r
    rw [toPyAll]
    exact ⟨[], (fun _ hm => nomatch hm), by rw [PyData.shownAll]; exact .nil⟩
  | _, _, _, .cons (d := d) (ds := ds) q qs, h, r, hs, hz => by
    cases r with
    | cons r1 r2 =>
      have h' : rpD d = true ∧ rpDs ds = true := by simpa [rpDs] using h
      rw [toPyAll] at hs hz ⊢
      have hs' : (toPy d).showable = true ∧ PyData.showableAll (toPyAll ds) = true := by simpa [PyData.showableAll] using hs
      rw [PyData.shownAll] at hz
      exact ShwAll.cons (Rep.shw I ex q h'.1 r1 hs'.1 (hz _ (List.mem_cons_self ..))) (Reps.shwAll I ex qs h'.2 r2 hs'.2 fun t ht => hz t (List.mem_cons_of_mem _ ht))
end
end
section
/-- repr(x) of what has empty dicts within -/
def rReprX (K : PySem.W.Frag) : List V → Hp → VK → Prop := fun xs H Q => ∃ x d, xs = [x] ∧ Rep K H x d ∧ rpD d = true ∧ (toPy d).showable = true ∧ (toPy d).depth ≤ 64 ∧ (toPy d).shown.length + 64 ≤ sizeLine ∧ Q (.str (toPy d).shown) H
theorem call_reprX (hg : X.A.guards = some []) (hu : X.A.units + 70 < cLine) : CallR X (.builtin "repr") (rReprX X.K) := by
  intro pins s σ H xs us Q I r h
  obtain ⟨x, d, rfl, hr, hp, hs, hdp, hz, q⟩ := h
  cases r with
  | cons rx rt =>
    rename_i u ut
    cases rt
    have ex : Ex H H := Ex.refl H
    have fin : ∀ h' u tk, (∀ b o, s.heap.get? b = some o → h'.get? b = some o) → EP X pins σ Q (.str (toPy d).shown u) { s with heap := h', toks := tk } := fun h' u tk hk => ⟨.str _, H, I.kept hk, ⟨_, rfl⟩, q⟩
    have hz1 : (toPy d).shown.length ≤ sizeLine := Nat.le_trans (Nat.le_add_right _ 64) hz
    cases hr with
    | non => cases rx; simp only [toPy, PyData.shown] at q; exact PySem.P.repr_of_none ⟨.str _, H, I.tok _, ⟨_, rfl⟩, q⟩
    | bl b => cases rx; simp only [toPy, PyData.shown] at q; exact PySem.P.repr_of_bool ⟨.str _, H, I.tok _, ⟨_, rfl⟩, q⟩
    | int i =>
      obtain ⟨t, rfl⟩ := rx
      simp only [toPy, PyData.shown] at q
      exact PySem.P.repr_of_int (by simpa [toPy, PyData.showable] using hs) ⟨.str _, H, I.tok _, ⟨_, rfl⟩, q⟩
    | str x =>
      obtain ⟨t, rfl⟩ := rx
      simp only [toPy, PyData.shown] at q hz1
      exact PySem.P.repr_of_str ⟨.str _, H, I.tok _, ⟨_, rfl⟩, q⟩ hz1
    | scr qq =>
      rename_i ns
      have hl : (toPy (.scr ns)).canLay0 = true := by rw [toPy, PyData.canLay0]; exact canLay_ints' ns
      obtain ⟨as, rd⟩ := Rep.rds I ex (.scr qq) hp rx
      cases rx
      exact repr_of_reads' rd hs (PyData.noDict_hsm (PyData.hasDict_of_canLay _ hl)) hg (by omega) (fun _ _ e => e) fin hz1
    | dct qq rr =>
      have e := dct_rp hp
      subst e
      cases rr
      cases rx
      obtain ⟨hn, o, ep, h1, h2, h3⟩ := empty_dict I qq
      refine repr_of_reads' (h₀ := s.heap) (d := toPy (.dct [])) (by rw [toPy, toPyKv]; exact .dict h1 h2 h3 .nil .nil) hs (fun _ hm => hn (by rcases List.mem_cons.mp hm with e | hm; exact e.symm; cases hm)) hg (by omega) (fun _ _ e => e) fin hz1
    | obj a => simp [rpD] at hp
    | dcT _ _ => simp [rpD] at hp
    | lst qq rr =>
      rename_i a vs ds
      cases rx
      obtain ⟨its, rv, ⟨o, n, ho, hc, _, hd⟩, _⟩ := I.list (.inl (.inl qq))
      have h' : rpDs ds = true := by simpa [rpD] using hp
      obtain ⟨as, ra⟩ := Reps.rdsAll I ex rr h' rv
      rw [toPy] at hs hz1 hdp
      have hzl : (listText (PyData.shownAll (toPyAll ds))).length ≤ sizeLine := by rw [← PyData.shown]; exact hz1
      obtain ⟨bs, m, k⟩ : ShwAll X.prog X.w s.heap its (toPyAll ds) := Reps.shwAll I ex rr h' rv (by simpa [PyData.showable] using hs) fun t ht => Nat.le_trans (listText_mem_le ht) hzl
      have nin : a ∉ bs := not_mem_of_deeper (.list ho hc hd ra) (by rw [PyData.depth]; omega) m
      rw [PyData.depth] at hdp
      simp only [toPy, PyData.shown] at fin
      refine call_repr_slot (by omega) ⟨o, ho, hc⟩ F.slot_list_repr.toG ?_
      cases its with
      | nil =>
        have e := nil_of_reads ra
        rw [e, PyData.shownAll, listText_nil] at fin
        exact call_list_repr_empty ⟨o, ho, hc⟩ ho hd ⟨_, _, rfl, fin s.heap _ (s.toks + 1) fun _ _ e => e⟩
      | cons x l =>
        exact call_list_reprK ho hc hd nin (by simpa using k.length_eq) (fun i y e => k.item i y (by simpa using e)) hg (fun b _ => Clear.nil b) (by show X.A.units + 1 + _ < cLine; omega) (fun _ _ e => e) (fun h' u tk hk => ⟨_, _, rfl, fin h' u tk hk⟩) hzl
    | tup qq rr =>
      rename_i a vs ds
      cases rx
      obtain ⟨its, rv, ⟨o, ho, hc, n, hd⟩, _⟩ := I.tuple (.inl (.inl qq))
      have h' : rpDs ds = true := by simpa [rpD] using hp
      obtain ⟨as, ra⟩ := Reps.rdsAll I ex rr h' rv
      rw [toPy] at hs hz1 hdp
      have hzl : (tupleText (PyData.shownAll (toPyAll ds))).length ≤ sizeLine := by rw [← PyData.shown]; exact hz1
      obtain ⟨bs, m, k⟩ : ShwAll X.prog X.w s.heap its (toPyAll ds) := Reps.shwAll I ex rr h' rv (by simpa [PyData.showable] using hs) fun t ht => Nat.le_trans (tupleText_mem_le ht) hzl
      have nin : a ∉ bs := not_mem_of_deeper (.tuple ho hc hd ra) (by rw [PyData.depth]; omega) m
      rw [PyData.depth] at hdp
      simp only [toPy, PyData.shown] at fin
      refine call_repr_slot (by omega) ⟨o, ho, hc⟩ F.slot_tuple_repr ?_
      exact call_tuple_reprK ho hc hd nin k hg (fun b _ => Clear.nil b) (by show X.A.units + 1 + _ < cLine; omega) (fun _ _ e => e) (fun h' u tk hk => ⟨_, _, rfl, fin h' u tk hk⟩) hzl
/-- repr(x): some text that hangs on the tree alone -/
def fReprX : List D → Option D
  | [d] => if rpD d = true ∧ PyData.showable (toPy d) = true ∧ PyData.depth (toPy d) ≤ 64 ∧ (PyData.shown (toPy d)).length + 64 ≤ LINE then some (.str (PyData.shown (toPy d))) else none
  | _ => none
theorem VRep.toRep {F H : Hp} (ex : Ex F H) {v : V} {d : D} (r : VRep K F H v d) : Rep K H v d := by
  cases r with
  | rep r => exact r.mono ex
  | own hp o => exact (o.mono ex).rep hp
theorem s_reprX : FnS K fReprX (rReprX K) := fun F H xs ds z Q ex r hz hq => by
  unfold fReprX at hz
  split at hz
  · rename_i d
    obtain ⟨x, rfl, rx⟩ := r.one
    obtain ⟨⟨h1, h2, h3, h4⟩, rfl⟩ := ite_some hz
    exact ⟨x, d, rfl, rx.toRep ex, h1, h2, h3, LINE_le h4, hq _ F H (Al.refl ex) (.str _)⟩
  · cases hz
end
end
end DL

/-! DR18: slices of tuples. -/
namespace DL
open PySem PySem.Spec PyProof.Rows L2
def dSlX : D → Option Int → Option Int → Option D
  | .tup xs, lo, hi => if (cutD xs lo hi).length < xs.length then some (.tup (cutD xs lo hi)) else none
  | x, lo, hi => dSl x lo hi
def eSlX (a : WE) (l h : Env → W (Option Int)) : WE := fun Δ S P R => a Δ S (fun x S1 => l Δ S1 (fun lo S2 => h Δ S2 (fun hi S3 => ∃ d, dSlX x lo hi = some d ∧ P d S3) R) R) R
def rSlX (K : PySem.W.Frag) : V → Option Int → Option Int → Hp → VK → Prop := fun x lo hi H Q => rSlA K x lo hi H Q ∨ rSlT K x lo hi H Q
theorem sl_anyX {X : Cx} : SlR X (rSlX X.K) := sl_any.or sl_tup
section
variable {X : Cx} {b : Bool} {O : List Nat} {E : XK} {e : Expr} {w : WE} {pos : Pos}
theorem sl_seeX {K : PySem.W.Frag} {F H : Hp} {v : V} {d z : D} {lo hi : Option Int} {Q : VK} (ex : Ex F H) (r : VRep K F H v d) (h : dSlX d lo hi = some z) (hq : ∀ v F' H', Al F H F' H' → Rep K F' v z → Q v H') : rSlX K v lo hi H Q := by
  cases d with
  | tup xs =>
    obtain ⟨hc, rfl⟩ := ite_some (show (if (cutD xs lo hi).length < xs.length then some (D.tup (cutD xs lo hi)) else none) = some z from h)
    obtain ⟨p, vs, rfl, hp, rr⟩ := r.tup ex
    have e2 : (cutV vs lo hi).length = (cutD xs lo hi).length := (rr.cut lo hi).len
    refine .inr ⟨p, vs, rfl, hp, fun ⟨z1, z2⟩ => ?_, fun q nq => ?_⟩
    · unfold cutV at e2
      rw [z1, z2, List.drop_zero, Nat.sub_zero, List.take_of_length_le (Nat.le_refl _), rr.len] at e2
      omega
    · have al := Al.new (o := .tup (cutV vs lo hi)) ex nq
      exact hq _ _ _ al (.tup upd_same ((rr.cut lo hi).mono al.f))
  | _ => exact .inl (sl_see ex r h hq)
theorem de_slX {lo hi : Option Expr} {wl wh : Env → W (Option Int)} {p2 : Pos} (ha : DB X b O E e w) (hl : DO X b O E lo wl) (hh : DO X b O E hi wh) : DE X b O E (.Subscript e (.Slice lo hi none p2) pos) (eSlX w wl wh) :=
  pe_to (pe_slice sl_anyX ha hl hh) fun σ H Q ⟨Z, Δ, S, F, P, R, k, hw, hx, hq⟩ => ⟨Z, Δ, S, F, _, R, k, hw, hx, fun v d S1 F1 H1 k1 e1 p1 r1 h1 => ⟨Z, Δ, S1, F1, _, R, k1, h1, hx.mono e1, fun lo S2 F2 H2 k2 e2 p2 h2 =>
    ⟨Z, Δ, S2, F2, _, R, k2, h2, hx.mono (e1.trans e2), fun hi S3 F3 H3 k3 e3 p3 ⟨z, hz, hp⟩ => sl_seeX k3.fH ((r1.mono (e2.trans e3)).see k3) hz fun v' F4 H4 al r4 =>
      hq v' z S3 F4 H4 (k3.al al) ((e1.trans (e2.trans e3)).trans al.f) (pureA (pure2 (pure2 p1 p2) p3) al) r4 hp⟩⟩⟩
end

/-! ### xs == [], xs != [] -/
def dEq0 : D → D → Option D
  | .lst xs, .lst [] => some (.bl xs.isEmpty)
  | _, _ => none
def dNe0 : D → D → Option D
  | .lst xs, .lst [] => some (.bl (!xs.isEmpty))
  | _, _ => none
def rEq0 (K : PySem.W.Frag) (neg : Bool) : R2 := fun x y H Q => ∃ a b xs, x = .ref a ∧ y = .ref b ∧ SqL K H a xs ∧ SqL K H b [] ∧ Q (.bl (if neg then !xs.isEmpty else xs.isEmpty)) H
section
variable {X : Cx} {K : PySem.W.Frag}
theorem op_eq0 (hu : X.A.units + 64 < cLine) : OpR X (compareOp .Eq) (rEq0 X.K false) := by
  intro pins s σ H x y v u Q I rx ry h
  obtain ⟨a, b, xs, rfl, rfl, ha, hb, q⟩ := h
  cases rx
  cases ry
  obtain ⟨i1, r1, p1, _⟩ := I.list ha
  obtain ⟨i2, r2, p2, _⟩ := I.list hb
  cases r2
  have hl := r1.length
  cases xs with
  | nil =>
    cases r1
    exact SeqAt.eq_listAt (e := fun _ => true) p1.isList p2.isList rfl (by omega) (fun j h1 _ => absurd h1 (by simp)) ⟨.bl _, H, I, rfl, q⟩
  | cons z zs =>
    refine SeqAt.eq_list_lengthsAt p1.isList p2.isList ?_ (by omega) ⟨.bl _, H, I, rfl, q⟩
    simp only [List.size_toArray, ← hl]
    rfl
theorem op_ne0 (hu : X.A.units + 64 < cLine) : OpR X (compareOp .NotEq) (rEq0 X.K true) := by
  intro pins s σ H x y v u Q I rx ry h
  obtain ⟨a, b, xs, rfl, rfl, ha, hb, q⟩ := h
  cases rx
  cases ry
  obtain ⟨i1, r1, p1, _⟩ := I.list ha
  obtain ⟨i2, r2, p2, _⟩ := I.list hb
  cases r2
  have hl := r1.length
  cases xs with
  | nil =>
    cases r1
    exact SeqAt.RcNeAt.lists (e := fun _ => true) p1.isList p2.isList rfl (by omega) (fun j h1 _ => absurd h1 (by simp)) _ _ _ _ ⟨.bl _, H, I, rfl, q⟩
  | cons z zs =>
    refine SeqAt.RcNeAt.lists_lengths p1.isList p2.isList ?_ (by omega) _ _ _ _ ⟨.bl _, H, I, rfl, q⟩
    simp only [List.size_toArray, ← hl]
    rfl
theorem e0_see {x y z : D} {neg : Bool} (h : (match x, y with | .lst xs, .lst [] => some (D.bl (if neg then !xs.isEmpty else xs.isEmpty)) | _, _ => none) = some z) : ∃ xs, x = .lst xs ∧ y = .lst [] ∧ z = .bl (if neg then !xs.isEmpty else xs.isEmpty) := by
  split at h
  · cases h; exact ⟨_, rfl, rfl, rfl⟩
  · cases h
theorem s_e0 (neg : Bool) : OpS K (fun x y => match x, y with | .lst xs, .lst [] => some (D.bl (if neg then !xs.isEmpty else xs.isEmpty)) | _, _ => none) (rEq0 K neg) := fun F H x y d1 d2 z Q ex r1 r2 hz hq => by
  obtain ⟨xs, rfl, rfl, rfl⟩ := e0_see hz
  obtain ⟨p, vs, rfl, hp, rr⟩ := r1.lst ex
  obtain ⟨p2, vs2, rfl, hp2, rr2⟩ := r2.lst ex
  cases rr2
  refine ⟨p, p2, vs, rfl, rfl, .inl (.inl hp), .inl (.inl hp2), ?_⟩
  have e : vs.isEmpty = xs.isEmpty := by
    have := rr.len
    cases vs <;> cases xs <;> simp_all
  rw [e]
  exact hq _ F H (Al.refl ex) (.bl _)
theorem s_eq0 : OpS K dEq0 (rEq0 K false) := fun F H x y d1 d2 z Q ex r1 r2 hz hq => s_e0 false F H x y d1 d2 z Q ex r1 r2 (by unfold dEq0 at hz; split at hz <;> simp_all) hq
theorem s_ne0 : OpS K dNe0 (rEq0 K true) := fun F H x y d1 d2 z Q ex r1 r2 hz hq => s_e0 true F H x y d1 d2 z Q ex r1 r2 (by unfold dNe0 at hz; split at hz <;> simp_all) hq
end
end DL

/-! DR19: sorted of ints; dicts by tuples; data in a list of data. -/
namespace DL
open PySem PySem.Spec PyProof.Rows L2
section
variable {prog : Program} {w : World} {A : Around} {E : Value → Shared → Prop} {s : Shared}
/-- a tuple's items collected -/
theorem gather_tup {p : Addr} {us : List Value} {Q : List Value → Shared → Prop} (ht : IsTup s.heap p us.toArray) (hz : us.length ≤ sizeLine)
    (q : Q us { s with heap := (s.heap.push (seqObj "list" #[] 0)).update s.heap.objs.size (Obj.mapSeq (· ++ us.toArray)) }) : wpAny (model prog w) A (collect (.ref p)) Q E s := by
  obtain ⟨o, h1, h2, n, h3⟩ := id ht
  have h1' : (s.heap.push (seqObj "list" #[] 0)).get? p = some o := Heap.get?_push_of_some _ h1
  have new : (s.heap.push (seqObj "list" #[] 0)).get? s.heap.objs.size = some (seqObj "list" #[] 0) := Heap.get?_push_size _ rfl
  unfold collect
  refine wpAny_bind (wpAny_runValue (codeAny_builtin PyProof.Rows.entry_proto_collect' ?_))
  show wpAny _ _ (do again (.builtin "list.__iadd__" ⟨[← newList [], .ref p], []⟩)) _ _ s
  refine wpAny_bind (wpAny_newList (wpAny_pure ⟨Code.quiet_builtin _ (by decide +kernel), codeAny_builtin PyProof.Rows.entry_list_iadd' ?_⟩))
  show wpAny _ _ (Builtin.List.listExtendWith (.ref s.heap.objs.size) (.ref p) (.ref s.heap.objs.size)) _ _ { s with heap := s.heap.push (seqObj "list" #[] 0) }
  unfold Builtin.List.listExtendWith
  refine wpAny_bind (wpAny_typeOf (T := "tuple") ⟨o, h1', h2⟩ ?_)
  rw [if_pos (by simp [show (Value.type "tuple" == Value.type "tuple") = true from rfl])]
  refine wpAny_bind (listItems_at h1' h3 ?_)
  refine wpAny_bind (listItems_at (xs := #[]) (n := 0) new rfl ?_)
  rw [if_neg (by simp)]
  have hsz : (#[] ++ us.toArray).size ≤ sizeLine + 1 := by
    simp only [Array.size_append, List.size_toArray, List.length_nil]
    omega
  refine wpAny_bind (listUpdate_at (xs := #[]) (n := 0) new rfl ?_ (Nat.zero_le _) hsz)
  refine wpAny_pure ?_
  show wpAny (model prog w) A (do
    let ob ← load s.heap.objs.size
    match ob.data with
    | .seq xs _ => pure xs.toList
    | _ => unsupported "internal:collect") Q E { s with heap := (s.heap.push (seqObj "list" #[] 0)).update s.heap.objs.size (Obj.mapSeq (· ++ us.toArray)) }
  refine wpAny_bind (wpAny_load (get?_update_seq new _) ?_)
  show wpAny _ _ (pure ((#[] : Array Value) ++ us.toArray).toList) Q E _
  have e : ((#[] : Array Value) ++ us.toArray).toList = us := by simp
  rw [e]
  exact wpAny_pure q
/-- sorted(t), t a tuple -/
theorem sort_tup {p : Addr} {us : List Value} {lt : Value → Value → Bool} {Q : Value → Shared → Prop} (O : SrtO.Swo lt) (ht : IsTup s.heap p us.toArray) (hz : us.length ≤ sizeLine)
    (hS : 2 ≤ us.length → ∀ (h₁ : Heap) (a : Addr), h₁.get? a = some (seqObj "list" us.toArray 0) → (∀ b o, s.heap.get? b = some o → b ≠ a ∧ h₁.get? b = some o) → SrtO.SortableO prog w A.in1.in1 { s with heap := h₁ } a us lt)
    (q : ∀ out : List Value, SrtO.Srtd lt out → SrtO.Stb lt out us → Q (.ref (s.heap.objs.size + 1)) { s with heap := sortedAll s.heap us out.toArray }) :
    wpAny (model prog w) A (call (.builtin "sorted") [.ref p]) Q E s := by
  refine Calls.call_function_entry PyProof.Rows.kind_sorted PyProof.Rows.plain_sorted PyProof.Rows.entry_sorted (PyProof.Rows.args_sorted1 _) ?_
  unfold Builtin.«sorted»
  refine wpAny_bind (m := checkCount "sorted" 1 1 _) (wpAny_pure (wpAny_bind (gather_tup ht hz (wpAny_bind (wpAny_newList ?_ hz)))))
  have size1 : ((s.heap.push (seqObj "list" #[] 0)).update s.heap.objs.size (Obj.mapSeq (· ++ us.toArray))).objs.size = s.heap.objs.size + 1 := by rw [Heap.size_update, size_push']
  have two : (((s.heap.push (seqObj "list" #[] 0)).update s.heap.objs.size (Obj.mapSeq (· ++ us.toArray))).push (seqObj "list" us.toArray 0)).get? (s.heap.objs.size + 1) = some (seqObj "list" us.toArray 0) := by
    rw [← size1]
    exact Heap.get?_push_size _ rfl
  have old : ∀ b o, s.heap.get? b = some o → b ≠ s.heap.objs.size + 1 ∧ (((s.heap.push (seqObj "list" #[] 0)).update s.heap.objs.size (Obj.mapSeq (· ++ us.toArray))).push (seqObj "list" us.toArray 0)).get? b = some o := fun b o e => by
    have lt1 : b < s.heap.objs.size := Heap.lt_size e
    refine ⟨Nat.ne_of_lt (Nat.lt_succ_of_lt lt1), Heap.get?_push_of_some _ ?_⟩
    rw [Heap.get?_update_ne _ _ _ _ (Nat.ne_of_lt lt1)]
    exact Heap.get?_push_of_some _ e
  show wpAny _ _ _ _ _ { s with heap := ((s.heap.push (seqObj "list" #[] 0)).update s.heap.objs.size (Obj.mapSeq (· ++ us.toArray))).push (seqObj "list" us.toArray 0) }
  rw [size1]
  refine wpAny_bind (wpAny_holding (wpAny_call_entry slot_list_sort ⟨_, two, rfl⟩ entry_list_sort (SrtO.list_sort_ord O two hz (fun h2 => hS h2 _ _ two old) fun out a b => ⟨_, rfl, ?_⟩) (args_list_sort _)))
  exact wpAny_pure ⟨_, rfl, q out a b⟩
end
def rSrtT (K : PySem.W.Frag) : List V → Hp → VK → Prop := fun vs H Q => ∃ (a : Addr) (ns : List Int), vs = [V.ref a] ∧ SqT K H a (ns.map V.int) ∧
  ∀ (ns' : List Int) (p : Addr), ns'.Perm ns → ns'.Pairwise (· ≤ ·) → H p = none → Q (.ref p) (L2.upd H p (.lst (ns'.map V.int)))
section
variable {X : Cx}
theorem cr_srtT : CallR X (.builtin "sorted") (rSrtT X.K) := by
  intro pins s σ H vs us Q I r h
  obtain ⟨a, ns, rfl, hs, q⟩ := h
  obtain ⟨its, rv, pl, hz⟩ := I.tuple hs
  rw [Vals.ref1 r]
  have ii := rv.ints
  refine sort_tup SrtO.swo_int pl (by rw [← rv.length]; exact hz) (fun h2 h₁ a' _ _ => SrtO.ints_sortable ii h2) fun out s1 s2 => ?_
  obtain ⟨k1, k2, k3⟩ := SrtO.ints_out ii s1 s2
  obtain ⟨ep, at_⟩ := PyProof.Rows.sortedAll_at s.heap its out.toArray
  have long : ((out.map SrtO.iv).map V.int).length ≤ sizeLine := by
    rw [List.length_map] at hz ⊢
    rw [k2.length_eq]
    exact hz
  refine ⟨.ref _, L2.upd H (s.heap.objs.size + 1) (.lst ((out.map SrtO.iv).map V.int)), I.laid (t' := s.toks) (fun _ _ => PyProof.Rows.sortedAll_old) (Nat.le_succ _) ⟨long, out, ep, vals_of_ints k1, at_⟩, rfl, ?_⟩
  exact q _ _ k2 k3 (I.hok.fresh (Nat.le_succ _))
end

/-! ### sorted(xs), ints -/
def sIn : List D → Option (List Int)
  | [.lst xs] => intsOf xs
  | [.tup xs] => intsOf xs
  | _ => none
def eSort (a : WA) : WE := fun Δ S P R => a Δ S (fun xs S1 => ∃ ns, sIn xs = some ns ∧ ∀ ns' : List Int, ns'.Perm ns → ns'.Pairwise (· ≤ ·) → P (.lst (ns'.map D.int)) S1) R
section
variable {X : Cx} {b : Bool} {O L : List Nat} {E : XK} {own : Bool} {e a c : Expr} {es : List Expr} {w wa wb : WE} {wA : WA} {pos p : Pos} {K : PySem.W.Frag}
theorem dn_sort {x : Str} (hx : x = "sorted") (hg : Gl X x) (hm : X.mg x = none) (hv : bootBuiltins x = some (.builtin "sorted")) (ha : DAB X b O E (e :: es) wA)
    (hn : x ≠ "__name__" := by decide) (hdb : (x == ("__debug__" : Str)) = false := by decide) (he : starEach (e :: es) X.env = (false, eval e X.env) :: starEach es X.env := by rfl) (hpl : (backTo pos (starEach es X.env)).any (·.1) = false := by rfl) :
    DN X b O E (.Call (.Name x p) (e :: es) [] pos) (eSort wA) := pe_to (pe_callB (cr_sortedI.or cr_srtT) hg hm hv ha hn hdb he hpl) fun σ H Q ⟨Z, Δ, S, F, P, R, k, hw, hx, hq⟩ => ⟨Z, Δ, S, F, _, R, k, hw, hx, fun vs ds S1 F1 H1 k1 e1 p1 r1 ⟨ns, hs, hp⟩ => by
    have fin : ∀ (ns' : List Int) (q : Addr), ns'.Perm ns → ns'.Pairwise (· ≤ ·) → H1 q = none → Q (.ref q) (L2.upd H1 q (.lst (ns'.map V.int))) := fun ns' q h1 h2 nq => by
      obtain ⟨k2, f1, f2, f3, f4⟩ := new_cell k1 nq (.lst (ns'.map V.int))
      exact hq (.ref q) (.lst (ns'.map D.int)) S1 F1 _ k2 e1 (pureA p1 ⟨Ex.refl _, Ex.new nq, k2.fH, fun _ _ z => .inl z⟩) ⟨q, _, rfl, upd_same, .lst Reps.ints, f1, f2, f3, f4⟩ (fun y z hz => by cases hz; exact (p1 y).2.h.none nq) (hp ns' h1 h2)
    unfold sIn at hs
    split at hs
    · obtain ⟨v, rfl, rv⟩ := (r1.see k1).one
      obtain ⟨q, us, rfl, hq', rr⟩ := rv.lst k1.fH
      have hi := ints_see rr hs
      subst hi
      exact .inl ⟨q, ns, rfl, .inl (.inl hq'), fin⟩
    · obtain ⟨v, rfl, rv⟩ := (r1.see k1).one
      obtain ⟨q, us, rfl, hq', rr⟩ := rv.tup k1.fH
      have hi := ints_see rr hs
      subst hi
      exact .inr ⟨q, ns, rfl, hq', fin⟩
    · cases hs⟩

/-! ### data in a list of data -/
def dInD (x y : D) : Option D := match y with
  | .lst ys => if shD x = true ∧ shD (.lst ys) = true then some (.bl (ys.any fun z => PyData.eqv (toPy z) (toPy x))) else none
  | _ => none
theorem toPyAll_any (f : PyData → Bool) : ∀ ys : List D, (toPyAll ys).any f = ys.any fun z => f (toPy z)
  | [] => rfl
  | y :: ys => by rw [toPyAll, List.any_cons, List.any_cons, toPyAll_any f ys]
theorem s_inD : OpS K dInD (rInD K) := fun F H x y d1 d2 z Q ex r1 r2 hz hq => by
  unfold dInD at hz
  split at hz
  · rename_i ys
    obtain ⟨⟨h1, h2⟩, rfl⟩ := ite_some hz
    have hd := r2.dp ex h2
    rw [toPy] at hd
    refine ⟨toPy d1, toPyAll ys, r1.dp ex h1, hd, h1, by rw [← toPy]; exact h2, ?_⟩
    rw [toPyAll_any]
    exact hq _ F H (Al.refl ex) (.bl _)
  · cases hz

/-! ### dicts by tuples -/
def keysOf : List D → Option (List Key)
  | [] => some []
  | d :: ds => (keyD d).bind fun k => (keysOf ds).map (k :: ·)
def keyT : D → Option (List Key)
  | .tup ds => keysOf ds
  | _ => none
def getT (kvs : List (List Key × D)) (k : List Key) : Option D := (kvs.find? fun kv => decide (kv.1 = k)).map (·.2)
def putT (kvs : List (List Key × D)) (k : List Key) (v : D) : List (List Key × D) :=
  if (kvs.any fun kv => decide (kv.1 = k)) = true then kvs.map (fun kv => if kv.1 = k then (kv.1, v) else kv) else kvs ++ [(k, v)]
def dGetT : D → D → Option D
  | .dcT kvs, k => (keyT k).bind (getT kvs)
  | _, _ => none
def dInKT : D → D → Option D
  | k, .dcT kvs => (keyT k).map fun k => .bl (getT kvs k).isSome
  | _, _ => none
theorem VRep.dcT {F H : Hp} (e : Ex F H) {v : V} {ds : List (List Key × D)} : VRep K F H v (.dcT ds) → ∃ p vs, v = .ref p ∧ H p = some (.dT vs) ∧ RepK K F vs ds := fun h => by
  cases h with
  | rep r => cases r with | dcT h r => exact ⟨_, _, rfl, e _ _ h, r⟩
  | own h o => cases o with | dcT r => exact ⟨_, _, rfl, h, r⟩
theorem keys_see {F H : Hp} : ∀ {ds : List D} {vs : List V} {ks : List Key}, Reps K F vs ds → keysOf ds = some ks → vs = ks.map kV
  | [], _, _, .nil, h => by cases h; rfl
  | d :: ds, _, _, .cons r rs, h => by
    obtain ⟨k, hk, h2⟩ := Option.bind_eq_some_iff.mp h
    obtain ⟨ks, hks, rfl⟩ := Option.map_eq_some_iff.mp h2
    rw [key_see (H := F) (.rep r) hk, keys_see (H := H) rs hks]
    rfl
theorem keyT_see {F H : Hp} (ex : Ex F H) {v : V} {d : D} {ks : List Key} (r : VRep K F H v d) (h : keyT d = some ks) : ∃ q, v = .ref q ∧ H q = some (.tup (ks.map kV)) := by
  cases d with
  | tup ds =>
    obtain ⟨q, vs, rfl, hq, rr⟩ := r.tupH ex
    rw [keys_see (H := H) rr h] at hq
    exact ⟨q, rfl, hq⟩
  | _ => cases h
theorem dgetT_see {F H : Hp} {v y : V} {kvs : List (List Key × D)} {dk : D} {k : List Key} (ex : Ex F H) (r : VRep K F H v (.dcT kvs)) (ry : VRep K F H y dk) (hk : keyT dk = some k) :
    ∃ p ov, v = .ref p ∧ DGet H p y ov ∧ ((∃ u d, ov = some u ∧ getT kvs k = some d ∧ Rep K F u d) ∨ (ov = none ∧ getT kvs k = none)) := by
  obtain ⟨p, vs, rfl, hp, rk⟩ := r.dcT ex
  obtain ⟨q, rfl, hq⟩ := keyT_see ex ry hk
  refine ⟨p, _, rfl, DGet.t hp hq, ?_⟩
  rcases rk.find (k := k) with ⟨u, d, h1, h2, h3⟩ | ⟨h1, h2⟩
  · exact .inl ⟨u, d, h1, h2, h3⟩
  · exact .inr ⟨h1, h2⟩
theorem de_dgetT (hu : X.A.units + 1 < cLine) (ho : DB X b O E a wa) (ha : DE X b O E c wb) (hs : NoSl c) : DE X b O E (.Subscript a c pos) (eBin dGetT wa wb) :=
  pe_to (pe_dget hu ho ha hs) fun σ H Q ⟨Z, Δ, S, F, P, R, k, hw, hx, hq⟩ => ⟨Z, Δ, S, F, _, R, k, hw, hx, fun v d S1 F1 H1 k1 e1 p1 r1 h1 => ⟨Z, Δ, S1, F1, _, R, k1, h1, hx.mono e1, fun y dy S2 F2 H2 k2 e2 p2 r2 ⟨z, hz, hp⟩ => by
    unfold dGetT at hz
    split at hz
    · obtain ⟨key, hk, hg⟩ := Option.bind_eq_some_iff.mp hz
      obtain ⟨p', ov, rfl, hget, hres⟩ := dgetT_see k2.fH ((r1.mono e2).see k2) (.rep r2) hk
      rcases hres with ⟨u, d, rfl, h, r⟩ | ⟨rfl, h⟩
      · rw [hg] at h; cases h
        exact ⟨p', u, rfl, hget, hq _ _ S2 F2 H2 k2 (e1.trans e2) (pure2 p1 p2) r hp⟩
      · rw [hg] at h; cases h
    · cases hz⟩⟩
theorem rd_dinT : ∀ σ H Q, rdE X.K X.mg b O E (eBin dInKT wa wb) σ H Q → tDIn (rdE X.K X.mg b O E wa) (rdB X.K X.mg b O E wb) σ H Q :=
  fun σ H Q ⟨Z, Δ, S, F, P, R, k, hw, hx, hq⟩ => ⟨Z, Δ, S, F, _, R, k, hw, hx, fun v d S1 F1 H1 k1 e1 p1 r1 h1 => ⟨Z, Δ, S1, F1, _, R, k1, h1, hx.mono e1, fun y dy S2 F2 H2 k2 e2 p2 r2 ⟨z, hz, hp⟩ => by
    unfold dInKT at hz
    split at hz
    · obtain ⟨key, hk, rfl⟩ := Option.map_eq_some_iff.mp hz
      obtain ⟨p', ov, rfl, hget, hres⟩ := dgetT_see k2.fH (r2.see k2) (.rep (r1.mono e2)) hk
      refine ⟨p', ov, rfl, hget, hq _ _ S2 F2 H2 k2 (e1.trans e2) (pure2 p1 p2) ?_ hp⟩
      rcases hres with ⟨u, d, rfl, h, r⟩ | ⟨rfl, h⟩
      · rw [h]; exact .bl _
      · rw [h]; exact .bl _
    · cases hz⟩⟩
theorem de_dinT (hu : X.A.units + 1 < cLine) (ha : DE X b O E a wa) (ho : DB X b O E c wb) (hm : behindInMarks .In c = false := by rfl) : DE X b O E (.Compare a [.In] [c] pos) (eBin dInKT wa wb) := pe_to (pe_cmp (pc_din hu ha ho) hm) rd_dinT
theorem dt_dinT (hu : X.A.units + 1 < cLine) (ha : DE X b O E a wa) (ho : DB X b O E c wb) (hm : behindInMarks .In c = false := by rfl) : DT X b O E (.Compare a [.In] [c] pos) (tE (eBin dInKT wa wb)) := pt_to (pt_cmp (pc_din hu ha ho) hm) fun σ H Q ⟨Z, Δ, S, F, P, R, k, hw, hx, hq⟩ => rd_dinT σ H _ ⟨Z, Δ, S, F, _, R, k, hw, hx, fun v d S1 F1 H1 k1 e1 p1 r1 ⟨q, hd, h⟩ => by
    subst hd
    cases r1
    exact ⟨q, rfl, hq q S1 F1 H1 k1 e1 p1 h⟩⟩
theorem dn_dictT : DN X true O E (.Dict [] [] pos) (eC (.dcT [])) :=
  pe_to pe_dnewT fun σ H Q ⟨Z, Δ, S, F, P, R, k, hp, hx, hq⟩ => fun p np => by
    obtain ⟨k2, f1, f2, f3, f4⟩ := new_cell k np (.dT [])
    exact hq (.ref p) (.dcT []) S F _ k2 (Ex.refl _) (fun _ => ⟨rfl, ⟨Ex.refl _, Ex.new np, k2.fH, fun _ _ q => .inl q⟩⟩) ⟨p, _, rfl, upd_same, .dcT .nil, f1, f2, f3, f4⟩ (fun z q hq => by cases hq; exact np) hp
theorem anyT {F : Hp} {k : List Key} : ∀ {vs : List (List Key × V)} {ds : List (List Key × D)}, RepK K F vs ds → (vs.any fun kv => decide (kv.1 = k)) = ds.any fun kv => decide (kv.1 = k)
  | _, _, .nil => rfl
  | _, _, .cons _ r => by rw [List.any_cons, List.any_cons, anyT r]
theorem replT {F : Hp} {k : List Key} {x : V} {y : D} (r1 : Rep K F x y) : ∀ {vs : List (List Key × V)} {ds : List (List Key × D)}, RepK K F vs ds → RepK K F (vs.map fun kv => if kv.1 = k then (kv.1, x) else kv) (ds.map fun kv => if kv.1 = k then (kv.1, y) else kv)
  | _, _, .nil => .nil
  | _, _, .cons (k := j) h r => by
    rw [List.map_cons, List.map_cons]
    by_cases e : j = k
    · simp only [e, if_true]
      exact .cons r1 (replT r1 r)
    · simp only [e, if_false]
      exact .cons h (replT r1 r)
theorem snocT {F : Hp} {k : List Key} {x : V} {y : D} (r1 : Rep K F x y) : ∀ {vs : List (List Key × V)} {ds : List (List Key × D)}, RepK K F vs ds → RepK K F (vs ++ [(k, x)]) (ds ++ [(k, y)])
  | _, _, .nil => .cons r1 .nil
  | _, _, .cons h r => .cons h (snocT r1 r)
theorem put_T {F : Hp} {k : List Key} {x : V} {y : D} (r1 : Rep K F x y) {vs : List (List Key × V)} {ds : List (List Key × D)} (r : RepK K F vs ds) : RepK K F (putK vs k x) (putT ds k y) := by
  unfold putK putT
  rw [anyT r]
  split
  · exact replT r1 r
  · exact snocT r1 r
/-- d[t] = v, a dict of the name's own -/
def gTPut (i : Nat) (e ix : WE) : WS := fun Δ S B R => e Δ S (fun v S1 => ∃ kvs, Δ[i]? = some (some (.dcT kvs)) ∧ kvs.length < LINE ∧ ix Δ S1 (fun k S2 => ∃ ks, keyT k = some ks ∧ B.nx (Δ.set i (some (.dcT (putT kvs ks v)))) S2) R) R
theorem ds_tput {st : Stmt} {i : Nat} {ix val : Expr} {x : Str} {p2 : Pos} {wv wi : WE} (hi : i ∈ O) (hv : DE X b O E val wv) (ho : PE X (.Name x p2) (tVar i)) (hx : DE X b O E ix wi) (hp : ∀ {tv td ty}, PE X val tv → PE X (.Name x p2) td → PE X ix ty → PS X st (sDPut td ty tv)) :
    DS X O O L E own st (gTPut i wv wi) :=
  ps_to (hp hv ho hx) fun D σ H ⟨Z, Δ, S, F, B, R, k, hg, er⟩ => ⟨Z, Δ, S, F, _, R, k, hg, er.ex, fun v d S1 F1 H1 k1 e1 _ r1 ⟨kvs, hk, hl, h1⟩ => by
    obtain ⟨p, o, a1, a2, a3, a4, a5, a6⟩ := k1.ow i _ hi hk
    refine ⟨.ref p, a1, Z, Δ, S1, F1, _, R, k1, h1, er.ex.mono e1, fun y dk S2 F2 H2 k2 e2 _ r2 ⟨ks, hks, hn⟩ => ?_⟩
    obtain ⟨p', o', b1, b2, b3, _⟩ := k2.ow i _ hi hk
    rw [a1] at b1; cases b1
    cases b3 with
    | dcT rk =>
      obtain ⟨q, rfl, hq⟩ := keyT_see k2.fH (.rep r2) hks
      exact ⟨p, _, rfl, DPut.t b2 hq (LINE_lt (by rw [rk.len]; exact hl)), er.nx _ _ S2 F2 _ (k2.change hi hk a1 (.dcT (put_T (r1.mono e2) rk))) (e1.trans e2) hn⟩⟩
end
end DL

/-! DR20: what a name's own list hands out; lists that are objects: read, appended to, shared again. -/
namespace DL
open PySem PySem.Spec PyProof.Rows L2
/-! ### x = xs.pop(i), the list a name's own -/
def oPopAt : D → List D → Option (D × D)
  | .lst xs, [.int i] => if 0 ≤ i ∧ xs.length ≤ LINE then (xs[i.toNat]?).map fun y => (.lst (xs.eraseIdx i.toNat), y) else none
  | _, _ => none
def gOwnAsg (i : Nat) (ok : D → Bool) (f : D → List D → Option (D × D)) (a : WA) (g : WG) : WS := fun Δ S B R => ∃ x, Δ[i]? = some (some x) ∧ ok x = true ∧ a Δ S (fun ys S1 => ∃ z r, f x ys = some (z, r) ∧ g r (Δ.set i (some z)) fun Δ1 => B.nx Δ1 S1) R
section
variable {K : PySem.W.Frag}
theorem o_popAt : OwnS K oPopAt rPopAt := fun F H p o d d' rd xs ds Q ex hp ow rs hf hq => by
  unfold oPopAt at hf
  split at hf
  · rename_i ys i
    obtain ⟨u, rfl, ru⟩ := rs.one
    cases ru
    by_cases hi : 0 ≤ i ∧ ys.length ≤ LINE
    · rw [if_pos hi] at hf
      obtain ⟨y, h1, he⟩ := Option.map_eq_some_iff.mp hf
      cases he
      cases ow with
      | lst r =>
        obtain ⟨v, a1, a2⟩ := r.get h1
        rename_i vs
        have hlt : i.toNat < vs.length := (List.getElem?_eq_some_iff.mp a1).1
        have hsz : vs.length ≤ sizeLine := LINE_le (by rw [r.len]; exact hi.2)
        have hb : sizeLine < 2 ^ 63 := by rw [sizeLine_eq]; decide
        have hi2 : ((i.toNat : Nat) : Int) = i := Int.toNat_of_nonneg hi.1
        refine ⟨p, vs, i, i.toNat, v, rfl, rfl, hp, by omega, by omega, ?_, a1, hq _ _ (.lst (Reps.erase _ r)) a2⟩
        rw [← hi2]
        exact seqIx hlt
    · rw [if_neg hi] at hf; cases hf
  · cases hf
end
section
variable {X : Cx} {b : Bool} {O On L : List Nat} {E : XK} {own : Bool} {o e c tg : Expr} {wo we wi : WE} {pos : Pos}
theorem ds_ownAsg {i : Nat} {T : String} {ok : D → Bool} {r : V → List V → Hp → VK → Prop} {f : D → List D → Option (D × D)} {x : Str} {p2 : Pos} {wA : WA} {es : List Expr} {g : WG} (hi : i ∈ O) (hr : OwnS X.K f r) (hT : TyO X.K T ok) (hv : PE X (.Name x p2) (tVar i)) (ha : DA X b O E es wA) (hg : DG X O tg g)
    (hp : ∀ {t to}, PA X es t → PE X (.Name x p2) to → PE X e (tBM X.K T r to t)) (hs : swapsWithSole [tg] e pos.line X.env = pure false := by rfl) (hw : swappedStores [tg] e X.env = pure none := by rfl)
    (h1 : (assignEach [tg] X.env).map (·.2) = [assign tg X.env] := by rfl) : DS X O O L E own (.Assign [tg] e pos) (gOwnAsg i ok f wA g) :=
  ps_to (ps_asg (hp ha hv) hg hs hw h1) fun D σ H ⟨Z, Δ, S, F, B, R, k, ⟨x, hx, hok, hg⟩, er⟩ => by
    obtain ⟨p, o, a1, a2, a3, a4, a5, a6⟩ := k.ow i x hi hx
    refine ⟨.ref p, a1, hT F H p o x a2 a3 hok, Z, Δ, S, F, _, R, k, hg, er.ex, fun vs ds S' F' H' k' e' _ rs ⟨z, rd, hf, hn⟩ => ?_⟩
    obtain ⟨p', o', b1, b2, b3, _⟩ := k'.ow i x hi hx
    rw [a1] at b1; cases b1
    exact hr F' H' p o' x z rd vs ds _ k'.fH b2 b3 rs hf fun v o2 ow rv => ⟨Z, _, S', F', rd, _, k'.change hi hx a1 ow, rv, hn, fun σ1 Δ1 k1 q => er.nx σ1 Δ1 S' F' _ k1 e' q⟩

/-! ### lists that are objects -/
/-- what an object holds may be seen -/
theorem obj_see {K : PySem.W.Frag} {Z : Hp} {σ : L2.St} {Δ : Env} {S : Sto} {F H : Hp} (k : Wd K O Z σ Δ S F H) {a : Nat} {ds : List D} (h : S a = some (.lst ds)) : VRep K F H (.ref a) (.lst ds) := by
  obtain ⟨_, _, vs, hv, rr⟩ := k.st a _ h
  exact .own hv (.lst rr)
/-- f(x, what o holds) -/
def eObjR (f : D → D → Option D) (wa wo : WE) : WE := fun Δ S P R => wa Δ S (fun x S1 => wo Δ S1 (fun y S2 => ∃ a ds z, y = .obj a ∧ S2 a = some (.lst ds) ∧ f x (.lst ds) = some z ∧ P z S2) R) R
def eObjL (f : D → D → Option D) (wo wa : WE) : WE := fun Δ S P R => wo Δ S (fun x S1 => wa Δ S1 (fun y S2 => ∃ a ds z, x = .obj a ∧ S2 a = some (.lst ds) ∧ f (.lst ds) y = some z ∧ P z S2) R) R
def eObjLen (wo : WE) : WE := fun Δ S P R => wo Δ S (fun x S1 => ∃ a ds, x = .obj a ∧ S1 a = some (.lst ds) ∧ P (.int (ds.length : Int)) S1) R
theorem de_objR {op : CmpOp} {f : D → D → Option D} {r : R2} (ho : OpR X (compareOp op) r) (hr : OpS X.K f r) (ha : DB X b O E e we) (hb : DE X b O E o wo) (hm : behindInMarks op o = false) : DE X b O E (.Compare e [op] [o] pos) (eObjR f we wo) :=
  pe_to (pe_cmpR ho ha hb hm) fun σ H Q ⟨Z, Δ, S, F, P, R, k, hw, hx, hq⟩ => ⟨Z, Δ, S, F, _, R, k, hw, hx, fun v d S1 F1 H1 k1 e1 p1 r1 h1 => ⟨Z, Δ, S1, F1, _, R, k1, h1, hx.mono e1, fun u c S2 F2 H2 k2 e2 p2 r2 ⟨a, ds, z, hc, hs, hz, hp⟩ => by
    subst hc
    cases r2
    exact hr F2 H2 v _ d (.lst ds) z Q k2.fH ((r1.mono e2).see k2) (obj_see k2 hs) hz fun v' F3 H3 al r3 => hq v' z S2 F3 H3 (k2.al al) (e1.trans (e2.trans al.f)) (pureA (pure2 p1 p2) al) r3 hp⟩⟩
theorem de_objL {op : CmpOp} {f : D → D → Option D} {r : R2} (ho : OpR X (compareOp op) r) (hr : OpS X.K f r) (ha : DE X b O E o wo) (hb : DB X b O E e we) (hm : behindInMarks op e = false) : DE X b O E (.Compare o [op] [e] pos) (eObjL f wo we) :=
  pe_to (pe_cmpR ho ha hb hm) fun σ H Q ⟨Z, Δ, S, F, P, R, k, hw, hx, hq⟩ => ⟨Z, Δ, S, F, _, R, k, hw, hx, fun v d S1 F1 H1 k1 e1 p1 r1 h1 => ⟨Z, Δ, S1, F1, _, R, k1, h1, hx.mono e1, fun u c S2 F2 H2 k2 e2 p2 r2 ⟨a, ds, z, hc, hs, hz, hp⟩ => by
    subst hc
    cases r1
    exact hr F2 H2 _ u (.lst ds) c z Q k2.fH (obj_see k2 hs) (r2.see k2) hz fun v' F3 H3 al r3 => hq v' z S2 F3 H3 (k2.al al) (e1.trans (e2.trans al.f)) (pureA (pure2 p1 p2) al) r3 hp⟩⟩
theorem de_objLen {x : Str} {p : Pos} (hx : x = "len") (hg : Gl X x) (hm : X.mg x = none) (hv : bootBuiltins x = some (.builtin "len")) (ho : DE X b O E o wo) (hn : x ≠ "__name__" := by decide) (hdb : (x == ("__debug__" : Str)) = false := by decide)
    (he : starEach [o] X.env = (false, eval o X.env) :: starEach [] X.env := by rfl) (hpl : (backTo pos (starEach [] X.env)).any (·.1) = false := by rfl) : DE X b O E (.Call (.Name x p) [o] [] pos) (eObjLen wo) :=
  pe_to (pe_callB call_lenA hg hm hv (pa_cons ho pa_nil he) hn hdb he hpl) fun σ H Q ⟨Z, Δ, S, F, P, R, k, hw, hx, hq⟩ => ⟨Z, Δ, S, F, _, R, k, hw, hx, fun v d S1 F1 H1 k1 e1 p1 r1 ⟨a, ds, hc, hs, hp⟩ => by
    subst hc
    cases r1
    exact s_len F1 H1 _ [.lst ds] (.int (ds.length : Int)) Q k1.fH (.cons (obj_see k1 hs) .nil) rfl fun v' F3 H3 al r3 => hq v' _ S1 F3 H3 (k1.al al) (e1.trans al.f) (pureA p1 al) r3 hp⟩
/-- o.append(e) -/
def gObjApp (wo we : WE) : WS := fun Δ S B R => wo Δ S (fun x S1 => ∃ a, x = .obj a ∧ (∃ ds, S1 a = some (.lst ds)) ∧ we Δ S1 (fun z S2 => ∃ ds, S2 a = some (.lst ds) ∧ ds.length < LINE ∧ B.nx Δ (S2.upd a (.lst (ds ++ [z])))) R) R
theorem ds_objApp (ho : DE X false O E o wo) (hv : DE X false O E c we) (hp : ∀ {t : TA} {to : TE}, PA X [c] t → PE X o to → PE X e (tBM X.K "list" rAppend to t))
    (hs : starEach [c] X.env = (false, eval c X.env) :: starEach [] X.env := by rfl) (hsw : swapsWith e none pos.line X.env = pure false := by rfl) :
    DS X O O L E own (.Expr e pos) (gObjApp wo we) :=
  ps_to (ps_expr (hp (da_cons hv (da_eff da_nil) hs) ho) hsw) fun D σ H ⟨Z, Δ, S, F, B, R, k, hg, er⟩ => ⟨Z, Δ, S, F, _, R, k, hg, er.ex, fun v d S1 F1 H1 k1 e1 p1 r1 ⟨a, hd, ⟨ds0, h0⟩, h1⟩ => by
    subst hd
    cases r1
    obtain ⟨_, _, vs0, hv0, _⟩ := k1.st a _ h0
    refine ⟨.inl ⟨rfl, _, .inl (.inl hv0)⟩, Z, Δ, S1, F1, fun xs S2 => (match xs with
      | [z] => ∃ ds, S2 a = some (.lst ds) ∧ ds.length < LINE ∧ B.nx Δ (S2.upd a (.lst (ds ++ [z])))
      | _ => False), R, k1, h1, er.ex.mono e1, fun us ys S2 F2 H2 k2 e2 p2 r2 h2 => ?_⟩
    match ys, r2, h2 with
    | [z], .cons rz .nil, ⟨ds, ha, hll, hpp⟩ =>
      obtain ⟨f2, z2, vs, hv, rr⟩ := k2.st a _ ha
      refine ⟨a, vs, _, rfl, rfl, hv, LINE_lt (by rw [rr.len]; exact hll), ?_⟩
      exact er.nx σ Δ _ F2 _ (k2.obSet (ob' := .lst (ds ++ [z])) ha ⟨_, upd_same, rr.app (.cons rz .nil)⟩) (e1.trans e2) hpp⟩
/-- an object is let go: what it holds is shared from here on -/
def Sto.del (S : Sto) (a : Nat) : Sto := fun b => if b = a then none else S b
theorem Wd.obShare {K : PySem.W.Frag} {Z : Hp} {σ : L2.St} {Δ : Env} {S : Sto} {F H : Hp} (k : Wd K O Z σ Δ S F H) {a : Nat} {ds : List D} (ha : S a = some (.lst ds)) : ∃ F', Ex F F' ∧ Wd K O Z σ Δ (S.del a) F' H ∧ Rep K F' (.ref a) (.lst ds) ∧ ∀ b o, F' b = some o → F b = some o ∨ b = a := by
  obtain ⟨f1, z1, vs, hv, rr⟩ := k.st a _ ha
  have ef : Ex F (L2.upd F a (.lst vs)) := Ex.new f1
  refine ⟨L2.upd F a (.lst vs), ef, ⟨fun b u q => ?_, k.zH, fun b u q => ?_, fun b ob q => ?_, fun j e nj q => ?_, fun j e nj q => ?_, k.sep, k.len⟩, .lst upd_same (rr.mono ef), fun b u q => ?_⟩
  · by_cases z : b = a
    · subst z; rw [upd_same] at q; cases q; exact hv
    · rw [upd_ne z] at q; exact k.fH b u q
  · by_cases z : b = a
    · subst z; exact z1
    · rw [upd_ne z] at q; exact k.fz b u q
  · unfold Sto.del at q
    by_cases z : b = a
    · rw [if_pos z] at q; cases q
    · rw [if_neg z] at q
      obtain ⟨a1, a2, a3⟩ := k.st b ob q
      exact ⟨(upd_ne z).trans a1, a2, a3.mono ef rfl⟩
  · obtain ⟨v, b1, b2⟩ := k.fr j e nj q
    exact ⟨v, b1, b2.mono ef⟩
  · obtain ⟨r, u, a1, a2, a3, a4, a5, a6⟩ := k.ow j e nj q
    have z : r ≠ a := fun z => by rw [z, ha] at a6; cases a6
    refine ⟨r, u, a1, a2, a3.mono ef, (upd_ne z).trans a4, a5, ?_⟩
    unfold Sto.del
    rw [if_neg z]; exact a6
  · by_cases z : b = a
    · exact .inr z
    · rw [upd_ne z] at q; exact .inl q
def eObjEnd (wo : WE) : WE := fun Δ S P R => wo Δ S (fun x S1 => ∃ a ds, x = .obj a ∧ S1 a = some (.lst ds) ∧ P (.lst ds) (S1.del a)) R
theorem de_objEnd (ho : DE X false O E o wo) : DE X false O E o (eObjEnd wo) := pe_to ho fun σ H Q ⟨Z, Δ, S, F, P, R, k, hw, hx, hq⟩ => ⟨Z, Δ, S, F, _, R, k, hw, hx, fun v d S1 F1 H1 k1 e1 p1 r1 ⟨a, ds, hc, hs, hp⟩ => by
    subst hc
    cases r1
    obtain ⟨F2, f1, f2, f3, _⟩ := k1.obShare hs
    exact hq _ _ _ F2 H1 f2 (e1.trans f1) (fun z => nomatch z) f3 hp⟩
end
end DL
namespace DL
open PySem L2
theorem _root_.L2.Room.u65 {k : Nat} {A : Around} (r : Room k A) : A.units + 65 < cLine := by have := r.un; omega
end DL
namespace DL
open PySem PySem.Spec PyProof.Rows L2
/-- xs + ys, a new list -/
def dCat : D → D → Option D
  | .lst a, .lst b => if a.length + b.length ≤ LINE then some (.lst (a ++ b)) else none
  | _, _ => none
section
variable {X : Cx} {b : Bool} {O : List Nat} {E : XK} {a c : Expr} {wa wb : WE} {pos : Pos}
theorem dn_cat (ha : DB X b O E a wa) (hb : DB X b O E c wb) : DN X b O E (.BinOp a .Add c pos) (eBin dCat wa wb) :=
  pe_to (pe_op op_cat ha hb) fun σ H Q ⟨Z, Δ, S, F, P, R, k, hw, hx, hq⟩ => ⟨Z, Δ, S, F, _, R, k, hw, hx, fun v d S1 F1 H1 k1 e1 p1 r1 h1 => ⟨Z, Δ, S1, F1, _, R, k1, h1, hx.mono e1, fun u c S2 F2 H2 k2 e2 p2 r2 ⟨z, hz, hp⟩ => by
    unfold dCat at hz
    split at hz
    · obtain ⟨hl, rfl⟩ := ite_some hz
      obtain ⟨p, vs, rfl, hp', rv⟩ := ((r1.mono e2).see k2).lst k2.fH
      obtain ⟨q, us, rfl, hq', ru⟩ := (r2.see k2).lst k2.fH
      refine ⟨p, q, vs, us, rfl, rfl, hp', hq', LINE_le (by rw [rv.len, ru.len]; exact hl), fun t nt => ?_⟩
      obtain ⟨k3, f1, f2, f3, f4⟩ := new_cell k2 nt (.lst (vs ++ us))
      have pp := pure2 p1 p2
      exact hq (.ref t) _ S2 F2 _ k3 (e1.trans e2) (pureA pp ⟨Ex.refl _, Ex.new nt, k3.fH, fun _ _ q => .inl q⟩) ⟨t, _, rfl, upd_same, .lst (rv.app ru), f1, f2, f3, f4⟩ (fun y z hz => by cases hz; exact (pp y).2.h.none nt) hp
    · cases hz⟩⟩
end
end DL

/-! DR21: calls without arguments; tests on objects. -/
namespace DL
open PySem PySem.Spec PyProof.Rows L2
def dNotInD (x y : D) : Option D := match y with
  | .lst ys => if shD x = true ∧ shD (.lst ys) = true then some (.bl (!ys.any fun z => PyData.eqv (toPy z) (toPy x))) else none
  | _ => none
theorem s_notInD {K : PySem.W.Frag} : OpS K dNotInD (rNotInD K) := fun F H x y d1 d2 z Q ex r1 r2 hz hq => by
  unfold dNotInD at hz
  split at hz
  · rename_i ys
    obtain ⟨⟨h1, h2⟩, rfl⟩ := ite_some hz
    have hd := r2.dp ex h2
    rw [toPy] at hd
    refine ⟨toPy d1, toPyAll ys, r1.dp ex h1, hd, h1, by rw [← toPy]; exact h2, ?_⟩
    rw [toPyAll_any]
    exact hq _ F H (Al.refl ex) (.bl _)
  · cases hz
section
variable {X : Cx} {CX : CXT} {k : Nat} {f C : Addr} {fd : FuncData} {ps : List Str} {sp : Sp} {dvs : List V} {ds : List Value} {dd : List D} {E : XK} {x m : Str} {p pos apos : Pos} {e o : Expr} {es : List Expr} {ta : TE} {t : TA} {b own : Bool} {O : List Nat} {fn : Fn} {we wo : WE}
theorem pe_callG0 (F : FnG X.prog X.w X.K X.mg X.base CX k f fd ps sp) (hgu : X.A.guards = some []) (hr : Room k X.A) (hg : Gl X x) (hm : X.mg x = some (.ref f)) (hk : PySem.W.keepIn X.K (.ref f) = true) (hb : Binds X.K fd ps ds) (hd : Vals dvs ds) (hx : Passes CX X E)
    (hdb : (x == ("__debug__" : Str)) = false := by decide) : PE X (.Call (.Name x p) [] [] pos) (tCall sp dvs E tNil) :=
  ⟨fun pins s σ H Q I h => wpAny_Call_Name_kw (ld_glob I hg hm (PySem.W.callWith_K0 I.kIn hk (run_fnG (us := []) F hgu hr hb hd hx I .nil h)) hdb)⟩
theorem pe_cal0 (C : CalG X.prog X.w X.K X.mg X.base CX k x sp dvs dd) (hgu : X.A.guards = some []) (hr : Room k X.A) (hg : Gl X x) (hx : Passes CX X E) (hdb : (x == ("__debug__" : Str)) = false := by decide) :
    PE X (.Call (.Name x p) [] [] pos) (tCall sp dvs E (rdA X.K X.mg b O E aNil)) := by
  obtain ⟨f, fd, ps, ds, h1, h2, h3, h4, h5⟩ := C.ex
  exact pe_to (pe_callG0 h1 hgu hr hg h2 h3 h4 h5 hx hdb) fun σ H Q ⟨Z, Δ, S, F, P, R, kk, hw, hxx, hq⟩ => hq [] [] S F H kk (Ex.refl _) (fun _ => ⟨rfl, Al.refl kk.fH⟩) .nil hw
theorem ce_call0 (C : CalG X.prog X.w X.K X.mg X.base CX k x (spW X.K X.mg false fn) dvs dd) (hgu : X.A.guards = some []) (hr : Room k X.A) (hg : Gl X x) (hx : Passes CX X E) (hdb : (x == ("__debug__" : Str)) = false := by decide) :
    DE X false O E (.Call (.Name x p) [] [] pos) (eCall fn (aDef aNil dd)) := de_call C.rep (pe_cal0 C hgu hr hg hx hdb)
theorem cn_call0 (C : CalG X.prog X.w X.K X.mg X.base CX k x (spW X.K X.mg true fn) dvs dd) (hgu : X.A.guards = some []) (hr : Room k X.A) (hg : Gl X x) (hx : Passes CX X E) (hdb : (x == ("__debug__" : Str)) = false := by decide) :
    DN X false O E (.Call (.Name x p) [] [] pos) (eCall fn (aDef aNil dd)) := dn_call C.rep (pe_cal0 C hgu hr hg hx hdb)
theorem ce_callP0 (C : CalG X.prog X.w X.K X.mg X.base CX k x (spW X.K X.mg false fn) dvs dd) (hgu : X.A.guards = some []) (hr : Room k X.A) (hg : Gl X x) (hx : Passes CX X E) (hdb : (x == ("__debug__" : Str)) = false := by decide) :
    DE X b O E (.Call (.Name x p) [] [] pos) (eCallP fn (aDef aNil dd)) := de_callP C.rep (pe_cal0 C hgu hr hg hx hdb)
theorem cn_callP0 (C : CalG X.prog X.w X.K X.mg X.base CX k x (spW X.K X.mg true fn) dvs dd) (hgu : X.A.guards = some []) (hr : Room k X.A) (hg : Gl X x) (hx : Passes CX X E) (hdb : (x == ("__debug__" : Str)) = false := by decide) :
    DN X b O E (.Call (.Name x p) [] [] pos) (eCallP fn (aDef aNil dd)) := dn_callP C.rep (pe_cal0 C hgu hr hg hx hdb)
theorem dt_objR {op : CmpOp} {f : D → D → Option D} {r : R2} (ho : OpR X (compareOp op) r) (hr : OpS X.K f r) (ha : DB X b O E e we) (hb : DE X b O E o wo) (hm : behindInMarks op o = false) : DT X b O E (.Compare e [op] [o] pos) (tE (eObjR f we wo)) :=
  pt_to (pt_cmpR ho ha hb hm) fun σ H Q ⟨Z, Δ, S, F, P, R, k, hw, hx, hq⟩ => ⟨Z, Δ, S, F, _, R, k, hw, hx, fun v d S1 F1 H1 k1 e1 p1 r1 h1 => ⟨Z, Δ, S1, F1, _, R, k1, h1, hx.mono e1, fun u c S2 F2 H2 k2 e2 p2 r2 ⟨a, ds, z, hc, hs, hz, q, hzq, hp⟩ => by
    subst hc hzq
    cases r2
    refine hr F2 H2 v _ d (.lst ds) (.bl q) _ k2.fH ((r1.mono e2).see k2) (obj_see k2 hs) hz fun v' F3 H3 al r3 => ?_
    cases r3
    exact ⟨q, rfl, hq q S2 F3 H3 (k2.al al) (e1.trans (e2.trans al.f)) (pureA (pure2 p1 p2) al) hp⟩⟩⟩
theorem dt_objL {op : CmpOp} {f : D → D → Option D} {r : R2} (ho : OpR X (compareOp op) r) (hr : OpS X.K f r) (ha : DE X b O E o wo) (hb : DB X b O E e we) (hm : behindInMarks op e = false) : DT X b O E (.Compare o [op] [e] pos) (tE (eObjL f wo we)) :=
  pt_to (pt_cmpR ho ha hb hm) fun σ H Q ⟨Z, Δ, S, F, P, R, k, hw, hx, hq⟩ => ⟨Z, Δ, S, F, _, R, k, hw, hx, fun v d S1 F1 H1 k1 e1 p1 r1 h1 => ⟨Z, Δ, S1, F1, _, R, k1, h1, hx.mono e1, fun u c S2 F2 H2 k2 e2 p2 r2 ⟨a, ds, z, hc, hs, hz, q, hzq, hp⟩ => by
    subst hc hzq
    cases r1
    refine hr F2 H2 _ u (.lst ds) c (.bl q) _ k2.fH (obj_see k2 hs) (r2.see k2) hz fun v' F3 H3 al r3 => ?_
    cases r3
    exact ⟨q, rfl, hq q S2 F3 H3 (k2.al al) (e1.trans (e2.trans al.f)) (pureA (pure2 p1 p2) al) hp⟩⟩⟩
end
end DL
namespace DL
open PySem PySem.Spec PyProof.Rows L2
section
variable {X : Cx} {K : PySem.W.Frag}
def dNotInT (x y : D) : Option D := match y with
  | .tup ys => (strsOf ys).bind fun zs => if anyK x = true then some (.bl (!zs.any fun z => isT z x)) else none
  | _ => none
def rNotInT (K : PySem.W.Frag) : R2 := fun x y H Q => ∃ p, ∃ zs : List Str, y = .ref p ∧ SqT K H p (zs.map V.str) ∧
  ∃ a, x = .ref a ∧ ((∃ xs, SqL K H a xs) ∨ (∃ xs, SqT K H a xs) ∨ ∃ kvs, H a = some (.dK kvs)) ∧ Q (.bl true) H
theorem op_notInTs (hu : X.A.units + 70 < cLine) : OpR X (compareOp .NotIn) (rNotInT X.K) := by
  intro pins s σ H x y v u Q I rx ry h
  obtain ⟨p, zs, rfl, hq, a, rfl, ha, q⟩ := h
  cases ry
  cases rx
  obtain ⟨its, r, pl, hz⟩ := I.tuple hq
  have h1 : X.A.in1.units < cLine := by show X.A.units + 1 < cLine; omega
  refine SeqAt.notIn_tupleAt (fun _ => false) pl (fun w hw => ?_) ⟨.bl _, H, I, rfl, ?_⟩
  · obtain ⟨z, t, rfl⟩ := vals_str r w (by simpa using hw)
    rcases ha with ⟨xs, ha⟩ | ⟨xs, ha⟩ | ⟨kvs, ha⟩
    · obtain ⟨it2, _, pl2, _⟩ := I.list ha
      exact SeqAt.EqAt.str_list z t pl2.isList h1
    · obtain ⟨it2, _, pl2, _⟩ := I.tuple ha
      exact SeqAt.EqAt.str_tuple z t pl2 h1
    · exact EqAt.str_dict z t (isDct_of I ha).1 h1
  · rw [show its.toArray.any (fun _ => false) = false by simp]
    exact q
def rNotInA (K : PySem.W.Frag) : R2 := fun x y H Q => rIn K true x y H Q ∨ rNotInT K x y H Q
theorem op_notInT (hu : X.A.units + 70 < cLine) : OpR X (compareOp .NotIn) (rNotInA X.K) := op_notIn_seq.or (op_notInTs hu)
theorem s_notInT : OpS K dNotInT (rNotInA K) := fun F H x y d1 d2 z Q ex r1 r2 hz hq => by
  unfold dNotInT at hz
  split at hz
  · rename_i ys
    cases hs : strsOf ys with
    | none => rw [hs] at hz; cases hz
    | some zs =>
      rw [hs] at hz
      obtain ⟨hc, rfl⟩ := ite_some (show (if anyK d1 = true then some (D.bl (!zs.any fun z => isT z d1)) else none) = some z from hz)
      obtain ⟨p, vs, rfl, hp, rr⟩ := r2.tup ex
      have hv := strs_see rr hs
      subst hv
      have hqq := hq _ F H (Al.refl ex) (.bl _)
      have flat : ∀ (v : V) (d : D), flatV v = true → (∀ z, eqV (.str z) v = isT z d) → Q (.bl (!zs.any fun z => isT z d)) H → rNotInA K v (.ref p) H Q := fun v d hf he q =>
        .inl ⟨p, _, rfl, .inr hp, hf, flat_strs zs, by rw [inV_strs v d zs he]; exact q⟩
      have box : isBox d1 = true → rNotInA K x (.ref p) H Q := fun hb => by
        obtain ⟨a, rfl, ha⟩ := box_see ex r1 hb
        have e : (!zs.any fun z => isT z d1) = true := by
          have e2 : (zs.any fun z => isT z d1) = false := by
            cases d1 <;> first | (cases hb; done) | simp [isT]
          rw [e2]; rfl
        rw [e] at hqq
        exact .inr ⟨p, zs, rfl, hp, a, rfl, ha, hqq⟩
      cases d1 with
      | non => rw [r1.non]; exact flat _ .non rfl (fun z => rfl) hqq
      | bl b => rw [r1.bl]; exact flat _ (.bl b) rfl (fun z => rfl) hqq
      | int i => rw [r1.int]; exact flat _ (.int i) rfl (fun z => rfl) hqq
      | str w =>
        rw [r1.str]
        refine flat _ (.str w) rfl (fun z => ?_) hqq
        show eqV (.str z) (.str w) = decide (z = w)
        unfold eqV
        first | rfl | simp
      | lst xs => exact box rfl
      | tup xs => exact box rfl
      | scr ns => exact box rfl
      | dct kvs => exact box rfl
      | _ => cases hc
  · cases hz
end
end DL
namespace DL
open PySem PySem.Spec PyProof.Rows L2
def dNotInKT : D → D → Option D
  | k, .dcT kvs => (keyT k).map fun k => .bl (!(getT kvs k).isSome)
  | _, _ => none
section
variable {X : Cx} {b : Bool} {O : List Nat} {E : XK} {a c : Expr} {wa wb : WE} {pos : Pos}
theorem rd_dnotinT : ∀ σ H Q, rdE X.K X.mg b O E (eBin dNotInKT wa wb) σ H Q → tDNotIn (rdE X.K X.mg b O E wa) (rdB X.K X.mg b O E wb) σ H Q :=
  fun σ H Q ⟨Z, Δ, S, F, P, R, k, hw, hx, hq⟩ => ⟨Z, Δ, S, F, _, R, k, hw, hx, fun v d S1 F1 H1 k1 e1 p1 r1 h1 => ⟨Z, Δ, S1, F1, _, R, k1, h1, hx.mono e1, fun y dy S2 F2 H2 k2 e2 p2 r2 ⟨z, hz, hp⟩ => by
    unfold dNotInKT at hz
    split at hz
    · obtain ⟨key, hk, rfl⟩ := Option.map_eq_some_iff.mp hz
      obtain ⟨p', ov, rfl, hget, hres⟩ := dgetT_see k2.fH (r2.see k2) (.rep (r1.mono e2)) hk
      refine ⟨p', ov, rfl, hget, hq _ _ S2 F2 H2 k2 (e1.trans e2) (pure2 p1 p2) ?_ hp⟩
      rcases hres with ⟨u, d, rfl, h, r⟩ | ⟨rfl, h⟩
      · rw [h]; exact .bl _
      · rw [h]; exact .bl _
    · cases hz⟩⟩
theorem de_dnotinT (hu : X.A.units + 1 < cLine) (ha : DE X b O E a wa) (ho : DB X b O E c wb) (hm : behindInMarks .NotIn c = false := by rfl) : DE X b O E (.Compare a [.NotIn] [c] pos) (eBin dNotInKT wa wb) := pe_to (pe_cmp (pc_dnotin hu ha ho) hm) rd_dnotinT
theorem dt_dnotinT (hu : X.A.units + 1 < cLine) (ha : DE X b O E a wa) (ho : DB X b O E c wb) (hm : behindInMarks .NotIn c = false := by rfl) : DT X b O E (.Compare a [.NotIn] [c] pos) (tE (eBin dNotInKT wa wb)) := pt_to (pt_cmp (pc_dnotin hu ha ho) hm) fun σ H Q ⟨Z, Δ, S, F, P, R, k, hw, hx, hq⟩ => rd_dnotinT σ H _ ⟨Z, Δ, S, F, _, R, k, hw, hx, fun v d S1 F1 H1 k1 e1 p1 r1 ⟨q, hd, h⟩ => by
    subst hd
    cases r1
    exact ⟨q, rfl, hq q S1 F1 H1 k1 e1 p1 h⟩⟩
end
end DL

/-! DR22: list(range(n)). -/
namespace DL
open PySem PySem.Spec PyProof.Rows L2
def eLstRg (wa : WE) : WE := fun Δ S P R => wa Δ S (fun x S1 => ∃ j, x = .int j ∧ 0 ≤ j ∧ j ≤ 16777216 ∧ P (.lst (rngD 0 j.toNat)) S1) R
theorem reps_rg {K : PySem.W.Frag} {F : Hp} : ∀ l : List Nat, Reps K F (l.map fun i => V.int (0 + (i : Nat))) (l.map fun i => D.int (0 + (i : Nat)))
  | [] => .nil
  | i :: l => .cons (.int _) (reps_rg l)
section
variable {X : Cx} {b : Bool} {O : List Nat} {E : XK} {a : Expr} {wa : WE} {pos pos2 p p2 : Pos}
theorem dn_lstRg (hc : X.calm = true) (hgl : Gl X "list") (hml : X.mg "list" = none) (hgr : Gl X "range") (hmr : X.mg "range" = none) (ha : DE X b O E a wa) (na : starEach [a] X.env = (false, eval a X.env) :: starEach [] X.env := by rfl)
    (na2 : starEach [.Call (.Name "range" p2) [a] [] pos2] X.env = (false, eval (.Call (.Name "range" p2) [a] [] pos2) X.env) :: starEach [] X.env := by rfl) :
    DN X b O E (.Call (.Name "list" p) [.Call (.Name "range" p2) [a] [] pos2] [] pos) (eLstRg wa) :=
  pe_to (pe_listRg hc hgl hml (prg_1 hgr hmr ha na) na2) fun σ H Q ⟨Z, Δ, S, F, P, R, k, hw, hx, hq⟩ => ⟨Z, Δ, S, F, _, R, k, hw, hx, fun v d S1 F1 H1 k1 e1 p1 r1 ⟨j, hj, h0, h1, hp⟩ => by
    subst hj
    cases r1
    refine ⟨j, rfl, RgOk.of_le (by decide) h1 (by decide) h0, fun q nq => ?_⟩
    obtain ⟨k2, f1, f2, f3, f4⟩ := new_cell k1 nq (.lst (rgV 0 j))
    have e : (j - 0).toNat = j.toNat := by rw [Int.sub_zero]
    have rr : Reps X.K F1 (rgV 0 j) (rngD 0 j.toNat) := by
      unfold rgV rngD
      rw [e]
      exact reps_rg _
    exact hq (.ref q) (.lst (rngD 0 j.toNat)) S1 F1 _ k2 e1 (pureA p1 ⟨Ex.refl _, Ex.new nq, k2.fH, fun _ _ z => .inl z⟩) ⟨q, _, rfl, upd_same, .lst rr, f1, f2, f3, f4⟩ (fun y z hz => by cases hz; exact (p1 y).2.h.none nq) hp⟩
end
end DL

/-! DR23: a, b = {}, {} with both owned. -/
namespace DL
open PySem PySem.Spec PyProof.Rows L2
def gPar0 (i j : Nat) : WS := fun Δ S B R => B.nx ((Δ.set i (some (.dct []))).set j (some (.dct []))) S
section
variable {X : Cx} {O L : List Nat} {E : XK} {own : Bool} {st : Stmt} {p1 p2 : Pos}
theorem ds_par0 {i j : Nat} (hi : i ∈ O) (hj : j ∈ O) (hp : ∀ {ta}, PA X [.Dict [] [] p1, .Dict [] [] p2] ta → PS X st (tPar i j ta)) : DS X O O L E own st (gPar0 i j) :=
  ps_to (hp (pa_cons pe_dnewK (pa_cons pe_dnewK pa_nil))) fun D σ H ⟨Z, Δ, S, F, B, R, k, hg, er⟩ => fun p np => fun q nq => by
    obtain ⟨k1, f1, f2, f3, f4⟩ := new_cell k np (.dK [])
    have k1o := k1.own hi upd_same (.dct .nil) f1 f2 f3 f4
    obtain ⟨k2, g1, g2, g3, g4⟩ := new_cell k1o nq (.dK [])
    have k2o := k2.own hj upd_same (.dct .nil) g1 g2 g3 g4
    exact ⟨_, _, rfl, er.nx _ _ S F _ k2o (Ex.refl _) hg⟩
end
end DL

/-! DR24: a set filled from a list, by what each step keeps. -/
namespace DL
open PySem PySem.Spec PyProof.Rows
section
variable {pg : Program} {wd : World} {Ar : Around} {Rs : Result → Shared → Prop} {it : Addr} {used moved : List Addr} {Gs : Array GenState → Array GenState → Prop} {len : Nat} {Item : Nat → Value → Prop} {Now : Nat → Shared → Prop}
/-- J i: what the set at c holds after i items -/
structure Fills (pg : Program) (wd : World) (c : Addr) (len : Nat) (Item : Nat → Value → Prop) (J : Nat → Heap → Prop) : Prop where
  carry : ∀ {i : Nat} {h g : Heap}, (∀ o, h.get? c = some o → g.get? c = some o) → J i h → J i g
  put : ∀ {i : Nat} {v : Value} {B : Around} {E : Value → Shared → Prop} {s : Shared} {Q : Bool → Shared → Prop}, i < len → Item i v → J i s.heap →
    (∀ b g tk, s.toks ≤ tk → Heap.SameBut c s.heap g → J (i + 1) g → Q b { s with heap := g, toks := tk }) → wpAny (model pg wd) B (setAdd c v) Q E s
theorem fill_loop (Wk : WalksS pg wd Ar.in1 it used moved Gs len Item Now) {c : Addr} (out : c ∉ used) {J : Nat → Heap → Prop} (Fl : Fills pg wd c len Item J) :
    ∀ (left i : Nat) (s : Shared), len - i = left → i ≤ len → Now i s → J i s.heap → (∀ z, Moved (c :: moved) Gs s z → J len z.heap → Rs (.ok (.ret .none)) z) →
      codeAny (model pg wd) Ar (.builtin "set.update.loop" ⟨[.ref c, .ref it], []⟩) Rs s
  | left, i, s, hleft, hi, now, hold, fin => by
    have cm : c ∉ moved := fun z => out (Wk.sub _ z)
    have wider : ∀ b ∈ moved, b ∈ c :: moved := fun b q => List.mem_cons_of_mem _ q
    refine codeAny_builtin PyProof.Rows.F.entry_set_update_loop ?_
    rw [Around.under_plainId PyProof.Rows.F.plain_set_update_loop _]
    show wpAny _ Ar.in1 (pyNext (.ref it) >>= _) _ _ s
    match left, hleft with
    | 0, hleft =>
      obtain rfl : i = len := by omega
      refine wpAny_bind (Wk.done s _ _ now fun z mv => ?_)
      show wpAny _ Ar.in1 (ret Value.none) _ _ z
      exact wpAny_pure (fin z (mv.mono wider) (Fl.carry (fun o q => mv.heap c o cm q) hold))
    | left + 1, hleft =>
      have lt : i < len := by omega
      refine wpAny_bind (Wk.item i s _ _ lt now fun v z isItem nxt mv => ?_)
      show wpAny _ Ar.in1 (holding [v] (setAdd c v) >>= _) _ _ z
      refine wpAny_bind (wpAny_holding (Fl.put lt isItem (Fl.carry (fun o q => mv.heap c o cm q) hold) fun b g tk le sb held => ?_))
      refine wpAny_pure ⟨plainId_quiet PyProof.Rows.F.plain_set_update_loop _, fill_loop Wk out Fl left (i + 1) _ (by omega) lt (Wk.frame _ z _ _ nxt le fun a inu o q => ?_) held fun y mv2 all => ?_⟩
      · rw [sb.2 a fun e => out (by rw [← e]; exact inu)]; exact q
      · refine fin y (Moved.trans Wk.gtrans ((mv.mono wider).then_heap le fun a o na q => ?_) mv2) all
        rw [sb.2 a fun e => na (by rw [e]; exact List.mem_cons_self)]; exact q
end
section
variable {pg : Program} {wd : World} {Ar : Around} {E : Value → Shared → Prop} {s : Shared}
/-- the set that set.__new__ lays -/
abbrev bareSet (led : Bool) : Obj := { cls := .type "set", dict := none, data := .set #[] 0 (.fresh 0 0 led) }
theorem new_set_led (x : Value) {Q₁ : Value → Shared → Prop} (h : Q₁ (.ref s.heap.objs.size) { s with heap := s.heap.push (bareSet (!wd.params.followText "set-order")) }) :
    codeAny (model pg wd) Ar (.call (.builtin "set.__new__") ⟨[.type "set", x], []⟩) (wants Q₁ E) s := by
  refine codeAny_of_tree ?_
  show wpAny _ Ar.in1 (do checkBuiltinCall "set.__new__" ⟨[.type "set", x], []⟩; again (.builtin "set.__new__" ⟨[.type "set", x], []⟩)) _ _ s
  refine wpAny_bind (wpAny_of_eq (PySem.F.newCall_set_1 x) (wpAny_pure ⟨plainId_quiet PySem.F.plain_set_new _, codeAny_builtin PySem.F.entry_set_new ?_⟩))
  rw [Around.under_plainId PySem.F.plain_set_new _]
  unfold Builtin.«set.__new__» Builtin.Frozenset.newClass
  have self := sub_set_self
  obtain ⟨hp, gn, dr, tk, os⟩ := s
  dsimp only
  wp_walk
  refine wpAny_askSetting (wpAny_pure ?_)
  dsimp only
  simp only [newObj]
  refine wpAny_bind (wpAny_alloc (wpAny_pure ?_))
  exact wpAny_pure h
theorem call_set_fill {l : Addr} {us : Array Value} {J : Nat → Heap → Prop} {Q : Value → Shared → Prop} (calm : Ar.handled = none) (isl : s.heap.IsList l us)
    (Fl : Fills pg wd s.heap.objs.size us.size (fun i v => us[i]? = some v) J) (start : ∀ h, h.get? s.heap.objs.size = some (bareSet (!wd.params.followText "set-order")) → J 0 h)
    (q : ∀ g tk, J us.size g → (∀ b o, b < s.heap.objs.size → s.heap.get? b = some o → g.get? b = some o) → Q (.ref s.heap.objs.size) { s with heap := g, toks := tk }) :
    wpAny (model pg wd) Ar (call (.type "set") [.ref l]) Q E s := by
  have fS := PySem.F.called_set
  obtain ⟨_, _, mro⟩ := fS.mro
  have f1 := fS.made
  have f2 := fS.sub
  have f3 := fS.notType
  have f4 := fS.canCreate
  have f5 := PySem.F.typeCall_set_1 (.ref l)
  refine wpAny_call (codeAny_of_tree ?_)
  show wpAny _ _ (callAny (.type "set") _) _ _ _
  refine wpAny_pure ⟨Code.quiet_builtin _ (by decide +kernel), codeAny_builtin PySem.F.entry_type_call ?_⟩
  rw [Around.under_plain (weight_type_call_type "set" [.ref l] []) rfl]
  repeat (any_goals (first | assumption | wp_step))
  refine codeAny_mono (new_set_led (.ref l) (E := E) (Q₁ := fun x z => ∃ led, led = (!wd.params.followText "set-order") ∧ x = .ref s.heap.objs.size ∧ z = { s with heap := s.heap.push (bareSet led) }) ⟨_, rfl, rfl, rfl⟩) fun r z hr => ?_
  match r, hr with
  | .error e, hr => exact hr
  | .ok .next, hr => exact hr.elim
  | .ok .brk, hr => exact hr.elim
  | .ok .cont, hr => exact hr.elim
  | .ok (.ret x), hr =>
    obtain ⟨led, hled, rfl, rfl⟩ := hr
    have laid : (s.heap.push (bareSet led)).get? s.heap.objs.size = some (bareSet led) := Heap.get?_push_size _ rfl
    have ty : Shared.TypeIs { s with heap := s.heap.push (bareSet led) } (.ref s.heap.objs.size) "set" := ⟨_, laid, rfl⟩
    have i1 := fS.init.lookup
    have i2 := fS.init.bind (.ref s.heap.objs.size)
    repeat (any_goals (first | assumption | wp_step))
    refine codeAny_mono (codeAny_call_builtin (R := wants (fun y z => y = .none ∧ ∃ g tk, z = { s with heap := g, toks := tk } ∧ J us.size g ∧ (∀ b o, b < s.heap.objs.size → s.heap.get? b = some o → g.get? b = some o)) E)
      fS.init.plain PySem.F.entry_set_init (check_set_init_1 ty ?_)) fun r2 z2 hr2 => ?_
    · have below : l < s.heap.objs.size := by
        obtain ⟨ol, hol, _⟩ := isl
        exact Heap.lt_size hol
      obtain ⟨⟨oc, od, odat, osl⟩, hol, hc, nl, hd⟩ := isl
      simp only at hc hd
      subst hc hd
      have up : (s.heap.push (bareSet led)).get? l = some { cls := .type "list", dict := od, data := .seq us nl, slots := osl } := Heap.get?_push_of_some _ hol
      have n1 := PySem.F.sub_list_set
      have n2 := PySem.F.sub_list_frozenset
      have n3 : (Value.type "list" == Value.type "dict") = false := by decide
      have isl2 : (s.heap.push (bareSet led)).IsList l us := ⟨_, up, rfl, nl, rfl⟩
      unfold Builtin.«set.__init__» noKeywords Builtin.Frozenset.updateFrom
      generalize eI : pyIter = PI
      wp_walk
      subst eI
      refine wpAny_pyIter_list isl2 (wpAny_bind (wpAny_runValue ?_))
      have away : l ≠ (s.heap.push (bareSet led)).objs.size := by
        rw [Heap.size_push]
        exact Nat.ne_of_lt (Nat.lt_succ_of_lt below)
      have apart : s.heap.objs.size ∉ [(s.heap.push (bareSet led)).objs.size, l] := by
        rw [Heap.size_push]
        simp only [List.mem_cons, List.not_mem_nil, or_false, not_or]
        exact ⟨Nat.ne_of_lt (Nat.lt_succ_self _), Nat.ne_of_gt below⟩
      refine fill_loop ((Walks.list (by simp [calm]) _ l away us).toS) apart Fl (us.size - 0) 0 _ rfl (Nat.zero_le _) ⟨⟨_, Heap.get?_push_size _ rfl, rfl, rfl⟩, isl2.push _⟩ (start _ (by rw [← hled]; exact Heap.get?_push_of_some _ laid)) fun z mv all => ?_
      obtain ⟨g, gn, dr, tk, o⟩ := z
      obtain rfl : gn = s.gens := mv.gens
      obtain rfl : dr = s.drawn := mv.drawn
      obtain rfl : o = s.os := mv.os
      show wpAny _ _ _ _ _ _
      refine wpAny_pure ?_
      show wpAny _ _ (ret Value.none) _ _ _
      refine wpAny_pure ⟨rfl, g, tk, rfl, all, fun b u below_b e => mv.heap b u ?_ (Heap.get?_push_of_some _ (Heap.get?_push_of_some _ e))⟩
      rw [Heap.size_push]
      simp only [List.mem_cons, List.not_mem_nil, or_false, not_or]
      exact ⟨Nat.ne_of_lt below_b, Nat.ne_of_lt (Nat.lt_succ_of_lt below_b)⟩
    · match r2, hr2 with
      | .error e, hr2 => exact hr2
      | .ok .next, hr2 => exact hr2.elim
      | .ok .brk, hr2 => exact hr2.elim
      | .ok .cont, hr2 => exact hr2.elim
      | .ok (.ret y), hr2 =>
        obtain ⟨rfl, g, tk, rfl, all, keeps⟩ := hr2
        repeat (any_goals (first | assumption | wp_step))
        exact q _ _ all keeps
end
end DL

/-! DR25: len(set(xs)), xs texts. -/
namespace DL
open PySem PySem.Spec PyProof.Rows L2
def stepS (acc : List Str) (x : Str) : List Str := if acc.any (· == x) = true then acc else acc ++ [x]
def dedupS (xs : List Str) : List Str := xs.foldl stepS []
theorem stepS_any (acc : List Str) (x k : Str) : (stepS acc x).any (· == k) = (acc.any (· == k) || decide (k = x)) := by
  unfold stepS
  by_cases h : acc.any (· == x) = true
  · rw [if_pos h]
    by_cases e : k = x
    · subst e; rw [h]; simp
    · simp [e]
  · rw [if_neg h, List.any_append, Bool.eq_iff_iff]
    simp only [Bool.or_eq_true, List.any_cons, List.any_nil, Bool.or_false, beq_iff_eq, decide_eq_true_eq]
    exact ⟨fun z => z.imp id fun e => e.symm, fun z => z.imp id fun e => e.symm⟩
theorem stepS_len (acc : List Str) (x : Str) : (stepS acc x).length = if acc.any (· == x) = true then acc.length else acc.length + 1 := by
  unfold stepS
  split
  · rfl
  · rw [List.length_append]; rfl
theorem dedupS_len : ∀ (xs : List Str) (acc : List Str), (xs.foldl stepS acc).length ≤ acc.length + xs.length
  | [], acc => Nat.le_refl _
  | x :: xs, acc => by
    have h1 := dedupS_len xs (stepS acc x)
    have h2 := stepS_len acc x
    rw [List.foldl_cons, List.length_cons]
    split at h2 <;> omega
theorem dedupS_take {xs : List Str} {i : Nat} (h : i < xs.length) : dedupS (xs.take (i + 1)) = stepS (dedupS (xs.take i)) xs[i] := by
  unfold dedupS
  rw [List.take_succ, List.getElem?_eq_getElem h, List.foldl_append]
  rfl
theorem fills_str {pg : Program} {wd : World} {c : Addr} {xs : List Str} {us : Array Value} (h : StrsAre us.toList xs) (hl : xs.length = us.size) (hb : us.size + 1 < scanBound) :
    Fills pg wd c us.size (fun i v => us[i]? = some v) (fun i g => g.SetOf (PySem.strKind pg wd) c (fun k => (dedupS (xs.take i)).any (· == k)) (dedupS (xs.take i)).length) where
  carry := fun e ⟨o, es, ep, t, ho, r⟩ => ⟨o, es, ep, t, e o ho, r⟩
  put := fun {i v B E s Q} lt hv hold q => by
    obtain ⟨t, rfl⟩ := SS.strs_at h i v (by rw [Array.getElem?_toList]; exact hv)
    have lt2 : i < xs.length := by omega
    have e : xs.getD i Str.empty = xs[i] := by rw [List.getD_eq_getElem?_getD, List.getElem?_eq_getElem lt2]; rfl
    rw [e]
    have room : (dedupS (xs.take i)).length + 1 < scanBound := by
      have := dedupS_len (xs.take i) []
      rw [List.length_take] at this
      unfold dedupS
      simp at this
      omega
    unfold setAdd
    refine wpAny_holding (wpAny_bind ((PySem.strKind pg wd).pyHash (k := xs[i]) (strKind_is _ _ _ _) ?_))
    refine wpAny_setAddHashed_of (knd := PySem.strKind pg wd) (s := { s with toks := s.toks + 1 }) (strKind_is _ _ _ _) rfl hold room fun g sb got => ?_
    refine q _ g (s.toks + 1) (Nat.le_succ _) sb (SetOf_congr got (fun k => ?_) ?_)
    · rw [dedupS_take lt2, stepS_any]
    · rw [dedupS_take lt2, stepS_len]
/-- len(set(x)), ints or texts -/
def dLenSetX (d : D) : Option D := match d with
  | .lst xs => (strsOf xs).bind fun ss => if ss.length + 1 < 4096 then some (.int ((dedupS ss).length : Nat)) else none
  | _ => none
section
variable {X : Cx} {b : Bool} {O : List Nat} {E : XK} {a : Expr} {w : WE} {p p2 q pos : Pos}
def tLenSetS (K : PySem.W.Frag) (ta : TE) : TE := fun σ H Q => ta σ H fun x H1 => ∃ l, ∃ xs : List Str, x = .ref l ∧ SqL K H1 l (xs.map V.str) ∧ xs.length + 1 < 4096 ∧ Q (.int ((dedupS xs).length : Nat)) H1
theorem pe_lenSetS {ta : TE} (hg : Gl X "len") (hm : X.mg "len" = none) (hg2 : Gl X "set") (hm2 : X.mg "set" = none) (hc : X.calm = true) (ha : PE X a ta) (na : starEach [a] X.env = (false, eval a X.env) :: starEach [] X.env := by rfl) :
    PE X (.Call (.Name "len" p) [.Call (.Name "set" p2) [a] [] q] [] pos) (tLenSetS X.K ta) := by
  refine ⟨fun pins s σ H Q I h => Call_ (ld_blt I hg hm boot_len (callWith_builtin1 (args_cons ?_ rfl) rfl rfl))⟩
  refine Call_ (ld_blt I hg2 hm2 boot_set (callWith_type1 (args_cons (thn (ha.run pins s σ H _ I h) fun v s1 hh => args_nil ?_) na) na rfl))
  obtain ⟨x, H1, I1, r1, l, xs, rfl, hq, hl, q1⟩ := hh
  cases r1
  obtain ⟨its, r, pl, hz⟩ := I1.list hq
  have hlen : xs.length = its.toArray.size := by rw [List.size_toArray, ← r.length, List.length_map]
  refine call_set_fill (I1.ok.hd hc) pl.isList (fills_str (xs := xs) (by simpa using strsAre_of r) hlen (by rw [← hlen]; unfold scanBound; omega)) (fun g e => ?_) fun g tk all keeps => PyProof.Rows.args_nil ?_
  · exact PyProof.Rows.SetOf_congr ((PyProof.Rows.setObjOf_fresh (knd := PySem.strKind X.prog X.w) _).setOf e (by unfold scanBound; omega)) (fun _ => rfl) rfl
  · rw [← hlen, List.take_length] at all
    obtain ⟨o, es, ep, t, ho, hex, hd, _, _, _, hf, hn⟩ := all
    have I2 : Inv X pins σ H1 { s1 with heap := g, toks := tk } := I1.kept fun b o e => keeps b o (Heap.lt_size e) e
    have hle := dedupS_len xs []
    have hle2 : (dedupS xs).length ≤ xs.length := by unfold dedupS; simpa using hle
    exact call_len_set ho hex hd hf (by rw [hn] <;> omega) ⟨.int (dedupS xs).length, H1, I2.tok _, ⟨_, by rw [hn]⟩, q1⟩
theorem de_lenSetS (hg : Gl X "len") (hm : X.mg "len" = none) (hg2 : Gl X "set") (hm2 : X.mg "set" = none) (hc : X.calm = true) (ha : DB X b O E a w) (na : starEach [a] X.env = (false, eval a X.env) :: starEach [] X.env := by rfl) :
    DE X b O E (.Call (.Name "len" p) [.Call (.Name "set" p2) [a] [] q] [] pos) (eUn dLenSetX w) :=
  pe_to (pe_lenSetS hg hm hg2 hm2 hc ha na) fun σ H Q ⟨Z, Δ, S, F, P, R, k, hw, hx, hq⟩ => ⟨Z, Δ, S, F, _, R, k, hw, hx, fun v d S1 F1 H1 k1 e1 p1 r1 ⟨z, hd, h⟩ => by
    unfold dLenSetX at hd
    split at hd
    · obtain ⟨l, vs, rfl, hp, rv⟩ := (r1.see k1).lst k1.fH
      obtain ⟨ns, h1, h2⟩ := Option.bind_eq_some_iff.mp hd
      obtain ⟨hl, rfl⟩ := ite_some h2
      cases strs_see rv h1
      exact ⟨l, ns, rfl, .inl (.inl hp), hl, hq _ _ S1 F1 H1 k1 e1 p1 (.int _) h⟩
    · cases hd⟩
end
end DL

/-! DR26: sorted(set(xs)), xs ints. -/
namespace DL
open PySem PySem.Spec PyProof.Rows L2
theorem dedup_end (xs : List Int) (x : Int) : dedup (xs ++ [x]) = if (dedup xs).any (· == x) = true then dedup xs else dedup xs ++ [x] := by
  unfold dedup
  rw [List.foldl_append]
  rfl
theorem dedup_le : ∀ (xs acc : List Int), (xs.foldl (fun acc n => if acc.any (· == n) then acc else acc ++ [n]) acc).length ≤ acc.length + xs.length
  | [], acc => Nat.le_refl _
  | x :: xs, acc => by
    rw [List.foldl_cons, List.length_cons]
    have h := dedup_le xs (if acc.any (· == x) then acc else acc ++ [x])
    split at h
    · rename_i q; rw [if_pos q]; omega
    · rename_i q; rw [if_neg q]; rw [List.length_append, List.length_singleton] at h; omega
theorem dedup_has (xs : List Int) : ∀ k, (dedup xs).any (· == k) = decide (k ∈ xs) := by
  have key : ∀ (ys acc : List Int) (k : Int), (ys.foldl (fun acc n => if acc.any (· == n) then acc else acc ++ [n]) acc).any (· == k) = (acc.any (· == k) || decide (k ∈ ys)) := by
    intro ys
    induction ys with
    | nil => intro acc k; simp
    | cons y ys ih =>
      intro acc k
      rw [List.foldl_cons, ih]
      split
      · rename_i q
        rw [Bool.eq_iff_iff]
        simp only [Bool.or_eq_true, decide_eq_true_eq, List.mem_cons]
        constructor
        · rintro (h | h)
          · exact .inl h
          · exact .inr (.inr h)
        · rintro (h | rfl | h)
          · exact .inl h
          · exact .inl q
          · exact .inr h
      · rw [List.any_append, Bool.eq_iff_iff]
        simp only [Bool.or_eq_true, decide_eq_true_eq, List.mem_cons, List.any_cons, List.any_nil, Bool.or_false, beq_iff_eq]
        constructor
        · rintro ((h | h) | h)
          · exact .inl h
          · exact .inr (.inl h.symm)
          · exact .inr (.inr h)
        · rintro (h | h | h)
          · exact .inl (.inl h)
          · exact .inl (.inr h.symm)
          · exact .inr h
  intro k
  have := key xs [] k
  simpa [dedup] using this
theorem fills_int {pg : Program} {wd : World} {c : Addr} {ns : List Int} {us : Array Value} (h : IntsAre us.toList ns) (hl : ns.length = us.size) (hb : us.size + 1 < scanBound) :
    Fills pg wd c us.size (fun i v => us[i]? = some v) (fun i g => SetR wd g c (fun k => (dedup (ns.take i)).any (· == k)) (dedup (ns.take i)).length) where
  carry := fun e R => SetR.at R e
  put := fun {i v B E s Q} lt hv hold q => by
    obtain ⟨t, rfl⟩ := IntsAre.int_at h i v (by rw [Array.getElem?_toList]; exact hv)
    have lt2 : i < ns.length := by omega
    have e : ns.getD i 0 = ns[i] := by rw [List.getD_eq_getElem?_getD, List.getElem?_eq_getElem lt2]; rfl
    have tk1 : ns.take (i + 1) = ns.take i ++ [ns[i]] := by rw [List.take_succ, List.getElem?_eq_getElem lt2]; rfl
    rw [e]
    have room : (dedup (ns.take i)).length + 1 < scanBound := by
      have h2 : (dedup (ns.take i)).length ≤ ([] : List Int).length + (ns.take i).length := dedup_le (ns.take i) []
      rw [List.length_take, List.length_nil] at h2
      omega
    unfold setAdd
    refine wpAny_holding (wpAny_bind ((intKind pg wd).pyHash (k := ns[i]) (intKind_is _ _ _ _) ?_))
    refine setR_add_hashed (s := { s with toks := s.toks + 1 }) hold room fun g sb got => ?_
    have fin : SetR wd g c (fun k => (dedup (ns.take (i + 1))).any (· == k)) (dedup (ns.take (i + 1))).length := by
      have hlen : (dedup (ns.take (i + 1))).length = if (dedup (ns.take i)).any (· == ns[i]) = true then (dedup (ns.take i)).length else (dedup (ns.take i)).length + 1 := by
        rw [tk1, dedup_end]
        split
        · rfl
        · rw [List.length_append]; rfl
      rw [hlen]
      refine SetR.congr got fun k => ?_
      rw [dedup_has, dedup_has, tk1, Bool.eq_iff_iff]
      simp only [decide_eq_true_eq, List.mem_append, List.mem_singleton, Bool.or_eq_true]
    exact q _ g (s.toks + 1) (Nat.le_succ _) sb fin
section
variable {X : Cx} {b : Bool} {O : List Nat} {E : XK} {a : Expr} {w : WE} {p p2 q pos : Pos}
def tSortSet (X : Cx) (ta : TE) : TE := fun σ H Q => ta σ H fun x H1 => ∃ l, ∃ ns : List Int, x = .ref l ∧ SqL X.K H1 l (ns.map V.int) ∧ ns.length < 64 ∧
  ∀ (c p : Addr) (o : HO) (ms : List Int), H1 c = none → ms.Pairwise (· < ·) → (∀ k, k ∈ ms ↔ k ∈ ns) → L2.upd H1 c o p = none → Q (.ref p) (L2.upd (L2.upd H1 c o) p (.lst (ms.map V.int)))
theorem pe_sortSet {ta : TE} (hg : Gl X "sorted") (hm : X.mg "sorted" = none) (hg2 : Gl X "set") (hm2 : X.mg "set" = none) (hc : X.calm = true) (ha : PE X a ta) (na : starEach [a] X.env = (false, eval a X.env) :: starEach [] X.env := by rfl) :
    PE X (.Call (.Name "sorted" p) [.Call (.Name "set" p2) [a] [] q] [] pos) (tSortSet X ta) := by
  refine ⟨fun pins s σ H Q I h => Call_ (ld_blt I hg hm (by decide +kernel : bootBuiltins "sorted" = some (.builtin "sorted")) (callWith_builtin1 (args_cons ?_ rfl) rfl rfl))⟩
  refine Call_ (ld_blt I hg2 hm2 boot_set (callWith_type1 (args_cons (thn (ha.run pins s σ H _ I h) fun v s1 hh => args_nil ?_) na) na rfl))
  obtain ⟨x, H1, I1, r1, l, ns, rfl, hq, hl, q1⟩ := hh
  cases r1
  obtain ⟨its, r, pl, hz⟩ := I1.list hq
  have hlen : ns.length = its.toArray.size := by rw [List.size_toArray, ← r.length, List.length_map]
  refine call_set_fill (I1.ok.hd hc) pl.isList (fills_int (ns := ns) (by simpa using RZ.intsAre_vals r) hlen (by rw [← hlen]; unfold scanBound; omega)) (fun g e => ?_) fun g tk all keeps => PyProof.Rows.args_nil ?_
  · refine SetR.at (h := s1.heap.push (bareSet (!X.w.params.followText "set-order"))) (setR_fresh X.w) fun o ho => ?_
    rw [Heap.get?_push_size _ rfl] at ho
    cases ho
    exact e
  · rw [← hlen, List.take_length] at all
    have hle2 : (dedup ns).length ≤ ([] : List Int).length + ns.length := dedup_le ns []
    rw [List.length_nil] at hle2
    have fresh : H1 s1.heap.objs.size = none := I1.hok.fresh (Nat.le_refl _)
    have I2 : Inv X pins σ (L2.upd H1 s1.heap.objs.size (SetO X.w s1.heap.objs.size (fun k => (dedup ns).any (· == k)) (dedup ns).length)) { s1 with heap := g, toks := tk } :=
      I1.laid (fun b o e => keeps b o (Heap.lt_size e) e) (Nat.le_refl _) (setO_new all)
    refine cr_sortedSet hc pins _ σ _ [.ref s1.heap.objs.size] [.ref s1.heap.objs.size] Q I2 (.cons rfl .nil) ⟨_, _, _, rfl, upd_same, by omega, fun ms p hs hk hl2 np => ?_⟩
    exact q1 _ p _ ms fresh hs (fun k => by rw [hk k, dedup_has]; simp) np
/-- sorted(set(x)) -/
def eSortSet (a : WE) : WE := fun Δ S P R => a Δ S (fun x S1 => ∃ xs ns, x = .lst xs ∧ intsOf xs = some ns ∧ ns.length < 64 ∧ ∀ ms : List Int, ms.Pairwise (· < ·) → (∀ k, k ∈ ms ↔ k ∈ ns) → P (.lst (ms.map D.int)) S1) R
theorem dn_sortSet (hg : Gl X "sorted") (hm : X.mg "sorted" = none) (hg2 : Gl X "set") (hm2 : X.mg "set" = none) (hc : X.calm = true) (ha : DB X b O E a w) (na : starEach [a] X.env = (false, eval a X.env) :: starEach [] X.env := by rfl) :
    DN X b O E (.Call (.Name "sorted" p) [.Call (.Name "set" p2) [a] [] q] [] pos) (eSortSet w) :=
  pe_to (pe_sortSet hg hm hg2 hm2 hc ha na) fun σ H Q ⟨Z, Δ, S, F, P, R, k, hw, hx, hq⟩ => ⟨Z, Δ, S, F, _, R, k, hw, hx, fun v d S1 F1 H1 k1 e1 p1 r1 ⟨xs, ns, hd, hi, hl, h⟩ => by
    subst hd
    obtain ⟨l, vs, rfl, hp, rv⟩ := (r1.see k1).lst k1.fH
    cases ints_see rv hi
    refine ⟨l, ns, rfl, .inl (.inl hp), hl, fun c pp o ms nc hs hk np => ?_⟩
    obtain ⟨k2, _⟩ := new_cell k1 nc o
    obtain ⟨k3, f1, f2, f3, f4⟩ := new_cell k2 np (.lst (ms.map V.int))
    exact hq (.ref pp) (.lst (ms.map D.int)) S1 F1 _ k3 e1 (pureA p1 ⟨Ex.refl _, (Ex.new nc).trans (Ex.new np), k3.fH, fun _ _ z => .inl z⟩) ⟨pp, _, rfl, upd_same, .lst Reps.ints, f1, f2, f3, f4⟩
      (fun y z hz => by
        cases hz
        have hne : pp ≠ c := fun e => by subst e; rw [upd_same] at np; cases np
        rw [upd_ne hne] at np
        exact (p1 y).2.h.none np) (h ms hs hk)⟩
end
end DL

/-! DP: reading the meanings: loops, comprehensions. -/
namespace DL
open PySem L2
section
variable {g : WG} {b : WS} {R : RX} {B : EndsD} {t : WT} {e : WE} {Δ : Env} {S : Sto}
theorem forL_inv' (I : Nat → Env → Sto → Prop) : ∀ (xs : List D) (n : Nat) (Δ : Env) (S : Sto), I n Δ S →
    (∀ i x Δ S Nx, xs[i]? = some x → I (n + i) Δ S → (∀ Δ' S', I (n + i + 1) Δ' S' → Nx Δ' S') → g x Δ fun Δ1 => b Δ1 S { nx := Nx, ct := Nx, bk := B.nx, rt := B.rt } R) →
    (∀ Δ S, I (n + xs.length) Δ S → B.nx Δ S) → forL g b R B xs Δ S
  | [], n, Δ, S, h0, hs, hd => hd Δ S h0
  | x :: xs, n, Δ, S, h0, hs, hd => hs 0 x Δ S _ rfl h0 fun Δ' S' h => forL_inv' I xs (n + 1) Δ' S' h (fun i y Δ S Nx hy hI hN => by
      have e : n + 1 + i = n + (i + 1) := by omega
      rw [e] at hI hN
      exact hs (i + 1) y Δ S Nx (by simpa using hy) hI hN) (fun Δ S hI => hd Δ S (by
      have e : n + 1 + xs.length = n + (x :: xs).length := by simp; omega
      rwa [e] at hI))
/-- a for by its invariant (turns done, names, store) -/
theorem forL_inv (I : Nat → Env → Sto → Prop) {xs : List D} {Δ : Env} {S : Sto} (h0 : I 0 Δ S)
    (hs : ∀ i x Δ S Nx, xs[i]? = some x → I i Δ S → (∀ Δ' S', I (i + 1) Δ' S' → Nx Δ' S') → g x Δ fun Δ1 => b Δ1 S { nx := Nx, ct := Nx, bk := B.nx, rt := B.rt } R) (hd : ∀ Δ S, I xs.length Δ S → B.nx Δ S) : forL g b R B xs Δ S :=
  forL_inv' I xs 0 Δ S h0 (fun i x Δ S Nx hx hI hN => hs i x Δ S Nx hx (by rwa [Nat.zero_add] at hI) (by rwa [Nat.zero_add] at hN)) fun Δ S hI => hd Δ S (by rwa [Nat.zero_add] at hI)
/-- a comprehension: each element has p -/
theorem lcL_all {p : D → Prop} {P : D → Sto → Prop} : ∀ {xs acc : List D}, (∀ x ∈ xs, ∀ Q : D → Sto → Prop, (∀ d, p d → Q d S) → g x Δ fun Δ1 => e Δ1 S Q noR) →
    (∀ ds : List D, ds.length = xs.length → (∀ d ∈ ds, p d) → P (.lst (acc ++ ds)) S) → lcL g tYes e Δ xs acc S P
  | [], acc, _, hP => by
    have := hP [] rfl (by simp)
    rw [List.append_nil] at this
    exact this
  | x :: xs, acc, h, hP => by
    unfold lcL
    exact h x (List.mem_cons_self ..) _ fun d hd => lcL_all (fun y hy => h y (List.mem_cons_of_mem _ hy)) fun ds hl hp => by
      have := hP (d :: ds) (by simp [hl]) (fun z hz => by
        rcases List.mem_cons.mp hz with rfl | hz
        · exact hd
        · exact hp z hz)
      rw [List.append_assoc]
      exact this
/-- a comprehension: each element by a function -/
theorem lcL_map {f : D → D} {P : D → Sto → Prop} : ∀ {xs acc : List D}, (∀ x ∈ xs, ∀ Q : D → Sto → Prop, Q (f x) S → g x Δ fun Δ1 => e Δ1 S Q noR) → P (.lst (acc ++ xs.map f)) S → lcL g tYes e Δ xs acc S P
  | [], acc, _, hP => by
    rw [List.map_nil, List.append_nil] at hP
    exact hP
  | x :: xs, acc, h, hP => by
    unfold lcL
    refine h x (List.mem_cons_self ..) _ (lcL_map (fun y hy => h y (List.mem_cons_of_mem _ hy)) ?_)
    rw [List.append_assoc]
    exact hP
/-- with a test -/
theorem lcL_filter {f : D → D} {c : D → Bool} {P : D → Sto → Prop} : ∀ {xs acc : List D},
    (∀ x ∈ xs, ∀ (Q : D → Sto → Prop) (N : Sto → Prop), (c x = true → Q (f x) S) → (c x = false → N S) → g x Δ fun Δ1 => t Δ1 S (fun k S1 => if k = true then e Δ1 S1 Q noR else N S1) noR) →
    P (.lst (acc ++ (xs.filter c).map f)) S → lcL g t e Δ xs acc S P
  | [], acc, _, hP => by
    rw [List.filter_nil, List.map_nil, List.append_nil] at hP
    exact hP
  | x :: xs, acc, h, hP => by
    unfold lcL
    refine h x (List.mem_cons_self ..) _ _ (fun hc => ?_) fun hc => ?_
    · rw [List.filter_cons_of_pos hc, List.map_cons] at hP
      refine lcL_filter (fun y hy => h y (List.mem_cons_of_mem _ hy)) ?_
      rw [List.append_assoc]
      exact hP
    · rw [List.filter_cons_of_neg (by simp [hc])] at hP
      exact lcL_filter (fun y hy => h y (List.mem_cons_of_mem _ hy)) hP
end
/-! ### operators on known kinds -/
theorem dAdd_int {a b : Int} : dAdd (.int a) (.int b) = some (.int (a + b)) := rfl
theorem dSub_int {a b : Int} : dSub (.int a) (.int b) = some (.int (a - b)) := rfl
theorem dCmp_int {f : Int → Int → Bool} {a b : Int} : dCmp f (.int a) (.int b) = some (.bl (f a b)) := rfl
theorem dNeg_int {a : Int} : dNeg (.int a) = some (.int (-a)) := rfl
theorem dMod_int {a b : Int} (h : 0 < b) : dMod (.int a) (.int b) = some (.int (a % b)) := if_pos h
theorem dDiv_int {a b : Int} (h : 0 < b) (h2 : b < 1073741824) : dDiv (.int a) (.int b) = some (.int (a / b)) := if_pos ⟨h, h2⟩
theorem dMul_l {a b : Int} (h : -(2 ^ 64) < a) (h2 : a < 2 ^ 64) : dMul (.int a) (.int b) = some (.int (a * b)) := if_pos (.inl (.inl ⟨h, h2⟩))
theorem dMul_r {a b : Int} (h : -(2 ^ 64) < b) (h2 : b < 2 ^ 64) : dMul (.int a) (.int b) = some (.int (a * b)) := if_pos (.inl (.inr ⟨h, h2⟩))
theorem dMul_w {a b : Int} (h : a.natAbs.log2 + b.natAbs.log2 < 1000000) : dMul (.int a) (.int b) = some (.int (a * b)) := if_pos (.inr h)
theorem ex_some {α : Type} {a : α} {p : α → Prop} : (∃ d, some a = some d ∧ p d) ↔ p a := ⟨fun ⟨_, e, h⟩ => by cases e; exact h, fun h => ⟨a, rfl, h⟩⟩
theorem ex_bl {b : Bool} {p : Bool → Prop} : (∃ k, D.bl b = .bl k ∧ p k) ↔ p b := ⟨fun ⟨_, e, h⟩ => by cases e; exact h, fun h => ⟨b, rfl, h⟩⟩
theorem ex_int {b : Int} {p : Int → Prop} : (∃ k, D.int b = .int k ∧ p k) ↔ p b := ⟨fun ⟨_, e, h⟩ => by cases e; exact h, fun h => ⟨b, rfl, h⟩⟩
theorem ex_obj {b : Nat} {p : Nat → Prop} : (∃ k, D.obj b = .obj k ∧ p k) ↔ p b := ⟨fun ⟨_, e, h⟩ => by cases e; exact h, fun h => ⟨b, rfl, h⟩⟩
theorem ex_str {b : Str} {p : Str → Prop} : (∃ k, D.str b = .str k ∧ p k) ↔ p b := ⟨fun ⟨_, e, h⟩ => by cases e; exact h, fun h => ⟨b, rfl, h⟩⟩
theorem ex_lst {b : List D} {p : List D → Prop} : (∃ k, D.lst b = .lst k ∧ p k) ↔ p b := ⟨fun ⟨_, e, h⟩ => by cases e; exact h, fun h => ⟨b, rfl, h⟩⟩
theorem ex_cons {x : D} {xs : List D} {p : D → List D → Prop} : (∃ d t, x :: xs = d :: t ∧ p d t) ↔ p x xs := ⟨fun ⟨_, _, e, h⟩ => by cases e; exact h, fun h => ⟨x, xs, rfl, h⟩⟩
/-! ### ints in lists -/
theorem intsOf_map (ns : List Int) : intsOf (ns.map D.int) = some ns := by
  induction ns with
  | nil => rfl
  | cons n ns ih => simp only [List.map_cons, intsOf, ih]; rfl
theorem strsOf_map (ns : List Str) : strsOf (ns.map D.str) = some ns := by
  induction ns with
  | nil => rfl
  | cons n ns ih => simp only [List.map_cons, strsOf, ih]; rfl
theorem boolsOf_map (ns : List Bool) : boolsOf (ns.map D.bl) = some ns := by
  induction ns with
  | nil => rfl
  | cons n ns ih => simp only [List.map_cons, boolsOf, ih]; rfl

theorem intsOf_mapOf {α : Type} (f : α → Int) (ns : List α) : intsOf (ns.map fun x => D.int (f x)) = some (ns.map f) := by
  induction ns with
  | nil => rfl
  | cons n ns ih => simp only [List.map_cons, intsOf, ih]; rfl
theorem strsOf_mapOf {α : Type} (f : α → Str) (ns : List α) : strsOf (ns.map fun x => D.str (f x)) = some (ns.map f) := by
  induction ns with
  | nil => rfl
  | cons n ns ih => simp only [List.map_cons, strsOf, ih]; rfl
theorem boolsOf_mapOf {α : Type} (f : α → Bool) (ns : List α) : boolsOf (ns.map fun x => D.bl (f x)) = some (ns.map f) := by
  induction ns with
  | nil => rfl
  | cons n ns ih => simp only [List.map_cons, boolsOf, ih]; rfl
section
variable {g : WG} {b : WS} {R : RX} {B : EndsD} {t : WT} {e : WE} {Δ : Env} {S : Sto}
theorem lcL_mapOf {α : Type} (F : α → D) (f : α → D) {xs : List α} {acc : List D} {P : D → Sto → Prop} (h : ∀ x ∈ xs, ∀ Q : D → Sto → Prop, Q (f x) S → g (F x) Δ fun Δ1 => e Δ1 S Q noR) (hP : P (.lst (acc ++ xs.map f)) S) : lcL g tYes e Δ (xs.map F) acc S P := by
  induction xs generalizing acc with
  | nil =>
    rw [List.map_nil, List.append_nil] at hP
    exact hP
  | cons x xs ih =>
    rw [List.map_cons]
    unfold lcL
    refine h x (List.mem_cons_self ..) _ (ih (fun y hy => h y (List.mem_cons_of_mem _ hy)) ?_)
    rw [List.append_assoc]
    exact hP
theorem lcL_filterOf {α : Type} (F : α → D) (c : α → Bool) (f : α → D) {xs : List α} {acc : List D} {P : D → Sto → Prop}
    (h : ∀ x ∈ xs, ∀ (Q : D → Sto → Prop) (N : Sto → Prop), (c x = true → Q (f x) S) → (c x = false → N S) → g (F x) Δ fun Δ1 => t Δ1 S (fun k S1 => if k = true then e Δ1 S1 Q noR else N S1) noR)
    (hP : P (.lst (acc ++ (xs.filter c).map f)) S) : lcL g t e Δ (xs.map F) acc S P := by
  induction xs generalizing acc with
  | nil =>
    rw [List.filter_nil, List.map_nil, List.append_nil] at hP
    exact hP
  | cons x xs ih =>
    rw [List.map_cons]
    unfold lcL
    refine h x (List.mem_cons_self ..) _ _ (fun hc => ?_) fun hc => ?_
    · rw [List.filter_cons_of_pos hc, List.map_cons] at hP
      refine ih (fun y hy => h y (List.mem_cons_of_mem _ hy)) ?_
      rw [List.append_assoc]
      exact hP
    · rw [List.filter_cons_of_neg (by simp [hc])] at hP
      exact ih (fun y hy => h y (List.mem_cons_of_mem _ hy)) hP
end
/-! ### == -/
theorem dEq_int {a b : Int} : dEq (.int a) (.int b) = some (.bl (a == b)) := rfl
theorem dNe_int {a b : Int} : dNe (.int a) (.int b) = some (.bl (!(a == b))) := rfl
theorem dEq_str {a b : Str} : dEq (.str a) (.str b) = some (.bl (decide (a = b))) := rfl
theorem dNe_str {a b : Str} : dNe (.str a) (.str b) = some (.bl (!decide (a = b))) := rfl
theorem dNe_bl {a b : Bool} : dNe (.bl a) (.bl b) = some (.bl (!(a == b))) := rfl
theorem dEq_bl {a b : Bool} : dEq (.bl a) (.bl b) = some (.bl (a == b)) := rfl
theorem toPyAll_ints (ns : List Int) : toPyAll (ns.map D.int) = ns.map PyData.int := by
  induction ns with
  | nil => rfl
  | cons n ns ih => simp only [List.map_cons, toPyAll, ih, toPy]
theorem depthAll_ints (ns : List Int) : PyData.depthAll (ns.map PyData.int) = 0 := by
  induction ns with
  | nil => simp [PyData.depthAll]
  | cons n ns ih => simp [PyData.depthAll, PyData.depth, ih]
theorem canLay_ints (ns : List Int) : PyData.canLayAll0 (ns.map PyData.int) = true := by
  induction ns with
  | nil => simp [PyData.canLayAll0]
  | cons n ns ih => simp [PyData.canLayAll0, PyData.canLay0, ih]
theorem eqv_ints (ns : List Int) : PyData.eqvAll (ns.map PyData.int) (ns.map PyData.int) = true := by
  induction ns with
  | nil => simp [PyData.eqvAll]
  | cons n ns ih => simp [PyData.eqvAll, PyData.eqv, ih]
theorem shD_ints (ns : List Int) : shD (.lst (ns.map D.int)) = true := by
  unfold shD SeqAt.shaped
  simp [toPy, toPyAll_ints, PyData.canLay0, PyData.depth, canLay_ints, depthAll_ints]
/-! ### dedup -/
theorem dedup_app : ∀ (ns acc : List Int), (acc ++ ns).Nodup → ns.foldl (fun acc n => if acc.any (· == n) then acc else acc ++ [n]) acc = acc ++ ns
  | [], acc, _ => by simp
  | n :: ns, acc, h => by
    have hn : (acc.any (· == n)) = false := by
      rw [List.any_eq_false]
      intro x hx hxn
      have e : x = n := by simpa using hxn
      subst e
      have := (List.nodup_append.mp h).2.2 x hx x (by simp)
      exact this rfl
    rw [List.foldl_cons, hn]
    simp only [Bool.false_eq_true, if_false]
    rw [dedup_app ns (acc ++ [n]) (by rw [List.append_assoc]; exact h), List.append_assoc]
    rfl
theorem dedup_nodup {ns : List Int} (h : ns.Nodup) : dedup ns = ns := by
  unfold dedup
  rw [dedup_app ns [] (by simpa using h)]
  rfl
theorem dLenSet_nodup {ns : List Int} (h : ns.Nodup) (hl : ns.length < 4095) : dLenSet (.lst (ns.map D.int)) = some (.int ns.length) := by
  simp [dLenSet, intsOf_map, dedup_nodup h, show ns.length + 1 < 4096 by omega]
/-! ### slices from the front -/
theorem cutD_take {α : Type} (xs : List α) {k : Int} (h : 0 ≤ k) : cutD xs none (some k) = xs.take k.toNat := by
  obtain ⟨n, rfl⟩ := Int.eq_ofNat_of_zero_le h
  unfold cutD
  rw [HT.sIx_nat, HT.sIx_none, List.drop_zero, Nat.sub_zero, Int.toNat_natCast]
  rcases Nat.le_total n xs.length with q | q
  · rw [Nat.min_eq_left q]
  · rw [Nat.min_eq_right q, List.take_of_length_le (Nat.le_refl _), List.take_of_length_le q]
/-! ### lists of distances -/
def enumZ : Nat → List Int → List (Int × Int)
  | _, [] => []
  | i, x :: xs => ((i : Int), x) :: enumZ (i + 1) xs
theorem enumD_Z : ∀ (ns : List Int) (i : Nat), enumD i (ns.map D.int) = (enumZ i ns).map fun p => D.tup [.int p.1, .int p.2]
  | [], _ => rfl
  | n :: ns, i => by
    show _ :: enumD (i + 1) (ns.map D.int) = _
    rw [enumD_Z ns (i + 1)]
    rfl
theorem enumZ_len : ∀ (ns : List Int) (i : Nat), (enumZ i ns).length = ns.length
  | [], _ => rfl
  | n :: ns, i => by simp [enumZ, enumZ_len ns]
theorem enumZ_app : ∀ (xs ys : List Int) (i : Nat), enumZ i (xs ++ ys) = enumZ i xs ++ enumZ (i + xs.length) ys
  | [], ys, i => by simp [enumZ]
  | x :: xs, ys, i => by
    simp only [List.cons_append, enumZ, enumZ_app xs ys (i + 1), List.length_cons]
    congr 3
    omega
def tgts (ds : List Int) : List Int := ((enumZ 0 ds).filter fun p => decide (0 < p.2)).map fun p => p.1 - p.2
/-- a list of distances -/
structure VD (ds : List Int) : Prop where
  len : ds.length ≤ 400
  ok : ∀ p ∈ enumZ 0 ds, 0 ≤ p.2 ∧ p.2 ≤ p.1
  nd : (tgts ds).Nodup
theorem VD.nil : VD [] := ⟨by simp, by simp [enumZ], by simp [tgts, enumZ]⟩
theorem VD.left {xs ys : List Int} (v : VD (xs ++ ys)) : VD xs := by
  refine ⟨by have := v.len; simp at this; omega, fun p hp => v.ok p (by rw [enumZ_app]; exact List.mem_append_left _ hp), ?_⟩
  have h := v.nd
  unfold tgts at h ⊢
  rw [enumZ_app, List.filter_append, List.map_append] at h
  exact (List.nodup_append.mp h).1
theorem VD.dropLast {xs : List Int} (v : VD xs) : VD xs.dropLast := by
  rcases List.eq_nil_or_concat xs with rfl | ⟨l, x, rfl⟩
  · exact v
  · rw [List.concat_eq_append] at v ⊢
    rw [List.dropLast_concat]
    exact VD.left v
theorem line_eq : LINE = 16777216 := rfl
theorem VD.rng {ds : List Int} (v : VD ds) : ∀ n ∈ ds, 0 ≤ n ∧ n ≤ 1000 := by
  have key : ∀ (xs : List Int) (i : Nat), (∀ p ∈ enumZ i xs, 0 ≤ p.2 ∧ p.2 ≤ p.1) → ∀ n ∈ xs, 0 ≤ n ∧ n ≤ i + xs.length := by
    intro xs
    induction xs with
    | nil => intro i _ n hn; cases hn
    | cons x xs ih =>
      intro i h n hn
      rcases List.mem_cons.mp hn with rfl | hn
      · have := h (i, n) (by simp [enumZ])
        simp at this ⊢
        omega
      · have := ih (i + 1) (fun p hp => h p (by simp [enumZ, hp])) n hn
        simp at this ⊢
        omega
  intro n hn
  have := key ds 0 v.ok n hn
  have := v.len
  omega
theorem atI_nat {α : Type} {xs : List α} {n : Nat} {x : α} (h : xs[n]? = some x) : L2.atI xs (n : Int) = some x := by
  obtain ⟨hl, rfl⟩ := List.getElem?_eq_some_iff.mp h
  unfold L2.atI L2.ixN
  simp [hl]
end DL

/-! DPT: texts of numbers: written, split, read back; repr's lengths. -/
namespace DL
open PySem

/-- str(n) -/
def numS (n : Int) : Str := Str.ofString (toString n)
theorem numS_nat (n : Nat) : TL.tl (numS (n : Int)) = TL.numL n := TL.tl_num n
theorem small_log {n : Int} (h : n.natAbs ≤ 1000) : n.natAbs.log2 < 1920 := Nat.lt_of_le_of_lt (Nat.log2_le_self _) (by omega)
theorem fStr_num {n : Int} (h : n.natAbs ≤ 1000) : fStr [.int n] = some (.str (numS n)) := if_pos (small_log h)
theorem numL_hd : ∀ n : Nat, 0 < n → ∃ c r, TL.numL n = c :: r ∧ c ≠ 48 := fun n => by
  induction n using Nat.strongRecOn with
  | _ n ih =>
    intro h
    by_cases h1 : n < 10
    · exact ⟨48 + n, [], TL.numL_lt h1, by omega⟩
    · obtain ⟨c, r, e, hc⟩ := ih (n / 10) (by omega) (by omega)
      exact ⟨c, r ++ [48 + n % 10], by rw [TL.numL_step (by omega), e]; rfl, hc⟩
theorem numS_len {n : Int} (h0 : 0 ≤ n) (h : n ≤ 1000) : (numS n).length ≤ 4 := by
  obtain ⟨m, rfl⟩ := Int.eq_ofNat_of_zero_le h0
  rw [TL.len_tl, numS_nat]
  exact TL.numL_len (by decide) (by omega)
theorem numS_val {n : Int} (h0 : 0 ≤ n) (h : n ≤ 1000) : fInt [.str (numS n)] = some (.int n) := by
  have hl := numS_len h0 h
  have hv : intText? (numS n) = some n := PySem.W.KIN.num_reads h0 (by omega)
  show (if (numS n).length ≤ 640 then (PySem.intText? (numS n)).map D.int else none) = _
  rw [if_pos (by omega), hv]
  rfl
/-- a list of numbers as a text -/
def txt (ns : List Int) : Str := if ns.length = 0 then "none" else Txt.join " " (ns.map numS)
theorem sum_le {α : Type} (f : α → Nat) (k : Nat) : ∀ xs : List α, (∀ x ∈ xs, f x ≤ k) → (xs.map f).sum ≤ k * xs.length
  | [], _ => by simp
  | x :: xs, h => by
    have h1 := h x (List.mem_cons_self ..)
    have h2 := sum_le f k xs fun y hy => h y (List.mem_cons_of_mem _ hy)
    simp only [List.map_cons, List.sum_cons, List.length_cons, Nat.mul_add]
    omega
theorem mJoin_nums {ns : List Int} (h : ∀ n ∈ ns, 0 ≤ n ∧ n ≤ 1000) (hl : ns.length ≤ 1000) : mJoin (.str " ") [.lst (ns.map fun n => D.str (numS n))] = some (.str (Txt.join " " (ns.map numS))) := by
  have hs : (((ns.map numS).map (·.length))).sum ≤ 4 * ns.length := by
    rw [List.map_map]
    exact sum_le _ 4 ns fun n hn => numS_len (h n hn).1 (h n hn).2
  have e : (strsOf (ns.map fun n => D.str (numS n))) = some (ns.map numS) := strsOf_mapOf numS ns
  have e1 : (" " : Str).length = 1 := rfl
  show (strsOf (ns.map fun n => D.str (numS n))).bind _ = _
  rw [e]
  show (if _ then _ else none) = _
  rw [if_pos]
  rw [List.length_map, e1]
  have : LINE = 16777216 := rfl
  omega
theorem tl_sp : TL.tl (" " : Str) = 32 :: [] := by decide
theorem split_nums {ns : List Int} (hne : ns ≠ []) (h : ∀ n ∈ ns, 0 ≤ n) : Txt.split (Txt.join " " (ns.map numS)) " " = ns.map numS := by
  refine TL.split_join tl_sp (by decide +kernel) (by simpa using hne) fun p hp => ?_
  obtain ⟨n, hn, rfl⟩ := List.mem_map.mp hp
  obtain ⟨m, e⟩ := Int.eq_ofNat_of_zero_le (h n hn)
  rw [e, numS_nat]
  exact TL.numL_free (.inl (by decide))
/-- how long a joined text is -/
theorem joinL_len (s : Nat) (k : Nat) : ∀ ps : List (List Nat), (∀ p ∈ ps, p.length ≤ k) → (TL.joinL [s] ps).length ≤ (k + 1) * ps.length
  | [], _ => by simp [TL.joinL]
  | [p], h => by
    have := h p (by simp)
    simp only [TL.joinL, List.length_cons, List.length_nil]
    omega
  | p :: q :: r, h => by
    have h1 := h p (by simp)
    have h2 := joinL_len s k (q :: r) fun z hz => h z (List.mem_cons_of_mem _ hz)
    simp only [TL.joinL, List.length_append, List.length_cons, List.length_nil, Nat.mul_add] at h2 ⊢
    omega
theorem join_nums_len {ns : List Int} (h : ∀ n ∈ ns, 0 ≤ n ∧ n ≤ 1000) : (Txt.join " " (ns.map numS)).length ≤ 5 * ns.length := by
  rw [TL.len_tl, TL.join_eq, TL.tl_join, tl_sp]
  have := joinL_len 32 4 ((ns.map numS).map TL.tl) fun p hp => by
    obtain ⟨x, hx, rfl⟩ := List.mem_map.mp hp
    obtain ⟨n, hn, rfl⟩ := List.mem_map.mp hx
    rw [← TL.len_tl]
    exact numS_len (h n hn).1 (h n hn).2
  simpa using this
theorem mSplit_nums {ns : List Int} (hne : ns ≠ []) (h : ∀ n ∈ ns, 0 ≤ n ∧ n ≤ 1000) (hl : ns.length ≤ 1000) : mSplit (.str (Txt.join " " (ns.map numS))) [.str " "] = some (.lst (ns.map fun n => D.str (numS n))) := by
  have e1 : ((" " : Str).length == 0) = false := rfl
  have hlen := join_nums_len h
  show (if _ then _ else none) = _
  rw [if_pos ⟨e1, by have : LINE = 16777216 := rfl; omega⟩, split_nums hne fun n hn => (h n hn).1, List.map_map]
  rfl
/-- it starts with a digit -/
theorem join_nums_ne {ns : List Int} (hne : ns ≠ []) (h : ∀ n ∈ ns, 0 ≤ n) : Txt.join " " (ns.map numS) ≠ "none" := fun e => by
  have e2 := congrArg TL.tl e
  rw [TL.join_eq, TL.tl_join] at e2
  match ns, hne, h with
  | n :: r, _, h =>
    obtain ⟨m, em⟩ := Int.eq_ofNat_of_zero_le (h n (by simp))
    have hh : ∃ t, TL.joinL (TL.tl " ") (((n :: r).map numS).map TL.tl) = TL.numL m ++ t := by
      cases r with
      | nil => exact ⟨[], by simp [TL.joinL, em, numS_nat]⟩
      | cons q r => exact ⟨_, by simp only [List.map_cons, TL.joinL, em, numS_nat]; rfl⟩
    obtain ⟨t, ht⟩ := hh
    rw [ht] at e2
    have hn : TL.tl ("none" : Str) = [110, 111, 110, 101] := by decide
    rw [hn] at e2
    have hd := TL.numL_digits m
    cases hm : TL.numL m with
    | nil => exact TL.numL_ne m hm
    | cons c cs =>
      rw [hm] at e2 hd
      have hc := hd c (by simp)
      have : c = 110 := (List.cons.inj e2).1
      omega
theorem digits_tl : TL.tl ("0123456789" : Str) = [48, 49, 50, 51, 52, 53, 54, 55, 56, 57] := by decide
theorem dInS_digit {c : Nat} (h : 48 ≤ c ∧ c ≤ 57) : dInS (.str ⟨#[c]⟩) (.str "0123456789") = some (.bl true) := by
  show (if (⟨#[c]⟩ : Str).cps.size = 1 then some (D.bl (decide (c ∈ TL.tl ("0123456789" : Str)))) else none) = _
  rw [if_pos (show (⟨#[c]⟩ : Str).cps.size = 1 from rfl), digits_tl]
  have : c ∈ [48, 49, 50, 51, 52, 53, 54, 55, 56, 57] := by
    simp only [List.mem_cons, List.not_mem_nil, or_false]
    omega
  simp [this]
/-! ### repr -/
def pil (ts : List Str) : Nat := (ts.map fun t => t.length + 2).sum
theorem textFrom_le : ∀ (ts : List Str) (k : Nat) (acc : Str), (textFrom k acc ts).length ≤ acc.length + pil ts
  | [], k, acc => by show acc.length ≤ _; simp [pil]
  | t :: r, k, acc => by
    have h1 := textFrom_le r (k + 1) (acc ++ (if k > 0 then ", " else "" : String) ++ t)
    have e : (acc ++ (if k > 0 then ", " else "" : String) ++ t).length ≤ acc.length + 2 + t.length := by
      rw [Str.length_append, Str.length_append]
      have : (Str.ofString (if k > 0 then ", " else "" : String)).length ≤ 2 := by
        split
        · exact Nat.le_of_eq rfl
        · show 0 ≤ 2; omega
      omega
    show (textFrom (k + 1) (acc ++ (if k > 0 then ", " else "" : String) ++ t) r).length ≤ _
    simp only [pil, List.map_cons, List.sum_cons] at h1 ⊢
    omega
theorem listText_le (ts : List Str) : (listText ts).length ≤ pil ts + 2 := by
  unfold listText
  rw [Str.length_append]
  have := textFrom_le ts 0 "["
  have e : ("[" : Str).length = 1 := rfl
  have e2 : ("]" : Str).length = 1 := rfl
  omega
theorem pil_cons (t : Str) (ts : List Str) : pil (t :: ts) = t.length + 2 + pil ts := by simp [pil]
theorem tupleText_le (ts : List Str) : (tupleText ts).length ≤ pil ts + 4 := by
  unfold tupleText
  rw [Str.length_append, Str.length_append]
  have e : ("(" : Str).length = 1 := rfl
  have e2 : (Str.ofString (if ts.length == 1 then ",)" else ")" : String)).length ≤ 2 := by
    split
    · exact Nat.le_of_eq rfl
    · show 1 ≤ 2; omega
  have e3 : (Str.join ", " ts).length ≤ pil ts := by
    cases ts with
    | nil => simp [pil]; rfl
    | cons t ts =>
      have h := join_length_add (t :: ts) (by simp)
      have hp : piled (t :: ts) = pil (t :: ts) := rfl
      omega
  omega
theorem shownAll_ints : ∀ ns : List Int, PyData.shownAll (ns.map PyData.int) = ns.map numS
  | [] => by simp [PyData.shownAll]
  | n :: ns => by
    simp only [List.map_cons, PyData.shownAll, shownAll_ints ns, PyData.shown]
    rfl
theorem showable_ints : ∀ ns : List Int, (∀ n ∈ ns, n.natAbs ≤ 1000) → PyData.showableAll (ns.map PyData.int) = true
  | [], _ => by simp [PyData.showableAll]
  | n :: ns, h => by
    simp only [List.map_cons, PyData.showableAll, PyData.showable, showable_ints ns fun x hx => h x (List.mem_cons_of_mem _ hx), Bool.and_true, decide_eq_true_eq]
    exact small_log (h n (List.mem_cons_self ..))
theorem pil_nums {ns : List Int} (h : ∀ n ∈ ns, 0 ≤ n ∧ n ≤ 1000) : pil (ns.map numS) ≤ 6 * ns.length := by
  unfold pil
  rw [List.map_map]
  exact sum_le _ 6 ns fun n hn => by
    have := numS_len (h n hn).1 (h n hn).2
    show (numS n).length + 2 ≤ 6
    omega
theorem repr_ints {ns : List Int} {d : D} (hd : d = .lst (ns.map D.int) ∨ d = .tup (ns.map D.int)) (h : ∀ n ∈ ns, 0 ≤ n ∧ n ≤ 1000) (hl : ns.length ≤ 1000) : ∃ x, fRepr [d] = some (.str x) := by
  have hp := pil_nums h
  have hs := showable_ints ns fun n hn => by have := h n hn; omega
  have hline : LINE = 16777216 := rfl
  rcases hd with rfl | rfl
  · refine ⟨PyData.shown (toPy (.lst (ns.map D.int))), if_pos ⟨?_, ?_, ?_, ?_⟩⟩
    · simp [toPy, toPyAll_ints, PyData.canLay0, canLay_ints]
    · simp [toPy, toPyAll_ints, PyData.showable, hs]
    · simp [toPy, toPyAll_ints, PyData.depth, depthAll_ints]
    · simp only [toPy, toPyAll_ints, PyData.shown, shownAll_ints]
      have := listText_le (ns.map numS)
      omega
  · refine ⟨PyData.shown (toPy (.tup (ns.map D.int))), if_pos ⟨?_, ?_, ?_, ?_⟩⟩
    · simp [toPy, toPyAll_ints, PyData.canLay0, canLay_ints]
    · simp [toPy, toPyAll_ints, PyData.showable, hs]
    · simp [toPy, toPyAll_ints, PyData.depth, depthAll_ints]
    · simp only [toPy, toPyAll_ints, PyData.shown, shownAll_ints]
      have := tupleText_le (ns.map numS)
      omega
end DL

/-! DD: distances and ids of lists of ints, in plain words. -/
namespace DL
open PySem

/-- the distance of x behind the places r (the nearest first) -/
def dlr (r : List Int) (x : Int) : Int := if x ∈ r then (r.idxOf x : Int) + 1 else 0
def distF (r : List Int) : List Int → List Int
  | [] => []
  | x :: xs => dlr r x :: distF (x :: r) xs
def dist (xs : List Int) : List Int := distF [] xs
theorem distF_app : ∀ (xs ys r : List Int), distF r (xs ++ ys) = distF r xs ++ distF (xs.reverse ++ r) ys
  | [], ys, r => by simp [distF]
  | x :: xs, ys, r => by
    simp only [List.cons_append, distF, distF_app xs ys (x :: r), List.reverse_cons, List.append_assoc, List.nil_append]
theorem dist_app (xs ys : List Int) : dist (xs ++ ys) = dist xs ++ distF xs.reverse ys := by
  unfold dist
  rw [distF_app, List.append_nil]
theorem dist_snoc (xs : List Int) (x : Int) : dist (xs ++ [x]) = dist xs ++ [dlr xs.reverse x] := by rw [dist_app]; rfl
theorem distF_len : ∀ (xs r : List Int), (distF r xs).length = xs.length
  | [], _ => rfl
  | x :: xs, r => by simp [distF, distF_len xs]
theorem dist_len (xs : List Int) : (dist xs).length = xs.length := distF_len xs []
/-- f keeps apart what stands in xs -/
def InjOn (f : Int → Int) (xs : List Int) : Prop := ∀ x ∈ xs, ∀ y ∈ xs, f x = f y → x = y
theorem InjOn.sub {f : Int → Int} {xs ys : List Int} (h : InjOn f ys) (s : ∀ x ∈ xs, x ∈ ys) : InjOn f xs := fun x hx y hy e => h x (s x hx) y (s y hy) e
theorem idxOf_map {f : Int → Int} {x : Int} : ∀ {r : List Int}, InjOn f (x :: r) → (r.map f).idxOf (f x) = r.idxOf x
  | [], _ => rfl
  | y :: r, h => by
    have hy : y ∈ x :: y :: r := List.mem_cons_of_mem _ (List.mem_cons_self ..)
    have hx : x ∈ x :: y :: r := List.mem_cons_self ..
    have ih := idxOf_map (f := f) (x := x) (r := r) (h.sub fun a ha => by
      rcases List.mem_cons.mp ha with rfl | ha
      · exact hx
      · exact List.mem_cons_of_mem _ (List.mem_cons_of_mem _ ha))
    rw [List.map_cons, List.idxOf_cons, List.idxOf_cons, ih]
    by_cases e : y = x
    · rw [e]; simp
    · have e2 : f y ≠ f x := fun z => e (h y hy x hx z)
      rw [show (y == x) = false by simpa using e, show (f y == f x) = false by simpa using e2]
theorem dlr_map {f : Int → Int} {x : Int} {r : List Int} (h : InjOn f (x :: r)) : dlr (r.map f) (f x) = dlr r x := by
  unfold dlr
  have hm : f x ∈ r.map f ↔ x ∈ r := by
    constructor
    · intro hx
      obtain ⟨y, hy, e⟩ := List.mem_map.mp hx
      rw [← h y (by simp [hy]) x (by simp) e]
      exact hy
    · exact fun hx => List.mem_map.mpr ⟨x, hx, rfl⟩
  rw [idxOf_map h]
  by_cases hx : x ∈ r
  · rw [if_pos hx, if_pos (hm.mpr hx)]
  · rw [if_neg hx, if_neg fun z => hx (hm.mp z)]
theorem distF_map {f : Int → Int} : ∀ {xs r : List Int}, InjOn f (xs ++ r) → distF (r.map f) (xs.map f) = distF r xs
  | [], _, _ => rfl
  | x :: xs, r, h => by
    have s1 : ∀ a ∈ xs ++ (x :: r), a ∈ (x :: xs) ++ r := fun a ha => by
      rcases List.mem_append.mp ha with ha | ha
      · exact List.mem_append_left _ (List.mem_cons_of_mem _ ha)
      · rcases List.mem_cons.mp ha with rfl | ha
        · exact List.mem_append_left _ (List.mem_cons_self ..)
        · exact List.mem_append_right _ ha
    have s2 : ∀ a ∈ x :: r, a ∈ (x :: xs) ++ r := fun a ha => by
      rcases List.mem_cons.mp ha with rfl | ha
      · exact List.mem_append_left _ (List.mem_cons_self ..)
      · exact List.mem_append_right _ ha
    have ih := distF_map (f := f) (xs := xs) (r := x :: r) (h.sub s1)
    rw [List.map_cons] at ih ⊢
    show dlr (r.map f) (f x) :: distF (f x :: r.map f) (xs.map f) = dlr r x :: distF (x :: r) xs
    rw [ih, dlr_map (h.sub s2)]
/-- names do not matter -/
theorem dist_map {f : Int → Int} {xs : List Int} (h : InjOn f xs) : dist (xs.map f) = dist xs := distF_map (r := []) (by rw [List.append_nil]; exact h)

/-! ### the signs in the order of their first places -/
theorem dedup_snoc (xs : List Int) (x : Int) : dedup (xs ++ [x]) = if (dedup xs).any (· == x) then dedup xs else dedup xs ++ [x] := by
  unfold dedup
  rw [List.foldl_append]
  rfl
theorem any_eq_mem (xs : List Int) (x : Int) : (xs.any (· == x)) = decide (x ∈ xs) := by
  induction xs with
  | nil => rfl
  | cons y ys ih =>
    rw [List.any_cons, ih]
    by_cases e : y = x
    · subst e; simp
    · rw [show (y == x) = false by simpa using e, Bool.false_or]
      exact decide_eq_decide.mpr ⟨fun q => List.mem_cons_of_mem _ q, fun q => (List.mem_cons.mp q).resolve_left fun z => e z.symm⟩
theorem snoc_ind {p : List Int → Prop} (h0 : p []) (hs : ∀ xs x, p xs → p (xs ++ [x])) : ∀ xs, p xs := fun xs => by
  have : ∀ n (xs : List Int), xs.length = n → p xs := by
    intro n
    induction n with
    | zero => intro xs h; rw [List.length_eq_zero_iff.mp h]; exact h0
    | succ n ih =>
      intro xs h
      rcases List.eq_nil_or_concat xs with rfl | ⟨l, x, rfl⟩
      · simp at h
      · rw [List.concat_eq_append]
        exact hs l x (ih l (by simpa using h))
  exact this _ xs rfl
theorem mem_dedup' (xs : List Int) : ∀ x, x ∈ dedup xs ↔ x ∈ xs := by
  induction xs using snoc_ind with
  | h0 => intro x; rfl
  | hs xs y ih =>
    intro x
    rw [dedup_snoc, any_eq_mem]
    by_cases h : y ∈ dedup xs
    · rw [decide_eq_true h, if_pos rfl, ih]
      refine ⟨fun q => List.mem_append_left _ q, fun q => ?_⟩
      rcases List.mem_append.mp q with q | q
      · exact q
      · rw [List.mem_singleton.mp q]
        exact (ih y).mp h
    · rw [decide_eq_false h, if_neg (by decide), List.mem_append, List.mem_append, ih]
theorem mem_dedup {x : Int} {xs : List Int} : x ∈ dedup xs ↔ x ∈ xs := mem_dedup' xs x
theorem dedup_nd (xs : List Int) : (dedup xs).Nodup := by
  induction xs using snoc_ind with
  | h0 => exact List.nodup_nil
  | hs xs y ih =>
    rw [dedup_snoc, any_eq_mem]
    by_cases h : y ∈ dedup xs
    · rw [decide_eq_true h, if_pos rfl]; exact ih
    · rw [decide_eq_false h, if_neg (by decide)]
      exact List.nodup_append.mpr ⟨ih, (by simp), fun a ha b hb e => h (by rw [← List.mem_singleton.mp hb, ← e]; exact ha)⟩
theorem dedup_pre (xs ys : List Int) : ∃ t, dedup (xs ++ ys) = dedup xs ++ t := by
  induction ys using snoc_ind with
  | h0 => exact ⟨[], by rw [List.append_nil, List.append_nil]⟩
  | hs ys y ih =>
    obtain ⟨t, e⟩ := ih
    rw [← List.append_assoc, dedup_snoc]
    split
    · exact ⟨t, e⟩
    · exact ⟨t ++ [y], by rw [e, List.append_assoc]⟩
theorem dedup_map {f : Int → Int} (xs : List Int) (h : InjOn f xs) : dedup (xs.map f) = (dedup xs).map f := by
  induction xs using snoc_ind with
  | h0 => rfl
  | hs xs y ih =>
    have ih := ih (h.sub fun a ha => List.mem_append_left _ ha)
    rw [List.map_append, List.map_cons, List.map_nil, dedup_snoc, dedup_snoc, ih, any_eq_mem, any_eq_mem]
    have hm : f y ∈ (dedup xs).map f ↔ y ∈ dedup xs := by
      refine ⟨fun q => ?_, fun q => List.mem_map.mpr ⟨y, q, rfl⟩⟩
      obtain ⟨z, hz, e⟩ := List.mem_map.mp q
      rw [← h z (List.mem_append_left _ (mem_dedup.mp hz)) y (List.mem_append_right _ (List.mem_singleton.mpr rfl)) e]
      exact hz
    by_cases q : y ∈ dedup xs
    · rw [decide_eq_true q, decide_eq_true (hm.mpr q)]; rfl
    · rw [decide_eq_false q, decide_eq_false fun z => q (hm.mp z)]
      simp
/-- a sign's number -/
def rk (xs : List Int) (x : Int) : Int := ((dedup xs).idxOf x : Nat)
def can (xs : List Int) : List Int := xs.map (rk xs)
theorem rk_inj (xs : List Int) : InjOn (rk xs) xs := fun x hx y hy e => by
  have e2 : (dedup xs).idxOf x = (dedup xs).idxOf y := Int.ofNat_inj.mp e
  have h1 := List.idxOf_lt_length_of_mem (mem_dedup.mpr hx)
  have h2 := List.idxOf_lt_length_of_mem (mem_dedup.mpr hy)
  have := List.getElem_idxOf h1
  rw [← this]
  simp only [e2]
  exact List.getElem_idxOf h2
theorem rk_rng {xs : List Int} {x : Int} (h : x ∈ xs) : 0 ≤ rk xs x ∧ rk xs x < (dedup xs).length := ⟨Int.natCast_nonneg _, Int.ofNat_lt.mpr (List.idxOf_lt_length_of_mem (mem_dedup.mpr h))⟩
theorem rk_pre {xs ys : List Int} {x : Int} (h : x ∈ xs) : rk (xs ++ ys) x = rk xs x := by
  obtain ⟨t, e⟩ := dedup_pre xs ys
  unfold rk
  rw [e, List.idxOf_append, if_pos (mem_dedup.mpr h)]
theorem can_map {f : Int → Int} {xs : List Int} (h : InjOn f xs) : can (xs.map f) = can xs := by
  unfold can
  rw [List.map_map]
  apply List.map_congr_left
  intro x hx
  show rk (xs.map f) (f x) = rk xs x
  unfold rk
  rw [dedup_map xs h, idxOf_map (h.sub fun a ha => by
    rcases List.mem_cons.mp ha with rfl | ha
    · exact hx
    · exact mem_dedup.mp ha)]
theorem can_can (xs : List Int) : can (can xs) = can xs := can_map (rk_inj xs)
theorem dist_can (xs : List Int) : dist (can xs) = dist xs := dist_map (rk_inj xs)
theorem dedup_can (xs : List Int) : (dedup (can xs)).length = (dedup xs).length := by
  show (dedup (xs.map (rk xs))).length = _
  rw [dedup_map xs (rk_inj xs), List.length_map]

/-- distances as they grow: kvs is the dict of last places -/
structure DK (i : Nat) (found : List Int) (kvs : List (L2.Key × Int)) : Prop where
  len : found.length = i
  ok : ∀ p ∈ enumZ 0 found, 0 ≤ p.2 ∧ p.2 ≤ p.1
  nd : (tgts found).Nodup
  lt : ∀ t ∈ tgts found, t < i
  kv : ∀ p ∈ kvs, 0 ≤ p.2 ∧ p.2 < i ∧ p.2 ∉ tgts found
  kd : (kvs.map (·.2)).Nodup
  kn : (kvs.map (·.1)).Nodup
theorem tgts_snoc (found : List Int) (d : Int) : tgts (found ++ [d]) = tgts found ++ if 0 < d then [(found.length : Int) - d] else [] := by
  unfold tgts
  rw [enumZ_app, List.filter_append, List.map_append]
  congr 1
  simp only [enumZ, Nat.zero_add]
  by_cases h : 0 < d
  · simp [h]
  · simp [h]
theorem getD_map (kvs : List (L2.Key × Int)) (k : L2.Key) : DL.getD (kvs.map fun p => (p.1, D.int p.2)) k = ((kvs.find? fun p => decide (p.1 = k)).map fun p => D.int p.2) := by
  unfold DL.getD
  rw [List.find?_map, Option.map_map]
  rfl
theorem putD_map (kvs : List (L2.Key × Int)) (k : L2.Key) (v : Int) : putD (kvs.map fun p => (p.1, D.int p.2)) k (.int v) =
    (if (kvs.any fun p => decide (p.1 = k)) = true then kvs.map (fun p => if p.1 = k then (p.1, v) else p) else kvs ++ [(k, v)]).map fun p => (p.1, D.int p.2) := by
  unfold putD
  rw [List.any_map]
  have e : ((fun kv : L2.Key × D => decide (kv.1 = k)) ∘ fun p : L2.Key × Int => (p.1, D.int p.2)) = fun p => decide (p.1 = k) := rfl
  rw [e]
  split
  · rw [List.map_map, List.map_map]
    apply List.map_congr_left
    intro p _
    simp only [Function.comp]
    split <;> rfl
  · rw [List.map_append]
    rfl
theorem DK.none {i : Nat} {found : List Int} {kvs : List (L2.Key × Int)} {k : L2.Key} (I : DK i found kvs) (h : kvs.find? (fun p => decide (p.1 = k)) = none) :
    DK (i + 1) (found ++ [0]) (kvs ++ [(k, (i : Int))]) := by
  have ht : tgts (found ++ [0]) = tgts found := by rw [tgts_snoc]; simp
  refine ⟨by rw [List.length_append, I.len]; rfl, fun p hp => ?_, by rw [ht]; exact I.nd, fun t hm => by rw [ht] at hm; have := I.lt t hm; omega, fun p hp => ?_, ?_, ?_⟩
  · rw [enumZ_app] at hp
    rcases List.mem_append.mp hp with hp | hp
    · exact I.ok p hp
    · simp [enumZ] at hp
      subst hp
      exact ⟨by simp, by simp⟩
  · rw [ht]
    rcases List.mem_append.mp hp with hp | hp
    · obtain ⟨a, b, c⟩ := I.kv p hp
      exact ⟨a, by omega, c⟩
    · simp at hp
      subst hp
      exact ⟨by simp, by simp; omega, fun hm => by have := I.lt _ hm; simp at this⟩
  · rw [List.map_append]
    refine List.nodup_append.mpr ⟨I.kd, by simp, fun x hx y hy => ?_⟩
    simp at hy
    subst hy
    obtain ⟨p, hp, rfl⟩ := List.mem_map.mp hx
    have := I.kv p hp
    omega
  · rw [List.map_append]
    refine List.nodup_append.mpr ⟨I.kn, by simp, fun x hx y hy => ?_⟩
    simp at hy
    subst hy
    obtain ⟨p, hp, rfl⟩ := List.mem_map.mp hx
    have := List.find?_eq_none.mp h p hp
    simpa using this
theorem DK.some {i : Nat} {found : List Int} {kvs : List (L2.Key × Int)} {k : L2.Key} {q : L2.Key × Int} (I : DK i found kvs) (h : kvs.find? (fun p => decide (p.1 = k)) = some q) :
    DK (i + 1) (found ++ [(i : Int) - q.2]) (kvs.map fun p => if p.1 = k then (p.1, (i : Int)) else p) := by
  have hq := List.mem_of_find?_eq_some h
  have hk : q.1 = k := by simpa using List.find?_some h
  obtain ⟨q0, q1, q2⟩ := I.kv q hq
  have ht : tgts (found ++ [(i : Int) - q.2]) = tgts found ++ [q.2] := by
    rw [tgts_snoc, if_pos (by omega), I.len]
    congr 2
    omega
  -- only q has the key
  have uq : ∀ p ∈ kvs, p.1 = k → p = q := fun p hp hpk => by
    have key : ∀ l : List (L2.Key × Int), (l.map (·.1)).Nodup → p ∈ l → q ∈ l → p = q := by
      intro l
      induction l with
      | nil => intro _ h; cases h
      | cons x l ih =>
        intro nd h1 h2
        rw [List.map_cons, List.nodup_cons] at nd
        rcases List.mem_cons.mp h1 with e1 | h1 <;> rcases List.mem_cons.mp h2 with e2 | h2
        · rw [e1, e2]
        · exact absurd (List.mem_map.mpr ⟨q, h2, by rw [hk, ← hpk, e1]⟩) nd.1
        · exact absurd (List.mem_map.mpr ⟨p, h1, by rw [hpk, ← hk, e2]⟩) nd.1
        · exact ih nd.2 h1 h2
    exact key kvs I.kn hp hq
  refine ⟨by rw [List.length_append, I.len]; rfl, fun p hp => ?_, ?_, fun t hm => ?_, fun p hp => ?_, ?_, ?_⟩
  · rw [enumZ_app] at hp
    rcases List.mem_append.mp hp with hp | hp
    · exact I.ok p hp
    · simp [enumZ, I.len] at hp
      subst hp
      simp
      omega
  · rw [ht]
    refine List.nodup_append.mpr ⟨I.nd, by simp, fun x hx y hy => ?_⟩
    simp at hy
    subst hy
    exact fun e => q2 (e ▸ hx)
  · rw [ht] at hm
    rcases List.mem_append.mp hm with hm | hm
    · have := I.lt t hm; omega
    · simp at hm; omega
  · rw [ht]
    obtain ⟨p', hp', rfl⟩ := List.mem_map.mp hp
    by_cases e : p'.1 = k
    · rw [if_pos e]
      refine ⟨by simp, by simp; omega, fun hm => ?_⟩
      rcases List.mem_append.mp hm with hm | hm
      · have := I.lt _ hm; simp at this
      · simp at hm; omega
    · rw [if_neg e]
      obtain ⟨a, b, c⟩ := I.kv p' hp'
      refine ⟨a, by omega, fun hm => ?_⟩
      rcases List.mem_append.mp hm with hm | hm
      · exact c hm
      · simp at hm
        -- two pairs with one value are one
        have key : ∀ l : List (L2.Key × Int), (l.map (·.2)).Nodup → p' ∈ l → q ∈ l → p' = q := by
          intro l
          induction l with
          | nil => intro _ h; cases h
          | cons x l ih =>
            intro nd h1 h2
            rw [List.map_cons, List.nodup_cons] at nd
            rcases List.mem_cons.mp h1 with e1 | h1 <;> rcases List.mem_cons.mp h2 with e2 | h2
            · rw [e1, e2]
            · exact absurd (List.mem_map.mpr ⟨q, h2, by rw [← hm, e1]⟩) nd.1
            · exact absurd (List.mem_map.mpr ⟨p', h1, by rw [hm, e2]⟩) nd.1
            · exact ih nd.2 h1 h2
        exact e (by rw [key kvs I.kd hp' hq, hk])
  · rw [List.map_map]
    have gen : ∀ l : List (L2.Key × Int), (∀ p ∈ l, p.2 < i) → (l.map (·.1)).Nodup → (l.map (·.2)).Nodup → (l.map ((·.2) ∘ fun p => if p.1 = k then (p.1, (i : Int)) else p)).Nodup := by
      intro l
      induction l with
      | nil => intro _ _ _; simp
      | cons x l ih =>
        intro hl n1 n2
        rw [List.map_cons, List.nodup_cons] at n1 n2 ⊢
        refine ⟨fun hm => ?_, ih (fun p hp => hl p (List.mem_cons_of_mem _ hp)) n1.2 n2.2⟩
        obtain ⟨p, hp, e⟩ := List.mem_map.mp hm
        simp only [Function.comp] at e
        by_cases ex : x.1 = k
        · rw [if_pos ex] at e
          by_cases ep : p.1 = k
          · exact n1.1 (List.mem_map.mpr ⟨p, hp, by rw [ep, ex]⟩)
          · rw [if_neg ep] at e
            have := hl p (List.mem_cons_of_mem _ hp)
            simp at e
            omega
        · rw [if_neg ex] at e
          by_cases ep : p.1 = k
          · rw [if_pos ep] at e
            have := hl x (List.mem_cons_self ..)
            simp at e
            omega
          · rw [if_neg ep] at e
            exact n2.1 (List.mem_map.mpr ⟨p, hp, e⟩)
    exact gen kvs (fun p hp => (I.kv p hp).2.1) I.kn I.kd
  · rw [List.map_map]
    have e : ((fun p : L2.Key × Int => p.1) ∘ fun p => if p.1 = k then (p.1, (i : Int)) else p) = fun p => p.1 := by
      funext p
      simp only [Function.comp]
      split <;> rfl
    have := I.kn
    rw [e]
    exact this


/-! ### the loop with its dict of last places -/
/-- found, kvs as they stand behind the places r (the nearest first) -/
structure DJ (r : List Int) (found : List Int) (kvs : List (L2.Key × Int)) : Prop where
  di : DK r.length found kvs
  fd : found = dist r.reverse
  lk : ∀ s : Int, (kvs.find? fun p => decide (p.1 = (Sum.inl s : L2.Key))).map (·.2) = if s ∈ r then some ((r.length : Int) - 1 - r.idxOf s) else none
  kl : kvs.length ≤ r.length
theorem DJ.nil : DJ [] [] [] := ⟨⟨rfl, by simp [enumZ], by simp [tgts, enumZ], by simp [tgts, enumZ], by simp, by simp, by simp⟩, rfl, by simp, by simp⟩
/-- the next entry -/
def nxE (i : Nat) (kvs : List (L2.Key × Int)) (s : Int) : Int := match kvs.find? fun p => decide (p.1 = (Sum.inl s : L2.Key)) with
  | some q => (i : Int) - q.2
  | none => 0
/-- the dict behind -/
def nxK (i : Nat) (kvs : List (L2.Key × Int)) (s : Int) : List (L2.Key × Int) :=
  if (kvs.any fun p => decide (p.1 = (Sum.inl s : L2.Key))) = true then kvs.map (fun p => if p.1 = (Sum.inl s : L2.Key) then (p.1, (i : Int)) else p) else kvs ++ [((Sum.inl s : L2.Key), (i : Int))]
theorem find_put {kvs : List (L2.Key × Int)} {k k2 : L2.Key} {v : Int} : ((if (kvs.any fun p => decide (p.1 = k)) = true then kvs.map (fun p => if p.1 = k then (p.1, v) else p) else kvs ++ [(k, v)]).find? fun p => decide (p.1 = k2)).map (·.2) =
    if k2 = k then some v else (kvs.find? fun p => decide (p.1 = k2)).map (·.2) := by
  by_cases h : (kvs.any fun p => decide (p.1 = k)) = true
  · rw [if_pos h]
    have gen : ∀ l : List (L2.Key × Int), (l.map (fun p => if p.1 = k then (p.1, v) else p)).find? (fun p => decide (p.1 = k2)) = (l.find? fun p => decide (p.1 = k2)).map fun p => if p.1 = k then (p.1, v) else p := by
      intro l
      rw [List.find?_map]
      congr 1
      congr 1
      funext p
      simp only [Function.comp]
      split <;> rfl
    rw [gen]
    by_cases e : k2 = k
    · subst e
      rw [if_pos rfl]
      obtain ⟨p, hp, hpk⟩ := List.any_eq_true.mp h
      cases hf : kvs.find? (fun p => decide (p.1 = k2)) with
      | none => exact absurd hpk (List.find?_eq_none.mp hf p hp)
      | some q =>
        have hq := List.find?_some hf
        have hq2 : q.1 = k2 := by simpa using hq
        simp [hq2]
    · rw [if_neg e]
      cases hf : kvs.find? (fun p => decide (p.1 = k2)) with
      | none => rfl
      | some q =>
        have hq := List.find?_some hf
        have hq2 : q.1 = k2 := by simpa using hq
        have : q.1 ≠ k := fun z => e (hq2.symm.trans z)
        simp [this]
  · rw [if_neg h, List.find?_append]
    by_cases e : k2 = k
    · subst e
      rw [if_pos rfl]
      have hn : kvs.find? (fun p => decide (p.1 = k2)) = none := by
        rw [List.find?_eq_none]
        intro p hp hpk
        exact h (List.any_eq_true.mpr ⟨p, hp, hpk⟩)
      rw [hn]
      simp
    · rw [if_neg e]
      have : ([(k, v)] : List (L2.Key × Int)).find? (fun p => decide (p.1 = k2)) = none := by simp [Ne.symm e]
      rw [this]
      simp
theorem DJ.step {r found : List Int} {kvs : List (L2.Key × Int)} (J : DJ r found kvs) (s : Int) : DJ (s :: r) (found ++ [nxE r.length kvs s]) (nxK r.length kvs s) ∧ nxE r.length kvs s = dlr r s := by
  have hl := J.lk s
  have hrl := J.di.len
  have hE : nxE r.length kvs s = dlr r s := by
    unfold nxE dlr
    cases hf : kvs.find? (fun p => decide (p.1 = (Sum.inl s : L2.Key))) with
    | none =>
      rw [hf] at hl
      by_cases h : s ∈ r
      · rw [if_pos h] at hl; simp at hl
      · rw [if_neg h]
    | some q =>
      rw [hf] at hl
      by_cases h : s ∈ r
      · rw [if_pos h] at hl ⊢
        simp at hl
        show (r.length : Int) - q.2 = _
        omega
      · rw [if_neg h] at hl; simp at hl
  refine ⟨⟨?_, ?_, fun t => ?_, ?_⟩, hE⟩
  · unfold nxE nxK
    cases hf : kvs.find? (fun p => decide (p.1 = (Sum.inl s : L2.Key))) with
    | none =>
      have hany : (kvs.any fun p => decide (p.1 = (Sum.inl s : L2.Key))) = false := by
        rw [List.any_eq_false]
        intro p hp
        exact List.find?_eq_none.mp hf p hp
      rw [hany]
      exact J.di.none hf
    | some q =>
      have hq1 := List.find?_some hf
      have hany : (kvs.any fun p => decide (p.1 = (Sum.inl s : L2.Key))) = true := List.any_eq_true.mpr ⟨q, List.mem_of_find?_eq_some hf, hq1⟩
      rw [hany]
      exact J.di.some hf
  · rw [hE, List.reverse_cons, dist_snoc, List.reverse_reverse, ← J.fd]
  · unfold nxK
    rw [find_put]
    by_cases e : t = s
    · subst e
      simp
    · have e2 : ¬ ((Sum.inl t : L2.Key) = Sum.inl s) := fun z => e (Sum.inl.inj z)
      rw [if_neg e2, J.lk t]
      by_cases h : t ∈ r
      · rw [if_pos h, if_pos (List.mem_cons_of_mem _ h), List.idxOf_cons, show (s == t) = false by simpa using fun z => e z.symm]
        simp
        omega
      · rw [if_neg h, if_neg (by simp [e, h])]
  · unfold nxK
    have := J.kl
    split
    · rw [List.length_map, List.length_cons]; omega
    · rw [List.length_append]; simp; omega
theorem DJ.all (xs : List Int) : ∃ kvs, DJ xs.reverse (dist xs) kvs := by
  induction xs using snoc_ind with
  | h0 => exact ⟨[], DJ.nil⟩
  | hs xs x ih =>
    obtain ⟨kvs, J⟩ := ih
    obtain ⟨J2, e⟩ := J.step x
    refine ⟨nxK xs.reverse.length kvs x, ?_⟩
    rw [dist_snoc, List.reverse_append, ← e]
    exact J2
theorem VD_dist {xs : List Int} (h : xs.length ≤ 400) : VD (dist xs) := by
  obtain ⟨kvs, J⟩ := DJ.all xs
  exact ⟨by rw [dist_len]; exact h, J.di.ok, J.di.nd⟩
/-- how many zeros -/
theorem zeros_dist (xs : List Int) : ((dist xs).filter fun e => e == 0).length = (dedup xs).length := by
  induction xs using snoc_ind with
  | h0 => rfl
  | hs xs x ih =>
    rw [dist_snoc, List.filter_append, List.length_append, ih, dedup_snoc, any_eq_mem]
    unfold dlr
    by_cases h : x ∈ xs
    · rw [if_pos (List.mem_reverse.mpr h), decide_eq_true (mem_dedup.mpr h), if_pos rfl]
      have : ((xs.reverse.idxOf x : Nat) : Int) + 1 ≠ 0 := by omega
      simp [this]
    · rw [if_neg fun z => h (List.mem_reverse.mp z), decide_eq_false fun z => h (mem_dedup.mp z)]
      simp
end DL

namespace K05
open PySem PySem.Spec PyProof.Rows L2 DL
def top (i : Nat) : Stmt := PySem.Challenge.pw_howfarback_k05_whole_names_do_not_matter.main.body.getD i (.Pass ⟨0, 0, 0, 0⟩)
abbrev s__law_bag : Stmt := top 22
abbrev s__law_stir : Stmt := top 23
abbrev s__law_draw : Stmt := top 24
abbrev s__law_text : Stmt := top 26
abbrev s_distances_by : Stmt := top 12
abbrev s_is_sequence : Stmt := top 8
abbrev s_are_strings : Stmt := top 15
abbrev s_distances_of : Stmt := top 16
abbrev s__law_shuffled : Stmt := top 25
abbrev s__law_names : Stmt := top 27
abbrev s_is_integer : Stmt := top 7
abbrev s_distances_from_ranks : Stmt := top 20
abbrev s_is_distances : Stmt := top 9
abbrev s_checked : Stmt := top 10
abbrev s_symbol_count : Stmt := top 13
abbrev s_ids_of : Stmt := top 11
abbrev s_with_symbols : Stmt := top 17
abbrev s_rank_at : Stmt := top 18
abbrev s_recency_ranks : Stmt := top 19
abbrev s__law_firsts : Stmt := top 29
abbrev s__law_alike : Stmt := top 28
abbrev s_symbol_ids : Stmt := top 14
abbrev s_law : Stmt := top 30
abbrev g_MAX_POSITIONS : D := .int 400
/-- what the walk asks of the top -/
structure Txt (K : PySem.W.Frag) (mg : Str → Option Value) : Prop where
  d__law_bag : DefT K mg "_law_bag" "_law_bag" s__law_bag []
  d__law_stir : DefT K mg "_law_stir" "_law_stir" s__law_stir []
  d__law_draw : DefT K mg "_law_draw" "_law_draw" s__law_draw []
  d__law_text : DefT K mg "_law_text" "_law_text" s__law_text []
  d_distances_by : DefT K mg "distances_by" "distances_by" s_distances_by []
  d_is_sequence : DefT K mg "is_sequence" "is_sequence" s_is_sequence []
  d_are_strings : DefT K mg "are_strings" "are_strings" s_are_strings []
  d_distances_of : DefT K mg "distances_of" "distances_of" s_distances_of []
  d__law_shuffled : DefT K mg "_law_shuffled" "_law_shuffled" s__law_shuffled []
  d__law_names : DefT K mg "_law_names" "_law_names" s__law_names []
  d_is_integer : DefT K mg "is_integer" "is_integer" s_is_integer [.non]
  d_distances_from_ranks : DefT K mg "distances_from_ranks" "distances_from_ranks" s_distances_from_ranks []
  d_is_distances : DefT K mg "is_distances" "is_distances" s_is_distances []
  d_checked : DefT K mg "checked" "checked" s_checked []
  d_symbol_count : DefT K mg "symbol_count" "symbol_count" s_symbol_count []
  d_ids_of : DefT K mg "ids_of" "ids_of" s_ids_of []
  d_with_symbols : DefT K mg "with_symbols" "with_symbols" s_with_symbols []
  d_rank_at : DefT K mg "rank_at" "rank_at" s_rank_at []
  d_recency_ranks : DefT K mg "recency_ranks" "recency_ranks" s_recency_ranks []
  d__law_firsts : DefT K mg "_law_firsts" "_law_firsts" s__law_firsts []
  d__law_alike : DefT K mg "_law_alike" "_law_alike" s__law_alike []
  d_symbol_ids : DefT K mg "symbol_ids" "symbol_ids" s_symbol_ids []
  d_law : DefT K mg "law" "law" s_law []
  g_MAX_POSITIONS : GlobT K mg "MAX_POSITIONS" g_MAX_POSITIONS
  n_all : mg "all" = none
  n_bool : mg "bool" = none
  n_dict : mg "dict" = none
  n_enumerate : mg "enumerate" = none
  n_int : mg "int" = none
  n_isinstance : mg "isinstance" = none
  n_len : mg "len" = none
  n_list : mg "list" = none
  n_min : mg "min" = none
  n_range : mg "range" = none
  n_set : mg "set" = none
  n_sorted : mg "sorted" = none
  n_str : mg "str" = none
  n_tuple : mg "tuple" = none
  n_zip : mg "zip" = none
section
variable {P : Program} {w : World} {K : PySem.W.Frag} {mg : Str → Option Value} {base : Heap}
def N__law_bag : List Str := ["_law_script", "_law_total", "_law_cell"]
theorem sc__law_bag : FnScope N__law_bag ["_law_script"] (defScope s__law_bag) := ⟨rfl, rfl, rfl, by decide +kernel, rfl, by decide +kernel, by decide +kernel⟩
def w__law_bag : Fn := fnWo 1 3
    (gSeq (gAsg (eC (.int 1)) (gtName 1))
    (gSeq (gFor (iSeq (eVar 0)) (gtName 2) (gAsg (eBin dMod (eBin dAdd (eBin dAdd (eBin dMul (eVar 1) (eC (.int 1000003))) (eBin dMod (eVar 2) (eC (.int 2305843009213693951)))) (eC (.int 1))) (eC (.int 2305843009213693951))) (gtName 1)))
    (gRet (eLst (aCons (eFn fList (aCons (eVar 0) aNil)) (aCons (eC (.int 0)) (aCons (eC (.int 0)) (aCons (eC (.int 0)) (aCons (eVar 1) aNil)))))))))
theorem t__law_bag (T : Txt K mg) : FnT P w K mg base CX0 1 "_law_bag" "_law_bag" s__law_bag [] ["_law_script"] (spW K mg true w__law_bag) :=
  T.d__law_bag.fno (N := N__law_bag) (O := []) (On := []) (L := []) (k := 0) sc__law_bag (by decide) fun f cdv A outer s H E hgu hr =>
    have hN : N__law_bag.Nodup := sc__law_bag.nd
    (dss_cons (ds_set (by decide) hN rfl (.inl rfl) (de_eff de_int))
    (dss_cons (ds_for (passes_of rfl) rfl (di_seq (de_eff (de_var 0 (by decide) (pv 0)))) (dg_name (by decide) (pg_name hN rfl (.inl rfl))) (dss_one (ds_set (by decide) hN rfl (.inl rfl) (de_bin op_mod s_mod (de_b (de_bin op_addA s_add (de_b (de_bin op_addA s_add (de_b (de_bin op_mulA s_mul (de_b (de_eff (de_var 1 (by decide) (pv 1)))) (de_b (de_eff de_int)))) (de_b (de_bin op_mod s_mod (de_b (de_eff (de_var 2 (by decide) (pv 2)))) (de_b (de_eff de_int)))))) (de_b (de_eff de_int)))) (de_b (de_eff de_int))))))
    (dss_one (ds_retNew (dn_lst (da_cons (dn_e (dn_ty call_list_of n_list (by rfl) T.n_list boot_list (dab_cons (de_b (de_eff (de_var 0 (by decide) (pv 0)))) (dab_eff dab_nil)))) (da_cons (de_eff de_int) (da_cons (de_eff de_int) (da_cons (de_eff de_int) (da_cons (de_eff (de_var 1 (by decide) (pv 1))) (da_eff da_nil)))))))))))
theorem u__law_bag (T : Txt K mg) : FnT P w K mg base CX0 1 "_law_bag" "_law_bag" s__law_bag [] ["_law_script"] (spW K mg false (bagBox w__law_bag)) := (t__law_bag T).imp spW_bag
theorem c__law_bag_1 (T : Txt K mg) : CalG P w K mg base CX0 1 "_law_bag" (spW K mg false (bagBox w__law_bag)) [] [] := (u__law_bag T).call fun _ _ _ _ _ _ us hl => match us, hl with | [_], _ => rfl
def N__law_stir : List Str := ["_law_number", "_law_place", "_law_one", "_law_two"]
theorem sc__law_stir : FnScope N__law_stir ["_law_number", "_law_place"] (defScope s__law_stir) := ⟨rfl, rfl, rfl, by decide +kernel, rfl, by decide +kernel, by decide +kernel⟩
def w__law_stir : Fn := fnW 2 4
    (gSeq (gAsg (eBin dMod (eBin dAdd (eBin dAdd (eBin dMul (eVar 0) (eC (.int 998244353))) (eBin dMul (eVar 1) (eC (.int 1000000007)))) (eC (.int 5))) (eC (.int 2305843009213693951))) (gtName 2))
    (gSeq (gAsg (eBin dMod (eBin dMul (eVar 2) (eVar 2)) (eC (.int 2305843009213693951))) (gtName 3))
    (gRet (eBin dDiv (eBin dMod (eBin dAdd (eBin dAdd (eBin dMul (eVar 3) (eC (.int 2860486313))) (eBin dMul (eBin dMul (eVar 1) (eVar 1)) (eC (.int 48271)))) (eBin dDiv (eVar 2) (eC (.int 3)))) (eC (.int 2305843009213693921))) (eC (.int 1024))))))
theorem t__law_stir (T : Txt K mg) : FnT P w K mg base CX0 1 "_law_stir" "_law_stir" s__law_stir [] ["_law_number", "_law_place"] (spW K mg false w__law_stir) :=
  T.d__law_stir.fn (N := N__law_stir) (O := []) (On := []) (L := []) (k := 0) sc__law_stir (by decide) fun f cdv A outer s H E hgu hr =>
    have hN : N__law_stir.Nodup := sc__law_stir.nd
    (dss_cons (ds_set (by decide) hN rfl (.inl rfl) (de_bin op_mod s_mod (de_b (de_bin op_addA s_add (de_b (de_bin op_addA s_add (de_b (de_bin op_mulA s_mul (de_b (de_eff (de_var 0 (by decide) (pv 0)))) (de_b (de_eff de_int)))) (de_b (de_bin op_mulA s_mul (de_b (de_eff (de_var 1 (by decide) (pv 1)))) (de_b (de_eff de_int)))))) (de_b (de_eff de_int)))) (de_b (de_eff de_int))))
    (dss_cons (ds_set (by decide) hN rfl (.inl rfl) (de_bin op_mod s_mod (de_b (de_bin op_mulA s_mul (de_b (de_eff (de_var 2 (by decide) (pv 2)))) (de_b (de_eff (de_var 2 (by decide) (pv 2)))))) (de_b (de_eff de_int))))
    (dss_one (ds_ret (de_bin op_fdiv s_div (de_b (de_bin op_mod s_mod (de_b (de_bin op_addA s_add (de_b (de_bin op_addA s_add (de_b (de_bin op_mulA s_mul (de_b (de_eff (de_var 3 (by decide) (pv 3)))) (de_b (de_eff de_int)))) (de_b (de_bin op_mulA s_mul (de_b (de_bin op_mulA s_mul (de_b (de_eff (de_var 1 (by decide) (pv 1)))) (de_b (de_eff (de_var 1 (by decide) (pv 1)))))) (de_b (de_eff de_int)))))) (de_b (de_bin op_fdiv s_div (de_b (de_eff (de_var 2 (by decide) (pv 2)))) (de_b (de_eff de_int)))))) (de_b (de_eff de_int)))) (de_b (de_eff de_int)))))))
theorem c__law_stir_2 (T : Txt K mg) : CalG P w K mg base CX0 1 "_law_stir" (spW K mg false w__law_stir) [] [] := (t__law_stir T).call fun _ _ _ _ _ _ us hl => match us, hl with | [_, _], _ => rfl
def N__law_draw : List Str := ["_law_bag_here", "_law_bound", "_law_cell", "_law_found"]
theorem sc__law_draw : FnScope N__law_draw ["_law_bag_here", "_law_bound"] (defScope s__law_draw) := ⟨rfl, rfl, rfl, by decide +kernel, rfl, by decide +kernel, by decide +kernel⟩
def w__law_draw : Fn := fnW 2 4
    (gSeq (gIf (tE (eBin dEq (eVar 1) (eC (.int 1)))) (gRet (eC (.int 0))) gNext)
    (gSeq (gObjPut (eVar 0) (eC (.int 3)) (eBin dAdd (eObj (eVar 0) (eC (.int 3))) (eC (.int 1))))
    (gSeq (gIf (tAnd (tE (eBin dLt (eObj (eVar 0) (eC (.int 2))) (eC (.int 2)))) (tE (eBin dEq (eObj (eVar 0) (eC (.int 1))) (eFn fLen (aCons (eObj (eVar 0) (eC (.int 0))) aNil))))) (gRet (eBin dMod (eCallP w__law_stir (aDef (aCons (eObj (eVar 0) (eC (.int 4))) (aCons (eObj (eVar 0) (eC (.int 3))) aNil)) [])) (eVar 1))) gNext)
    (gSeq (gIf (tE (eBin dLt (eObj (eVar 0) (eC (.int 2))) (eC (.int 2)))) (gSeq (gAsg (eBin dIx (eObj (eVar 0) (eC (.int 0))) (eObj (eVar 0) (eC (.int 1)))) (gtName 2))
    (gSeq (gObjPut (eVar 0) (eC (.int 1)) (eBin dAdd (eObj (eVar 0) (eC (.int 1))) (eC (.int 1))))
    (gSeq (gIf (tE (eBin dLt (eVar 2) (eBin dPow (eC (.int 10)) (eC (.int 18))))) (gRet (eBin dMod (eCallP w__law_stir (aDef (aCons (eBin dMod (eVar 2) (eC (.int 2305843009213693951))) (aCons (eObj (eVar 0) (eC (.int 3))) aNil)) [])) (eVar 1))) gNext)
    (gObjPut (eVar 0) (eC (.int 2)) (eBin dSub (eVar 2) (eBin dPow (eC (.int 10)) (eC (.int 18)))))))) gNext)
    (gSeq (gAsg (eBin dMod (eObj (eVar 0) (eC (.int 2))) (eVar 1)) (gtName 3))
    (gSeq (gObjPut (eVar 0) (eC (.int 2)) (eBin dDiv (eObj (eVar 0) (eC (.int 2))) (eVar 1)))
    (gRet (eVar 3))))))))
theorem t__law_draw (T : Txt K mg) : FnT P w K mg base CX0 2 "_law_draw" "_law_draw" s__law_draw [] ["_law_bag_here", "_law_bound"] (spW K mg false w__law_draw) :=
  T.d__law_draw.fn (N := N__law_draw) (O := []) (On := []) (L := []) (k := 1) sc__law_draw (by decide) fun f cdv A outer s H E hgu hr =>
    have hN : N__law_draw.Nodup := sc__law_draw.nd
    (dss_cons (ds_if (dt_cmp (op_eqA hr.units) s_eq (de_b (de_eff (de_var 1 (by decide) (pv 1)))) (de_b (de_eff de_int)) rfl) (dss_one (ds_ret (de_eff de_int))) dss_nil)
    (dss_cons (ds_objPut (de_eff (de_var 0 (by decide) (pv 0))) (de_eff de_int) (de_bin op_addA s_add (de_b (de_obj (de_eff (de_var 0 (by decide) (pv 0))) (de_eff de_int) (by intro _ _; rfl))) (de_b (de_eff de_int))) (fun h1 h2 h3 => ps_asg h1 (pg_sub h2 h3 set_list)))
    (dss_cons (ds_if (dt_w (dw_and (dt_cmp op_lt (s_cmp _) (de_b (de_obj (de_eff (de_var 0 (by decide) (pv 0))) (de_eff de_int) (by intro _ _; rfl))) (de_b (de_eff de_int)) rfl) (dw_and1 (dt_cmp (op_eqA hr.units) s_eq (de_b (de_obj (de_eff (de_var 0 (by decide) (pv 0))) (de_eff de_int) (by intro _ _; rfl))) (de_b (de_blt call_lenA s_len (by rfl) T.n_len boot_len (dab_cons (de_b (de_obj (de_eff (de_var 0 (by decide) (pv 0))) (de_eff de_int) (by intro _ _; rfl))) (dab_eff dab_nil)))) rfl)))) (dss_one (ds_ret (de_bin op_mod s_mod (de_b (ce_callP (c__law_stir_2 T) hgu (hr.mono (by decide)) (by rfl) passN (da_cons (de_obj (de_eff (de_var 0 (by decide) (pv 0))) (de_eff de_int) (by intro _ _; rfl)) (da_cons (de_obj (de_eff (de_var 0 (by decide) (pv 0))) (de_eff de_int) (by intro _ _; rfl)) (da_eff da_nil))))) (de_b (de_eff (de_var 1 (by decide) (pv 1))))))) dss_nil)
    (dss_cons (ds_if (dt_cmp op_lt (s_cmp _) (de_b (de_obj (de_eff (de_var 0 (by decide) (pv 0))) (de_eff de_int) (by intro _ _; rfl))) (de_b (de_eff de_int)) rfl) (dss_cons (ds_set (by decide) hN rfl (.inl rfl) (de_ix ix_seq s_ix (de_b (de_obj (de_eff (de_var 0 (by decide) (pv 0))) (de_eff de_int) (by intro _ _; rfl))) (de_b (de_obj (de_eff (de_var 0 (by decide) (pv 0))) (de_eff de_int) (by intro _ _; rfl))) (by intro _ _; rfl)))
    (dss_cons (ds_objPut (de_eff (de_var 0 (by decide) (pv 0))) (de_eff de_int) (de_bin op_addA s_add (de_b (de_obj (de_eff (de_var 0 (by decide) (pv 0))) (de_eff de_int) (by intro _ _; rfl))) (de_b (de_eff de_int))) (fun h1 h2 h3 => ps_asg h1 (pg_sub h2 h3 set_list)))
    (dss_cons (ds_if (dt_cmp op_lt (s_cmp _) (de_b (de_eff (de_var 2 (by decide) (pv 2)))) (de_b (de_bin op_pow s_pow (de_b (de_eff de_int)) (de_b (de_eff de_int)))) rfl) (dss_one (ds_ret (de_bin op_mod s_mod (de_b (ce_callP (c__law_stir_2 T) hgu (hr.mono (by decide)) (by rfl) passN (da_cons (de_bin op_mod s_mod (de_b (de_eff (de_var 2 (by decide) (pv 2)))) (de_b (de_eff de_int))) (da_cons (de_obj (de_eff (de_var 0 (by decide) (pv 0))) (de_eff de_int) (by intro _ _; rfl)) (da_eff da_nil))))) (de_b (de_eff (de_var 1 (by decide) (pv 1))))))) dss_nil)
    (dss_one (ds_objPut (de_eff (de_var 0 (by decide) (pv 0))) (de_eff de_int) (de_bin op_sub s_sub (de_b (de_eff (de_var 2 (by decide) (pv 2)))) (de_b (de_bin op_pow s_pow (de_b (de_eff de_int)) (de_b (de_eff de_int))))) (fun h1 h2 h3 => ps_asg h1 (pg_sub h2 h3 set_list))))))) dss_nil)
    (dss_cons (ds_set (by decide) hN rfl (.inl rfl) (de_bin op_mod s_mod (de_b (de_obj (de_eff (de_var 0 (by decide) (pv 0))) (de_eff de_int) (by intro _ _; rfl))) (de_b (de_eff (de_var 1 (by decide) (pv 1))))))
    (dss_cons (ds_objPut (de_eff (de_var 0 (by decide) (pv 0))) (de_eff de_int) (de_bin op_fdiv s_div (de_b (de_obj (de_eff (de_var 0 (by decide) (pv 0))) (de_eff de_int) (by intro _ _; rfl))) (de_b (de_eff (de_var 1 (by decide) (pv 1))))) (fun h1 h2 h3 => ps_asg h1 (pg_sub h2 h3 set_list)))
    (dss_one (ds_ret (de_eff (de_var 3 (by decide) (pv 3)))))))))))
theorem u__law_draw (T : Txt K mg) : FnT P w K mg base CX0 2 "_law_draw" "_law_draw" s__law_draw [] ["_law_bag_here", "_law_bound"] (spW K mg false (bagUse w__law_draw)) := (t__law_draw T).imp spW_bagUse
theorem c__law_draw_2 (T : Txt K mg) : CalG P w K mg base CX0 2 "_law_draw" (spW K mg false (bagUse w__law_draw)) [] [] := (u__law_draw T).call fun _ _ _ _ _ _ us hl => match us, hl with | [_, _], _ => rfl
def N__law_text : List Str := ["_law_bag_here", "_law_most", "_law_size", "_law_wide", "_law_found", "_law_place"]
theorem sc__law_text : FnScope N__law_text ["_law_bag_here", "_law_most"] (defScope s__law_text) := ⟨rfl, rfl, rfl, by decide +kernel, rfl, by decide +kernel, by decide +kernel⟩
def w__law_text : Fn := fnW 2 6
    (gSeq (gAsg (eBin dIx (eLst (aCons (eCall (bagUse w__law_draw) (aDef (aCons (eVar 0) (aCons (eFn fMin (aCons (eC (.int 6)) (aCons (eBin dAdd (eVar 1) (eC (.int 1))) aNil))) aNil)) [])) (aCons (eCall (bagUse w__law_draw) (aDef (aCons (eVar 0) (aCons (eBin dAdd (eVar 1) (eC (.int 1))) aNil)) [])) (aCons (eVar 1) aNil)))) (eBin dDiv (eCall (bagUse w__law_draw) (aDef (aCons (eVar 0) (aCons (eC (.int 8)) aNil)) [])) (eC (.int 3)))) (gtName 2))
    (gSeq (gAsg (eBin dIx (eLst (aCons (eC (.int 1)) (aCons (eC (.int 2)) (aCons (eC (.int 5)) (aCons (eC (.int 12)) (aCons (eBin dAdd (eVar 1) (eC (.int 1))) aNil)))))) (eCall (bagUse w__law_draw) (aDef (aCons (eVar 0) (aCons (eC (.int 5)) aNil)) []))) (gtName 3))
    (gSeq (gAsg (eLst aNil) (gtName 4))
    (gSeq (gFor (iRng1 (eVar 2)) (gtName 5) (gIf (tAnd (tE (eBin dNe (eVar 4) (eLst aNil))) (tE (eBin dEq (eCall (bagUse w__law_draw) (aDef (aCons (eVar 0) (aCons (eC (.int 3)) aNil)) [])) (eC (.int 0))))) (gOwn 4 isLst oAppend (aCons (eBin dIx (eVar 4) (eBin dSub (eUn dNeg (eC (.int 1))) (eCall (bagUse w__law_draw) (aDef (aCons (eVar 0) (aCons (eFn fMin (aCons (eC (.int 4)) (aCons (eFn fLen (aCons (eVar 4) aNil)) aNil))) aNil)) [])))) aNil)) (gOwn 4 isLst oAppend (aCons (eCall (bagUse w__law_draw) (aDef (aCons (eVar 0) (aCons (eVar 3) aNil)) [])) aNil))))
    (gRet (eVar 4))))))
theorem t__law_text (T : Txt K mg) : FnT P w K mg base CX0 3 "_law_text" "_law_text" s__law_text [] ["_law_bag_here", "_law_most"] (spW K mg false w__law_text) :=
  T.d__law_text.fn (N := N__law_text) (O := [4]) (On := [4]) (L := [4]) (k := 2) sc__law_text (by decide) fun f cdv A outer s H E hgu hr =>
    have hN : N__law_text.Nodup := sc__law_text.nd
    (dss_cons (ds_set (by decide) hN rfl (.inl rfl) (de_ix ix_seq s_ix (de_b (dn_e (dn_lst (da_cons (ce_call (c__law_draw_2 T) hgu (hr.mono (by decide)) (by rfl) passN (da_cons (de_eff (de_var 0 (by decide) (pv 0))) (da_cons (de_blt (call_min2 rfl) s_min (by rfl) T.n_min (by decide +kernel) (dab_cons (de_b (de_eff de_int)) (dab_cons (de_b (de_bin op_addA s_add (de_b (de_eff (de_var 1 (by decide) (pv 1)))) (de_b (de_eff de_int)))) (dab_eff dab_nil)))) (da_eff da_nil)))) (da_cons (ce_call (c__law_draw_2 T) hgu (hr.mono (by decide)) (by rfl) passN (da_cons (de_eff (de_var 0 (by decide) (pv 0))) (da_cons (de_bin op_addA s_add (de_b (de_eff (de_var 1 (by decide) (pv 1)))) (de_b (de_eff de_int))) (da_eff da_nil)))) (da_cons (de_eff (de_var 1 (by decide) (pv 1))) (da_eff da_nil))))))) (de_b (de_bin op_fdiv s_div (de_b (ce_call (c__law_draw_2 T) hgu (hr.mono (by decide)) (by rfl) passN (da_cons (de_eff (de_var 0 (by decide) (pv 0))) (da_cons (de_eff de_int) (da_eff da_nil))))) (de_b (de_eff de_int)))) (by intro _ _; rfl)))
    (dss_cons (ds_set (by decide) hN rfl (.inl rfl) (de_ix ix_seq s_ix (de_b (dn_e (dn_lst (da_cons (de_eff de_int) (da_cons (de_eff de_int) (da_cons (de_eff de_int) (da_cons (de_eff de_int) (da_cons (de_bin op_addA s_add (de_b (de_eff (de_var 1 (by decide) (pv 1)))) (de_b (de_eff de_int))) (da_eff da_nil))))))))) (de_b (ce_call (c__law_draw_2 T) hgu (hr.mono (by decide)) (by rfl) passN (da_cons (de_eff (de_var 0 (by decide) (pv 0))) (da_cons (de_eff de_int) (da_eff da_nil))))) (by intro _ _; rfl)))
    (dss_cons (ds_own (by decide) hN rfl (.inl rfl) (dn_lst (da_eff da_nil)))
    (dss_cons (ds_for (passes_of rfl) rfl (di_rng1 (by rfl) T.n_range (de_eff (de_var 2 (by decide) (pv 2)))) (dg_name (by decide) (pg_name hN rfl (.inl rfl))) (dss_one (ds_if (dt_w (dw_and (dt_cmp (op_neA hr.units) s_ne (db_eff (db_var 4 (by decide) (pv 4))) (de_b (dn_e (dn_lst (da_eff da_nil)))) rfl) (dw_and1 (dt_cmp (op_eqA hr.units) s_eq (de_b (ce_call (c__law_draw_2 T) hgu (hr.mono (by decide)) (by rfl) passN (da_cons (de_eff (de_var 0 (by decide) (pv 0))) (da_cons (de_eff de_int) (da_eff da_nil))))) (de_b (de_eff de_int)) rfl)))) (dss_one (ds_ownM (by decide) o_append tyo_lst (pv 4) (da_cons (de_ix ix_seq s_ix (db_eff (db_var 4 (by decide) (pv 4))) (de_b (de_bin op_sub s_sub (de_b (de_un un_neg s_neg (de_b (de_eff de_int)))) (de_b (ce_call (c__law_draw_2 T) hgu (hr.mono (by decide)) (by rfl) passN (da_cons (de_eff (de_var 0 (by decide) (pv 0))) (da_cons (de_blt (call_min2 rfl) s_min (by rfl) T.n_min (by decide +kernel) (dab_cons (de_b (de_eff de_int)) (dab_cons (de_b (de_blt call_lenA s_len (by rfl) T.n_len boot_len (dab_cons (db_eff (db_var 4 (by decide) (pv 4))) (dab_eff dab_nil)))) (dab_eff dab_nil)))) (da_eff da_nil))))))) (by intro _ _; rfl)) (da_eff da_nil)) (fun h h2 => pe_bm PySem.F.plainAttrs_list PySem.F.slot_list_append PySem.F.type_list_append mt_append h2 h))) (dss_one (ds_ownM (by decide) o_append tyo_lst (pv 4) (da_cons (ce_call (c__law_draw_2 T) hgu (hr.mono (by decide)) (by rfl) passN (da_cons (de_eff (de_var 0 (by decide) (pv 0))) (da_cons (de_eff (de_var 3 (by decide) (pv 3))) (da_eff da_nil)))) (da_eff da_nil)) (fun h h2 => pe_bm PySem.F.plainAttrs_list PySem.F.slot_list_append PySem.F.type_list_append mt_append h2 h))))))
    (dss_freeze 4 (dss_one (ds_ret (de_eff (de_var 4 (by decide) (pv 4))))))))))
theorem c__law_text_2 (T : Txt K mg) : CalG P w K mg base CX0 3 "_law_text" (spW K mg false w__law_text) [] [] := (t__law_text T).call fun _ _ _ _ _ _ us hl => match us, hl with | [_, _], _ => rfl
def N_distances_by : List Str := ["symbols", "last", "found", "position", "symbol"]
theorem sc_distances_by : FnScope N_distances_by ["symbols"] (defScope s_distances_by) := ⟨rfl, rfl, rfl, by decide +kernel, rfl, by decide +kernel, by decide +kernel⟩
def w_distances_by : Fn := fnW 1 5
    (gSeq (gAsg (eC (.dct [])) (gtName 1))
    (gSeq (gAsg (eLst aNil) (gtName 2))
    (gSeq (gFor (iEnum (eVar 0)) (gtTup 2 (gtCons (gtName 3) (gtCons (gtName 4) gtNil))) (gSeq (gOwn 2 isLst oAppend (aCons (eIf (tE (eBin dInK (eVar 4) (eVar 1))) (eBin dSub (eVar 3) (eBin dGet (eVar 1) (eVar 4))) (eC (.int 0))) aNil))
    (gDPut 1 (eVar 3) (eVar 4))))
    (gRet (eVar 2)))))
theorem t_distances_by (T : Txt K mg) : FnT P w K mg base CX0 1 "distances_by" "distances_by" s_distances_by [] ["symbols"] (spW K mg false w_distances_by) :=
  T.d_distances_by.fn (N := N_distances_by) (O := [1, 2]) (On := [1, 2]) (L := [1, 2]) (k := 0) sc_distances_by (by decide) fun f cdv A outer s H E hgu hr =>
    have hN : N_distances_by.Nodup := sc_distances_by.nd
    (dss_cons (ds_own (by decide) hN rfl (.inl rfl) (dn_eff dn_dict0))
    (dss_cons (ds_own (by decide) hN rfl (.inl rfl) (dn_lst (da_eff da_nil)))
    (dss_cons (ds_for (passes_of rfl) rfl (di_enum (by rfl) T.n_enumerate (de_eff (de_var 0 (by decide) (pv 0)))) (dg_tup rfl (dgs_cons (dg_name (by decide) (pg_name hN rfl (.inl rfl))) (dgs_cons (dg_name (by decide) (pg_name hN rfl (.inl rfl))) dgs_nil))) (dss_cons (ds_ownM (by decide) o_append tyo_lst (pv 2) (da_cons (de_if (dt_din (hu_of hr) (de_eff (de_var 4 (by decide) (pv 4))) (db_eff (db_var 1 (by decide) (pv 1)))) (de_bin op_sub s_sub (de_b (de_eff (de_var 3 (by decide) (pv 3)))) (de_b (de_dget (hu_of hr) (db_eff (db_var 1 (by decide) (pv 1))) (de_eff (de_var 4 (by decide) (pv 4))) (by intro _ _; rfl)))) (de_eff de_int)) (da_eff da_nil)) (fun h h2 => pe_bm PySem.F.plainAttrs_list PySem.F.slot_list_append PySem.F.type_list_append mt_append h2 h))
    (dss_one (ds_dput (by decide) (de_eff (de_var 3 (by decide) (pv 3))) (pv 1) (de_eff (de_var 4 (by decide) (pv 4))) (fun h1 h2 h3 => ps_dput (hu_of hr) h2 h3 h1 rfl)))))
    (dss_freeze 2 (dss_one (ds_ret (de_eff (de_var 2 (by decide) (pv 2)))))))))
theorem c_distances_by_1 (T : Txt K mg) : CalG P w K mg base CX0 1 "distances_by" (spW K mg false w_distances_by) [] [] := (t_distances_by T).call fun _ _ _ _ _ _ us hl => match us, hl with | [_], _ => rfl
def N_is_sequence : List Str := ["value"]
theorem sc_is_sequence : FnScope N_is_sequence ["value"] (defScope s_is_sequence) := ⟨rfl, rfl, rfl, by decide +kernel, rfl, by decide +kernel, by decide +kernel⟩
def w_is_sequence : Fn := fnW 1 1
    (gRet (eIsI [.list, .tuple] (eVar 0)))
theorem t_is_sequence (T : Txt K mg) : FnT P w K mg base CX0 1 "is_sequence" "is_sequence" s_is_sequence [] ["value"] (spW K mg false w_is_sequence) :=
  T.d_is_sequence.fn (N := N_is_sequence) (O := []) (On := []) (L := []) (k := 0) sc_is_sequence (by decide) fun f cdv A outer s H E hgu hr =>
    have hN : N_is_sequence.Nodup := sc_is_sequence.nd
    (dss_one (ds_ret (de_isiT (Ts := [.list, .tuple]) (by rfl) T.n_isinstance (de_b (de_eff (de_var 0 (by decide) (pv 0)))) (pa_cons (pe_bltn (v := .ty "list") (by rfl) T.n_list boot_list rfl) (pa_cons (pe_bltn (v := .ty "tuple") (by rfl) T.n_tuple boot_tuple rfl) pa_nil)) (by decide) (by simp))))
theorem c_is_sequence_1 (T : Txt K mg) : CalG P w K mg base CX0 1 "is_sequence" (spW K mg false w_is_sequence) [] [] := (t_is_sequence T).call fun _ _ _ _ _ _ us hl => match us, hl with | [_], _ => rfl
def N_are_strings : List Str := ["value", "symbol"]
theorem sc_are_strings : FnScope N_are_strings ["value"] (defScope s_are_strings) := ⟨rfl, rfl, rfl, by decide +kernel, rfl, by decide +kernel, by decide +kernel⟩
def w_are_strings : Fn := fnW 1 2
    (gRet (eAnd (eCallP w_is_sequence (aDef (aCons (eVar 0) aNil) [])) (eFn fAll (aCons (eLc (iSeq (eVar 0)) [1] (gtName 1) tYes (eIsI [.str] (eVar 1))) aNil))))
theorem t_are_strings (T : Txt K mg) : FnT P w K mg base CX0 2 "are_strings" "are_strings" s_are_strings [] ["value"] (spW K mg false w_are_strings) :=
  T.d_are_strings.fn (N := N_are_strings) (O := []) (On := []) (L := []) (k := 1) sc_are_strings (by decide) fun f cdv A outer s H E hgu hr =>
    have hN : N_are_strings.Nodup := sc_are_strings.nd
    (dss_one (ds_ret (de_and (ce_callP (c_is_sequence_1 T) hgu (hr.mono (by decide)) (by rfl) passN (da_cons (de_eff (de_var 0 (by decide) (pv 0))) (da_eff da_nil))) (de_one (de_blt (cr_all rfl) s_all (by rfl) T.n_all (by decide +kernel) (dab_cons (de_b (dn_e (dn_lc (ownN := [("symbol", 1)]) (E1 := E0) rfl hN (di_seq (de_eff (de_var 0 (by decide) (pv 0)))) (blkOk_by (N := N_are_strings) (sc := defScope s_are_strings) (by decide +kernel)) rfl (by decide) (fun _ _ _ _ _ => (dgc_name (by decide) (by decide) (pg_name hN rfl (.inl rfl)))) (fun _ _ _ _ _ => dts_nil) (fun _ _ _ _ _ => (de_isi (T := .str) (by rfl) T.n_isinstance (de_b (de_eff (de_var 1 (by decide) (pv 1)))) (pe_bltn (v := .ty "str") (by rfl) T.n_str boot_str rfl)))))) (dab_eff dab_nil)))))))
theorem c_are_strings_1 (T : Txt K mg) : CalG P w K mg base CX0 2 "are_strings" (spW K mg false w_are_strings) [] [] := (t_are_strings T).call fun _ _ _ _ _ _ us hl => match us, hl with | [_], _ => rfl
def N_distances_of : List Str := ["symbols"]
theorem sc_distances_of : FnScope N_distances_of ["symbols"] (defScope s_distances_of) := ⟨rfl, rfl, rfl, by decide +kernel, rfl, by decide +kernel, by decide +kernel⟩
def w_distances_of : Fn := fnW 1 1
    (gSeq (gIf (tNot (tE (eCallP w_are_strings (aDef (aCons (eVar 0) aNil) [])))) gNever gNext)
    (gRet (eCallP w_distances_by (aDef (aCons (eVar 0) aNil) []))))
theorem t_distances_of (T : Txt K mg) : FnT P w K mg base CX0 3 "distances_of" "distances_of" s_distances_of [] ["symbols"] (spW K mg false w_distances_of) :=
  T.d_distances_of.fn (N := N_distances_of) (O := []) (On := []) (L := []) (k := 2) sc_distances_of (by decide) fun f cdv A outer s H E hgu hr =>
    have hN : N_distances_of.Nodup := sc_distances_of.nd
    (dss_cons (ds_if (dt_not (dt_val (ce_callP (c_are_strings_1 T) hgu (hr.mono (by decide)) (by rfl) passN (da_cons (de_eff (de_var 0 (by decide) (pv 0))) (da_eff da_nil))))) (dss_one ds_never) dss_nil)
    (dss_one (ds_ret (ce_callP (c_distances_by_1 T) hgu (hr.mono (by decide)) (by rfl) passN (da_cons (de_eff (de_var 0 (by decide) (pv 0))) (da_eff da_nil))))))
theorem c_distances_of_1 (T : Txt K mg) : CalG P w K mg base CX0 3 "distances_of" (spW K mg false w_distances_of) [] [] := (t_distances_of T).call fun _ _ _ _ _ _ us hl => match us, hl with | [_], _ => rfl
def N__law_shuffled : List Str := ["_law_bag_here", "_law_items", "_law_left", "_law_step"]
theorem sc__law_shuffled : FnScope N__law_shuffled ["_law_bag_here", "_law_items"] (defScope s__law_shuffled) := ⟨rfl, rfl, rfl, by decide +kernel, rfl, by decide +kernel, by decide +kernel⟩
def w__law_shuffled : Fn := fnW 2 4
    (gSeq (gAsg (eNewObj (eFn fList (aCons (eVar 1) aNil))) (gtName 2))
    (gRet (eLc (iRng1 (eFn fLen (aCons (eVar 1) aNil))) [3] (gtName 3) tYes (eObjPop (eVar 2) (eCall (bagUse w__law_draw) (aDef (aCons (eVar 0) (aCons (eObjLen (eVar 2)) aNil)) []))))))
theorem t__law_shuffled (T : Txt K mg) : FnT P w K mg base CX0 3 "_law_shuffled" "_law_shuffled" s__law_shuffled [] ["_law_bag_here", "_law_items"] (spW K mg false w__law_shuffled) :=
  T.d__law_shuffled.fn (N := N__law_shuffled) (O := []) (On := []) (L := []) (k := 2) sc__law_shuffled (by decide) fun f cdv A outer s H E hgu hr =>
    have hN : N__law_shuffled.Nodup := sc__law_shuffled.nd
    (dss_cons (ds_set (by decide) hN rfl (.inr rfl) (de_newObj (dn_ty call_list_of n_list (by rfl) T.n_list boot_list (dab_cons (de_b (de_eff (de_var 1 (by decide) (pv 1)))) (dab_eff dab_nil)))))
    (dss_one (ds_ret (dn_e (dn_lc (ownN := [("_law_step", 3)]) (E1 := E0) rfl hN (di_rng1 (by rfl) T.n_range (de_blt call_lenA s_len (by rfl) T.n_len boot_len (dab_cons (de_b (de_eff (de_var 1 (by decide) (pv 1)))) (dab_eff dab_nil)))) (blkOk_by (N := N__law_shuffled) (sc := defScope s__law_shuffled) (by decide +kernel)) rfl (by decide) (fun _ _ _ _ _ => (dgc_name (by decide) (by decide) (pg_name hN rfl (.inl rfl)))) (fun _ _ _ _ _ => dts_nil) (fun _ _ _ _ _ => (de_objPop (de_eff (de_var 2 (by decide) (pv 2))) (ce_call (c__law_draw_2 T) hgu (hr.mono (by decide)) (by rfl) passN (da_cons (de_eff (de_var 0 (by decide) (pv 0))) (da_cons (de_objLen rfl (by rfl) T.n_len boot_len (de_eff (de_var 2 (by decide) (pv 2)))) (da_eff da_nil)))) (fun h h2 => pe_bm PySem.F.plainAttrs_list PySem.F.slot_list_pop PySem.F.type_list_pop mt_popAt h2 h))))))))
theorem u__law_shuffled (T : Txt K mg) : FnT P w K mg base CX0 3 "_law_shuffled" "_law_shuffled" s__law_shuffled [] ["_law_bag_here", "_law_items"] (spW K mg false (fnSub w__law_shuffled)) := (t__law_shuffled T).imp spW_sub
theorem c__law_shuffled_2 (T : Txt K mg) : CalG P w K mg base CX0 3 "_law_shuffled" (spW K mg false (fnSub w__law_shuffled)) [] [] := (u__law_shuffled T).call fun _ _ _ _ _ _ us hl => match us, hl with | [_, _], _ => rfl
def N__law_names : List Str := ["_law_bag_here", "_law_text_here", "_law_signs", "_law_names_here", "_law_number", "_law_at", "_law_sign"]
theorem sc__law_names : FnScope N__law_names ["_law_bag_here", "_law_text_here"] (defScope s__law_names) := ⟨rfl, rfl, rfl, by decide +kernel, rfl, by decide +kernel, by decide +kernel⟩
def w__law_names : Fn := fnW 2 7
    (gSeq (gAsg (eSortSet (eVar 1)) (gtName 2))
    (gSeq (gAsg (eCall (fnSub w__law_shuffled) (aDef (aCons (eVar 0) (aCons (eLc (iRng1 (eFn fLen (aCons (eVar 2) aNil))) [4] (gtName 4) tYes (eBin dAdd (eC (.str "n")) (eFn fStr (aCons (eVar 4) aNil)))) aNil)) [])) (gtName 3))
    (gRet (eFn fDictP (aCons (eLc (iEnum (eVar 2)) [5, 6] (gtTup 2 (gtCons (gtName 5) (gtCons (gtName 6) gtNil))) tYes (eTup (aCons (eVar 6) (aCons (eBin dIx (eVar 3) (eVar 5)) aNil)))) aNil)))))
theorem t__law_names (T : Txt K mg) : FnT P w K mg base CX0 4 "_law_names" "_law_names" s__law_names [] ["_law_bag_here", "_law_text_here"] (spW K mg false w__law_names) :=
  T.d__law_names.fn (N := N__law_names) (O := []) (On := []) (L := []) (k := 3) sc__law_names (by decide) fun f cdv A outer s H E hgu hr =>
    have hN : N__law_names.Nodup := sc__law_names.nd
    (dss_cons (ds_set (by decide) hN rfl (.inl rfl) (dn_e (dn_sortSet (by rfl) T.n_sorted (by rfl) T.n_set rfl (de_b (de_eff (de_var 1 (by decide) (pv 1)))))))
    (dss_cons (ds_set (by decide) hN rfl (.inr rfl) (ce_call (c__law_shuffled_2 T) hgu (hr.mono (by decide)) (by rfl) passN (da_cons (de_eff (de_var 0 (by decide) (pv 0))) (da_cons (dn_e (dn_lc (ownN := [("_law_number", 4)]) (E1 := E0) rfl hN (di_rng1 (by rfl) T.n_range (de_blt call_lenA s_len (by rfl) T.n_len boot_len (dab_cons (de_b (de_eff (de_var 2 (by decide) (pv 2)))) (dab_eff dab_nil)))) (blkOk_by (N := N__law_names) (sc := defScope s__law_names) (by decide +kernel)) rfl (by decide) (fun _ _ _ _ _ => (dgc_name (by decide) (by decide) (pg_name hN rfl (.inl rfl)))) (fun _ _ _ _ _ => dts_nil) (fun _ _ _ _ _ => (de_bin op_addA s_add (de_b (de_eff de_str)) (de_b (de_ty (call_str_int.or SkE.call_str_str) s_str (by rfl) T.n_str boot_str (dab_cons (de_b (de_eff (de_var 4 (by decide) (pv 4)))) (dab_eff dab_nil)))))))) (da_eff da_nil)))))
    (dss_one (ds_ret (dn_e (dn_ty (call_dictP rfl) n_dictP (by rfl) T.n_dict (by decide +kernel) (dab_cons (de_b (dn_e (dn_lc (ownN := [("_law_at", 5), ("_law_sign", 6)]) (E1 := E0) rfl hN (di_enum (by rfl) T.n_enumerate (de_eff (de_var 2 (by decide) (pv 2)))) (blkOk_by (N := N__law_names) (sc := defScope s__law_names) (by decide +kernel)) rfl (by decide) (fun _ _ _ _ _ => (dgc_tup rfl (dgcs_cons (dgc_name (by decide) (by decide) (pg_name hN rfl (.inl rfl))) (dgcs_cons (dgc_name (by decide) (by decide) (pg_name hN rfl (.inl rfl))) dgcs_nil)))) (fun _ _ _ _ _ => dts_nil) (fun _ _ _ _ _ => (de_tup (da_cons (de_eff (de_var 6 (by decide) (pv 6))) (da_cons (de_ix ix_seq s_ix (de_b (de_eff (de_var 3 (by decide) (pv 3)))) (de_b (de_eff (de_var 5 (by decide) (pv 5)))) (by intro _ _; rfl)) (da_eff da_nil)))))))) (dab_eff dab_nil))))))))
theorem c__law_names_2 (T : Txt K mg) : CalG P w K mg base CX0 4 "_law_names" (spW K mg false w__law_names) [] [] := (t__law_names T).call fun _ _ _ _ _ _ us hl => match us, hl with | [_, _], _ => rfl
def N_is_integer : List Str := ["value", "lowest", "highest"]
theorem sc_is_integer : FnScope N_is_integer ["value", "lowest", "highest"] (defScope s_is_integer) := ⟨rfl, rfl, rfl, by decide +kernel, rfl, by decide +kernel, by decide +kernel⟩
def w_is_integer : Fn := fnW 3 3
    (gSeq (gIf (tOr (tNot (tE (eIsI [.int] (eVar 0)))) (tE (eIsI [.bool] (eVar 0)))) (gRet (eC (.bl false))) gNext)
    (gRet (eAnd (eBin dGe (eVar 0) (eVar 1)) (eOr (eBin dIs (eVar 2) (eC .non)) (eBin dLe (eVar 0) (eVar 2))))))
theorem t_is_integer (T : Txt K mg) : FnT P w K mg base CX0 1 "is_integer" "is_integer" s_is_integer [.non] ["value", "lowest", "highest"] (spW K mg false w_is_integer) :=
  T.d_is_integer.fn (N := N_is_integer) (O := []) (On := []) (L := []) (k := 0) sc_is_integer (by decide) fun f cdv A outer s H E hgu hr =>
    have hN : N_is_integer.Nodup := sc_is_integer.nd
    (dss_cons (ds_if (dt_w (dw_or (dt_not (dt_val (de_isi (T := .int) (by rfl) T.n_isinstance (de_b (de_eff (de_var 0 (by decide) (pv 0)))) (pe_bltn (v := .ty "int") (by rfl) T.n_int boot_int rfl)))) (dw_or1 (dt_val (de_isi (T := .bool) (by rfl) T.n_isinstance (de_b (de_eff (de_var 0 (by decide) (pv 0)))) (pe_bltn (v := .ty "bool") (by rfl) T.n_bool boot_bool rfl)))))) (dss_one (ds_ret (de_eff de_bl))) dss_nil)
    (dss_one (ds_ret (de_and (de_cmp op_ge (s_cmp _) (de_b (de_eff (de_var 0 (by decide) (pv 0)))) (de_b (de_eff (de_var 1 (by decide) (pv 1)))) rfl) (de_one (de_or (de_cmp op_isA s_is (de_b (de_eff (de_var 2 (by decide) (pv 2)))) (de_b (de_eff de_non)) rfl) (de_one (de_cmp op_le (s_cmp _) (de_b (de_eff (de_var 0 (by decide) (pv 0)))) (de_b (de_eff (de_var 2 (by decide) (pv 2)))) rfl))))))))
theorem c_is_integer_3 (T : Txt K mg) : CalG P w K mg base CX0 1 "is_integer" (spW K mg false w_is_integer) [] [] := (t_is_integer T).callD 3 1 (by decide) rfl (fun _ _ _ _ _ _ _ us its hl hi => match us, its, hl, hi with | [_, _, _], [_], _, _ => ⟨_, rfl, rfl⟩) fun _ => .nil
def N_distances_from_ranks : List Str := ["ranks", "ids", "recent", "rank"]
theorem sc_distances_from_ranks : FnScope N_distances_from_ranks ["ranks"] (defScope s_distances_from_ranks) := ⟨rfl, rfl, rfl, by decide +kernel, rfl, by decide +kernel, by decide +kernel⟩
def w_distances_from_ranks : Fn := fnW 1 4
    (gSeq (gIf (tNot (tE (eCallP w_is_sequence (aDef (aCons (eVar 0) aNil) [])))) gNever gNext)
    (gSeq (gAsg (eLst aNil) (gtName 1))
    (gSeq (gAsg (eNewObj (eLst aNil)) (gtName 2))
    (gSeq (gFor (iSeq (eVar 0)) (gtName 3) (gSeq (gIf (tNot (tE (eCallP w_is_integer (aDef (aCons (eVar 3) (aCons (eC (.int 0)) (aCons (eObjLen (eVar 2)) aNil))) [])))) gNever gNext)
    (gSeq (gObjIns (eVar 2) (eC (.int 0)) (eIf (tE (eBin dGt (eVar 3) (eC (.int 0)))) (eObjPop (eVar 2) (eBin dSub (eVar 3) (eC (.int 1)))) (eObjLen (eVar 2))))
    (gOwn 1 isLst oAppend (aCons (eObj (eVar 2) (eC (.int 0))) aNil)))))
    (gRet (eCallP w_distances_by (aDef (aCons (eVar 1) aNil) [])))))))
theorem t_distances_from_ranks (T : Txt K mg) : FnT P w K mg base CX0 2 "distances_from_ranks" "distances_from_ranks" s_distances_from_ranks [] ["ranks"] (spW K mg false w_distances_from_ranks) :=
  T.d_distances_from_ranks.fn (N := N_distances_from_ranks) (O := [1]) (On := [1]) (L := [1]) (k := 1) sc_distances_from_ranks (by decide) fun f cdv A outer s H E hgu hr =>
    have hN : N_distances_from_ranks.Nodup := sc_distances_from_ranks.nd
    (dss_cons (ds_if (dt_not (dt_val (ce_callP (c_is_sequence_1 T) hgu (hr.mono (by decide)) (by rfl) passN (da_cons (de_eff (de_var 0 (by decide) (pv 0))) (da_eff da_nil))))) (dss_one ds_never) dss_nil)
    (dss_cons (ds_own (by decide) hN rfl (.inl rfl) (dn_lst (da_eff da_nil)))
    (dss_cons (ds_set (by decide) hN rfl (.inl rfl) (de_newObj (dn_lst (da_eff da_nil))))
    (dss_cons (ds_for (passes_of rfl) rfl (di_seq (de_eff (de_var 0 (by decide) (pv 0)))) (dg_name (by decide) (pg_name hN rfl (.inl rfl))) (dss_cons (ds_if (dt_not (dt_val (ce_callP (c_is_integer_3 T) hgu (hr.mono (by decide)) (by rfl) passN (da_cons (de_eff (de_var 3 (by decide) (pv 3))) (da_cons (de_eff de_int) (da_cons (de_objLen rfl (by rfl) T.n_len boot_len (de_eff (de_var 2 (by decide) (pv 2)))) (da_eff da_nil))))))) (dss_one ds_never) dss_nil)
    (dss_cons (ds_objIns (de_eff (de_var 2 (by decide) (pv 2))) (de_eff de_int) (de_if (dt_cmp op_gt (s_cmp _) (de_b (de_eff (de_var 3 (by decide) (pv 3)))) (de_b (de_eff de_int)) rfl) (de_objPop (de_eff (de_var 2 (by decide) (pv 2))) (de_bin op_sub s_sub (de_b (de_eff (de_var 3 (by decide) (pv 3)))) (de_b (de_eff de_int))) (fun h h2 => pe_bm PySem.F.plainAttrs_list PySem.F.slot_list_pop PySem.F.type_list_pop mt_popAt h2 h)) (de_objLen rfl (by rfl) T.n_len boot_len (de_eff (de_var 2 (by decide) (pv 2))))) (fun h h2 => pe_bm PySem.F.plainAttrs_list PySem.F.slot_list_insert PySem.F.type_list_insert mt_insert h2 h))
    (dss_one (ds_ownM (by decide) o_append tyo_lst (pv 1) (da_cons (de_obj (de_eff (de_var 2 (by decide) (pv 2))) (de_eff de_int) (by intro _ _; rfl)) (da_eff da_nil)) (fun h h2 => pe_bm PySem.F.plainAttrs_list PySem.F.slot_list_append PySem.F.type_list_append mt_append h2 h))))))
    (dss_freeze 1 (dss_one (ds_ret (ce_callP (c_distances_by_1 T) hgu (hr.mono (by decide)) (by rfl) passN (da_cons (de_eff (de_var 1 (by decide) (pv 1))) (da_eff da_nil))))))))))
theorem u_distances_from_ranks (T : Txt K mg) : FnT P w K mg base CX0 2 "distances_from_ranks" "distances_from_ranks" s_distances_from_ranks [] ["ranks"] (spW K mg false (fnSub w_distances_from_ranks)) := (t_distances_from_ranks T).imp spW_sub
theorem c_distances_from_ranks_1 (T : Txt K mg) : CalG P w K mg base CX0 2 "distances_from_ranks" (spW K mg false (fnSub w_distances_from_ranks)) [] [] := (u_distances_from_ranks T).call fun _ _ _ _ _ _ us hl => match us, hl with | [_], _ => rfl
def N_is_distances : List Str := ["value", "targets", "position", "entry"]
theorem sc_is_distances : FnScope N_is_distances ["value"] (defScope s_is_distances) := ⟨rfl, rfl, rfl, by decide +kernel, rfl, by decide +kernel, by decide +kernel⟩
def w_is_distances : Fn := fnW 1 4
    (gSeq (gIf (tOr (tNot (tE (eCallP w_is_sequence (aDef (aCons (eVar 0) aNil) [])))) (tE (eBin dGt (eFn fLen (aCons (eVar 0) aNil)) (eC g_MAX_POSITIONS)))) (gRet (eC (.bl false))) gNext)
    (gSeq (gIf (tNot (tE (eFn fAll (aCons (eLc (iEnum (eVar 0)) [2, 3] (gtTup 2 (gtCons (gtName 2) (gtCons (gtName 3) gtNil))) tYes (eCallP w_is_integer (aDef (aCons (eVar 3) (aCons (eC (.int 0)) (aCons (eVar 2) aNil))) []))) aNil)))) (gRet (eC (.bl false))) gNext)
    (gSeq (gAsg (eLc (iEnum (eVar 0)) [2, 3] (gtTup 2 (gtCons (gtName 2) (gtCons (gtName 3) gtNil))) (tE (eBin dGt (eVar 3) (eC (.int 0)))) (eBin dSub (eVar 2) (eVar 3))) (gtName 1))
    (gRet (eBin dEq (eUn dLenSet (eVar 1)) (eFn fLen (aCons (eVar 1) aNil)))))))
theorem t_is_distances (T : Txt K mg) : FnT P w K mg base CX0 2 "is_distances" "is_distances" s_is_distances [] ["value"] (spW K mg false w_is_distances) :=
  T.d_is_distances.fn (N := N_is_distances) (O := []) (On := []) (L := []) (k := 1) sc_is_distances (by decide) fun f cdv A outer s H E hgu hr =>
    have hN : N_is_distances.Nodup := sc_is_distances.nd
    (dss_cons (ds_if (dt_w (dw_or (dt_not (dt_val (ce_callP (c_is_sequence_1 T) hgu (hr.mono (by decide)) (by rfl) passN (da_cons (de_eff (de_var 0 (by decide) (pv 0))) (da_eff da_nil))))) (dw_or1 (dt_cmp op_gt (s_cmp _) (de_b (de_blt call_lenA s_len (by rfl) T.n_len boot_len (dab_cons (de_b (de_eff (de_var 0 (by decide) (pv 0)))) (dab_eff dab_nil)))) (de_b (de_eff (de_globT (by rfl) T.g_MAX_POSITIONS))) rfl)))) (dss_one (ds_ret (de_eff de_bl))) dss_nil)
    (dss_cons (ds_if (dt_not (dt_val (de_blt (cr_all rfl) s_all (by rfl) T.n_all (by decide +kernel) (dab_cons (de_b (dn_e (dn_lc (ownN := [("position", 2), ("entry", 3)]) (E1 := E0) rfl hN (di_enum (by rfl) T.n_enumerate (de_eff (de_var 0 (by decide) (pv 0)))) (blkOk_by (N := N_is_distances) (sc := defScope s_is_distances) (by decide +kernel)) rfl (by decide) (fun _ _ _ _ _ => (dgc_tup rfl (dgcs_cons (dgc_name (by decide) (by decide) (pg_name hN rfl (.inl rfl))) (dgcs_cons (dgc_name (by decide) (by decide) (pg_name hN rfl (.inl rfl))) dgcs_nil)))) (fun _ _ _ _ _ => dts_nil) (fun _ _ _ _ _ => (ce_callP (c_is_integer_3 T) hgu (hr.mono (by decide)) (by rfl) passN (da_cons (de_eff (de_var 3 (by decide) (pv 3))) (da_cons (de_eff de_int) (da_cons (de_eff (de_var 2 (by decide) (pv 2))) (da_eff da_nil))))))))) (dab_eff dab_nil))))) (dss_one (ds_ret (de_eff de_bl))) dss_nil)
    (dss_cons (ds_setLc (ownN := [("position", 2), ("entry", 3)]) (E1 := E0) rfl hN rfl rfl (sw_true rfl rfl rfl (by decide +kernel)) (di_enum (by rfl) T.n_enumerate (de_eff (de_var 0 (by decide) (pv 0)))) (blkOk_by (N := N_is_distances) (sc := defScope s_is_distances) (by decide +kernel)) rfl (by decide) (fun _ _ _ _ _ => (dgc_tup rfl (dgcs_cons (dgc_name (by decide) (by decide) (pg_name hN rfl (.inl rfl))) (dgcs_cons (dgc_name (by decide) (by decide) (pg_name hN rfl (.inl rfl))) dgcs_nil)))) (fun _ _ _ _ _ => (dts_one (dt_cmp op_gt (s_cmp _) (de_b (de_eff (de_var 3 (by decide) (pv 3)))) (de_b (de_eff de_int)) rfl))) (fun _ _ _ _ _ => (de_bin op_sub s_sub (de_b (de_eff (de_var 2 (by decide) (pv 2)))) (de_b (de_eff (de_var 3 (by decide) (pv 3)))))))
    (dss_one (ds_ret (de_cmp (op_eqA hr.units) s_eq (de_b (de_lenSet (by rfl) T.n_len (by rfl) T.n_set rfl (de_b (de_eff (de_var 1 (by decide) (pv 1)))))) (de_b (de_blt call_lenA s_len (by rfl) T.n_len boot_len (dab_cons (de_b (de_eff (de_var 1 (by decide) (pv 1)))) (dab_eff dab_nil)))) rfl))))))
theorem c_is_distances_1 (T : Txt K mg) : CalG P w K mg base CX0 2 "is_distances" (spW K mg false w_is_distances) [] [] := (t_is_distances T).call fun _ _ _ _ _ _ us hl => match us, hl with | [_], _ => rfl
def N_checked : List Str := ["distances"]
theorem sc_checked : FnScope N_checked ["distances"] (defScope s_checked) := ⟨rfl, rfl, rfl, by decide +kernel, rfl, by decide +kernel, by decide +kernel⟩
def w_checked : Fn := fnW 1 1
    (gSeq (gIf (tNot (tE (eCallP w_is_distances (aDef (aCons (eVar 0) aNil) [])))) gNever gNext)
    (gRet (eFn fList (aCons (eVar 0) aNil))))
theorem t_checked (T : Txt K mg) : FnT P w K mg base CX0 3 "checked" "checked" s_checked [] ["distances"] (spW K mg false w_checked) :=
  T.d_checked.fn (N := N_checked) (O := []) (On := []) (L := []) (k := 2) sc_checked (by decide) fun f cdv A outer s H E hgu hr =>
    have hN : N_checked.Nodup := sc_checked.nd
    (dss_cons (ds_if (dt_not (dt_val (ce_callP (c_is_distances_1 T) hgu (hr.mono (by decide)) (by rfl) passN (da_cons (de_eff (de_var 0 (by decide) (pv 0))) (da_eff da_nil))))) (dss_one ds_never) dss_nil)
    (dss_one (ds_ret (dn_e (dn_ty call_list_of n_list (by rfl) T.n_list boot_list (dab_cons (de_b (de_eff (de_var 0 (by decide) (pv 0)))) (dab_eff dab_nil)))))))
theorem c_checked_1 (T : Txt K mg) : CalG P w K mg base CX0 3 "checked" (spW K mg false w_checked) [] [] := (t_checked T).call fun _ _ _ _ _ _ us hl => match us, hl with | [_], _ => rfl
def N_symbol_count : List Str := ["distances", "entry"]
theorem sc_symbol_count : FnScope N_symbol_count ["distances"] (defScope s_symbol_count) := ⟨rfl, rfl, rfl, by decide +kernel, rfl, by decide +kernel, by decide +kernel⟩
def w_symbol_count : Fn := fnW 1 2
    (gRet (eFn fLen (aCons (eLc (iSeq (eVar 0)) [1] (gtName 1) (tE (eBin dEq (eVar 1) (eC (.int 0)))) (eVar 1)) aNil)))
theorem t_symbol_count (T : Txt K mg) : FnT P w K mg base CX0 1 "symbol_count" "symbol_count" s_symbol_count [] ["distances"] (spW K mg false w_symbol_count) :=
  T.d_symbol_count.fn (N := N_symbol_count) (O := []) (On := []) (L := []) (k := 0) sc_symbol_count (by decide) fun f cdv A outer s H E hgu hr =>
    have hN : N_symbol_count.Nodup := sc_symbol_count.nd
    (dss_one (ds_ret (de_blt call_lenA s_len (by rfl) T.n_len boot_len (dab_cons (de_b (dn_e (dn_lc (ownN := [("entry", 1)]) (E1 := E0) rfl hN (di_seq (de_eff (de_var 0 (by decide) (pv 0)))) (blkOk_by (N := N_symbol_count) (sc := defScope s_symbol_count) (by decide +kernel)) rfl (by decide) (fun _ _ _ _ _ => (dgc_name (by decide) (by decide) (pg_name hN rfl (.inl rfl)))) (fun _ _ _ _ _ => (dts_one (dt_cmp (op_eqA hr.units) s_eq (de_b (de_eff (de_var 1 (by decide) (pv 1)))) (de_b (de_eff de_int)) rfl))) (fun _ _ _ _ _ => (de_eff (de_var 1 (by decide) (pv 1))))))) (dab_eff dab_nil)))))
theorem c_symbol_count_1 (T : Txt K mg) : CalG P w K mg base CX0 1 "symbol_count" (spW K mg false w_symbol_count) [] [] := (t_symbol_count T).call fun _ _ _ _ _ _ us hl => match us, hl with | [_], _ => rfl
def N_ids_of : List Str := ["distances", "found", "count", "position", "entry"]
theorem sc_ids_of : FnScope N_ids_of ["distances"] (defScope s_ids_of) := ⟨rfl, rfl, rfl, by decide +kernel, rfl, by decide +kernel, by decide +kernel⟩
def w_ids_of : Fn := fnW 1 5
    (gSeq (gAsg (eLst aNil) (gtName 1))
    (gSeq (gAsg (eC (.int 0)) (gtName 2))
    (gSeq (gFor (iEnum (eVar 0)) (gtTup 2 (gtCons (gtName 3) (gtCons (gtName 4) gtNil))) (gIf (tE (eBin dEq (eVar 4) (eC (.int 0)))) (gSeq (gOwn 1 isLst oAppend (aCons (eVar 2) aNil))
    (gAug 2 dAddI (eC (.int 1)))) (gOwn 1 isLst oAppend (aCons (eBin dIx (eVar 1) (eBin dSub (eVar 3) (eVar 4))) aNil))))
    (gRet (eVar 1)))))
theorem t_ids_of (T : Txt K mg) : FnT P w K mg base CX0 1 "ids_of" "ids_of" s_ids_of [] ["distances"] (spW K mg false w_ids_of) :=
  T.d_ids_of.fn (N := N_ids_of) (O := [1]) (On := [1]) (L := [1]) (k := 0) sc_ids_of (by decide) fun f cdv A outer s H E hgu hr =>
    have hN : N_ids_of.Nodup := sc_ids_of.nd
    (dss_cons (ds_own (by decide) hN rfl (.inl rfl) (dn_lst (da_eff da_nil)))
    (dss_cons (ds_set (by decide) hN rfl (.inl rfl) (de_eff de_int))
    (dss_cons (ds_for (passes_of rfl) rfl (di_enum (by rfl) T.n_enumerate (de_eff (de_var 0 (by decide) (pv 0)))) (dg_tup rfl (dgs_cons (dg_name (by decide) (pg_name hN rfl (.inl rfl))) (dgs_cons (dg_name (by decide) (pg_name hN rfl (.inl rfl))) dgs_nil))) (dss_one (ds_if (dt_cmp (op_eqA hr.units) s_eq (de_b (de_eff (de_var 4 (by decide) (pv 4)))) (de_b (de_eff de_int)) rfl) (dss_cons (ds_ownM (by decide) o_append tyo_lst (pv 1) (da_cons (de_eff (de_var 2 (by decide) (pv 2))) (da_eff da_nil)) (fun h h2 => pe_bm PySem.F.plainAttrs_list PySem.F.slot_list_append PySem.F.type_list_append mt_append h2 h))
    (dss_one (ds_aug (by decide) hN rfl (.inl rfl) (de_b (de_eff de_int)) ip_add s_addI))) (dss_one (ds_ownM (by decide) o_append tyo_lst (pv 1) (da_cons (de_ix ix_seq s_ix (db_eff (db_var 1 (by decide) (pv 1))) (de_b (de_bin op_sub s_sub (de_b (de_eff (de_var 3 (by decide) (pv 3)))) (de_b (de_eff (de_var 4 (by decide) (pv 4)))))) (by intro _ _; rfl)) (da_eff da_nil)) (fun h h2 => pe_bm PySem.F.plainAttrs_list PySem.F.slot_list_append PySem.F.type_list_append mt_append h2 h))))))
    (dss_freeze 1 (dss_one (ds_ret (de_eff (de_var 1 (by decide) (pv 1)))))))))
theorem c_ids_of_1 (T : Txt K mg) : CalG P w K mg base CX0 1 "ids_of" (spW K mg false w_ids_of) [] [] := (t_ids_of T).call fun _ _ _ _ _ _ us hl => match us, hl with | [_], _ => rfl
def N_with_symbols : List Str := ["distances", "symbols", "own", "symbol"]
theorem sc_with_symbols : FnScope N_with_symbols ["distances", "symbols"] (defScope s_with_symbols) := ⟨rfl, rfl, rfl, by decide +kernel, rfl, by decide +kernel, by decide +kernel⟩
def w_with_symbols : Fn := fnW 2 4
    (gSeq (gAsg (eCallP w_checked (aDef (aCons (eVar 0) aNil) [])) (gtName 2))
    (gSeq (gIf (tOr (tNot (tE (eCallP w_are_strings (aDef (aCons (eVar 1) aNil) [])))) (tOr (tE (eBin dLt (eUn dLenSetX (eVar 1)) (eFn fLen (aCons (eVar 1) aNil)))) (tE (eBin dNe (eFn fLen (aCons (eVar 1) aNil)) (eCallP w_symbol_count (aDef (aCons (eVar 2) aNil) [])))))) gNever gNext)
    (gRet (eLc (iSeq (eCallP w_ids_of (aDef (aCons (eVar 2) aNil) []))) [3] (gtName 3) tYes (eBin dIx (eVar 1) (eVar 3))))))
theorem t_with_symbols (T : Txt K mg) : FnT P w K mg base CX0 4 "with_symbols" "with_symbols" s_with_symbols [] ["distances", "symbols"] (spW K mg false w_with_symbols) :=
  T.d_with_symbols.fn (N := N_with_symbols) (O := []) (On := []) (L := []) (k := 3) sc_with_symbols (by decide) fun f cdv A outer s H E hgu hr =>
    have hN : N_with_symbols.Nodup := sc_with_symbols.nd
    (dss_cons (ds_set (by decide) hN rfl (.inl rfl) (ce_callP (c_checked_1 T) hgu (hr.mono (by decide)) (by rfl) passN (da_cons (de_eff (de_var 0 (by decide) (pv 0))) (da_eff da_nil))))
    (dss_cons (ds_if (dt_w (dw_or (dt_not (dt_val (ce_callP (c_are_strings_1 T) hgu (hr.mono (by decide)) (by rfl) passN (da_cons (de_eff (de_var 1 (by decide) (pv 1))) (da_eff da_nil))))) (dw_or (dt_cmp op_lt (s_cmp _) (de_b (de_lenSetS (by rfl) T.n_len (by rfl) T.n_set rfl (de_b (de_eff (de_var 1 (by decide) (pv 1)))))) (de_b (de_blt call_lenA s_len (by rfl) T.n_len boot_len (dab_cons (de_b (de_eff (de_var 1 (by decide) (pv 1)))) (dab_eff dab_nil)))) rfl) (dw_or1 (dt_cmp (op_neA hr.units) s_ne (de_b (de_blt call_lenA s_len (by rfl) T.n_len boot_len (dab_cons (de_b (de_eff (de_var 1 (by decide) (pv 1)))) (dab_eff dab_nil)))) (de_b (ce_callP (c_symbol_count_1 T) hgu (hr.mono (by decide)) (by rfl) passN (da_cons (de_eff (de_var 2 (by decide) (pv 2))) (da_eff da_nil)))) rfl))))) (dss_one ds_never) dss_nil)
    (dss_one (ds_ret (dn_e (dn_lc (ownN := [("symbol", 3)]) (E1 := E0) rfl hN (di_seq (ce_callP (c_ids_of_1 T) hgu (hr.mono (by decide)) (by rfl) passN (da_cons (de_eff (de_var 2 (by decide) (pv 2))) (da_eff da_nil)))) (blkOk_by (N := N_with_symbols) (sc := defScope s_with_symbols) (by decide +kernel)) rfl (by decide) (fun _ _ _ _ _ => (dgc_name (by decide) (by decide) (pg_name hN rfl (.inl rfl)))) (fun _ _ _ _ _ => dts_nil) (fun _ _ _ _ _ => (de_ix ix_seq s_ix (de_b (de_eff (de_var 1 (by decide) (pv 1)))) (de_b (de_eff (de_var 3 (by decide) (pv 3)))) (by intro _ _; rfl)))))))))
theorem c_with_symbols_2 (T : Txt K mg) : CalG P w K mg base CX0 4 "with_symbols" (spW K mg false w_with_symbols) [] [] := (t_with_symbols T).call fun _ _ _ _ _ _ us hl => match us, hl with | [_, _], _ => rfl
def N_rank_at : List Str := ["distances", "ids", "position"]
theorem sc_rank_at : FnScope N_rank_at ["distances", "ids", "position"] (defScope s_rank_at) := ⟨rfl, rfl, rfl, by decide +kernel, rfl, by decide +kernel, by decide +kernel⟩
def w_rank_at : Fn := fnW 3 3
    (gSeq (gIf (tE (eBin dEq (eBin dIx (eVar 0) (eVar 2)) (eC (.int 0)))) (gRet (eC (.int 0))) gNext)
    (gRet (eBin dAdd (eC (.int 1)) (eUn dLenSet (eSl (eVar 1) (oSome (eBin dAdd (eBin dSub (eVar 2) (eBin dIx (eVar 0) (eVar 2))) (eC (.int 1)))) (oSome (eVar 2)))))))
theorem t_rank_at (T : Txt K mg) : FnT P w K mg base CX0 1 "rank_at" "rank_at" s_rank_at [] ["distances", "ids", "position"] (spW K mg false w_rank_at) :=
  T.d_rank_at.fn (N := N_rank_at) (O := []) (On := []) (L := []) (k := 0) sc_rank_at (by decide) fun f cdv A outer s H E hgu hr =>
    have hN : N_rank_at.Nodup := sc_rank_at.nd
    (dss_cons (ds_if (dt_cmp (op_eqA hr.units) s_eq (de_b (de_ix ix_seq s_ix (de_b (de_eff (de_var 0 (by decide) (pv 0)))) (de_b (de_eff (de_var 2 (by decide) (pv 2)))) (by intro _ _; rfl))) (de_b (de_eff de_int)) rfl) (dss_one (ds_ret (de_eff de_int))) dss_nil)
    (dss_one (ds_ret (de_bin op_addA s_add (de_b (de_eff de_int)) (de_b (de_lenSet (by rfl) T.n_len (by rfl) T.n_set rfl (de_b (de_sl (de_b (de_eff (de_var 1 (by decide) (pv 1)))) (do_some (de_bin op_addA s_add (de_b (de_bin op_sub s_sub (de_b (de_eff (de_var 2 (by decide) (pv 2)))) (de_b (de_ix ix_seq s_ix (de_b (de_eff (de_var 0 (by decide) (pv 0)))) (de_b (de_eff (de_var 2 (by decide) (pv 2)))) (by intro _ _; rfl))))) (de_b (de_eff de_int)))) (do_some (de_eff (de_var 2 (by decide) (pv 2))))))))))))
theorem c_rank_at_3 (T : Txt K mg) : CalG P w K mg base CX0 1 "rank_at" (spW K mg false w_rank_at) [] [] := (t_rank_at T).call fun _ _ _ _ _ _ us hl => match us, hl with | [_, _, _], _ => rfl
def N_recency_ranks : List Str := ["distances", "own", "ids", "position"]
theorem sc_recency_ranks : FnScope N_recency_ranks ["distances"] (defScope s_recency_ranks) := ⟨rfl, rfl, rfl, by decide +kernel, rfl, by decide +kernel, by decide +kernel⟩
def w_recency_ranks : Fn := fnW 1 4
    (gSeq (gAsg (eCallP w_checked (aDef (aCons (eVar 0) aNil) [])) (gtName 1))
    (gSeq (gAsg (eCallP w_ids_of (aDef (aCons (eVar 1) aNil) [])) (gtName 2))
    (gRet (eLc (iRng1 (eFn fLen (aCons (eVar 1) aNil))) [3] (gtName 3) tYes (eCallP w_rank_at (aDef (aCons (eVar 1) (aCons (eVar 2) (aCons (eVar 3) aNil))) []))))))
theorem t_recency_ranks (T : Txt K mg) : FnT P w K mg base CX0 4 "recency_ranks" "recency_ranks" s_recency_ranks [] ["distances"] (spW K mg false w_recency_ranks) :=
  T.d_recency_ranks.fn (N := N_recency_ranks) (O := []) (On := []) (L := []) (k := 3) sc_recency_ranks (by decide) fun f cdv A outer s H E hgu hr =>
    have hN : N_recency_ranks.Nodup := sc_recency_ranks.nd
    (dss_cons (ds_set (by decide) hN rfl (.inr rfl) (ce_callP (c_checked_1 T) hgu (hr.mono (by decide)) (by rfl) passN (da_cons (de_eff (de_var 0 (by decide) (pv 0))) (da_eff da_nil))))
    (dss_cons (ds_set (by decide) hN rfl (.inr rfl) (ce_callP (c_ids_of_1 T) hgu (hr.mono (by decide)) (by rfl) passN (da_cons (de_eff (de_var 1 (by decide) (pv 1))) (da_eff da_nil))))
    (dss_one (ds_ret (dn_e (dn_lc (ownN := [("position", 3)]) (E1 := E0) rfl hN (di_rng1 (by rfl) T.n_range (de_blt call_lenA s_len (by rfl) T.n_len boot_len (dab_cons (de_b (de_eff (de_var 1 (by decide) (pv 1)))) (dab_eff dab_nil)))) (blkOk_by (N := N_recency_ranks) (sc := defScope s_recency_ranks) (by decide +kernel)) rfl (by decide) (fun _ _ _ _ _ => (dgc_name (by decide) (by decide) (pg_name hN rfl (.inl rfl)))) (fun _ _ _ _ _ => dts_nil) (fun _ _ _ _ _ => (ce_callP (c_rank_at_3 T) hgu (hr.mono (by decide)) (by rfl) passN (da_cons (de_eff (de_var 1 (by decide) (pv 1))) (da_cons (de_eff (de_var 2 (by decide) (pv 2))) (da_cons (de_eff (de_var 3 (by decide) (pv 3))) (da_eff da_nil))))))))))))
theorem c_recency_ranks_1 (T : Txt K mg) : CalG P w K mg base CX0 4 "recency_ranks" (spW K mg false w_recency_ranks) [] [] := (t_recency_ranks T).call fun _ _ _ _ _ _ us hl => match us, hl with | [_], _ => rfl
def N__law_firsts : List Str := ["_law_strings", "_law_found", "_law_string"]
theorem sc__law_firsts : FnScope N__law_firsts ["_law_strings"] (defScope s__law_firsts) := ⟨rfl, rfl, rfl, by decide +kernel, rfl, by decide +kernel, by decide +kernel⟩
def w__law_firsts : Fn := fnW 1 3
    (gSeq (gAsg (eLst aNil) (gtName 1))
    (gSeq (gFor (iSeq (eVar 0)) (gtName 2) (gIf (tE (eBin dNotInL (eVar 2) (eVar 1))) (gOwn 1 isLst oAppend (aCons (eVar 2) aNil)) gNext))
    (gRet (eVar 1))))
theorem t__law_firsts (T : Txt K mg) : FnT P w K mg base CX0 1 "_law_firsts" "_law_firsts" s__law_firsts [] ["_law_strings"] (spW K mg false w__law_firsts) :=
  T.d__law_firsts.fn (N := N__law_firsts) (O := [1]) (On := [1]) (L := [1]) (k := 0) sc__law_firsts (by decide) fun f cdv A outer s H E hgu hr =>
    have hN : N__law_firsts.Nodup := sc__law_firsts.nd
    (dss_cons (ds_own (by decide) hN rfl (.inl rfl) (dn_lst (da_eff da_nil)))
    (dss_cons (ds_for (passes_of rfl) rfl (di_seq (de_eff (de_var 0 (by decide) (pv 0)))) (dg_name (by decide) (pg_name hN rfl (.inl rfl))) (dss_one (ds_if (dt_cmp op_notIn_seq s_notInL (de_b (de_eff (de_var 2 (by decide) (pv 2)))) (db_eff (db_var 1 (by decide) (pv 1))) rfl) (dss_one (ds_ownM (by decide) o_append tyo_lst (pv 1) (da_cons (de_eff (de_var 2 (by decide) (pv 2))) (da_eff da_nil)) (fun h h2 => pe_bm PySem.F.plainAttrs_list PySem.F.slot_list_append PySem.F.type_list_append mt_append h2 h))) dss_nil)))
    (dss_freeze 1 (dss_one (ds_ret (de_eff (de_var 1 (by decide) (pv 1))))))))
theorem c__law_firsts_1 (T : Txt K mg) : CalG P w K mg base CX0 1 "_law_firsts" (spW K mg false w__law_firsts) [] [] := (t__law_firsts T).call fun _ _ _ _ _ _ us hl => match us, hl with | [_], _ => rfl
def N__law_alike : List Str := ["_law_one", "_law_other", "_law_there", "_law_back", "_law_mine", "_law_theirs"]
theorem sc__law_alike : FnScope N__law_alike ["_law_one", "_law_other"] (defScope s__law_alike) := ⟨rfl, rfl, rfl, by decide +kernel, rfl, by decide +kernel, by decide +kernel⟩
def w__law_alike : Fn := fnW 2 6
    (gSeq (gIf (tE (eBin dNe (eFn fLen (aCons (eVar 0) aNil)) (eFn fLen (aCons (eVar 1) aNil)))) (gRet (eC (.bl false))) gNext)
    (gSeq (gPar0 2 3)
    (gSeq (gFor (iZip (eVar 0) (eVar 1)) (gtTup 2 (gtCons (gtName 4) (gtCons (gtName 5) gtNil))) (gSeq (gIf (tOr (tE (eBin dNe (eGet2 (eVar 2) (eVar 4) (eVar 5)) (eVar 5))) (tE (eBin dNe (eGet2 (eVar 3) (eVar 5) (eVar 4)) (eVar 4)))) (gRet (eC (.bl false))) gNext)
    (gSeq (gDPut 2 (eVar 5) (eVar 4))
    (gDPut 3 (eVar 4) (eVar 5)))))
    (gRet (eC (.bl true))))))
theorem t__law_alike (T : Txt K mg) : FnT P w K mg base CX0 1 "_law_alike" "_law_alike" s__law_alike [] ["_law_one", "_law_other"] (spW K mg false w__law_alike) :=
  T.d__law_alike.fn (N := N__law_alike) (O := [2, 3]) (On := [2, 3]) (L := [2, 3]) (k := 0) sc__law_alike (by decide) fun f cdv A outer s H E hgu hr =>
    have hN : N__law_alike.Nodup := sc__law_alike.nd
    (dss_cons (ds_if (dt_cmp (op_neA hr.units) s_ne (de_b (de_blt call_lenA s_len (by rfl) T.n_len boot_len (dab_cons (de_b (de_eff (de_var 0 (by decide) (pv 0)))) (dab_eff dab_nil)))) (de_b (de_blt call_lenA s_len (by rfl) T.n_len boot_len (dab_cons (de_b (de_eff (de_var 1 (by decide) (pv 1)))) (dab_eff dab_nil)))) rfl) (dss_one (ds_ret (de_eff de_bl))) dss_nil)
    (dss_cons (ds_par0 (by decide) (by decide) (fun h => ps_par rfl hN rfl rfl (by decide) rfl rfl h rfl))
    (dss_cons (ds_for (passes_of rfl) rfl (di_zip (by rfl) T.n_zip (de_eff (de_var 0 (by decide) (pv 0))) (de_eff (de_var 1 (by decide) (pv 1)))) (dg_tup rfl (dgs_cons (dg_name (by decide) (pg_name hN rfl (.inl rfl))) (dgs_cons (dg_name (by decide) (pg_name hN rfl (.inl rfl))) dgs_nil))) (dss_cons (ds_if (dt_w (dw_or (dt_cmp (op_neA hr.units) s_ne (de_b (de_get2 (hu_of hr) (db_eff (db_var 2 (by decide) (pv 2))) (de_eff (de_var 4 (by decide) (pv 4))) (de_eff (de_var 5 (by decide) (pv 5))) ⟨rfl, rfl, rfl, rfl⟩)) (de_b (de_eff (de_var 5 (by decide) (pv 5)))) rfl) (dw_or1 (dt_cmp (op_neA hr.units) s_ne (de_b (de_get2 (hu_of hr) (db_eff (db_var 3 (by decide) (pv 3))) (de_eff (de_var 5 (by decide) (pv 5))) (de_eff (de_var 4 (by decide) (pv 4))) ⟨rfl, rfl, rfl, rfl⟩)) (de_b (de_eff (de_var 4 (by decide) (pv 4)))) rfl)))) (dss_one (ds_ret (de_eff de_bl))) dss_nil)
    (dss_cons (ds_dput (by decide) (de_eff (de_var 5 (by decide) (pv 5))) (pv 2) (de_eff (de_var 4 (by decide) (pv 4))) (fun h1 h2 h3 => ps_dput (hu_of hr) h2 h3 h1 rfl))
    (dss_one (ds_dput (by decide) (de_eff (de_var 4 (by decide) (pv 4))) (pv 3) (de_eff (de_var 5 (by decide) (pv 5))) (fun h1 h2 h3 => ps_dput (hu_of hr) h2 h3 h1 rfl))))))
    (dss_one (ds_ret (de_eff de_bl))))))
theorem c__law_alike_2 (T : Txt K mg) : CalG P w K mg base CX0 1 "_law_alike" (spW K mg false w__law_alike) [] [] := (t__law_alike T).call fun _ _ _ _ _ _ us hl => match us, hl with | [_, _], _ => rfl
def N_symbol_ids : List Str := ["distances"]
theorem sc_symbol_ids : FnScope N_symbol_ids ["distances"] (defScope s_symbol_ids) := ⟨rfl, rfl, rfl, by decide +kernel, rfl, by decide +kernel, by decide +kernel⟩
def w_symbol_ids : Fn := fnW 1 1
    (gRet (eCallP w_ids_of (aDef (aCons (eCallP w_checked (aDef (aCons (eVar 0) aNil) [])) aNil) [])))
theorem t_symbol_ids (T : Txt K mg) : FnT P w K mg base CX0 4 "symbol_ids" "symbol_ids" s_symbol_ids [] ["distances"] (spW K mg false w_symbol_ids) :=
  T.d_symbol_ids.fn (N := N_symbol_ids) (O := []) (On := []) (L := []) (k := 3) sc_symbol_ids (by decide) fun f cdv A outer s H E hgu hr =>
    have hN : N_symbol_ids.Nodup := sc_symbol_ids.nd
    (dss_one (ds_ret (ce_callP (c_ids_of_1 T) hgu (hr.mono (by decide)) (by rfl) passN (da_cons (ce_callP (c_checked_1 T) hgu (hr.mono (by decide)) (by rfl) passN (da_cons (de_eff (de_var 0 (by decide) (pv 0))) (da_eff da_nil))) (da_eff da_nil)))))
theorem c_symbol_ids_1 (T : Txt K mg) : CalG P w K mg base CX0 4 "symbol_ids" (spW K mg false w_symbol_ids) [] [] := (t_symbol_ids T).call fun _ _ _ _ _ _ us hl => match us, hl with | [_], _ => rfl
def N_law : List Str := ["_law_script", "_law_bag_here", "_law_turn", "_law_text_here", "_law_names_here", "_law_others", "_law_first", "_law_entries", "_law_changed", "_law_other", "_law_strings", "_law_is_same", "_law_at", "_law_sign", "_law_number"]
theorem sc_law : FnScope N_law ["_law_script"] (defScope s_law) := ⟨rfl, rfl, rfl, by decide +kernel, rfl, by decide +kernel, by decide +kernel⟩
def w_law_rest : WS :=
    (gSeq (gFor (iSeq (eLst (aCons (eCall w__law_text (aDef (aCons (eVar 1) (aCons (eC (.int 60)) aNil)) [])) (aCons (eVar 8) aNil)))) (gtName 9) (gSeq (gAsg (eLc (iSeq (eVar 9)) [13] (gtName 13) tYes (eBin dAdd (eC (.str "o")) (eFn fStr (aCons (eVar 13) aNil)))) (gtName 10))
    (gSeq (gAsg (eBin dEq (eCallP w_distances_of (aDef (aCons (eVar 10) aNil) [])) (eVar 7)) (gtName 11))
    (gSeq (gIf (tE (eBin dNe (eVar 11) (eCallP w__law_alike (aDef (aCons (eVar 6) (aCons (eVar 10) aNil)) [])))) (gRet (eC (.bl false))) gNext)
    (gIf (tE (eBin dNe (eBin dEq (eCallP w_symbol_ids (aDef (aCons (eCallP w_distances_of (aDef (aCons (eVar 10) aNil) [])) aNil) [])) (eCallP w_symbol_ids (aDef (aCons (eVar 7) aNil) []))) (eVar 11))) (gRet (eC (.bl false))) gNext)))))
    (gSeq (gAsg (eCall (bagUse w__law_draw) (aDef (aCons (eVar 1) (aCons (eBin dAdd (eFn fLen (aCons (eVar 3) aNil)) (eC (.int 1))) aNil)) [])) (gtName 12))
    (gSeq (gIf (tOr (tE (eBin dNe (eCallP w_distances_of (aDef (aCons (eSl (eVar 6) oNone (oSome (eVar 12))) aNil) [])) (eSl (eVar 7) oNone (oSome (eVar 12))))) (tE (eBin dNe (eCallP w_symbol_ids (aDef (aCons (eSl (eVar 7) oNone (oSome (eVar 12))) aNil) [])) (eSl (eCallP w_symbol_ids (aDef (aCons (eVar 7) aNil) [])) oNone (oSome (eVar 12)))))) (gRet (eC (.bl false))) gNext)
    (gIf (tE (eBin dNe (eCallP w_distances_of (aDef (aCons (eLc (iSeq (eCallP w_symbol_ids (aDef (aCons (eVar 7) aNil) []))) [14] (gtName 14) tYes (eBin dAdd (eC (.str "k")) (eFn fStr (aCons (eVar 14) aNil)))) aNil) [])) (eVar 7))) (gRet (eC (.bl false))) gNext))))
def w_law : Fn := fnW 1 15
    (gSeq (gAsg (eCall (bagBox w__law_bag) (aDef (aCons (eVar 0) aNil) [])) (gtName 1))
    (gSeq (gFor (iRng1 (eBin dAdd (eC (.int 3)) (eFn fMin (aCons (eC (.int 6)) (aCons (eFn fLen (aCons (eVar 0) aNil)) aNil))))) (gtName 2) (gDrop [8] (gSeq (gAsg (eCall w__law_text (aDef (aCons (eVar 1) (aCons (eC (.int 60)) aNil)) [])) (gtName 3))
    (gSeq (gAsg (eTup (aCons (eCall w__law_names (aDef (aCons (eVar 1) (aCons (eVar 3) aNil)) [])) (aCons (eCall w__law_names (aDef (aCons (eVar 1) (aCons (eVar 3) aNil)) [])) aNil))) (gtTup 2 (gtCons (gtName 4) (gtCons (gtName 5) gtNil))))
    (gSeq (gAsg (eLc (iSeq (eVar 3)) [13] (gtName 13) tYes (eBin dGet (eVar 4) (eVar 13))) (gtName 6))
    (gSeq (gAsg (eCallP w_distances_of (aDef (aCons (eVar 6) aNil) [])) (gtName 7))
    (gSeq (gIf (tE (eBin dNe (eVar 7) (eCallP w_distances_of (aDef (aCons (eLc (iSeq (eVar 3)) [13] (gtName 13) tYes (eBin dGet (eVar 5) (eVar 13))) aNil) [])))) (gRet (eC (.bl false))) gNext)
    (gSeq (gIf (tE (eBin dNe (eCallP (fnSub w_distances_from_ranks) (aDef (aCons (eCallP w_recency_ranks (aDef (aCons (eVar 7) aNil) [])) aNil) [])) (eVar 7))) (gRet (eC (.bl false))) gNext)
    (gSeq (gIf (tE (eBin dNe (eCallP w_with_symbols (aDef (aCons (eVar 7) (aCons (eCallP w__law_firsts (aDef (aCons (eVar 6) aNil) [])) aNil)) [])) (eVar 6))) (gRet (eC (.bl false))) gNext)
    (gSeq (gAsg (eFn fList (aCons (eVar 3) aNil)) (gtName 8))
    (gSeq (gIf (tE (eBin dNe (eVar 3) (eLst aNil))) (gLPut 8 (eCall (bagUse w__law_draw) (aDef (aCons (eVar 1) (aCons (eC (.int 14)) aNil)) [])) (eCall (bagUse w__law_draw) (aDef (aCons (eVar 1) (aCons (eFn fLen (aCons (eVar 3) aNil)) aNil)) []))) gNext)
    w_law_rest)))))))))))
    (gRet (eC (.bl true)))))
theorem t_law (T : Txt K mg) : FnT P w K mg base CX0 5 "law" "law" s_law [] ["_law_script"] (spW K mg false w_law) :=
  T.d_law.fn (N := N_law) (O := [8]) (On := [8]) (L := [8]) (k := 4) sc_law (by decide) fun f cdv A outer s H E hgu hr =>
    have hN : N_law.Nodup := sc_law.nd
    (dss_cons (ds_set (by decide) hN rfl (.inl rfl) (ce_call (c__law_bag_1 T) hgu (hr.mono (by decide)) (by rfl) passN (da_cons (de_eff (de_var 0 (by decide) (pv 0))) (da_eff da_nil))))
    (dss_cons (ds_for (passes_of rfl) rfl (di_rng1 (by rfl) T.n_range (de_bin op_addA s_add (de_b (de_eff de_int)) (de_b (de_blt (call_min2 rfl) s_min (by rfl) T.n_min (by decide +kernel) (dab_cons (de_b (de_eff de_int)) (dab_cons (de_b (de_blt call_lenA s_len (by rfl) T.n_len boot_len (dab_cons (de_b (de_eff (de_var 0 (by decide) (pv 0)))) (dab_eff dab_nil)))) (dab_eff dab_nil))))))) (dg_name (by decide) (pg_name hN rfl (.inl rfl))) (dss_drop [8] (by intro i hi; simp [drp] at *; try omega) (by intro i hi; simp [drp] at *; try omega) rfl (dss_cons (ds_set (by decide) hN rfl (.inl rfl) (ce_call (c__law_text_2 T) hgu (hr.mono (by decide)) (by rfl) passN (da_cons (de_eff (de_var 1 (by decide) (pv 1))) (da_cons (de_eff de_int) (da_eff da_nil)))))
    (dss_cons (ds_asg (de_tup (da_cons (ce_call (c__law_names_2 T) hgu (hr.mono (by decide)) (by rfl) passN (da_cons (de_eff (de_var 1 (by decide) (pv 1))) (da_cons (de_eff (de_var 3 (by decide) (pv 3))) (da_eff da_nil)))) (da_cons (ce_call (c__law_names_2 T) hgu (hr.mono (by decide)) (by rfl) passN (da_cons (de_eff (de_var 1 (by decide) (pv 1))) (da_cons (de_eff (de_var 3 (by decide) (pv 3))) (da_eff da_nil)))) (da_eff da_nil)))) (dg_tup rfl (dgs_cons (dg_name (by decide) (pg_name hN rfl (.inr rfl))) (dgs_cons (dg_name (by decide) (pg_name hN rfl (.inr rfl))) dgs_nil))))
    (dss_cons (ds_setLc (ownN := [("_law_sign", 13)]) (E1 := E0) rfl hN rfl rfl (sw_true rfl rfl rfl (by decide +kernel)) (di_seq (de_eff (de_var 3 (by decide) (pv 3)))) (blkOk_by (N := N_law) (sc := defScope s_law) (by decide +kernel)) rfl (by decide) (fun _ _ _ _ _ => (dgc_name (by decide) (by decide) (pg_name hN rfl (.inl rfl)))) (fun _ _ _ _ _ => dts_nil) (fun _ _ _ _ _ => (de_dget (hu_of hr) (de_b (de_eff (de_var 4 (by decide) (pv 4)))) (de_eff (de_var 13 (by decide) (pv 13))) (by intro _ _; rfl))))
    (dss_cons (ds_set (by decide) hN rfl (.inl rfl) (ce_callP (c_distances_of_1 T) hgu (hr.mono (by decide)) (by rfl) passN (da_cons (de_eff (de_var 6 (by decide) (pv 6))) (da_eff da_nil))))
    (dss_cons (ds_if (dt_cmp (op_neA hr.units) s_ne (de_b (de_eff (de_var 7 (by decide) (pv 7)))) (de_b (ce_callP (c_distances_of_1 T) hgu (hr.mono (by decide)) (by rfl) passN (da_cons (dn_e (dn_lc (ownN := [("_law_sign", 13)]) (E1 := E0) rfl hN (di_seq (de_eff (de_var 3 (by decide) (pv 3)))) (blkOk_by (N := N_law) (sc := defScope s_law) (by decide +kernel)) rfl (by decide) (fun _ _ _ _ _ => (dgc_name (by decide) (by decide) (pg_name hN rfl (.inl rfl)))) (fun _ _ _ _ _ => dts_nil) (fun _ _ _ _ _ => (de_dget (hu_of hr) (de_b (de_eff (de_var 5 (by decide) (pv 5)))) (de_eff (de_var 13 (by decide) (pv 13))) (by intro _ _; rfl))))) (da_eff da_nil)))) rfl) (dss_one (ds_ret (de_eff de_bl))) dss_nil)
    (dss_cons (ds_if (dt_cmp (op_neA hr.units) s_ne (de_b (ce_callP (c_distances_from_ranks_1 T) hgu (hr.mono (by decide)) (by rfl) passN (da_cons (ce_callP (c_recency_ranks_1 T) hgu (hr.mono (by decide)) (by rfl) passN (da_cons (de_eff (de_var 7 (by decide) (pv 7))) (da_eff da_nil))) (da_eff da_nil)))) (de_b (de_eff (de_var 7 (by decide) (pv 7)))) rfl) (dss_one (ds_ret (de_eff de_bl))) dss_nil)
    (dss_cons (ds_if (dt_cmp (op_neA hr.units) s_ne (de_b (ce_callP (c_with_symbols_2 T) hgu (hr.mono (by decide)) (by rfl) passN (da_cons (de_eff (de_var 7 (by decide) (pv 7))) (da_cons (ce_callP (c__law_firsts_1 T) hgu (hr.mono (by decide)) (by rfl) passN (da_cons (de_eff (de_var 6 (by decide) (pv 6))) (da_eff da_nil))) (da_eff da_nil))))) (de_b (de_eff (de_var 6 (by decide) (pv 6)))) rfl) (dss_one (ds_ret (de_eff de_bl))) dss_nil)
    (dss_cons (ds_own (by decide) hN rfl (.inl rfl) (dn_ty call_list_of n_list (by rfl) T.n_list boot_list (dab_cons (de_b (de_eff (de_var 3 (by decide) (pv 3)))) (dab_eff dab_nil))))
    (dss_cons (ds_if (dt_cmp (op_neA hr.units) s_ne (de_b (de_eff (de_var 3 (by decide) (pv 3)))) (de_b (dn_e (dn_lst (da_eff da_nil)))) rfl) (dss_one (ds_lput (by decide) (ce_call (c__law_draw_2 T) hgu (hr.mono (by decide)) (by rfl) passN (da_cons (de_eff (de_var 1 (by decide) (pv 1))) (da_cons (de_eff de_int) (da_eff da_nil)))) (pv 8) (ce_call (c__law_draw_2 T) hgu (hr.mono (by decide)) (by rfl) passN (da_cons (de_eff (de_var 1 (by decide) (pv 1))) (da_cons (de_blt call_lenA s_len (by rfl) T.n_len boot_len (dab_cons (de_b (de_eff (de_var 3 (by decide) (pv 3)))) (dab_eff dab_nil))) (da_eff da_nil)))) (fun h1 h2 h3 => ps_asg h1 (pg_sub h2 h3 set_list)))) dss_nil)
    (dss_freeze 8 (dss_cons (ds_for (passes_of rfl) rfl (di_seq (dn_e (dn_lst (da_cons (ce_call (c__law_text_2 T) hgu (hr.mono (by decide)) (by rfl) passN (da_cons (de_eff (de_var 1 (by decide) (pv 1))) (da_cons (de_eff de_int) (da_eff da_nil)))) (da_cons (de_eff (de_var 8 (by decide) (pv 8))) (da_eff da_nil)))))) (dg_name (by decide) (pg_name hN rfl (.inl rfl))) (dss_cons (ds_setLc (ownN := [("_law_sign", 13)]) (E1 := E0) rfl hN rfl rfl (sw_true rfl rfl rfl (by decide +kernel)) (di_seq (de_eff (de_var 9 (by decide) (pv 9)))) (blkOk_by (N := N_law) (sc := defScope s_law) (by decide +kernel)) rfl (by decide) (fun _ _ _ _ _ => (dgc_name (by decide) (by decide) (pg_name hN rfl (.inl rfl)))) (fun _ _ _ _ _ => dts_nil) (fun _ _ _ _ _ => (de_bin op_addA s_add (de_b (de_eff de_str)) (de_b (de_ty (call_str_int.or SkE.call_str_str) s_str (by rfl) T.n_str boot_str (dab_cons (de_b (de_eff (de_var 13 (by decide) (pv 13)))) (dab_eff dab_nil)))))))
    (dss_cons (ds_set (by decide) hN rfl (.inl rfl) (de_cmp (op_eqA hr.units) s_eq (de_b (ce_callP (c_distances_of_1 T) hgu (hr.mono (by decide)) (by rfl) passN (da_cons (de_eff (de_var 10 (by decide) (pv 10))) (da_eff da_nil)))) (de_b (de_eff (de_var 7 (by decide) (pv 7)))) rfl))
    (dss_cons (ds_if (dt_cmp (op_neA hr.units) s_ne (de_b (de_eff (de_var 11 (by decide) (pv 11)))) (de_b (ce_callP (c__law_alike_2 T) hgu (hr.mono (by decide)) (by rfl) passN (da_cons (de_eff (de_var 6 (by decide) (pv 6))) (da_cons (de_eff (de_var 10 (by decide) (pv 10))) (da_eff da_nil))))) rfl) (dss_one (ds_ret (de_eff de_bl))) dss_nil)
    (dss_one (ds_if (dt_cmp (op_neA hr.units) s_ne (de_b (de_cmp (op_eqA hr.units) s_eq (de_b (ce_callP (c_symbol_ids_1 T) hgu (hr.mono (by decide)) (by rfl) passN (da_cons (ce_callP (c_distances_of_1 T) hgu (hr.mono (by decide)) (by rfl) passN (da_cons (de_eff (de_var 10 (by decide) (pv 10))) (da_eff da_nil))) (da_eff da_nil)))) (de_b (ce_callP (c_symbol_ids_1 T) hgu (hr.mono (by decide)) (by rfl) passN (da_cons (de_eff (de_var 7 (by decide) (pv 7))) (da_eff da_nil)))) rfl)) (de_b (de_eff (de_var 11 (by decide) (pv 11)))) rfl) (dss_one (ds_ret (de_eff de_bl))) dss_nil))))))
    (dss_cons (ds_set (by decide) hN rfl (.inl rfl) (ce_call (c__law_draw_2 T) hgu (hr.mono (by decide)) (by rfl) passN (da_cons (de_eff (de_var 1 (by decide) (pv 1))) (da_cons (de_bin op_addA s_add (de_b (de_blt call_lenA s_len (by rfl) T.n_len boot_len (dab_cons (de_b (de_eff (de_var 3 (by decide) (pv 3)))) (dab_eff dab_nil)))) (de_b (de_eff de_int))) (da_eff da_nil)))))
    (dss_cons (ds_if (dt_w (dw_or (dt_cmp (op_neA hr.units) s_ne (de_b (ce_callP (c_distances_of_1 T) hgu (hr.mono (by decide)) (by rfl) passN (da_cons (de_sl (de_b (de_eff (de_var 6 (by decide) (pv 6)))) (do_eff do_none) (do_some (de_eff (de_var 12 (by decide) (pv 12))))) (da_eff da_nil)))) (de_b (de_sl (de_b (de_eff (de_var 7 (by decide) (pv 7)))) (do_eff do_none) (do_some (de_eff (de_var 12 (by decide) (pv 12)))))) rfl) (dw_or1 (dt_cmp (op_neA hr.units) s_ne (de_b (ce_callP (c_symbol_ids_1 T) hgu (hr.mono (by decide)) (by rfl) passN (da_cons (de_sl (de_b (de_eff (de_var 7 (by decide) (pv 7)))) (do_eff do_none) (do_some (de_eff (de_var 12 (by decide) (pv 12))))) (da_eff da_nil)))) (de_b (de_sl (de_b (ce_callP (c_symbol_ids_1 T) hgu (hr.mono (by decide)) (by rfl) passN (da_cons (de_eff (de_var 7 (by decide) (pv 7))) (da_eff da_nil)))) (do_eff do_none) (do_some (de_eff (de_var 12 (by decide) (pv 12)))))) rfl)))) (dss_one (ds_ret (de_eff de_bl))) dss_nil)
    (dss_one (ds_if (dt_cmp (op_neA hr.units) s_ne (de_b (ce_callP (c_distances_of_1 T) hgu (hr.mono (by decide)) (by rfl) passN (da_cons (dn_e (dn_lc (ownN := [("_law_number", 14)]) (E1 := E0) rfl hN (di_seq (ce_callP (c_symbol_ids_1 T) hgu (hr.mono (by decide)) (by rfl) passN (da_cons (de_eff (de_var 7 (by decide) (pv 7))) (da_eff da_nil)))) (blkOk_by (N := N_law) (sc := defScope s_law) (by decide +kernel)) rfl (by decide) (fun _ _ _ _ _ => (dgc_name (by decide) (by decide) (pg_name hN rfl (.inl rfl)))) (fun _ _ _ _ _ => dts_nil) (fun _ _ _ _ _ => (de_bin op_addA s_add (de_b (de_eff de_str)) (de_b (de_ty (call_str_int.or SkE.call_str_str) s_str (by rfl) T.n_str boot_str (dab_cons (de_b (de_eff (de_var 14 (by decide) (pv 14)))) (dab_eff dab_nil)))))))) (da_eff da_nil)))) (de_b (de_eff (de_var 7 (by decide) (pv 7)))) rfl) (dss_one (ds_ret (de_eff de_bl))) dss_nil)))))))))))))))))
    (dss_one (ds_ret (de_eff de_bl)))))
end
theorem all_mk {K : PySem.W.Frag} {h : Heap} {mg : Str → Option Value} (X : K.In h) (G : h.Ns mainGlobals mg)
    {f_x__law_bag : Addr} {o1_x__law_bag o3_x__law_bag : Option Addr} {o2_x__law_bag : Array (Option Value)} {v1_x__law_bag v2_x__law_bag v3_x__law_bag v4_x__law_bag v5_x__law_bag v6_x__law_bag : Value}
    (a_x__law_bag : PySem.W.nsIn K mainGlobals "_law_bag" = some (some (.ref f_x__law_bag)))
    (l_x__law_bag : K.lookup f_x__law_bag = some ⟨v1_x__law_bag, o1_x__law_bag, .func (PySem.W.fnOf "_law_bag" "_law_bag" (defArgs s__law_bag) (defBody s__law_bag) (defScope s__law_bag) .none v2_x__law_bag v3_x__law_bag v4_x__law_bag o3_x__law_bag v5_x__law_bag v6_x__law_bag), o2_x__law_bag⟩)
    (c_x__law_bag : PySem.W.codeIn K v5_x__law_bag "_law_bag" = true)
    (k_x__law_bag : PySem.W.keepIn K (.ref f_x__law_bag) = true)
    {f_x__law_stir : Addr} {o1_x__law_stir o3_x__law_stir : Option Addr} {o2_x__law_stir : Array (Option Value)} {v1_x__law_stir v2_x__law_stir v3_x__law_stir v4_x__law_stir v5_x__law_stir v6_x__law_stir : Value}
    (a_x__law_stir : PySem.W.nsIn K mainGlobals "_law_stir" = some (some (.ref f_x__law_stir)))
    (l_x__law_stir : K.lookup f_x__law_stir = some ⟨v1_x__law_stir, o1_x__law_stir, .func (PySem.W.fnOf "_law_stir" "_law_stir" (defArgs s__law_stir) (defBody s__law_stir) (defScope s__law_stir) .none v2_x__law_stir v3_x__law_stir v4_x__law_stir o3_x__law_stir v5_x__law_stir v6_x__law_stir), o2_x__law_stir⟩)
    (c_x__law_stir : PySem.W.codeIn K v5_x__law_stir "_law_stir" = true)
    (k_x__law_stir : PySem.W.keepIn K (.ref f_x__law_stir) = true)
    {f_x__law_draw : Addr} {o1_x__law_draw o3_x__law_draw : Option Addr} {o2_x__law_draw : Array (Option Value)} {v1_x__law_draw v2_x__law_draw v3_x__law_draw v4_x__law_draw v5_x__law_draw v6_x__law_draw : Value}
    (a_x__law_draw : PySem.W.nsIn K mainGlobals "_law_draw" = some (some (.ref f_x__law_draw)))
    (l_x__law_draw : K.lookup f_x__law_draw = some ⟨v1_x__law_draw, o1_x__law_draw, .func (PySem.W.fnOf "_law_draw" "_law_draw" (defArgs s__law_draw) (defBody s__law_draw) (defScope s__law_draw) .none v2_x__law_draw v3_x__law_draw v4_x__law_draw o3_x__law_draw v5_x__law_draw v6_x__law_draw), o2_x__law_draw⟩)
    (c_x__law_draw : PySem.W.codeIn K v5_x__law_draw "_law_draw" = true)
    (k_x__law_draw : PySem.W.keepIn K (.ref f_x__law_draw) = true)
    {f_x__law_text : Addr} {o1_x__law_text o3_x__law_text : Option Addr} {o2_x__law_text : Array (Option Value)} {v1_x__law_text v2_x__law_text v3_x__law_text v4_x__law_text v5_x__law_text v6_x__law_text : Value}
    (a_x__law_text : PySem.W.nsIn K mainGlobals "_law_text" = some (some (.ref f_x__law_text)))
    (l_x__law_text : K.lookup f_x__law_text = some ⟨v1_x__law_text, o1_x__law_text, .func (PySem.W.fnOf "_law_text" "_law_text" (defArgs s__law_text) (defBody s__law_text) (defScope s__law_text) .none v2_x__law_text v3_x__law_text v4_x__law_text o3_x__law_text v5_x__law_text v6_x__law_text), o2_x__law_text⟩)
    (c_x__law_text : PySem.W.codeIn K v5_x__law_text "_law_text" = true)
    (k_x__law_text : PySem.W.keepIn K (.ref f_x__law_text) = true)
    {f_x_distances_by : Addr} {o1_x_distances_by o3_x_distances_by : Option Addr} {o2_x_distances_by : Array (Option Value)} {v1_x_distances_by v2_x_distances_by v3_x_distances_by v4_x_distances_by v5_x_distances_by v6_x_distances_by : Value}
    (a_x_distances_by : PySem.W.nsIn K mainGlobals "distances_by" = some (some (.ref f_x_distances_by)))
    (l_x_distances_by : K.lookup f_x_distances_by = some ⟨v1_x_distances_by, o1_x_distances_by, .func (PySem.W.fnOf "distances_by" "distances_by" (defArgs s_distances_by) (defBody s_distances_by) (defScope s_distances_by) .none v2_x_distances_by v3_x_distances_by v4_x_distances_by o3_x_distances_by v5_x_distances_by v6_x_distances_by), o2_x_distances_by⟩)
    (c_x_distances_by : PySem.W.codeIn K v5_x_distances_by "distances_by" = true)
    (k_x_distances_by : PySem.W.keepIn K (.ref f_x_distances_by) = true)
    {f_x_is_sequence : Addr} {o1_x_is_sequence o3_x_is_sequence : Option Addr} {o2_x_is_sequence : Array (Option Value)} {v1_x_is_sequence v2_x_is_sequence v3_x_is_sequence v4_x_is_sequence v5_x_is_sequence v6_x_is_sequence : Value}
    (a_x_is_sequence : PySem.W.nsIn K mainGlobals "is_sequence" = some (some (.ref f_x_is_sequence)))
    (l_x_is_sequence : K.lookup f_x_is_sequence = some ⟨v1_x_is_sequence, o1_x_is_sequence, .func (PySem.W.fnOf "is_sequence" "is_sequence" (defArgs s_is_sequence) (defBody s_is_sequence) (defScope s_is_sequence) .none v2_x_is_sequence v3_x_is_sequence v4_x_is_sequence o3_x_is_sequence v5_x_is_sequence v6_x_is_sequence), o2_x_is_sequence⟩)
    (c_x_is_sequence : PySem.W.codeIn K v5_x_is_sequence "is_sequence" = true)
    (k_x_is_sequence : PySem.W.keepIn K (.ref f_x_is_sequence) = true)
    {f_x_are_strings : Addr} {o1_x_are_strings o3_x_are_strings : Option Addr} {o2_x_are_strings : Array (Option Value)} {v1_x_are_strings v2_x_are_strings v3_x_are_strings v4_x_are_strings v5_x_are_strings v6_x_are_strings : Value}
    (a_x_are_strings : PySem.W.nsIn K mainGlobals "are_strings" = some (some (.ref f_x_are_strings)))
    (l_x_are_strings : K.lookup f_x_are_strings = some ⟨v1_x_are_strings, o1_x_are_strings, .func (PySem.W.fnOf "are_strings" "are_strings" (defArgs s_are_strings) (defBody s_are_strings) (defScope s_are_strings) .none v2_x_are_strings v3_x_are_strings v4_x_are_strings o3_x_are_strings v5_x_are_strings v6_x_are_strings), o2_x_are_strings⟩)
    (c_x_are_strings : PySem.W.codeIn K v5_x_are_strings "are_strings" = true)
    (k_x_are_strings : PySem.W.keepIn K (.ref f_x_are_strings) = true)
    {f_x_distances_of : Addr} {o1_x_distances_of o3_x_distances_of : Option Addr} {o2_x_distances_of : Array (Option Value)} {v1_x_distances_of v2_x_distances_of v3_x_distances_of v4_x_distances_of v5_x_distances_of v6_x_distances_of : Value}
    (a_x_distances_of : PySem.W.nsIn K mainGlobals "distances_of" = some (some (.ref f_x_distances_of)))
    (l_x_distances_of : K.lookup f_x_distances_of = some ⟨v1_x_distances_of, o1_x_distances_of, .func (PySem.W.fnOf "distances_of" "distances_of" (defArgs s_distances_of) (defBody s_distances_of) (defScope s_distances_of) .none v2_x_distances_of v3_x_distances_of v4_x_distances_of o3_x_distances_of v5_x_distances_of v6_x_distances_of), o2_x_distances_of⟩)
    (c_x_distances_of : PySem.W.codeIn K v5_x_distances_of "distances_of" = true)
    (k_x_distances_of : PySem.W.keepIn K (.ref f_x_distances_of) = true)
    {f_x__law_shuffled : Addr} {o1_x__law_shuffled o3_x__law_shuffled : Option Addr} {o2_x__law_shuffled : Array (Option Value)} {v1_x__law_shuffled v2_x__law_shuffled v3_x__law_shuffled v4_x__law_shuffled v5_x__law_shuffled v6_x__law_shuffled : Value}
    (a_x__law_shuffled : PySem.W.nsIn K mainGlobals "_law_shuffled" = some (some (.ref f_x__law_shuffled)))
    (l_x__law_shuffled : K.lookup f_x__law_shuffled = some ⟨v1_x__law_shuffled, o1_x__law_shuffled, .func (PySem.W.fnOf "_law_shuffled" "_law_shuffled" (defArgs s__law_shuffled) (defBody s__law_shuffled) (defScope s__law_shuffled) .none v2_x__law_shuffled v3_x__law_shuffled v4_x__law_shuffled o3_x__law_shuffled v5_x__law_shuffled v6_x__law_shuffled), o2_x__law_shuffled⟩)
    (c_x__law_shuffled : PySem.W.codeIn K v5_x__law_shuffled "_law_shuffled" = true)
    (k_x__law_shuffled : PySem.W.keepIn K (.ref f_x__law_shuffled) = true)
    {f_x__law_names : Addr} {o1_x__law_names o3_x__law_names : Option Addr} {o2_x__law_names : Array (Option Value)} {v1_x__law_names v2_x__law_names v3_x__law_names v4_x__law_names v5_x__law_names v6_x__law_names : Value}
    (a_x__law_names : PySem.W.nsIn K mainGlobals "_law_names" = some (some (.ref f_x__law_names)))
    (l_x__law_names : K.lookup f_x__law_names = some ⟨v1_x__law_names, o1_x__law_names, .func (PySem.W.fnOf "_law_names" "_law_names" (defArgs s__law_names) (defBody s__law_names) (defScope s__law_names) .none v2_x__law_names v3_x__law_names v4_x__law_names o3_x__law_names v5_x__law_names v6_x__law_names), o2_x__law_names⟩)
    (c_x__law_names : PySem.W.codeIn K v5_x__law_names "_law_names" = true)
    (k_x__law_names : PySem.W.keepIn K (.ref f_x__law_names) = true)
    {f_x_is_integer : Addr} {o1_x_is_integer o3_x_is_integer : Option Addr} {o2_x_is_integer : Array (Option Value)} {v1_x_is_integer v2_x_is_integer v3_x_is_integer v4_x_is_integer v5_x_is_integer v6_x_is_integer : Value} {t_x_is_integer : Addr} {oc_x_is_integer : Value} {od_x_is_integer : Option Addr} {n_x_is_integer : Nat} {os_x_is_integer : Array (Option Value)}
    (a_x_is_integer : PySem.W.nsIn K mainGlobals "is_integer" = some (some (.ref f_x_is_integer)))
    (l_x_is_integer : K.lookup f_x_is_integer = some ⟨v1_x_is_integer, o1_x_is_integer, .func (PySem.W.fnOf "is_integer" "is_integer" (defArgs s_is_integer) (defBody s_is_integer) (defScope s_is_integer) (.ref t_x_is_integer) v2_x_is_integer v3_x_is_integer v4_x_is_integer o3_x_is_integer v5_x_is_integer v6_x_is_integer), o2_x_is_integer⟩)
    (d_x_is_integer : K.lookup t_x_is_integer = some ⟨oc_x_is_integer, od_x_is_integer, .seq #[.none] n_x_is_integer, os_x_is_integer⟩)
    (c_x_is_integer : PySem.W.codeIn K v5_x_is_integer "is_integer" = true)
    (k_x_is_integer : PySem.W.keepIn K (.ref f_x_is_integer) = true)
    {f_x_distances_from_ranks : Addr} {o1_x_distances_from_ranks o3_x_distances_from_ranks : Option Addr} {o2_x_distances_from_ranks : Array (Option Value)} {v1_x_distances_from_ranks v2_x_distances_from_ranks v3_x_distances_from_ranks v4_x_distances_from_ranks v5_x_distances_from_ranks v6_x_distances_from_ranks : Value}
    (a_x_distances_from_ranks : PySem.W.nsIn K mainGlobals "distances_from_ranks" = some (some (.ref f_x_distances_from_ranks)))
    (l_x_distances_from_ranks : K.lookup f_x_distances_from_ranks = some ⟨v1_x_distances_from_ranks, o1_x_distances_from_ranks, .func (PySem.W.fnOf "distances_from_ranks" "distances_from_ranks" (defArgs s_distances_from_ranks) (defBody s_distances_from_ranks) (defScope s_distances_from_ranks) .none v2_x_distances_from_ranks v3_x_distances_from_ranks v4_x_distances_from_ranks o3_x_distances_from_ranks v5_x_distances_from_ranks v6_x_distances_from_ranks), o2_x_distances_from_ranks⟩)
    (c_x_distances_from_ranks : PySem.W.codeIn K v5_x_distances_from_ranks "distances_from_ranks" = true)
    (k_x_distances_from_ranks : PySem.W.keepIn K (.ref f_x_distances_from_ranks) = true)
    {f_x_is_distances : Addr} {o1_x_is_distances o3_x_is_distances : Option Addr} {o2_x_is_distances : Array (Option Value)} {v1_x_is_distances v2_x_is_distances v3_x_is_distances v4_x_is_distances v5_x_is_distances v6_x_is_distances : Value}
    (a_x_is_distances : PySem.W.nsIn K mainGlobals "is_distances" = some (some (.ref f_x_is_distances)))
    (l_x_is_distances : K.lookup f_x_is_distances = some ⟨v1_x_is_distances, o1_x_is_distances, .func (PySem.W.fnOf "is_distances" "is_distances" (defArgs s_is_distances) (defBody s_is_distances) (defScope s_is_distances) .none v2_x_is_distances v3_x_is_distances v4_x_is_distances o3_x_is_distances v5_x_is_distances v6_x_is_distances), o2_x_is_distances⟩)
    (c_x_is_distances : PySem.W.codeIn K v5_x_is_distances "is_distances" = true)
    (k_x_is_distances : PySem.W.keepIn K (.ref f_x_is_distances) = true)
    {f_x_checked : Addr} {o1_x_checked o3_x_checked : Option Addr} {o2_x_checked : Array (Option Value)} {v1_x_checked v2_x_checked v3_x_checked v4_x_checked v5_x_checked v6_x_checked : Value}
    (a_x_checked : PySem.W.nsIn K mainGlobals "checked" = some (some (.ref f_x_checked)))
    (l_x_checked : K.lookup f_x_checked = some ⟨v1_x_checked, o1_x_checked, .func (PySem.W.fnOf "checked" "checked" (defArgs s_checked) (defBody s_checked) (defScope s_checked) .none v2_x_checked v3_x_checked v4_x_checked o3_x_checked v5_x_checked v6_x_checked), o2_x_checked⟩)
    (c_x_checked : PySem.W.codeIn K v5_x_checked "checked" = true)
    (k_x_checked : PySem.W.keepIn K (.ref f_x_checked) = true)
    {f_x_symbol_count : Addr} {o1_x_symbol_count o3_x_symbol_count : Option Addr} {o2_x_symbol_count : Array (Option Value)} {v1_x_symbol_count v2_x_symbol_count v3_x_symbol_count v4_x_symbol_count v5_x_symbol_count v6_x_symbol_count : Value}
    (a_x_symbol_count : PySem.W.nsIn K mainGlobals "symbol_count" = some (some (.ref f_x_symbol_count)))
    (l_x_symbol_count : K.lookup f_x_symbol_count = some ⟨v1_x_symbol_count, o1_x_symbol_count, .func (PySem.W.fnOf "symbol_count" "symbol_count" (defArgs s_symbol_count) (defBody s_symbol_count) (defScope s_symbol_count) .none v2_x_symbol_count v3_x_symbol_count v4_x_symbol_count o3_x_symbol_count v5_x_symbol_count v6_x_symbol_count), o2_x_symbol_count⟩)
    (c_x_symbol_count : PySem.W.codeIn K v5_x_symbol_count "symbol_count" = true)
    (k_x_symbol_count : PySem.W.keepIn K (.ref f_x_symbol_count) = true)
    {f_x_ids_of : Addr} {o1_x_ids_of o3_x_ids_of : Option Addr} {o2_x_ids_of : Array (Option Value)} {v1_x_ids_of v2_x_ids_of v3_x_ids_of v4_x_ids_of v5_x_ids_of v6_x_ids_of : Value}
    (a_x_ids_of : PySem.W.nsIn K mainGlobals "ids_of" = some (some (.ref f_x_ids_of)))
    (l_x_ids_of : K.lookup f_x_ids_of = some ⟨v1_x_ids_of, o1_x_ids_of, .func (PySem.W.fnOf "ids_of" "ids_of" (defArgs s_ids_of) (defBody s_ids_of) (defScope s_ids_of) .none v2_x_ids_of v3_x_ids_of v4_x_ids_of o3_x_ids_of v5_x_ids_of v6_x_ids_of), o2_x_ids_of⟩)
    (c_x_ids_of : PySem.W.codeIn K v5_x_ids_of "ids_of" = true)
    (k_x_ids_of : PySem.W.keepIn K (.ref f_x_ids_of) = true)
    {f_x_with_symbols : Addr} {o1_x_with_symbols o3_x_with_symbols : Option Addr} {o2_x_with_symbols : Array (Option Value)} {v1_x_with_symbols v2_x_with_symbols v3_x_with_symbols v4_x_with_symbols v5_x_with_symbols v6_x_with_symbols : Value}
    (a_x_with_symbols : PySem.W.nsIn K mainGlobals "with_symbols" = some (some (.ref f_x_with_symbols)))
    (l_x_with_symbols : K.lookup f_x_with_symbols = some ⟨v1_x_with_symbols, o1_x_with_symbols, .func (PySem.W.fnOf "with_symbols" "with_symbols" (defArgs s_with_symbols) (defBody s_with_symbols) (defScope s_with_symbols) .none v2_x_with_symbols v3_x_with_symbols v4_x_with_symbols o3_x_with_symbols v5_x_with_symbols v6_x_with_symbols), o2_x_with_symbols⟩)
    (c_x_with_symbols : PySem.W.codeIn K v5_x_with_symbols "with_symbols" = true)
    (k_x_with_symbols : PySem.W.keepIn K (.ref f_x_with_symbols) = true)
    {f_x_rank_at : Addr} {o1_x_rank_at o3_x_rank_at : Option Addr} {o2_x_rank_at : Array (Option Value)} {v1_x_rank_at v2_x_rank_at v3_x_rank_at v4_x_rank_at v5_x_rank_at v6_x_rank_at : Value}
    (a_x_rank_at : PySem.W.nsIn K mainGlobals "rank_at" = some (some (.ref f_x_rank_at)))
    (l_x_rank_at : K.lookup f_x_rank_at = some ⟨v1_x_rank_at, o1_x_rank_at, .func (PySem.W.fnOf "rank_at" "rank_at" (defArgs s_rank_at) (defBody s_rank_at) (defScope s_rank_at) .none v2_x_rank_at v3_x_rank_at v4_x_rank_at o3_x_rank_at v5_x_rank_at v6_x_rank_at), o2_x_rank_at⟩)
    (c_x_rank_at : PySem.W.codeIn K v5_x_rank_at "rank_at" = true)
    (k_x_rank_at : PySem.W.keepIn K (.ref f_x_rank_at) = true)
    {f_x_recency_ranks : Addr} {o1_x_recency_ranks o3_x_recency_ranks : Option Addr} {o2_x_recency_ranks : Array (Option Value)} {v1_x_recency_ranks v2_x_recency_ranks v3_x_recency_ranks v4_x_recency_ranks v5_x_recency_ranks v6_x_recency_ranks : Value}
    (a_x_recency_ranks : PySem.W.nsIn K mainGlobals "recency_ranks" = some (some (.ref f_x_recency_ranks)))
    (l_x_recency_ranks : K.lookup f_x_recency_ranks = some ⟨v1_x_recency_ranks, o1_x_recency_ranks, .func (PySem.W.fnOf "recency_ranks" "recency_ranks" (defArgs s_recency_ranks) (defBody s_recency_ranks) (defScope s_recency_ranks) .none v2_x_recency_ranks v3_x_recency_ranks v4_x_recency_ranks o3_x_recency_ranks v5_x_recency_ranks v6_x_recency_ranks), o2_x_recency_ranks⟩)
    (c_x_recency_ranks : PySem.W.codeIn K v5_x_recency_ranks "recency_ranks" = true)
    (k_x_recency_ranks : PySem.W.keepIn K (.ref f_x_recency_ranks) = true)
    {f_x__law_firsts : Addr} {o1_x__law_firsts o3_x__law_firsts : Option Addr} {o2_x__law_firsts : Array (Option Value)} {v1_x__law_firsts v2_x__law_firsts v3_x__law_firsts v4_x__law_firsts v5_x__law_firsts v6_x__law_firsts : Value}
    (a_x__law_firsts : PySem.W.nsIn K mainGlobals "_law_firsts" = some (some (.ref f_x__law_firsts)))
    (l_x__law_firsts : K.lookup f_x__law_firsts = some ⟨v1_x__law_firsts, o1_x__law_firsts, .func (PySem.W.fnOf "_law_firsts" "_law_firsts" (defArgs s__law_firsts) (defBody s__law_firsts) (defScope s__law_firsts) .none v2_x__law_firsts v3_x__law_firsts v4_x__law_firsts o3_x__law_firsts v5_x__law_firsts v6_x__law_firsts), o2_x__law_firsts⟩)
    (c_x__law_firsts : PySem.W.codeIn K v5_x__law_firsts "_law_firsts" = true)
    (k_x__law_firsts : PySem.W.keepIn K (.ref f_x__law_firsts) = true)
    {f_x__law_alike : Addr} {o1_x__law_alike o3_x__law_alike : Option Addr} {o2_x__law_alike : Array (Option Value)} {v1_x__law_alike v2_x__law_alike v3_x__law_alike v4_x__law_alike v5_x__law_alike v6_x__law_alike : Value}
    (a_x__law_alike : PySem.W.nsIn K mainGlobals "_law_alike" = some (some (.ref f_x__law_alike)))
    (l_x__law_alike : K.lookup f_x__law_alike = some ⟨v1_x__law_alike, o1_x__law_alike, .func (PySem.W.fnOf "_law_alike" "_law_alike" (defArgs s__law_alike) (defBody s__law_alike) (defScope s__law_alike) .none v2_x__law_alike v3_x__law_alike v4_x__law_alike o3_x__law_alike v5_x__law_alike v6_x__law_alike), o2_x__law_alike⟩)
    (c_x__law_alike : PySem.W.codeIn K v5_x__law_alike "_law_alike" = true)
    (k_x__law_alike : PySem.W.keepIn K (.ref f_x__law_alike) = true)
    {f_x_symbol_ids : Addr} {o1_x_symbol_ids o3_x_symbol_ids : Option Addr} {o2_x_symbol_ids : Array (Option Value)} {v1_x_symbol_ids v2_x_symbol_ids v3_x_symbol_ids v4_x_symbol_ids v5_x_symbol_ids v6_x_symbol_ids : Value}
    (a_x_symbol_ids : PySem.W.nsIn K mainGlobals "symbol_ids" = some (some (.ref f_x_symbol_ids)))
    (l_x_symbol_ids : K.lookup f_x_symbol_ids = some ⟨v1_x_symbol_ids, o1_x_symbol_ids, .func (PySem.W.fnOf "symbol_ids" "symbol_ids" (defArgs s_symbol_ids) (defBody s_symbol_ids) (defScope s_symbol_ids) .none v2_x_symbol_ids v3_x_symbol_ids v4_x_symbol_ids o3_x_symbol_ids v5_x_symbol_ids v6_x_symbol_ids), o2_x_symbol_ids⟩)
    (c_x_symbol_ids : PySem.W.codeIn K v5_x_symbol_ids "symbol_ids" = true)
    (k_x_symbol_ids : PySem.W.keepIn K (.ref f_x_symbol_ids) = true)
    {f_x_law : Addr} {o1_x_law o3_x_law : Option Addr} {o2_x_law : Array (Option Value)} {v1_x_law v2_x_law v3_x_law v4_x_law v5_x_law v6_x_law : Value}
    (a_x_law : PySem.W.nsIn K mainGlobals "law" = some (some (.ref f_x_law)))
    (l_x_law : K.lookup f_x_law = some ⟨v1_x_law, o1_x_law, .func (PySem.W.fnOf "law" "law" (defArgs s_law) (defBody s_law) (defScope s_law) .none v2_x_law v3_x_law v4_x_law o3_x_law v5_x_law v6_x_law), o2_x_law⟩)
    (c_x_law : PySem.W.codeIn K v5_x_law "law" = true)
    (k_x_law : PySem.W.keepIn K (.ref f_x_law) = true)
    {t_g_MAX_POSITIONS : Tok} (g_MAX_POSITIONS : PySem.W.nsIn K mainGlobals "MAX_POSITIONS" = some (some (.int 400 t_g_MAX_POSITIONS)))
    (z_all : PySem.W.nsIn K mainGlobals "all" = some none)
    (z_bool : PySem.W.nsIn K mainGlobals "bool" = some none)
    (z_dict : PySem.W.nsIn K mainGlobals "dict" = some none)
    (z_enumerate : PySem.W.nsIn K mainGlobals "enumerate" = some none)
    (z_int : PySem.W.nsIn K mainGlobals "int" = some none)
    (z_isinstance : PySem.W.nsIn K mainGlobals "isinstance" = some none)
    (z_len : PySem.W.nsIn K mainGlobals "len" = some none)
    (z_list : PySem.W.nsIn K mainGlobals "list" = some none)
    (z_min : PySem.W.nsIn K mainGlobals "min" = some none)
    (z_range : PySem.W.nsIn K mainGlobals "range" = some none)
    (z_set : PySem.W.nsIn K mainGlobals "set" = some none)
    (z_sorted : PySem.W.nsIn K mainGlobals "sorted" = some none)
    (z_str : PySem.W.nsIn K mainGlobals "str" = some none)
    (z_tuple : PySem.W.nsIn K mainGlobals "tuple" = some none)
    (z_zip : PySem.W.nsIn K mainGlobals "zip" = some none) : Txt K mg :=
  ⟨⟨⟨_, _, ⟨⟨_, _, _, _, _, _, _, _, _, _, rfl, l_x__law_bag, c_x__law_bag, .inl ⟨rfl, rfl⟩, .inl rfl⟩, k_x__law_bag⟩, PySem.W.mg_of X G a_x__law_bag⟩⟩,
   ⟨⟨_, _, ⟨⟨_, _, _, _, _, _, _, _, _, _, rfl, l_x__law_stir, c_x__law_stir, .inl ⟨rfl, rfl⟩, .inl rfl⟩, k_x__law_stir⟩, PySem.W.mg_of X G a_x__law_stir⟩⟩,
   ⟨⟨_, _, ⟨⟨_, _, _, _, _, _, _, _, _, _, rfl, l_x__law_draw, c_x__law_draw, .inl ⟨rfl, rfl⟩, .inl rfl⟩, k_x__law_draw⟩, PySem.W.mg_of X G a_x__law_draw⟩⟩,
   ⟨⟨_, _, ⟨⟨_, _, _, _, _, _, _, _, _, _, rfl, l_x__law_text, c_x__law_text, .inl ⟨rfl, rfl⟩, .inl rfl⟩, k_x__law_text⟩, PySem.W.mg_of X G a_x__law_text⟩⟩,
   ⟨⟨_, _, ⟨⟨_, _, _, _, _, _, _, _, _, _, rfl, l_x_distances_by, c_x_distances_by, .inl ⟨rfl, rfl⟩, .inl rfl⟩, k_x_distances_by⟩, PySem.W.mg_of X G a_x_distances_by⟩⟩,
   ⟨⟨_, _, ⟨⟨_, _, _, _, _, _, _, _, _, _, rfl, l_x_is_sequence, c_x_is_sequence, .inl ⟨rfl, rfl⟩, .inl rfl⟩, k_x_is_sequence⟩, PySem.W.mg_of X G a_x_is_sequence⟩⟩,
   ⟨⟨_, _, ⟨⟨_, _, _, _, _, _, _, _, _, _, rfl, l_x_are_strings, c_x_are_strings, .inl ⟨rfl, rfl⟩, .inl rfl⟩, k_x_are_strings⟩, PySem.W.mg_of X G a_x_are_strings⟩⟩,
   ⟨⟨_, _, ⟨⟨_, _, _, _, _, _, _, _, _, _, rfl, l_x_distances_of, c_x_distances_of, .inl ⟨rfl, rfl⟩, .inl rfl⟩, k_x_distances_of⟩, PySem.W.mg_of X G a_x_distances_of⟩⟩,
   ⟨⟨_, _, ⟨⟨_, _, _, _, _, _, _, _, _, _, rfl, l_x__law_shuffled, c_x__law_shuffled, .inl ⟨rfl, rfl⟩, .inl rfl⟩, k_x__law_shuffled⟩, PySem.W.mg_of X G a_x__law_shuffled⟩⟩,
   ⟨⟨_, _, ⟨⟨_, _, _, _, _, _, _, _, _, _, rfl, l_x__law_names, c_x__law_names, .inl ⟨rfl, rfl⟩, .inl rfl⟩, k_x__law_names⟩, PySem.W.mg_of X G a_x__law_names⟩⟩,
   ⟨⟨_, _, ⟨⟨_, _, _, _, _, _, _, _, _, _, rfl, l_x_is_integer, c_x_is_integer, .inr ⟨by simp, t_x_is_integer, _, [.none], n_x_is_integer, rfl, d_x_is_integer, rfl, (.cons rfl .nil)⟩, .inl rfl⟩, k_x_is_integer⟩, PySem.W.mg_of X G a_x_is_integer⟩⟩,
   ⟨⟨_, _, ⟨⟨_, _, _, _, _, _, _, _, _, _, rfl, l_x_distances_from_ranks, c_x_distances_from_ranks, .inl ⟨rfl, rfl⟩, .inl rfl⟩, k_x_distances_from_ranks⟩, PySem.W.mg_of X G a_x_distances_from_ranks⟩⟩,
   ⟨⟨_, _, ⟨⟨_, _, _, _, _, _, _, _, _, _, rfl, l_x_is_distances, c_x_is_distances, .inl ⟨rfl, rfl⟩, .inl rfl⟩, k_x_is_distances⟩, PySem.W.mg_of X G a_x_is_distances⟩⟩,
   ⟨⟨_, _, ⟨⟨_, _, _, _, _, _, _, _, _, _, rfl, l_x_checked, c_x_checked, .inl ⟨rfl, rfl⟩, .inl rfl⟩, k_x_checked⟩, PySem.W.mg_of X G a_x_checked⟩⟩,
   ⟨⟨_, _, ⟨⟨_, _, _, _, _, _, _, _, _, _, rfl, l_x_symbol_count, c_x_symbol_count, .inl ⟨rfl, rfl⟩, .inl rfl⟩, k_x_symbol_count⟩, PySem.W.mg_of X G a_x_symbol_count⟩⟩,
   ⟨⟨_, _, ⟨⟨_, _, _, _, _, _, _, _, _, _, rfl, l_x_ids_of, c_x_ids_of, .inl ⟨rfl, rfl⟩, .inl rfl⟩, k_x_ids_of⟩, PySem.W.mg_of X G a_x_ids_of⟩⟩,
   ⟨⟨_, _, ⟨⟨_, _, _, _, _, _, _, _, _, _, rfl, l_x_with_symbols, c_x_with_symbols, .inl ⟨rfl, rfl⟩, .inl rfl⟩, k_x_with_symbols⟩, PySem.W.mg_of X G a_x_with_symbols⟩⟩,
   ⟨⟨_, _, ⟨⟨_, _, _, _, _, _, _, _, _, _, rfl, l_x_rank_at, c_x_rank_at, .inl ⟨rfl, rfl⟩, .inl rfl⟩, k_x_rank_at⟩, PySem.W.mg_of X G a_x_rank_at⟩⟩,
   ⟨⟨_, _, ⟨⟨_, _, _, _, _, _, _, _, _, _, rfl, l_x_recency_ranks, c_x_recency_ranks, .inl ⟨rfl, rfl⟩, .inl rfl⟩, k_x_recency_ranks⟩, PySem.W.mg_of X G a_x_recency_ranks⟩⟩,
   ⟨⟨_, _, ⟨⟨_, _, _, _, _, _, _, _, _, _, rfl, l_x__law_firsts, c_x__law_firsts, .inl ⟨rfl, rfl⟩, .inl rfl⟩, k_x__law_firsts⟩, PySem.W.mg_of X G a_x__law_firsts⟩⟩,
   ⟨⟨_, _, ⟨⟨_, _, _, _, _, _, _, _, _, _, rfl, l_x__law_alike, c_x__law_alike, .inl ⟨rfl, rfl⟩, .inl rfl⟩, k_x__law_alike⟩, PySem.W.mg_of X G a_x__law_alike⟩⟩,
   ⟨⟨_, _, ⟨⟨_, _, _, _, _, _, _, _, _, _, rfl, l_x_symbol_ids, c_x_symbol_ids, .inl ⟨rfl, rfl⟩, .inl rfl⟩, k_x_symbol_ids⟩, PySem.W.mg_of X G a_x_symbol_ids⟩⟩,
   ⟨⟨_, _, ⟨⟨_, _, _, _, _, _, _, _, _, _, rfl, l_x_law, c_x_law, .inl ⟨rfl, rfl⟩, .inl rfl⟩, k_x_law⟩, PySem.W.mg_of X G a_x_law⟩⟩,
   ⟨.int 400, _, PySem.W.mg_of X G g_MAX_POSITIONS, ⟨_, rfl⟩, fun _ => .int _⟩,
   PySem.W.mg_none_of X G z_all,
   PySem.W.mg_none_of X G z_bool,
   PySem.W.mg_none_of X G z_dict,
   PySem.W.mg_none_of X G z_enumerate,
   PySem.W.mg_none_of X G z_int,
   PySem.W.mg_none_of X G z_isinstance,
   PySem.W.mg_none_of X G z_len,
   PySem.W.mg_none_of X G z_list,
   PySem.W.mg_none_of X G z_min,
   PySem.W.mg_none_of X G z_range,
   PySem.W.mg_none_of X G z_set,
   PySem.W.mg_none_of X G z_sorted,
   PySem.W.mg_none_of X G z_str,
   PySem.W.mg_none_of X G z_tuple,
   PySem.W.mg_none_of X G z_zip⟩
end K05
namespace K05
open PySem DL
theorem p_is_integer {v lo hi : Int} {S : Sto} {P : D → Sto → Prop} {R : RX} (h : P (.bl (decide (lo ≤ v) && decide (v ≤ hi))) S) : w_is_integer [.int v, .int lo, .int hi] S P R := by
  simp only [w_is_integer, gSeq, gRet, gRetN, gExpr, gAsg, gIf, gNext, gKill, gDrop, gBrk, gCnt, gNever, gFor, gAug, gOwn, gPut, gDPut, gSprPut, gObjPut, gPar, eObj, eRev, gtName, gtTup, gtCons, gtNil, seqOf, eC, eVar, eUn, eBin, eChain, eAnd, eOr, eNot, eOrT, eIf, tE, tTru, DL.tAnd, DL.tOr, DL.tNot, DL.tYes, aNil, aCons, eLst, eTup, eCall, eCallP, eCallB, aDef, eFn, eIsI, eMt, eGet2, eSpr, oNone, oSome, eSl, eSlX, eSlN, gLPut, gTPut, gOwnAsg, gObjApp, gObjIns, eNewObj, eObjPop, eObjR, eObjL, eObjLen, eObjEnd, eSort, eSortSet, eLstRg, gPar0, sIn, eLc, iSeq, DL.iRng1, DL.iRng2, DL.iEnum, DL.iZip, DL.iStr, killL, fnW, fnWo, eNever, tNever, List.getElem?_cons_zero, List.getElem?_cons_succ, List.set_cons_zero, List.set_cons_succ, List.map_cons, List.map_nil, List.cons_append, List.nil_append, List.append_nil, List.replicate_succ, List.replicate_zero, List.length_cons, List.length_nil, List.foldl_cons, List.foldl_nil, Nat.zero_add, Nat.reduceAdd, Nat.reduceSub, ex_some, ex_bl, ex_int, ex_obj, ex_str, ex_lst, ex_cons, true_and, and_true, dAdd_int, dSub_int, dCmp_int, dNeg_int, Option.some.injEq, exists_eq_left', exists_eq_left]
  simp only [dIsAny, dIsI, Option.bind_some, dIs, isNonD, List.getElem?_cons_zero, List.getElem?_cons_succ, List.set_cons_zero, List.set_cons_succ, List.map_cons, List.map_nil, List.cons_append, List.nil_append, List.append_nil, List.replicate_succ, List.replicate_zero, List.length_cons, List.length_nil, List.foldl_cons, List.foldl_nil, Nat.zero_add, Nat.reduceAdd, Nat.reduceSub, ex_some, ex_bl, ex_int, ex_obj, ex_str, ex_lst, ex_cons, true_and, and_true, dAdd_int, dSub_int, dCmp_int, dNeg_int, Option.some.injEq, exists_eq_left', exists_eq_left]
  simp
  split
  · rename_i h1; simpa [h1] using h
  · rename_i h1; simpa [h1] using h
theorem p_is_sequence {d : D} {xs : List D} {S : Sto} {P : D → Sto → Prop} {R : RX} (hd : d = .lst xs ∨ d = .tup xs) (h : P (.bl true) S) : w_is_sequence [d] S P R := by
  rcases hd with rfl | rfl <;> (
    simp only [w_is_sequence, gSeq, gRet, gRetN, gExpr, gAsg, gIf, gNext, gKill, gDrop, gBrk, gCnt, gNever, gFor, gAug, gOwn, gPut, gDPut, gSprPut, gObjPut, gPar, eObj, eRev, gtName, gtTup, gtCons, gtNil, seqOf, eC, eVar, eUn, eBin, eChain, eAnd, eOr, eNot, eOrT, eIf, tE, tTru, DL.tAnd, DL.tOr, DL.tNot, DL.tYes, aNil, aCons, eLst, eTup, eCall, eCallP, eCallB, aDef, eFn, eIsI, eMt, eGet2, eSpr, oNone, oSome, eSl, eSlX, eSlN, gLPut, gTPut, gOwnAsg, gObjApp, gObjIns, eNewObj, eObjPop, eObjR, eObjL, eObjLen, eObjEnd, eSort, eSortSet, eLstRg, gPar0, sIn, eLc, iSeq, DL.iRng1, DL.iRng2, DL.iEnum, DL.iZip, DL.iStr, killL, fnW, fnWo, eNever, tNever, List.getElem?_cons_zero, List.getElem?_cons_succ, List.set_cons_zero, List.set_cons_succ, List.map_cons, List.map_nil, List.cons_append, List.nil_append, List.append_nil, List.replicate_succ, List.replicate_zero, List.length_cons, List.length_nil, List.foldl_cons, List.foldl_nil, Nat.zero_add, Nat.reduceAdd, Nat.reduceSub, ex_some, ex_bl, ex_int, ex_obj, ex_str, ex_lst, ex_cons, true_and, and_true, dAdd_int, dSub_int, dCmp_int, dNeg_int, Option.some.injEq, exists_eq_left', exists_eq_left]
    simpa [dIsAny, dIsI] using h)
theorem p_is_distances {d : D} {ds : List Int} {S : Sto} {P : D → Sto → Prop} {R : RX} (hd : d = .lst (ds.map D.int) ∨ d = .tup (ds.map D.int)) (v : VD ds) (h : P (.bl true) S) : w_is_distances [d] S P R := by
  have hz := enumD_Z ds 0
  have hi : itemsOf d = some (ds.map D.int) := by rcases hd with rfl | rfl <;> rfl
  have hl : dLen d = some (.int (ds.length : Int)) := by rcases hd with rfl | rfl <;> simp [dLen]
  have hlen := v.len
  simp only [w_is_distances, gSeq, gRet, gRetN, gExpr, gAsg, gIf, gNext, gKill, gDrop, gBrk, gCnt, gNever, gFor, gAug, gOwn, gPut, gDPut, gSprPut, gObjPut, gPar, eObj, eRev, gtName, gtTup, gtCons, gtNil, seqOf, eC, eVar, eUn, eBin, eChain, eAnd, eOr, eNot, eOrT, eIf, tE, tTru, DL.tAnd, DL.tOr, DL.tNot, DL.tYes, aNil, aCons, eLst, eTup, eCall, eCallP, eCallB, aDef, eFn, eIsI, eMt, eGet2, eSpr, oNone, oSome, eSl, eSlX, eSlN, gLPut, gTPut, gOwnAsg, gObjApp, gObjIns, eNewObj, eObjPop, eObjR, eObjL, eObjLen, eObjEnd, eSort, eSortSet, eLstRg, gPar0, sIn, eLc, iSeq, DL.iRng1, DL.iRng2, DL.iEnum, DL.iZip, DL.iStr, killL, fnW, fnWo, eNever, tNever, List.getElem?_cons_zero, List.getElem?_cons_succ, List.set_cons_zero, List.set_cons_succ, List.map_cons, List.map_nil, List.cons_append, List.nil_append, List.append_nil, List.replicate_succ, List.replicate_zero, List.length_cons, List.length_nil, List.foldl_cons, List.foldl_nil, Nat.zero_add, Nat.reduceAdd, Nat.reduceSub, ex_some, ex_bl, ex_int, ex_obj, ex_str, ex_lst, ex_cons, true_and, and_true, dAdd_int, dSub_int, dCmp_int, dNeg_int, Option.some.injEq, exists_eq_left', exists_eq_left]
  refine p_is_sequence hd ?_
  simp only [fLen, hl, hi, hz, List.getElem?_cons_zero, List.getElem?_cons_succ, List.set_cons_zero, List.set_cons_succ, List.map_cons, List.map_nil, List.cons_append, List.nil_append, List.append_nil, List.replicate_succ, List.replicate_zero, List.length_cons, List.length_nil, List.foldl_cons, List.foldl_nil, Nat.zero_add, Nat.reduceAdd, Nat.reduceSub, ex_some, ex_bl, ex_int, ex_obj, ex_str, ex_lst, ex_cons, true_and, and_true, dAdd_int, dSub_int, dCmp_int, dNeg_int, Option.some.injEq, exists_eq_left', exists_eq_left]
  simp [show ¬ (400 < (ds.length : Int)) by omega, enumZ_len, show ds.length ≤ LINE by have : LINE = 16777216 := rfl; omega]
  refine lcL_mapOf _ (fun p => .bl (decide (0 ≤ p.2) && decide (p.2 ≤ p.1))) (fun p hp Q hQ => ?_) ?_
  · simp only [gSeq, gRet, gRetN, gExpr, gAsg, gIf, gNext, gKill, gDrop, gBrk, gCnt, gNever, gFor, gAug, gOwn, gPut, gDPut, gSprPut, gObjPut, gPar, eObj, eRev, gtName, gtTup, gtCons, gtNil, seqOf, eC, eVar, eUn, eBin, eChain, eAnd, eOr, eNot, eOrT, eIf, tE, tTru, DL.tAnd, DL.tOr, DL.tNot, DL.tYes, aNil, aCons, eLst, eTup, eCall, eCallP, eCallB, aDef, eFn, eIsI, eMt, eGet2, eSpr, oNone, oSome, eSl, eSlX, eSlN, gLPut, gTPut, gOwnAsg, gObjApp, gObjIns, eNewObj, eObjPop, eObjR, eObjL, eObjLen, eObjEnd, eSort, eSortSet, eLstRg, gPar0, sIn, eLc, iSeq, DL.iRng1, DL.iRng2, DL.iEnum, DL.iZip, DL.iStr, killL, fnW, fnWo, eNever, tNever, List.getElem?_cons_zero, List.getElem?_cons_succ, List.set_cons_zero, List.set_cons_succ, List.map_cons, List.map_nil, List.cons_append, List.nil_append, List.append_nil, List.replicate_succ, List.replicate_zero, List.length_cons, List.length_nil, List.foldl_cons, List.foldl_nil, Nat.zero_add, Nat.reduceAdd, Nat.reduceSub, ex_some, ex_bl, ex_int, ex_obj, ex_str, ex_lst, ex_cons, true_and, and_true, dAdd_int, dSub_int, dCmp_int, dNeg_int, Option.some.injEq, exists_eq_left', exists_eq_left]
    exact p_is_integer hQ
  rw [List.nil_append]
  simp only [fAll, boolsOf_mapOf]
  have hall : ((enumZ 0 ds).map fun p => decide (0 ≤ p.2) && decide (p.2 ≤ p.1)).all id = true := by
    rw [List.all_map, List.all_eq_true]
    intro p hp
    simpa using v.ok p hp
  rw [Option.map_some]
  simp only [List.getElem?_cons_zero, List.getElem?_cons_succ, List.set_cons_zero, List.set_cons_succ, List.map_cons, List.map_nil, List.cons_append, List.nil_append, List.append_nil, List.replicate_succ, List.replicate_zero, List.length_cons, List.length_nil, List.foldl_cons, List.foldl_nil, Nat.zero_add, Nat.reduceAdd, Nat.reduceSub, ex_some, ex_bl, ex_int, ex_obj, ex_str, ex_lst, ex_cons, true_and, and_true, dAdd_int, dSub_int, dCmp_int, dNeg_int, Option.some.injEq, exists_eq_left', exists_eq_left]
  rw [hall]
  simp
  refine lcL_filterOf _ (fun p => decide (0 < p.2)) (fun p => .int (p.1 - p.2)) (fun p hp Q N h1 h2 => ?_) ?_
  · simp only [gSeq, gRet, gRetN, gExpr, gAsg, gIf, gNext, gKill, gDrop, gBrk, gCnt, gNever, gFor, gAug, gOwn, gPut, gDPut, gSprPut, gObjPut, gPar, eObj, eRev, gtName, gtTup, gtCons, gtNil, seqOf, eC, eVar, eUn, eBin, eChain, eAnd, eOr, eNot, eOrT, eIf, tE, tTru, DL.tAnd, DL.tOr, DL.tNot, DL.tYes, aNil, aCons, eLst, eTup, eCall, eCallP, eCallB, aDef, eFn, eIsI, eMt, eGet2, eSpr, oNone, oSome, eSl, eSlX, eSlN, gLPut, gTPut, gOwnAsg, gObjApp, gObjIns, eNewObj, eObjPop, eObjR, eObjL, eObjLen, eObjEnd, eSort, eSortSet, eLstRg, gPar0, sIn, eLc, iSeq, DL.iRng1, DL.iRng2, DL.iEnum, DL.iZip, DL.iStr, killL, fnW, fnWo, eNever, tNever, List.getElem?_cons_zero, List.getElem?_cons_succ, List.set_cons_zero, List.set_cons_succ, List.map_cons, List.map_nil, List.cons_append, List.nil_append, List.append_nil, List.replicate_succ, List.replicate_zero, List.length_cons, List.length_nil, List.foldl_cons, List.foldl_nil, Nat.zero_add, Nat.reduceAdd, Nat.reduceSub, ex_some, ex_bl, ex_int, ex_obj, ex_str, ex_lst, ex_cons, true_and, and_true, dAdd_int, dSub_int, dCmp_int, dNeg_int, Option.some.injEq, exists_eq_left', exists_eq_left]
    split
    · rename_i hh; exact h1 hh
    · rename_i hh; exact h2 (by simpa using hh)
  have ht : (List.map (fun p : Int × Int => D.int (p.1 - p.2)) ((enumZ 0 ds).filter fun p => decide (0 < p.2))) = (tgts ds).map D.int := by
    unfold tgts; rw [List.map_map]; rfl
  rw [List.nil_append, ht]
  have hlt : (tgts ds).length ≤ 400 := by
    unfold tgts
    rw [List.length_map]
    exact Nat.le_trans (List.length_filter_le _ _) (by rw [enumZ_len]; exact hlen)
  rw [dLenSet_nodup v.nd (by omega)]
  simp [dLen, dEq_int]
  exact h
theorem p_checked {ds : List Int} {S : Sto} {P : D → Sto → Prop} {R : RX} (v : VD ds) (h : P (.lst (ds.map D.int)) S) : w_checked [.lst (ds.map D.int)] S P R := by
  simp only [w_checked, gSeq, gRet, gRetN, gExpr, gAsg, gIf, gNext, gKill, gDrop, gBrk, gCnt, gNever, gFor, gAug, gOwn, gPut, gDPut, gSprPut, gObjPut, gPar, eObj, eRev, gtName, gtTup, gtCons, gtNil, seqOf, eC, eVar, eUn, eBin, eChain, eAnd, eOr, eNot, eOrT, eIf, tE, tTru, DL.tAnd, DL.tOr, DL.tNot, DL.tYes, aNil, aCons, eLst, eTup, eCall, eCallP, eCallB, aDef, eFn, eIsI, eMt, eGet2, eSpr, oNone, oSome, eSl, eSlX, eSlN, gLPut, gTPut, gOwnAsg, gObjApp, gObjIns, eNewObj, eObjPop, eObjR, eObjL, eObjLen, eObjEnd, eSort, eSortSet, eLstRg, gPar0, sIn, eLc, iSeq, DL.iRng1, DL.iRng2, DL.iEnum, DL.iZip, DL.iStr, killL, fnW, fnWo, eNever, tNever, List.getElem?_cons_zero, List.getElem?_cons_succ, List.set_cons_zero, List.set_cons_succ, List.map_cons, List.map_nil, List.cons_append, List.nil_append, List.append_nil, List.replicate_succ, List.replicate_zero, List.length_cons, List.length_nil, List.foldl_cons, List.foldl_nil, Nat.zero_add, Nat.reduceAdd, Nat.reduceSub, ex_some, ex_bl, ex_int, ex_obj, ex_str, ex_lst, ex_cons, true_and, and_true, dAdd_int, dSub_int, dCmp_int, dNeg_int, Option.some.injEq, exists_eq_left', exists_eq_left]
  refine p_is_distances (.inl rfl) v ?_
  simp only [List.getElem?_cons_zero, List.getElem?_cons_succ, List.set_cons_zero, List.set_cons_succ, List.map_cons, List.map_nil, List.cons_append, List.nil_append, List.append_nil, List.replicate_succ, List.replicate_zero, List.length_cons, List.length_nil, List.foldl_cons, List.foldl_nil, Nat.zero_add, Nat.reduceAdd, Nat.reduceSub, ex_some, ex_bl, ex_int, ex_obj, ex_str, ex_lst, ex_cons, true_and, and_true, dAdd_int, dSub_int, dCmp_int, dNeg_int, Option.some.injEq, exists_eq_left', exists_eq_left, Bool.not_true, Bool.false_eq_true, if_false, fList]
  exact h
theorem find_dct {kvs : List (L2.Key × Int)} {k : L2.Key} : DL.getD (kvs.map fun p => (p.1, D.int p.2)) k = ((kvs.find? fun p => decide (p.1 = k)).map fun p => D.int p.2) := getD_map kvs k
theorem p_distances_by {xs : List Int} {S : Sto} {P : D → Sto → Prop} {R : RX} (hl : xs.length ≤ 1000) (h : P (.lst ((dist xs).map D.int)) S) : w_distances_by [.lst (xs.map D.int)] S P R := by
  simp only [w_distances_by, gSeq, gRet, gRetN, gExpr, gAsg, gIf, gNext, gKill, gDrop, gBrk, gCnt, gNever, gFor, gAug, gOwn, gPut, gDPut, gSprPut, gObjPut, gPar, eObj, eRev, gtName, gtTup, gtCons, gtNil, seqOf, eC, eVar, eUn, eBin, eChain, eAnd, eOr, eNot, eOrT, eIf, tE, tTru, DL.tAnd, DL.tOr, DL.tNot, DL.tYes, aNil, aCons, eLst, eTup, eCall, eCallP, eCallB, aDef, eFn, eIsI, eMt, eGet2, eSpr, oNone, oSome, eSl, eSlX, eSlN, gLPut, gTPut, gOwnAsg, gObjApp, gObjIns, eNewObj, eObjPop, eObjR, eObjL, eObjLen, eObjEnd, eSort, eSortSet, eLstRg, gPar0, sIn, eLc, iSeq, DL.iRng1, DL.iRng2, DL.iEnum, DL.iZip, DL.iStr, killL, fnW, fnWo, eNever, tNever, List.getElem?_cons_zero, List.getElem?_cons_succ, List.set_cons_zero, List.set_cons_succ, List.map_cons, List.map_nil, List.cons_append, List.nil_append, List.append_nil, List.replicate_succ, List.replicate_zero, List.length_cons, List.length_nil, List.foldl_cons, List.foldl_nil, Nat.zero_add, Nat.reduceAdd, Nat.reduceSub, ex_some, ex_bl, ex_int, ex_obj, ex_str, ex_lst, ex_cons, true_and, and_true, dAdd_int, dSub_int, dCmp_int, dNeg_int, Option.some.injEq, exists_eq_left', exists_eq_left, itemsOf]
  refine ⟨by rw [line_eq]; omega, ?_⟩
  refine forL_inv (fun i Δ S' => S' = S ∧ ∃ (kvs : List (L2.Key × Int)) (c3 c4 : Option D), i ≤ xs.length ∧ DJ (xs.take i).reverse (dist (xs.take i)) kvs ∧ Δ = [some (.lst (xs.map D.int)), some (.dct (kvs.map fun p => (p.1, D.int p.2))), some (.lst ((dist (xs.take i)).map D.int)), c3, c4]) ⟨rfl, [], _, _, by omega, DJ.nil, rfl⟩ ?_ ?_
  · rintro i x Δ S' Nx hx ⟨rfl, kvs, c3, c4, hi, J, rfl⟩ hN
    rw [enumD_get, List.getElem?_map] at hx
    cases hd : xs[i]? with
    | none => rw [hd] at hx; simp at hx
    | some n =>
      rw [hd] at hx
      simp only [Option.map_some, Option.some.injEq] at hx
      subst hx
      obtain ⟨hlt, hn⟩ := List.getElem?_eq_some_iff.mp hd
      obtain ⟨J2, he⟩ := J.step n
      have hrl : (xs.take i).reverse.length = i := by simp; omega
      rw [hrl] at J2 he
      have htk : xs.take (i + 1) = xs.take i ++ [n] := by rw [List.take_succ, hd]; rfl
      have hkl : kvs.length ≤ i := by have := J.kl; rw [hrl] at this; exact this
      have hdl : (dist (xs.take i)).length = i := by rw [dist_len, List.length_take]; omega
      have happ : ∀ v : Int, oAppend (.lst ((dist (xs.take i)).map D.int)) [.int v] = some (.lst ((dist (xs.take i) ++ [v]).map D.int), .non) := fun v => by
        show (if _ then _ else none) = _
        rw [if_pos (by rw [List.length_map, line_eq]; omega), List.map_append]
        rfl
      have hput : putX (.dct (kvs.map fun p => (p.1, D.int p.2))) (.int n) (.int (i : Int)) = some (.dct ((nxK i kvs n).map fun p => (p.1, D.int p.2))) := by
        show (if _ then _ else none) = _
        rw [if_pos (by rw [List.length_map, line_eq]; omega)]
        show some (D.dct (putD _ (.inl n) (.int (i : Int)))) = _
        rw [putD_map]
        rfl
      have hnx : Nx [some (.lst (xs.map D.int)), some (.dct ((nxK i kvs n).map fun p => (p.1, D.int p.2))), some (.lst ((dist (xs.take i) ++ [nxE i kvs n]).map D.int)), some (.int (i : Int)), some (.int n)] S' := by
        refine hN _ _ ⟨rfl, nxK i kvs n, some (.int (i : Int)), some (.int n), by omega, ?_, ?_⟩
        · rw [htk, List.reverse_append, dist_snoc, ← he]
          exact J2
        · rw [htk, dist_snoc, ← he]
      simp only [gSeq, gRet, gRetN, gExpr, gAsg, gIf, gNext, gKill, gDrop, gBrk, gCnt, gNever, gFor, gAug, gOwn, gPut, gDPut, gSprPut, gObjPut, gPar, eObj, eRev, gtName, gtTup, gtCons, gtNil, seqOf, eC, eVar, eUn, eBin, eChain, eAnd, eOr, eNot, eOrT, eIf, tE, tTru, DL.tAnd, DL.tOr, DL.tNot, DL.tYes, aNil, aCons, eLst, eTup, eCall, eCallP, eCallB, aDef, eFn, eIsI, eMt, eGet2, eSpr, oNone, oSome, eSl, eSlX, eSlN, gLPut, gTPut, gOwnAsg, gObjApp, gObjIns, eNewObj, eObjPop, eObjR, eObjL, eObjLen, eObjEnd, eSort, eSortSet, eLstRg, gPar0, sIn, eLc, iSeq, DL.iRng1, DL.iRng2, DL.iEnum, DL.iZip, DL.iStr, killL, fnW, fnWo, eNever, tNever, List.getElem?_cons_zero, List.getElem?_cons_succ, List.set_cons_zero, List.set_cons_succ, List.map_cons, List.map_nil, List.cons_append, List.nil_append, List.append_nil, List.replicate_succ, List.replicate_zero, List.length_cons, List.length_nil, List.foldl_cons, List.foldl_nil, Nat.zero_add, Nat.reduceAdd, Nat.reduceSub, ex_some, ex_bl, ex_int, ex_obj, ex_str, ex_lst, ex_cons, true_and, and_true, dAdd_int, dSub_int, dCmp_int, dNeg_int, Option.some.injEq, exists_eq_left', exists_eq_left, isLst]
      have hin : dInK (.int n) (.dct (kvs.map fun p => (p.1, D.int p.2))) = some (.bl (kvs.find? fun p => decide (p.1 = (Sum.inl n : L2.Key))).isSome) := by
        show some (D.bl (DL.getD _ (.inl n)).isSome) = _
        rw [getD_map]
        cases kvs.find? (fun p => decide (p.1 = (Sum.inl n : L2.Key))) <;> rfl
      rw [hin]
      simp only [List.getElem?_cons_zero, List.getElem?_cons_succ, List.set_cons_zero, List.set_cons_succ, List.map_cons, List.map_nil, List.cons_append, List.nil_append, List.append_nil, List.replicate_succ, List.replicate_zero, List.length_cons, List.length_nil, List.foldl_cons, List.foldl_nil, Nat.zero_add, Nat.reduceAdd, Nat.reduceSub, ex_some, ex_bl, ex_int, ex_obj, ex_str, ex_lst, ex_cons, true_and, and_true, dAdd_int, dSub_int, dCmp_int, dNeg_int, Option.some.injEq, exists_eq_left', exists_eq_left]
      cases hf : kvs.find? (fun p => decide (p.1 = (Sum.inl n : L2.Key))) with
      | none =>
        have e0 : nxE i kvs n = 0 := by unfold nxE; rw [hf]
        simp only [Option.isSome_none, Bool.false_eq_true, if_false]
        rw [e0] at hnx
        exact ⟨_, _, happ 0, ⟨_, rfl⟩, _, hput, hnx⟩
      | some q =>
        have e0 : nxE i kvs n = (i : Int) - q.2 := by unfold nxE; rw [hf]
        have hg : dGet (.dct (kvs.map fun p => (p.1, D.int p.2))) (.int n) = some (.int q.2) := by
          show DL.getD _ (.inl n) = _
          rw [getD_map, hf]
          rfl
        simp only [Option.isSome_some, if_true]
        rw [hg]
        simp only [List.getElem?_cons_zero, List.getElem?_cons_succ, List.set_cons_zero, List.set_cons_succ, List.map_cons, List.map_nil, List.cons_append, List.nil_append, List.append_nil, List.replicate_succ, List.replicate_zero, List.length_cons, List.length_nil, List.foldl_cons, List.foldl_nil, Nat.zero_add, Nat.reduceAdd, Nat.reduceSub, ex_some, ex_bl, ex_int, ex_obj, ex_str, ex_lst, ex_cons, true_and, and_true, dAdd_int, dSub_int, dCmp_int, dNeg_int, Option.some.injEq, exists_eq_left', exists_eq_left]
        rw [e0] at hnx
        exact ⟨_, _, happ _, ⟨_, rfl⟩, _, hput, hnx⟩
  · rintro Δ S' ⟨rfl, kvs, c3, c4, hi, J, rfl⟩
    rw [enumD_len, List.length_map, List.take_length]
    simp only [List.getElem?_cons_zero, List.getElem?_cons_succ, List.set_cons_zero, List.set_cons_succ, List.map_cons, List.map_nil, List.cons_append, List.nil_append, List.append_nil, List.replicate_succ, List.replicate_zero, List.length_cons, List.length_nil, List.foldl_cons, List.foldl_nil, Nat.zero_add, Nat.reduceAdd, Nat.reduceSub, ex_some, ex_bl, ex_int, ex_obj, ex_str, ex_lst, ex_cons, true_and, and_true, dAdd_int, dSub_int, dCmp_int, dNeg_int, Option.some.injEq, exists_eq_left', exists_eq_left]
    exact h

theorem dl_at {xs : List Int} {i : Nat} {n : Int} (hd : xs[i]? = some n) : (dist xs)[i]? = some (dlr (xs.take i).reverse n) := by
  obtain ⟨hlt, hn⟩ := List.getElem?_eq_some_iff.mp hd
  have e : xs = xs.take i ++ (n :: xs.drop (i + 1)) := by
    rw [← hn, List.getElem_cons_drop, List.take_append_drop]
  have hl : (dist (xs.take i)).length = i := by rw [dist_len, List.length_take]; omega
  have e2 : dist xs = dist (xs.take i) ++ (dlr (xs.take i).reverse n :: distF (n :: (xs.take i).reverse) (xs.drop (i + 1))) := by
    conv => lhs; rw [e]
    rw [dist_app]
    rfl
  rw [e2, List.getElem?_append_right (by omega), hl, Nat.sub_self]
  rfl
theorem map_take_at {xs : List Int} {f : Int → Int} {i j : Nat} {n : Int} (hj : xs[j]? = some n) (h : j < i) : ((xs.take i).map f)[j]? = some (f n) := by
  rw [List.getElem?_map, List.getElem?_take_of_lt h, hj]
  rfl
/-- the place that a distance tells -/
theorem dlr_place {r : List Int} {n : Int} (h : n ∈ r) : r.reverse[r.length - 1 - r.idxOf n]? = some n := by
  have hlt := List.idxOf_lt_length_of_mem h
  rw [List.getElem?_reverse (by omega)]
  have e : r.length - 1 - (r.length - 1 - r.idxOf n) = r.idxOf n := by omega
  rw [e, List.getElem?_eq_getElem hlt, List.getElem_idxOf hlt]
theorem p_ids_of {xs : List Int} {S : Sto} {P : D → Sto → Prop} {R : RX} (hl : xs.length ≤ 1000) (h : P (.lst ((can xs).map D.int)) S) : w_ids_of [.lst ((dist xs).map D.int)] S P R := by
  simp only [w_ids_of, gSeq, gRet, gRetN, gExpr, gAsg, gIf, gNext, gKill, gDrop, gBrk, gCnt, gNever, gFor, gAug, gOwn, gPut, gDPut, gSprPut, gObjPut, gPar, eObj, eRev, gtName, gtTup, gtCons, gtNil, seqOf, eC, eVar, eUn, eBin, eChain, eAnd, eOr, eNot, eOrT, eIf, tE, tTru, DL.tAnd, DL.tOr, DL.tNot, DL.tYes, aNil, aCons, eLst, eTup, eCall, eCallP, eCallB, aDef, eFn, eIsI, eMt, eGet2, eSpr, oNone, oSome, eSl, eSlX, eSlN, gLPut, gTPut, gOwnAsg, gObjApp, gObjIns, eNewObj, eObjPop, eObjR, eObjL, eObjLen, eObjEnd, eSort, eSortSet, eLstRg, gPar0, sIn, eLc, iSeq, DL.iRng1, DL.iRng2, DL.iEnum, DL.iZip, DL.iStr, killL, fnW, fnWo, eNever, tNever, List.getElem?_cons_zero, List.getElem?_cons_succ, List.set_cons_zero, List.set_cons_succ, List.map_cons, List.map_nil, List.cons_append, List.nil_append, List.append_nil, List.replicate_succ, List.replicate_zero, List.length_cons, List.length_nil, List.foldl_cons, List.foldl_nil, Nat.zero_add, Nat.reduceAdd, Nat.reduceSub, ex_some, ex_bl, ex_int, ex_obj, ex_str, ex_lst, ex_cons, true_and, and_true, dAdd_int, dSub_int, dCmp_int, dNeg_int, Option.some.injEq, exists_eq_left', exists_eq_left, itemsOf]
  refine ⟨by rw [line_eq]; omega, ?_⟩
  refine forL_inv (fun i Δ S' => S' = S ∧ ∃ (c3 c4 : Option D), i ≤ xs.length ∧ Δ = [some (.lst ((dist xs).map D.int)), some (.lst (((xs.take i).map (rk xs)).map D.int)), some (.int ((dedup (xs.take i)).length : Int)), c3, c4]) ⟨rfl, none, none, by omega, rfl⟩ ?_ ?_
  · rintro i x Δ S' Nx hx ⟨rfl, c3, c4, hi, rfl⟩ hN
    rw [enumD_get, List.getElem?_map] at hx
    cases hde : (dist xs)[i]? with
    | none => rw [hde] at hx; simp at hx
    | some en =>
      have hlt : i < xs.length := by have := (List.getElem?_eq_some_iff.mp hde).1; rw [dist_len] at this; exact this
      obtain ⟨n, hd⟩ : ∃ n, xs[i]? = some n := ⟨_, List.getElem?_eq_getElem hlt⟩
      rw [dl_at hd] at hde
      cases hde
      rw [dl_at hd] at hx
      simp only [Option.map_some, Option.some.injEq] at hx
      subst hx
      have htk : xs.take (i + 1) = xs.take i ++ [n] := by rw [List.take_succ, hd]; rfl
      have hxs : xs = xs.take (i + 1) ++ xs.drop (i + 1) := (List.take_append_drop _ _).symm
      have hlen : ((xs.take i).map (rk xs)).length = i := by rw [List.length_map, List.length_take]; omega
      have happ : ∀ v : Int, oAppend (.lst (((xs.take i).map (rk xs)).map D.int)) [.int v] = some (.lst (((xs.take i).map (rk xs) ++ [v]).map D.int), .non) := fun v => by
        show (if _ then _ else none) = _
        rw [if_pos (by rw [List.length_map, line_eq]; omega), List.map_append (f := D.int)]
        rfl
      have hm : n ∈ (xs.take i).reverse ↔ n ∈ xs.take i := List.mem_reverse
      have hN2 : ∀ (l : List Int) (m : Int) (c3 c4 : Option D), l = (xs.take (i + 1)).map (rk xs) → m = ((dedup (xs.take (i + 1))).length : Int) → Nx [some (.lst ((dist xs).map D.int)), some (.lst (l.map D.int)), some (.int m), c3, c4] S' := fun l m c3 c4 e1 e2 => hN _ _ ⟨rfl, c3, c4, by omega, by rw [e1, e2]⟩
      simp only [gSeq, gRet, gRetN, gExpr, gAsg, gIf, gNext, gKill, gDrop, gBrk, gCnt, gNever, gFor, gAug, gOwn, gPut, gDPut, gSprPut, gObjPut, gPar, eObj, eRev, gtName, gtTup, gtCons, gtNil, seqOf, eC, eVar, eUn, eBin, eChain, eAnd, eOr, eNot, eOrT, eIf, tE, tTru, DL.tAnd, DL.tOr, DL.tNot, DL.tYes, aNil, aCons, eLst, eTup, eCall, eCallP, eCallB, aDef, eFn, eIsI, eMt, eGet2, eSpr, oNone, oSome, eSl, eSlX, eSlN, gLPut, gTPut, gOwnAsg, gObjApp, gObjIns, eNewObj, eObjPop, eObjR, eObjL, eObjLen, eObjEnd, eSort, eSortSet, eLstRg, gPar0, sIn, eLc, iSeq, DL.iRng1, DL.iRng2, DL.iEnum, DL.iZip, DL.iStr, killL, fnW, fnWo, eNever, tNever, List.getElem?_cons_zero, List.getElem?_cons_succ, List.set_cons_zero, List.set_cons_succ, List.map_cons, List.map_nil, List.cons_append, List.nil_append, List.append_nil, List.replicate_succ, List.replicate_zero, List.length_cons, List.length_nil, List.foldl_cons, List.foldl_nil, Nat.zero_add, Nat.reduceAdd, Nat.reduceSub, ex_some, ex_bl, ex_int, ex_obj, ex_str, ex_lst, ex_cons, true_and, and_true, dAdd_int, dSub_int, dCmp_int, dNeg_int, Option.some.injEq, exists_eq_left', exists_eq_left, isLst]
      by_cases hin : n ∈ xs.take i
      · have e0 : dlr (xs.take i).reverse n = ((xs.take i).reverse.idxOf n : Int) + 1 := if_pos (hm.mpr hin)
        have hlt2 := List.idxOf_lt_length_of_mem (hm.mpr hin)
        have hrl : (xs.take i).reverse.length = i := by simp; omega
        rw [hrl] at hlt2
        rw [e0, dEq_int, show ((((xs.take i).reverse.idxOf n : Nat) : Int) + 1 == 0) = false by simp; omega]
        simp only [List.getElem?_cons_zero, List.getElem?_cons_succ, List.set_cons_zero, List.set_cons_succ, List.map_cons, List.map_nil, List.cons_append, List.nil_append, List.append_nil, List.replicate_succ, List.replicate_zero, List.length_cons, List.length_nil, List.foldl_cons, List.foldl_nil, Nat.zero_add, Nat.reduceAdd, Nat.reduceSub, ex_some, ex_bl, ex_int, ex_obj, ex_str, ex_lst, ex_cons, true_and, and_true, dAdd_int, dSub_int, dCmp_int, dNeg_int, Option.some.injEq, exists_eq_left', exists_eq_left, Bool.false_eq_true, if_false]
        have hpl := dlr_place (hm.mpr hin)
        rw [List.reverse_reverse, hrl] at hpl
        have hix : dIx (.lst (((xs.take i).map (rk xs)).map D.int)) (.int (0 + (i : Int) - ((((xs.take i).reverse.idxOf n : Nat) : Int) + 1))) = some (.int (rk xs n)) := by
          have e1 : (0 + (i : Int) - ((((xs.take i).reverse.idxOf n : Nat) : Int) + 1)) = ((i - 1 - (xs.take i).reverse.idxOf n : Nat) : Int) := by omega
          rw [e1]
          exact atI_nat (by rw [List.getElem?_map, List.getElem?_map, hpl]; rfl)
        have hix2 : dIx (.lst (((xs.take i).map (rk xs)).map D.int)) (.int ((i : Int) - ((((xs.take i).reverse.idxOf n : Nat) : Int) + 1))) = some (.int (rk xs n)) := by
          rw [← hix]; congr 2; omega
        simp only [hix, hix2, List.getElem?_cons_zero, List.getElem?_cons_succ, List.set_cons_zero, List.set_cons_succ, List.map_cons, List.map_nil, List.cons_append, List.nil_append, List.append_nil, List.replicate_succ, List.replicate_zero, List.length_cons, List.length_nil, List.foldl_cons, List.foldl_nil, Nat.zero_add, Nat.reduceAdd, Nat.reduceSub, ex_some, ex_bl, ex_int, ex_obj, ex_str, ex_lst, ex_cons, true_and, and_true, dAdd_int, dSub_int, dCmp_int, dNeg_int, Option.some.injEq, exists_eq_left', exists_eq_left]
        refine ⟨_, _, happ _, hN2 _ _ _ _ ?_ ?_⟩
        · rw [htk, List.map_append]; rfl
        · rw [htk, dedup_snoc, any_eq_mem, decide_eq_true (mem_dedup.mpr hin), if_pos rfl]
      · have e0 : dlr (xs.take i).reverse n = 0 := if_neg fun z => hin (hm.mp z)
        rw [e0, dEq_int]
        simp only [List.getElem?_cons_zero, List.getElem?_cons_succ, List.set_cons_zero, List.set_cons_succ, List.map_cons, List.map_nil, List.cons_append, List.nil_append, List.append_nil, List.replicate_succ, List.replicate_zero, List.length_cons, List.length_nil, List.foldl_cons, List.foldl_nil, Nat.zero_add, Nat.reduceAdd, Nat.reduceSub, ex_some, ex_bl, ex_int, ex_obj, ex_str, ex_lst, ex_cons, true_and, and_true, dAdd_int, dSub_int, dCmp_int, dNeg_int, Option.some.injEq, exists_eq_left', exists_eq_left, beq_self_eq_true, if_true, dAddI]
        have hrk : rk xs n = ((dedup (xs.take i)).length : Int) := by
          conv => lhs; rw [hxs]
          rw [rk_pre (by rw [htk]; simp), htk]
          unfold rk
          rw [dedup_snoc, any_eq_mem, decide_eq_false fun z => hin (mem_dedup.mp z), if_neg (by decide), List.idxOf_append, if_neg fun z => hin (mem_dedup.mp z)]
          simp
        refine ⟨_, _, happ _, hN2 _ _ _ _ ?_ ?_⟩
        · rw [htk, List.map_append, List.map_cons, List.map_nil, hrk]
        · rw [htk, dedup_snoc, any_eq_mem, decide_eq_false fun z => hin (mem_dedup.mp z), if_neg (by decide), List.length_append]
          rfl
  · rintro Δ S' ⟨rfl, c3, c4, hi, rfl⟩
    rw [enumD_len, List.length_map, dist_len, List.take_length]
    simp only [List.getElem?_cons_zero, List.getElem?_cons_succ, List.set_cons_zero, List.set_cons_succ, List.map_cons, List.map_nil, List.cons_append, List.nil_append, List.append_nil, List.replicate_succ, List.replicate_zero, List.length_cons, List.length_nil, List.foldl_cons, List.foldl_nil, Nat.zero_add, Nat.reduceAdd, Nat.reduceSub, ex_some, ex_bl, ex_int, ex_obj, ex_str, ex_lst, ex_cons, true_and, and_true, dAdd_int, dSub_int, dCmp_int, dNeg_int, Option.some.injEq, exists_eq_left', exists_eq_left]
    exact h
theorem p_symbol_count {xs : List Int} {S : Sto} {P : D → Sto → Prop} {R : RX} (hl : xs.length ≤ 1000) (h : P (.int ((dedup xs).length : Int)) S) : w_symbol_count [.lst ((dist xs).map D.int)] S P R := by
  simp only [w_symbol_count, gSeq, gRet, gRetN, gExpr, gAsg, gIf, gNext, gKill, gDrop, gBrk, gCnt, gNever, gFor, gAug, gOwn, gPut, gDPut, gSprPut, gObjPut, gPar, eObj, eRev, gtName, gtTup, gtCons, gtNil, seqOf, eC, eVar, eUn, eBin, eChain, eAnd, eOr, eNot, eOrT, eIf, tE, tTru, DL.tAnd, DL.tOr, DL.tNot, DL.tYes, aNil, aCons, eLst, eTup, eCall, eCallP, eCallB, aDef, eFn, eIsI, eMt, eGet2, eSpr, oNone, oSome, eSl, eSlX, eSlN, gLPut, gTPut, gOwnAsg, gObjApp, gObjIns, eNewObj, eObjPop, eObjR, eObjL, eObjLen, eObjEnd, eSort, eSortSet, eLstRg, gPar0, sIn, eLc, iSeq, DL.iRng1, DL.iRng2, DL.iEnum, DL.iZip, DL.iStr, killL, fnW, fnWo, eNever, tNever, List.getElem?_cons_zero, List.getElem?_cons_succ, List.set_cons_zero, List.set_cons_succ, List.map_cons, List.map_nil, List.cons_append, List.nil_append, List.append_nil, List.replicate_succ, List.replicate_zero, List.length_cons, List.length_nil, List.foldl_cons, List.foldl_nil, Nat.zero_add, Nat.reduceAdd, Nat.reduceSub, ex_some, ex_bl, ex_int, ex_obj, ex_str, ex_lst, ex_cons, true_and, and_true, dAdd_int, dSub_int, dCmp_int, dNeg_int, Option.some.injEq, exists_eq_left', exists_eq_left, itemsOf]
  refine ⟨by rw [List.length_map, dist_len, line_eq]; omega, ?_⟩
  refine lcL_filterOf D.int (fun e => e == 0) D.int (fun e he Q N h1 h2 => ?_) ?_
  · simp only [gSeq, gRet, gRetN, gExpr, gAsg, gIf, gNext, gKill, gDrop, gBrk, gCnt, gNever, gFor, gAug, gOwn, gPut, gDPut, gSprPut, gObjPut, gPar, eObj, eRev, gtName, gtTup, gtCons, gtNil, seqOf, eC, eVar, eUn, eBin, eChain, eAnd, eOr, eNot, eOrT, eIf, tE, tTru, DL.tAnd, DL.tOr, DL.tNot, DL.tYes, aNil, aCons, eLst, eTup, eCall, eCallP, eCallB, aDef, eFn, eIsI, eMt, eGet2, eSpr, oNone, oSome, eSl, eSlX, eSlN, gLPut, gTPut, gOwnAsg, gObjApp, gObjIns, eNewObj, eObjPop, eObjR, eObjL, eObjLen, eObjEnd, eSort, eSortSet, eLstRg, gPar0, sIn, eLc, iSeq, DL.iRng1, DL.iRng2, DL.iEnum, DL.iZip, DL.iStr, killL, fnW, fnWo, eNever, tNever, List.getElem?_cons_zero, List.getElem?_cons_succ, List.set_cons_zero, List.set_cons_succ, List.map_cons, List.map_nil, List.cons_append, List.nil_append, List.append_nil, List.replicate_succ, List.replicate_zero, List.length_cons, List.length_nil, List.foldl_cons, List.foldl_nil, Nat.zero_add, Nat.reduceAdd, Nat.reduceSub, ex_some, ex_bl, ex_int, ex_obj, ex_str, ex_lst, ex_cons, true_and, and_true, dAdd_int, dSub_int, dCmp_int, dNeg_int, Option.some.injEq, exists_eq_left', exists_eq_left, dEq_int]
    split
    · rename_i hh; exact h1 hh
    · rename_i hh; exact h2 (by simpa using hh)
  rw [List.nil_append]
  simp only [fLen, dLen, List.length_map, zeros_dist, List.getElem?_cons_zero, List.getElem?_cons_succ, List.set_cons_zero, List.set_cons_succ, List.map_cons, List.map_nil, List.cons_append, List.nil_append, List.append_nil, List.replicate_succ, List.replicate_zero, List.length_cons, List.length_nil, List.foldl_cons, List.foldl_nil, Nat.zero_add, Nat.reduceAdd, Nat.reduceSub, ex_some, ex_bl, ex_int, ex_obj, ex_str, ex_lst, ex_cons, true_and, and_true, dAdd_int, dSub_int, dCmp_int, dNeg_int, Option.some.injEq, exists_eq_left', exists_eq_left]
  exact h

/-! ### the law's own ids -/
theorem dAdd_lst {a b : List Int} (h : a.length + b.length ≤ 5000) : dAdd (.lst (a.map D.int)) (.lst (b.map D.int)) = some (.lst ((a ++ b).map D.int)) := by
  show (if _ then _ else none) = _
  rw [if_pos (by rw [List.length_map, List.length_map, line_eq]; omega), List.map_append]
theorem sl_take {xs : List Int} {p : Nat} : dSl (.lst (xs.map D.int)) none (some (p : Int)) = some (.lst ((xs.take p).map D.int)) := by
  show some (D.lst (cutD _ none (some (p : Int)))) = _
  rw [cutD_take _ (Int.natCast_nonneg _), Int.toNat_natCast, List.map_take]
theorem cutD_drop {α : Type} (xs : List α) (p : Nat) : cutD xs (some (p : Int)) none = xs.drop p := by
  unfold cutD
  rw [HT.sIx_nat, HT.sIx_none]
  rcases Nat.le_total p xs.length with q | q
  · rw [Nat.min_eq_left q, List.take_of_length_le (by rw [List.length_drop]; exact Nat.le_refl _)]
  · rw [Nat.min_eq_right q, Nat.sub_self, List.take_zero, List.drop_of_length_le q]
theorem sl_drop {xs : List Int} {p : Nat} : dSl (.lst (xs.map D.int)) (some (p : Int)) none = some (.lst ((xs.drop p).map D.int)) := by
  show some (D.lst (cutD _ (some (p : Int)) none)) = _
  rw [cutD_drop, List.map_drop]
theorem can_len (xs : List Int) : (can xs).length = xs.length := List.length_map _
theorem fLen_ints {xs : List Int} : fLen [.lst (xs.map D.int)] = some (.int (xs.length : Int)) := by simp [fLen, dLen]
theorem p_stir {x y : Int} {S : Sto} {P : D → Sto → Prop} {R : RX} (hy0 : 0 ≤ y) (hy1 : y < 2 ^ 63) (h : ∀ v : Int, 0 ≤ v → P (.int v) S) : w__law_stir [.int x, .int y] S P R := by
  simp only [w__law_stir, gSeq, gRet, gRetN, gExpr, gAsg, gIf, gNext, gKill, gDrop, gBrk, gCnt, gNever, gFor, gAug, gOwn, gPut, gDPut, gSprPut, gObjPut, gPar, eObj, eRev, gtName, gtTup, gtCons, gtNil, seqOf, eC, eVar, eUn, eBin, eChain, eAnd, eOr, eNot, eOrT, eIf, tE, tTru, DL.tAnd, DL.tOr, DL.tNot, DL.tYes, aNil, aCons, eLst, eTup, eCall, eCallP, eCallB, aDef, eFn, eIsI, eMt, eGet2, eSpr, oNone, oSome, eSl, eSlX, eSlN, gLPut, gTPut, gOwnAsg, gObjApp, gObjIns, eNewObj, eObjPop, eObjR, eObjL, eObjLen, eObjEnd, eSort, eSortSet, eLstRg, gPar0, sIn, eLc, iSeq, DL.iRng1, DL.iRng2, DL.iEnum, DL.iZip, DL.iStr, killL, fnW, fnWo, eNever, tNever, List.getElem?_cons_zero, List.getElem?_cons_succ, List.set_cons_zero, List.set_cons_succ, List.map_cons, List.map_nil, List.cons_append, List.nil_append, List.append_nil, List.replicate_succ, List.replicate_zero, List.length_cons, List.length_nil, List.foldl_cons, List.foldl_nil, Nat.zero_add, Nat.reduceAdd, Nat.reduceSub, ex_some, ex_bl, ex_int, ex_obj, ex_str, ex_lst, ex_cons, true_and, and_true, dAdd_int, dSub_int, dCmp_int, dNeg_int, Option.some.injEq, exists_eq_left', exists_eq_left]
  rw [dMul_r (by decide) (by decide)]
  simp only [List.getElem?_cons_zero, List.getElem?_cons_succ, List.set_cons_zero, List.set_cons_succ, List.map_cons, List.map_nil, List.cons_append, List.nil_append, List.append_nil, List.replicate_succ, List.replicate_zero, List.length_cons, List.length_nil, List.foldl_cons, List.foldl_nil, Nat.zero_add, Nat.reduceAdd, Nat.reduceSub, ex_some, ex_bl, ex_int, ex_obj, ex_str, ex_lst, ex_cons, true_and, and_true, dAdd_int, dSub_int, dCmp_int, dNeg_int, Option.some.injEq, exists_eq_left', exists_eq_left]
  rw [dMul_r (by decide) (by decide)]
  simp only [List.getElem?_cons_zero, List.getElem?_cons_succ, List.set_cons_zero, List.set_cons_succ, List.map_cons, List.map_nil, List.cons_append, List.nil_append, List.append_nil, List.replicate_succ, List.replicate_zero, List.length_cons, List.length_nil, List.foldl_cons, List.foldl_nil, Nat.zero_add, Nat.reduceAdd, Nat.reduceSub, ex_some, ex_bl, ex_int, ex_obj, ex_str, ex_lst, ex_cons, true_and, and_true, dAdd_int, dSub_int, dCmp_int, dNeg_int, Option.some.injEq, exists_eq_left', exists_eq_left]
  rw [dMod_int (by decide)]
  simp only [List.getElem?_cons_zero, List.getElem?_cons_succ, List.set_cons_zero, List.set_cons_succ, List.map_cons, List.map_nil, List.cons_append, List.nil_append, List.append_nil, List.replicate_succ, List.replicate_zero, List.length_cons, List.length_nil, List.foldl_cons, List.foldl_nil, Nat.zero_add, Nat.reduceAdd, Nat.reduceSub, ex_some, ex_bl, ex_int, ex_obj, ex_str, ex_lst, ex_cons, true_and, and_true, dAdd_int, dSub_int, dCmp_int, dNeg_int, Option.some.injEq, exists_eq_left', exists_eq_left]
  generalize hone : (x * 998244353 + y * 1000000007 + 5) % 2305843009213693951 = one
  have h0 : 0 ≤ one := by rw [← hone]; exact Int.emod_nonneg _ (by decide)
  have h1 : one < 2305843009213693951 := by rw [← hone]; exact Int.emod_lt_of_pos _ (by decide)
  rw [dMul_l (by omega) (by omega)]
  simp only [List.getElem?_cons_zero, List.getElem?_cons_succ, List.set_cons_zero, List.set_cons_succ, List.map_cons, List.map_nil, List.cons_append, List.nil_append, List.append_nil, List.replicate_succ, List.replicate_zero, List.length_cons, List.length_nil, List.foldl_cons, List.foldl_nil, Nat.zero_add, Nat.reduceAdd, Nat.reduceSub, ex_some, ex_bl, ex_int, ex_obj, ex_str, ex_lst, ex_cons, true_and, and_true, dAdd_int, dSub_int, dCmp_int, dNeg_int, Option.some.injEq, exists_eq_left', exists_eq_left]
  rw [dMod_int (by decide)]
  simp only [List.getElem?_cons_zero, List.getElem?_cons_succ, List.set_cons_zero, List.set_cons_succ, List.map_cons, List.map_nil, List.cons_append, List.nil_append, List.append_nil, List.replicate_succ, List.replicate_zero, List.length_cons, List.length_nil, List.foldl_cons, List.foldl_nil, Nat.zero_add, Nat.reduceAdd, Nat.reduceSub, ex_some, ex_bl, ex_int, ex_obj, ex_str, ex_lst, ex_cons, true_and, and_true, dAdd_int, dSub_int, dCmp_int, dNeg_int, Option.some.injEq, exists_eq_left', exists_eq_left]
  rw [dMul_r (by decide) (by decide)]
  simp only [List.getElem?_cons_zero, List.getElem?_cons_succ, List.set_cons_zero, List.set_cons_succ, List.map_cons, List.map_nil, List.cons_append, List.nil_append, List.append_nil, List.replicate_succ, List.replicate_zero, List.length_cons, List.length_nil, List.foldl_cons, List.foldl_nil, Nat.zero_add, Nat.reduceAdd, Nat.reduceSub, ex_some, ex_bl, ex_int, ex_obj, ex_str, ex_lst, ex_cons, true_and, and_true, dAdd_int, dSub_int, dCmp_int, dNeg_int, Option.some.injEq, exists_eq_left', exists_eq_left]
  rw [dMul_l (by omega) (by omega)]
  simp only [List.getElem?_cons_zero, List.getElem?_cons_succ, List.set_cons_zero, List.set_cons_succ, List.map_cons, List.map_nil, List.cons_append, List.nil_append, List.append_nil, List.replicate_succ, List.replicate_zero, List.length_cons, List.length_nil, List.foldl_cons, List.foldl_nil, Nat.zero_add, Nat.reduceAdd, Nat.reduceSub, ex_some, ex_bl, ex_int, ex_obj, ex_str, ex_lst, ex_cons, true_and, and_true, dAdd_int, dSub_int, dCmp_int, dNeg_int, Option.some.injEq, exists_eq_left', exists_eq_left]
  rw [dMul_r (by decide) (by decide)]
  simp only [List.getElem?_cons_zero, List.getElem?_cons_succ, List.set_cons_zero, List.set_cons_succ, List.map_cons, List.map_nil, List.cons_append, List.nil_append, List.append_nil, List.replicate_succ, List.replicate_zero, List.length_cons, List.length_nil, List.foldl_cons, List.foldl_nil, Nat.zero_add, Nat.reduceAdd, Nat.reduceSub, ex_some, ex_bl, ex_int, ex_obj, ex_str, ex_lst, ex_cons, true_and, and_true, dAdd_int, dSub_int, dCmp_int, dNeg_int, Option.some.injEq, exists_eq_left', exists_eq_left]
  rw [dDiv_int (by decide) (by decide)]
  simp only [List.getElem?_cons_zero, List.getElem?_cons_succ, List.set_cons_zero, List.set_cons_succ, List.map_cons, List.map_nil, List.cons_append, List.nil_append, List.append_nil, List.replicate_succ, List.replicate_zero, List.length_cons, List.length_nil, List.foldl_cons, List.foldl_nil, Nat.zero_add, Nat.reduceAdd, Nat.reduceSub, ex_some, ex_bl, ex_int, ex_obj, ex_str, ex_lst, ex_cons, true_and, and_true, dAdd_int, dSub_int, dCmp_int, dNeg_int, Option.some.injEq, exists_eq_left', exists_eq_left]
  rw [dMod_int (by decide)]
  simp only [List.getElem?_cons_zero, List.getElem?_cons_succ, List.set_cons_zero, List.set_cons_succ, List.map_cons, List.map_nil, List.cons_append, List.nil_append, List.append_nil, List.replicate_succ, List.replicate_zero, List.length_cons, List.length_nil, List.foldl_cons, List.foldl_nil, Nat.zero_add, Nat.reduceAdd, Nat.reduceSub, ex_some, ex_bl, ex_int, ex_obj, ex_str, ex_lst, ex_cons, true_and, and_true, dAdd_int, dSub_int, dCmp_int, dNeg_int, Option.some.injEq, exists_eq_left', exists_eq_left]
  rw [dDiv_int (by decide) (by decide)]
  simp only [List.getElem?_cons_zero, List.getElem?_cons_succ, List.set_cons_zero, List.set_cons_succ, List.map_cons, List.map_nil, List.cons_append, List.nil_append, List.append_nil, List.replicate_succ, List.replicate_zero, List.length_cons, List.length_nil, List.foldl_cons, List.foldl_nil, Nat.zero_add, Nat.reduceAdd, Nat.reduceSub, ex_some, ex_bl, ex_int, ex_obj, ex_str, ex_lst, ex_cons, true_and, and_true, dAdd_int, dSub_int, dCmp_int, dNeg_int, Option.some.injEq, exists_eq_left', exists_eq_left]
  exact h _ (Int.ediv_nonneg (Int.emod_nonneg _ (by decide)) (by decide))
theorem dPow18 : dPow (.int 10) (.int 18) = some (.int (10 ^ 18)) := by rw [dPow, if_pos (by decide)]; rfl
theorem p_draw {a m : Nat} {q : Int} {S : Sto} {P : D → Sto → Prop} {R : RX} (hs : S a = some (.bag m)) (hm : m < 2 ^ 60) (h1 : 1 ≤ q) (h2 : q < 1073741824) (h : ∀ k : Int, 0 ≤ k → k < q → P (.int k) (S.upd a (.bag (m + 1)))) : bagUse w__law_draw [.obj a, .int q] S P R := by
  refine ⟨a, m, hs, ?_⟩
  rintro c ⟨ns, i, b, n, t, rfl, hi0, hi1, hb, hn0, hn1, ht0, ht1⟩
  have fin : ∀ (S1 : Sto) (c' : List D) (k : Int), S1 = S.upd a (.lst c') → BagOk (m + 1) c' → 0 ≤ k → k < q → ∃ c'', BagOk (m + 1) c'' ∧ S1 a = some (.lst c'') ∧ P (.int k) (S1.upd a (.bag (m + 1))) := fun S1 c' k e ok k0 k1 => by
    subst e
    exact ⟨c', ok, Sto.upd_same _ _ _, by rw [Sto.upd_upd]; exact h k k0 k1⟩
  have hq : 0 < q := by omega
  simp only [w__law_draw, gSeq, gRet, gRetN, gExpr, gAsg, gIf, gNext, gKill, gDrop, gBrk, gCnt, gNever, gFor, gAug, gOwn, gPut, gDPut, gSprPut, gObjPut, gPar, eObj, eRev, gtName, gtTup, gtCons, gtNil, seqOf, eC, eVar, eUn, eBin, eChain, eAnd, eOr, eNot, eOrT, eIf, tE, tTru, DL.tAnd, DL.tOr, DL.tNot, DL.tYes, aNil, aCons, eLst, eTup, eCall, eCallP, eCallB, aDef, eFn, eIsI, eMt, eGet2, eSpr, oNone, oSome, eSl, eSlX, eSlN, gLPut, gTPut, gOwnAsg, gObjApp, gObjIns, eNewObj, eObjPop, eObjR, eObjL, eObjLen, eObjEnd, eSort, eSortSet, eLstRg, gPar0, sIn, eLc, iSeq, DL.iRng1, DL.iRng2, DL.iEnum, DL.iZip, DL.iStr, killL, fnW, fnWo, eNever, tNever, List.getElem?_cons_zero, List.getElem?_cons_succ, List.set_cons_zero, List.set_cons_succ, List.map_cons, List.map_nil, List.cons_append, List.nil_append, List.append_nil, List.replicate_succ, List.replicate_zero, List.length_cons, List.length_nil, List.foldl_cons, List.foldl_nil, Nat.zero_add, Nat.reduceAdd, Nat.reduceSub, ex_some, ex_bl, ex_int, ex_obj, ex_str, ex_lst, ex_cons, true_and, and_true, dAdd_int, dSub_int, dCmp_int, dNeg_int, Option.some.injEq, exists_eq_left', exists_eq_left, dEq_int]
  split
  · rename_i e
    have e : q = 1 := by simpa using e
    exact fin _ _ _ rfl ⟨ns, i, b, n, t, rfl, hi0, hi1, hb, hn0, by omega, ht0, ht1⟩ (by omega) (by omega)
  · refine obj_rd (Sto.upd_same _ _ _) (z := .int n) rfl ?_
    simp only [List.getElem?_cons_zero, List.getElem?_cons_succ, List.set_cons_zero, List.set_cons_succ, List.map_cons, List.map_nil, List.cons_append, List.nil_append, List.append_nil, List.replicate_succ, List.replicate_zero, List.length_cons, List.length_nil, List.foldl_cons, List.foldl_nil, Nat.zero_add, Nat.reduceAdd, Nat.reduceSub, ex_some, ex_bl, ex_int, ex_obj, ex_str, ex_lst, ex_cons, true_and, and_true, dAdd_int, dSub_int, dCmp_int, dNeg_int, Option.some.injEq, exists_eq_left', exists_eq_left]
    refine ⟨a, _, _, 3, rfl, Sto.upd_same _ _ _, rfl, rfl, ?_⟩
    simp only [Sto.upd_upd, List.set_cons_succ, List.set_cons_zero]
    refine obj_rd (Sto.upd_same _ _ _) (z := .int b) rfl ?_
    simp only [List.getElem?_cons_zero, List.getElem?_cons_succ, List.set_cons_zero, List.set_cons_succ, List.map_cons, List.map_nil, List.cons_append, List.nil_append, List.append_nil, List.replicate_succ, List.replicate_zero, List.length_cons, List.length_nil, List.foldl_cons, List.foldl_nil, Nat.zero_add, Nat.reduceAdd, Nat.reduceSub, ex_some, ex_bl, ex_int, ex_obj, ex_str, ex_lst, ex_cons, true_and, and_true, dAdd_int, dSub_int, dCmp_int, dNeg_int, Option.some.injEq, exists_eq_left', exists_eq_left]
    -- the last part, from any bag
    have last : ∀ (i' b' : Int), 0 ≤ i' → i' ≤ ns.length → 0 ≤ b' → ∀ S1, S1 = S.upd a (.lst [.lst (ns.map D.int), .int i', .int b', .int (n + 1), .int t]) →
        ∃ a_1 ds k z, D.obj a = D.obj a_1 ∧ S1 a_1 = some (Ob.lst ds) ∧ D.int 2 = D.int k ∧ L2.atI ds k = some z ∧ ∃ d, dMod z (D.int q) = some d ∧
          ∃ a_2 ds k z, D.obj a = D.obj a_2 ∧ S1 a_2 = some (Ob.lst ds) ∧ D.int 2 = D.int k ∧ L2.atI ds k = some z ∧ ∃ d_1, dDiv z (D.int q) = some d_1 ∧
            ∃ a_3 ds k j, D.obj a = D.obj a_3 ∧ S1 a_3 = some (Ob.lst ds) ∧ D.int 2 = D.int k ∧ L2.ixN ds.length k = some j ∧ ∃ c', BagOk (m + 1) c' ∧ (S1.upd a_3 (.lst (ds.set j d_1))) a = some (.lst c') ∧ P d ((S1.upd a_3 (.lst (ds.set j d_1))).upd a (.bag (m + 1))) := fun i' b' g0 g1 g2 S1 e => by
      subst e
      refine obj_rd (Sto.upd_same _ _ _) (z := .int b') rfl ?_
      rw [dMod_int hq]
      refine ⟨_, rfl, ?_⟩
      refine obj_rd (Sto.upd_same _ _ _) (z := .int b') rfl ?_
      rw [dDiv_int hq (by omega)]
      refine ⟨_, rfl, ?_⟩
      refine ⟨a, _, _, 2, rfl, Sto.upd_same _ _ _, rfl, rfl, ?_⟩
      exact fin _ [.lst (ns.map D.int), .int i', .int (b' / q), .int (n + 1), .int t] _ (by rw [Sto.upd_upd]; rfl) ⟨ns, i', b' / q, n + 1, t, rfl, g0, g1, Int.ediv_nonneg g2 (by omega), by omega, by omega, ht0, ht1⟩ (Int.emod_nonneg _ (by omega)) (Int.emod_lt_of_pos _ hq)
    by_cases hb2 : b < 2
    · rw [decide_eq_true hb2]
      simp only [if_true]
      refine obj_rd (Sto.upd_same _ _ _) (z := .int i) rfl ?_
      refine obj_rd (Sto.upd_same _ _ _) (z := .lst (ns.map D.int)) rfl ?_
      simp only [fLen_ints, dEq_int, List.getElem?_cons_zero, List.getElem?_cons_succ, List.set_cons_zero, List.set_cons_succ, List.map_cons, List.map_nil, List.cons_append, List.nil_append, List.append_nil, List.replicate_succ, List.replicate_zero, List.length_cons, List.length_nil, List.foldl_cons, List.foldl_nil, Nat.zero_add, Nat.reduceAdd, Nat.reduceSub, ex_some, ex_bl, ex_int, ex_obj, ex_str, ex_lst, ex_cons, true_and, and_true, dAdd_int, dSub_int, dCmp_int, dNeg_int, Option.some.injEq, exists_eq_left', exists_eq_left]
      by_cases hin : i = ns.length
      · rw [show (i == (ns.length : Int)) = true by simpa using hin]
        simp only [if_true]
        refine obj_rd (Sto.upd_same _ _ _) (z := .int t) rfl ?_
        refine obj_rd (Sto.upd_same _ _ _) (z := .int (n + 1)) rfl ?_
        refine p_stir (by omega) (by omega) fun v hv => ?_
        rw [dMod_int hq]
        refine ⟨_, rfl, ?_⟩
        have z := fin _ _ (v % q) rfl ⟨ns, i, b, n + 1, t, rfl, hi0, hi1, hb, by omega, by omega, ht0, ht1⟩ (Int.emod_nonneg _ (by omega)) (Int.emod_lt_of_pos _ hq)
        simp only [Sto.upd_upd] at z
        exact z
      · rw [show (i == (ns.length : Int)) = false by simpa using hin]
        simp only [Bool.false_eq_true, if_false]
        refine obj_rd (Sto.upd_same _ _ _) (z := .int b) rfl ?_
        simp only [List.getElem?_cons_zero, List.getElem?_cons_succ, List.set_cons_zero, List.set_cons_succ, List.map_cons, List.map_nil, List.cons_append, List.nil_append, List.append_nil, List.replicate_succ, List.replicate_zero, List.length_cons, List.length_nil, List.foldl_cons, List.foldl_nil, Nat.zero_add, Nat.reduceAdd, Nat.reduceSub, ex_some, ex_bl, ex_int, ex_obj, ex_str, ex_lst, ex_cons, true_and, and_true, dAdd_int, dSub_int, dCmp_int, dNeg_int, Option.some.injEq, exists_eq_left', exists_eq_left]
        rw [decide_eq_true hb2]
        simp only [if_true]
        refine obj_rd (Sto.upd_same _ _ _) (z := .lst (ns.map D.int)) rfl ?_
        refine obj_rd (Sto.upd_same _ _ _) (z := .int i) rfl ?_
        obtain ⟨iN, rfl⟩ := Int.eq_ofNat_of_zero_le hi0
        have hlt : iN < ns.length := by omega
        have hix : dIx (.lst (ns.map D.int)) (.int (iN : Int)) = some (.int ns[iN]) := atI_nat (by rw [List.getElem?_map, List.getElem?_eq_getElem hlt]; rfl)
        rw [hix]
        simp only [List.getElem?_cons_zero, List.getElem?_cons_succ, List.set_cons_zero, List.set_cons_succ, List.map_cons, List.map_nil, List.cons_append, List.nil_append, List.append_nil, List.replicate_succ, List.replicate_zero, List.length_cons, List.length_nil, List.foldl_cons, List.foldl_nil, Nat.zero_add, Nat.reduceAdd, Nat.reduceSub, ex_some, ex_bl, ex_int, ex_obj, ex_str, ex_lst, ex_cons, true_and, and_true, dAdd_int, dSub_int, dCmp_int, dNeg_int, Option.some.injEq, exists_eq_left', exists_eq_left]
        refine obj_rd (Sto.upd_same _ _ _) (z := .int (iN : Int)) rfl ?_
        simp only [List.getElem?_cons_zero, List.getElem?_cons_succ, List.set_cons_zero, List.set_cons_succ, List.map_cons, List.map_nil, List.cons_append, List.nil_append, List.append_nil, List.replicate_succ, List.replicate_zero, List.length_cons, List.length_nil, List.foldl_cons, List.foldl_nil, Nat.zero_add, Nat.reduceAdd, Nat.reduceSub, ex_some, ex_bl, ex_int, ex_obj, ex_str, ex_lst, ex_cons, true_and, and_true, dAdd_int, dSub_int, dCmp_int, dNeg_int, Option.some.injEq, exists_eq_left', exists_eq_left]
        refine ⟨a, _, _, 1, rfl, Sto.upd_same _ _ _, rfl, rfl, ?_⟩
        simp only [Sto.upd_upd, List.set_cons_succ, List.set_cons_zero, dPow18, List.getElem?_cons_zero, List.getElem?_cons_succ, List.set_cons_zero, List.set_cons_succ, List.map_cons, List.map_nil, List.cons_append, List.nil_append, List.append_nil, List.replicate_succ, List.replicate_zero, List.length_cons, List.length_nil, List.foldl_cons, List.foldl_nil, Nat.zero_add, Nat.reduceAdd, Nat.reduceSub, ex_some, ex_bl, ex_int, ex_obj, ex_str, ex_lst, ex_cons, true_and, and_true, dAdd_int, dSub_int, dCmp_int, dNeg_int, Option.some.injEq, exists_eq_left', exists_eq_left]
        split
        · rw [dMod_int (by decide)]
          simp only [List.getElem?_cons_zero, List.getElem?_cons_succ, List.set_cons_zero, List.set_cons_succ, List.map_cons, List.map_nil, List.cons_append, List.nil_append, List.append_nil, List.replicate_succ, List.replicate_zero, List.length_cons, List.length_nil, List.foldl_cons, List.foldl_nil, Nat.zero_add, Nat.reduceAdd, Nat.reduceSub, ex_some, ex_bl, ex_int, ex_obj, ex_str, ex_lst, ex_cons, true_and, and_true, dAdd_int, dSub_int, dCmp_int, dNeg_int, Option.some.injEq, exists_eq_left', exists_eq_left]
          refine obj_rd (Sto.upd_same _ _ _) (z := .int (n + 1)) rfl ?_
          refine p_stir (by omega) (by omega) fun v hv => ?_
          rw [dMod_int hq]
          refine ⟨_, rfl, ?_⟩
          have z := fin _ _ (v % q) rfl ⟨ns, (iN : Int) + 1, b, n + 1, t, rfl, by omega, by omega, hb, by omega, by omega, ht0, ht1⟩ (Int.emod_nonneg _ (by omega)) (Int.emod_lt_of_pos _ hq)
          simp only [Sto.upd_upd] at z
          exact z
        · rename_i hge
          have hge : ¬ (ns[iN] < 10 ^ 18) := by simpa using hge
          refine ⟨a, _, _, 2, rfl, Sto.upd_same _ _ _, rfl, rfl, ?_⟩
          simp only [Sto.upd_upd, List.set_cons_succ, List.set_cons_zero]
          exact last _ (ns[iN] - 10 ^ 18) (by omega) (by omega) (by omega) _ rfl
    · rw [decide_eq_false hb2]
      simp only [Bool.false_eq_true, if_false]
      refine obj_rd (Sto.upd_same _ _ _) (z := .int b) rfl ?_
      simp only [List.getElem?_cons_zero, List.getElem?_cons_succ, List.set_cons_zero, List.set_cons_succ, List.map_cons, List.map_nil, List.cons_append, List.nil_append, List.append_nil, List.replicate_succ, List.replicate_zero, List.length_cons, List.length_nil, List.foldl_cons, List.foldl_nil, Nat.zero_add, Nat.reduceAdd, Nat.reduceSub, ex_some, ex_bl, ex_int, ex_obj, ex_str, ex_lst, ex_cons, true_and, and_true, dAdd_int, dSub_int, dCmp_int, dNeg_int, Option.some.injEq, exists_eq_left', exists_eq_left]
      rw [decide_eq_false hb2]
      simp only [Bool.false_eq_true, if_false]
      exact last i b hi0 hi1 hb _ rfl
theorem p_bag {ns : List Int} {S : Sto} {P : D → Sto → Prop} {R : RX} (h : ∀ a, S a = none → P (.obj a) (S.upd a (.bag 0))) : bagBox w__law_bag [.scr ns] S P R := by
  unfold bagBox
  simp only [w__law_bag, gSeq, gRet, gRetN, gExpr, gAsg, gIf, gNext, gKill, gDrop, gBrk, gCnt, gNever, gFor, gAug, gOwn, gPut, gDPut, gSprPut, gObjPut, gPar, eObj, eRev, gtName, gtTup, gtCons, gtNil, seqOf, eC, eVar, eUn, eBin, eChain, eAnd, eOr, eNot, eOrT, eIf, tE, tTru, DL.tAnd, DL.tOr, DL.tNot, DL.tYes, aNil, aCons, eLst, eTup, eCall, eCallP, eCallB, aDef, eFn, eIsI, eMt, eGet2, eSpr, oNone, oSome, eSl, eSlX, eSlN, gLPut, gTPut, gOwnAsg, gObjApp, gObjIns, eNewObj, eObjPop, eObjR, eObjL, eObjLen, eObjEnd, eSort, eSortSet, eLstRg, gPar0, sIn, eLc, iSeq, DL.iRng1, DL.iRng2, DL.iEnum, DL.iZip, DL.iStr, killL, fnW, fnWo, eNever, tNever, List.getElem?_cons_zero, List.getElem?_cons_succ, List.set_cons_zero, List.set_cons_succ, List.map_cons, List.map_nil, List.cons_append, List.nil_append, List.append_nil, List.replicate_succ, List.replicate_zero, List.length_cons, List.length_nil, List.foldl_cons, List.foldl_nil, Nat.zero_add, Nat.reduceAdd, Nat.reduceSub, ex_some, ex_bl, ex_int, ex_obj, ex_str, ex_lst, ex_cons, true_and, and_true, dAdd_int, dSub_int, dCmp_int, dNeg_int, Option.some.injEq, exists_eq_left', exists_eq_left, itemsOf]
  refine forL_inv (fun i Δ S' => S' = S ∧ ∃ (t : Int) (c : Option D), Δ = [some (.scr ns), some (.int t), c] ∧ 0 ≤ t ∧ t < 2 ^ 61) ⟨rfl, 1, none, rfl, by decide, by decide⟩ ?_ ?_
  · rintro i y Δ S' Nx hy ⟨rfl, t, c, rfl, h0, h1⟩ hN
    rw [List.getElem?_map] at hy
    cases hc : ns[i]? with
    | none => rw [hc] at hy; simp at hy
    | some n =>
      rw [hc] at hy
      simp only [Option.map_some, Option.some.injEq] at hy
      subst hy
      simp only [gSeq, gRet, gRetN, gExpr, gAsg, gIf, gNext, gKill, gDrop, gBrk, gCnt, gNever, gFor, gAug, gOwn, gPut, gDPut, gSprPut, gObjPut, gPar, eObj, eRev, gtName, gtTup, gtCons, gtNil, seqOf, eC, eVar, eUn, eBin, eChain, eAnd, eOr, eNot, eOrT, eIf, tE, tTru, DL.tAnd, DL.tOr, DL.tNot, DL.tYes, aNil, aCons, eLst, eTup, eCall, eCallP, eCallB, aDef, eFn, eIsI, eMt, eGet2, eSpr, oNone, oSome, eSl, eSlX, eSlN, gLPut, gTPut, gOwnAsg, gObjApp, gObjIns, eNewObj, eObjPop, eObjR, eObjL, eObjLen, eObjEnd, eSort, eSortSet, eLstRg, gPar0, sIn, eLc, iSeq, DL.iRng1, DL.iRng2, DL.iEnum, DL.iZip, DL.iStr, killL, fnW, fnWo, eNever, tNever, List.getElem?_cons_zero, List.getElem?_cons_succ, List.set_cons_zero, List.set_cons_succ, List.map_cons, List.map_nil, List.cons_append, List.nil_append, List.append_nil, List.replicate_succ, List.replicate_zero, List.length_cons, List.length_nil, List.foldl_cons, List.foldl_nil, Nat.zero_add, Nat.reduceAdd, Nat.reduceSub, ex_some, ex_bl, ex_int, ex_obj, ex_str, ex_lst, ex_cons, true_and, and_true, dAdd_int, dSub_int, dCmp_int, dNeg_int, Option.some.injEq, exists_eq_left', exists_eq_left]
      rw [dMul_r (by decide) (by decide)]
      simp only [List.getElem?_cons_zero, List.getElem?_cons_succ, List.set_cons_zero, List.set_cons_succ, List.map_cons, List.map_nil, List.cons_append, List.nil_append, List.append_nil, List.replicate_succ, List.replicate_zero, List.length_cons, List.length_nil, List.foldl_cons, List.foldl_nil, Nat.zero_add, Nat.reduceAdd, Nat.reduceSub, ex_some, ex_bl, ex_int, ex_obj, ex_str, ex_lst, ex_cons, true_and, and_true, dAdd_int, dSub_int, dCmp_int, dNeg_int, Option.some.injEq, exists_eq_left', exists_eq_left]
      rw [dMod_int (by decide)]
      simp only [List.getElem?_cons_zero, List.getElem?_cons_succ, List.set_cons_zero, List.set_cons_succ, List.map_cons, List.map_nil, List.cons_append, List.nil_append, List.append_nil, List.replicate_succ, List.replicate_zero, List.length_cons, List.length_nil, List.foldl_cons, List.foldl_nil, Nat.zero_add, Nat.reduceAdd, Nat.reduceSub, ex_some, ex_bl, ex_int, ex_obj, ex_str, ex_lst, ex_cons, true_and, and_true, dAdd_int, dSub_int, dCmp_int, dNeg_int, Option.some.injEq, exists_eq_left', exists_eq_left]
      rw [dMod_int (by decide)]
      simp only [List.getElem?_cons_zero, List.getElem?_cons_succ, List.set_cons_zero, List.set_cons_succ, List.map_cons, List.map_nil, List.cons_append, List.nil_append, List.append_nil, List.replicate_succ, List.replicate_zero, List.length_cons, List.length_nil, List.foldl_cons, List.foldl_nil, Nat.zero_add, Nat.reduceAdd, Nat.reduceSub, ex_some, ex_bl, ex_int, ex_obj, ex_str, ex_lst, ex_cons, true_and, and_true, dAdd_int, dSub_int, dCmp_int, dNeg_int, Option.some.injEq, exists_eq_left', exists_eq_left]
      exact hN _ _ ⟨rfl, _, _, rfl, Int.emod_nonneg _ (by decide), Int.lt_trans (Int.emod_lt_of_pos _ (by decide)) (by decide)⟩
  · rintro Δ S' ⟨rfl, t, c, rfl, h0, h1⟩
    simp only [gSeq, gRet, gRetN, gExpr, gAsg, gIf, gNext, gKill, gDrop, gBrk, gCnt, gNever, gFor, gAug, gOwn, gPut, gDPut, gSprPut, gObjPut, gPar, eObj, eRev, gtName, gtTup, gtCons, gtNil, seqOf, eC, eVar, eUn, eBin, eChain, eAnd, eOr, eNot, eOrT, eIf, tE, tTru, DL.tAnd, DL.tOr, DL.tNot, DL.tYes, aNil, aCons, eLst, eTup, eCall, eCallP, eCallB, aDef, eFn, eIsI, eMt, eGet2, eSpr, oNone, oSome, eSl, eSlX, eSlN, gLPut, gTPut, gOwnAsg, gObjApp, gObjIns, eNewObj, eObjPop, eObjR, eObjL, eObjLen, eObjEnd, eSort, eSortSet, eLstRg, gPar0, sIn, eLc, iSeq, DL.iRng1, DL.iRng2, DL.iEnum, DL.iZip, DL.iStr, killL, fnW, fnWo, eNever, tNever, List.getElem?_cons_zero, List.getElem?_cons_succ, List.set_cons_zero, List.set_cons_succ, List.map_cons, List.map_nil, List.cons_append, List.nil_append, List.append_nil, List.replicate_succ, List.replicate_zero, List.length_cons, List.length_nil, List.foldl_cons, List.foldl_nil, Nat.zero_add, Nat.reduceAdd, Nat.reduceSub, ex_some, ex_bl, ex_int, ex_obj, ex_str, ex_lst, ex_cons, true_and, and_true, dAdd_int, dSub_int, dCmp_int, dNeg_int, Option.some.injEq, exists_eq_left', exists_eq_left, fList]
    exact ⟨by rw [line_eq]; omega, ⟨ns, 0, 0, 0, t, rfl, by omega, by omega, by omega, by omega, by omega, h0, h1⟩, h⟩

/-! ### drawn texts -/
theorem shD_nil : shD (.lst []) = true := shD_ints []
theorem dEq_nil {xs : List Int} : dEq (.lst (xs.map D.int)) (.lst []) = some (.bl xs.isEmpty) := by
  unfold dEq dEqB
  simp only [shD_ints, shD_nil, and_self, if_true, Option.map_some]
  cases xs with
  | nil => rfl
  | cons x xs => simp [toPy, toPyAll, PyData.eqv, PyData.eqvAll]
theorem dNe_nil {xs : List Int} : dNe (.lst (xs.map D.int)) (.lst []) = some (.bl (!xs.isEmpty)) := by
  have h := dEq_nil (xs := xs)
  unfold dEq at h
  unfold dNe
  obtain ⟨k, hk, e⟩ := Option.map_eq_some_iff.mp h
  rw [hk]
  cases e
  rfl
theorem dEq_self {xs : List Int} : dEq (.lst (xs.map D.int)) (.lst (xs.map D.int)) = some (.bl true) := by
  unfold dEq dEqB
  simp only [shD_ints, and_self, if_true, Option.map_some, toPy, toPyAll_ints, PyData.eqv, eqv_ints]
theorem dNe_self {xs : List Int} : dNe (.lst (xs.map D.int)) (.lst (xs.map D.int)) = some (.bl false) := by
  unfold dNe dEqB
  simp only [shD_ints, and_self, if_true, Option.map_some, toPy, toPyAll_ints, PyData.eqv, eqv_ints, Bool.not_true]
theorem fMin_int {i j : Int} : fMin [.int i, .int j] = some (.int (if j < i then j else i)) := rfl
theorem atI_neg {α : Type} {xs : List α} {k : Nat} (h : k < xs.length) : L2.atI xs (-1 - (k : Int)) = xs[xs.length - 1 - k]? := by
  unfold L2.atI L2.ixN
  rw [if_neg (by omega), if_pos (by omega)]
  show xs[(-1 - (k : Int) + (xs.length : Int)).toNat]? = _
  congr 1
  omega
theorem dLenSet_any {ns : List Int} (hl : ns.length < 4095) : dLenSet (.lst (ns.map D.int)) = some (.int ((dedup ns).length : Nat)) := by
  simp [dLenSet, intsOf_map, show ns.length + 1 < 4096 by omega]
theorem dedup_le (ys : List Int) : (dedup ys).length ≤ ys.length := by
  induction ys using snoc_ind with
  | h0 => exact Nat.le_refl _
  | hs ys y ih =>
    rw [dedup_snoc]
    split
    · rw [List.length_append]; omega
    · rw [List.length_append, List.length_append]; simp; omega
theorem dedup_pos {ys : List Int} (h : 0 < ys.length) : 0 < (dedup ys).length := by
  cases ys with
  | nil => simp at h
  | cons y ys => exact List.length_pos_of_mem (mem_dedup.mpr (List.mem_cons_self ..))
/-! ### signs of any kind -/
theorem getD_putD {kvs : List (L2.Key × D)} {k k2 : L2.Key} {v : D} : DL.getD (putD kvs k v) k2 = if k = k2 then some v else DL.getD kvs k2 := by
  have nf : ∀ l : List (L2.Key × D), (l.any fun kv => decide (kv.1 = k)) = false → DL.getD l k = none := fun l h => by
    unfold DL.getD
    rw [List.any_eq_false] at h
    rw [List.find?_eq_none.mpr (fun x hx => h x hx)]
    rfl
  have rep : ∀ l : List (L2.Key × D), DL.getD (l.map fun kv => if kv.1 = k then (kv.1, v) else kv) k2 = if k = k2 ∧ (l.any fun kv => decide (kv.1 = k)) = true then some v else DL.getD l k2 := by
    intro l
    induction l with
    | nil => simp [DL.getD]
    | cons x l ih =>
      unfold DL.getD at ih ⊢
      by_cases hx : x.1 = k
      · have e : (if x.1 = k then (x.1, v) else x) = (x.1, v) := if_pos hx
        rw [List.map_cons, e, List.find?_cons, List.find?_cons, List.any_cons]
        by_cases hk : k = k2
        · simp [hx, hk]
        · have h1 : decide (x.1 = k2) = false := decide_eq_false fun e => hk (hx.symm.trans e)
          simp only [h1]
          rw [ih, if_neg (fun z => hk z.1), if_neg (fun z => hk z.1)]
      · have e : (if x.1 = k then (x.1, v) else x) = x := if_neg hx
        rw [List.map_cons, e, List.find?_cons, List.find?_cons, List.any_cons, decide_eq_false hx, Bool.false_or]
        by_cases hk : x.1 = k2
        · have h1 : ¬ k = k2 := fun e => hx (hk.trans e.symm)
          simp only [hk, decide_true]
          rw [if_neg (fun z => h1 z.1)]
        · simp only [decide_eq_false hk]
          exact ih
  unfold putD
  split
  · rename_i h
    rw [rep, h]
    simp
  · rename_i h
    have h' : (kvs.any fun kv => decide (kv.1 = k)) = false := Bool.eq_false_iff.mpr h
    by_cases hk : k = k2
    · subst hk
      have := nf kvs h'
      unfold DL.getD at this ⊢
      rw [List.find?_append]
      cases hf : kvs.find? (fun kv => decide (kv.1 = k)) with
      | none => simp
      | some q => rw [hf] at this; cases this
    · rw [if_neg hk]
      unfold DL.getD
      rw [List.find?_append]
      cases kvs.find? (fun kv => decide (kv.1 = k2)) with
      | none => simp [hk]
      | some q => rfl
theorem putD_len {kvs : List (L2.Key × D)} {k : L2.Key} {v : D} : (putD kvs k v).length ≤ kvs.length + 1 := by
  unfold putD
  split
  · rw [List.length_map]; omega
  · rw [List.length_append]; simp
/-- the dict of last places -/
def LK (g : Int → L2.Key) (xs r : List Int) (kvs : List (L2.Key × D)) : Prop := ∀ s ∈ xs, DL.getD kvs (g s) = if s ∈ r then some (.int ((r.length : Int) - 1 - (r.idxOf s : Nat))) else none
theorem LK.step {g : Int → L2.Key} {xs r : List Int} {kvs : List (L2.Key × D)} (h : LK g xs r kvs) (inj : ∀ s ∈ xs, ∀ t ∈ xs, g s = g t → s = t) {n : Int} (hn : n ∈ xs) : LK g xs (n :: r) (putD kvs (g n) (.int (r.length : Int))) := fun s hs => by
  rw [getD_putD]
  by_cases e : s = n
  · subst e
    rw [if_pos rfl, if_pos (List.mem_cons_self ..)]
    simp
  · have e2 : ¬ g n = g s := fun z => e (inj n hn s hs z).symm
    rw [if_neg e2, h s hs]
    by_cases hr : s ∈ r
    · rw [if_pos hr, if_pos (List.mem_cons_of_mem _ hr)]
      have hb : (n == s) = false := beq_eq_false_iff_ne.mpr fun z => e z.symm
      rw [List.idxOf_cons, hb, cond_false, List.length_cons]
      congr 2
      omega
    · rw [if_neg hr, if_neg (by simp [e, hr])]
theorem p_distances_by' {em : Int → D} {g : Int → L2.Key} {xs : List Int} {S : Sto} {P : D → Sto → Prop} {R : RX} (hk : ∀ s, keyD (em s) = some (g s)) (inj : ∀ s ∈ xs, ∀ t ∈ xs, g s = g t → s = t) (hl : xs.length ≤ 1000) (h : P (.lst ((dist xs).map D.int)) S) : w_distances_by [.lst (xs.map em)] S P R := by
  have hline := line_eq
  simp only [w_distances_by, gSeq, gRet, gRetN, gExpr, gAsg, gIf, gNext, gKill, gDrop, gBrk, gCnt, gNever, gFor, gAug, gOwn, gPut, gDPut, gSprPut, gObjPut, gPar, eObj, eRev, gtName, gtTup, gtCons, gtNil, seqOf, eC, eVar, eUn, eBin, eChain, eAnd, eOr, eNot, eOrT, eIf, tE, tTru, DL.tAnd, DL.tOr, DL.tNot, DL.tYes, aNil, aCons, eLst, eTup, eCall, eCallP, eCallB, aDef, eFn, eIsI, eMt, eGet2, eSpr, oNone, oSome, eSl, eSlX, eSlN, gLPut, gTPut, gOwnAsg, gObjApp, gObjIns, eNewObj, eObjPop, eObjR, eObjL, eObjLen, eObjEnd, eSort, eSortSet, eLstRg, gPar0, sIn, eLc, iSeq, DL.iRng1, DL.iRng2, DL.iEnum, DL.iZip, DL.iStr, killL, fnW, fnWo, eNever, tNever, List.getElem?_cons_zero, List.getElem?_cons_succ, List.set_cons_zero, List.set_cons_succ, List.map_cons, List.map_nil, List.cons_append, List.nil_append, List.append_nil, List.replicate_succ, List.replicate_zero, List.length_cons, List.length_nil, List.foldl_cons, List.foldl_nil, Nat.zero_add, Nat.reduceAdd, Nat.reduceSub, ex_some, ex_bl, ex_int, ex_obj, ex_str, ex_lst, ex_cons, true_and, and_true, dAdd_int, dSub_int, dCmp_int, dNeg_int, Option.some.injEq, exists_eq_left', exists_eq_left, itemsOf]
  refine ⟨by omega, ?_⟩
  refine forL_inv (fun i Δ S' => S' = S ∧ ∃ (kvs : List (L2.Key × D)) (c3 c4 : Option D), i ≤ xs.length ∧ LK g xs (xs.take i).reverse kvs ∧ kvs.length ≤ i ∧ Δ = [some (.lst (xs.map em)), some (.dct kvs), some (.lst ((dist (xs.take i)).map D.int)), c3, c4]) ⟨rfl, [], _, _, by omega, fun s hs => by simp [DL.getD], by simp, rfl⟩ ?_ ?_
  · rintro i x Δ S' Nx hx ⟨rfl, kvs, c3, c4, hi, J, hkl, rfl⟩ hN
    rw [enumD_get, List.getElem?_map] at hx
    cases hd : xs[i]? with
    | none => rw [hd] at hx; simp at hx
    | some n =>
      rw [hd] at hx
      simp only [Option.map_some, Option.some.injEq, Nat.zero_add] at hx
      subst hx
      have hlt := (List.getElem?_eq_some_iff.mp hd).1
      have hnm := List.mem_of_getElem? hd
      have hrl : (xs.take i).reverse.length = i := by simp; omega
      have htk : xs.take (i + 1) = xs.take i ++ [n] := by rw [List.take_succ, hd]; rfl
      have hdl : (dist (xs.take i)).length = i := by rw [dist_len, List.length_take]; omega
      have J2 := J.step inj hnm
      rw [hrl] at J2
      have hput : putX (.dct kvs) (em n) (.int (i : Int)) = some (.dct (putD kvs (g n) (.int (i : Int)))) := by
        show (if kvs.length < LINE then (keyD (em n)).map fun k => D.dct (putD kvs k (.int (i : Int))) else none) = _
        rw [if_pos (by omega), hk]
        rfl
      have hpl := @putD_len kvs (g n) (.int (i : Int))
      have hnx : Nx [some (.lst (xs.map em)), some (.dct (putD kvs (g n) (.int (i : Int)))), some (.lst ((dist (xs.take i) ++ [dlr (xs.take i).reverse n]).map D.int)), some (.int (i : Int)), some (em n)] S' := by
        refine hN _ _ ⟨rfl, putD kvs (g n) (.int (i : Int)), some (.int (i : Int)), some (em n), by omega, ?_, by omega, ?_⟩
        · rw [htk, List.reverse_append]; exact J2
        · rw [htk, dist_snoc]
      have hin : dInK (em n) (.dct kvs) = some (.bl (decide (n ∈ (xs.take i).reverse))) := by
        show (keyD (em n)).map _ = _
        rw [hk, Option.map_some, J n hnm]
        split
        · rename_i q; simp [q]
        · rename_i q; simp [q]
      have happ : ∀ v : Int, oAppend (.lst ((dist (xs.take i)).map D.int)) [.int v] = some (.lst ((dist (xs.take i) ++ [v]).map D.int), .non) := fun v => by
        show (if _ then _ else none) = _
        rw [if_pos (by rw [List.length_map]; omega), List.map_append]
        rfl
      simp only [gSeq, gRet, gRetN, gExpr, gAsg, gIf, gNext, gKill, gDrop, gBrk, gCnt, gNever, gFor, gAug, gOwn, gPut, gDPut, gSprPut, gObjPut, gPar, eObj, eRev, gtName, gtTup, gtCons, gtNil, seqOf, eC, eVar, eUn, eBin, eChain, eAnd, eOr, eNot, eOrT, eIf, tE, tTru, DL.tAnd, DL.tOr, DL.tNot, DL.tYes, aNil, aCons, eLst, eTup, eCall, eCallP, eCallB, aDef, eFn, eIsI, eMt, eGet2, eSpr, oNone, oSome, eSl, eSlX, eSlN, gLPut, gTPut, gOwnAsg, gObjApp, gObjIns, eNewObj, eObjPop, eObjR, eObjL, eObjLen, eObjEnd, eSort, eSortSet, eLstRg, gPar0, sIn, eLc, iSeq, DL.iRng1, DL.iRng2, DL.iEnum, DL.iZip, DL.iStr, killL, fnW, fnWo, eNever, tNever, List.getElem?_cons_zero, List.getElem?_cons_succ, List.set_cons_zero, List.set_cons_succ, List.map_cons, List.map_nil, List.cons_append, List.nil_append, List.append_nil, List.replicate_succ, List.replicate_zero, List.length_cons, List.length_nil, List.foldl_cons, List.foldl_nil, Nat.zero_add, Nat.reduceAdd, Nat.reduceSub, ex_some, ex_bl, ex_int, ex_obj, ex_str, ex_lst, ex_cons, true_and, and_true, dAdd_int, dSub_int, dCmp_int, dNeg_int, Option.some.injEq, exists_eq_left', exists_eq_left, isLst, hin]
      by_cases hm : n ∈ (xs.take i).reverse
      · have hg : dGet (.dct kvs) (em n) = some (.int ((i : Int) - 1 - ((xs.take i).reverse.idxOf n : Nat))) := by
          show (keyD (em n)).bind _ = _
          rw [hk, Option.bind_some, J n hnm, if_pos hm, hrl]
        have e0 : dlr (xs.take i).reverse n = (i : Int) - ((i : Int) - 1 - ((xs.take i).reverse.idxOf n : Nat)) := by
          unfold dlr
          rw [if_pos hm]
          omega
        simp only [decide_eq_true hm, if_true, hg, List.getElem?_cons_zero, List.getElem?_cons_succ, List.set_cons_zero, List.set_cons_succ, List.map_cons, List.map_nil, List.cons_append, List.nil_append, List.append_nil, List.replicate_succ, List.replicate_zero, List.length_cons, List.length_nil, List.foldl_cons, List.foldl_nil, Nat.zero_add, Nat.reduceAdd, Nat.reduceSub, ex_some, ex_bl, ex_int, ex_obj, ex_str, ex_lst, ex_cons, true_and, and_true, dAdd_int, dSub_int, dCmp_int, dNeg_int, Option.some.injEq, exists_eq_left', exists_eq_left]
        rw [e0] at hnx
        exact ⟨_, _, happ _, ⟨_, rfl⟩, _, hput, hnx⟩
      · have e0 : dlr (xs.take i).reverse n = 0 := by unfold dlr; rw [if_neg hm]
        simp only [decide_eq_false hm, Bool.false_eq_true, if_false]
        rw [e0] at hnx
        exact ⟨_, _, happ _, ⟨_, rfl⟩, _, hput, hnx⟩
  · rintro Δ S' ⟨rfl, kvs, c3, c4, hi, J, hkl, rfl⟩
    rw [enumD_len, List.length_map, List.take_length]
    simp only [List.getElem?_cons_zero, List.getElem?_cons_succ, List.set_cons_zero, List.set_cons_succ, List.map_cons, List.map_nil, List.cons_append, List.nil_append, List.append_nil, List.replicate_succ, List.replicate_zero, List.length_cons, List.length_nil, List.foldl_cons, List.foldl_nil, Nat.zero_add, Nat.reduceAdd, Nat.reduceSub, ex_some, ex_bl, ex_int, ex_obj, ex_str, ex_lst, ex_cons, true_and, and_true, dAdd_int, dSub_int, dCmp_int, dNeg_int, Option.some.injEq, exists_eq_left', exists_eq_left]
    exact h
/-- a name: a sign's letter and its number -/
def tx (c : Str) (i : Int) : Str := c ++ numS i
theorem tx_inj {c : Str} {i j : Int} (hi : 0 ≤ i ∧ i ≤ 1000) (hj : 0 ≤ j ∧ j ≤ 1000) (h : tx c i = tx c j) : i = j := by
  unfold tx at h
  have h2 := congrArg TL.tl h
  rw [TL.tl_append, TL.tl_append] at h2
  have h3 := List.append_cancel_left h2
  have h6 : (numS i).cps = (numS j).cps := Array.toList_inj.mp h3
  have h4 : numS i = numS j := congrArg Str.mk h6
  have h5 := numS_val hi.1 hi.2
  rw [h4, numS_val hj.1 hj.2] at h5
  simpa using h5.symm
theorem p_are_strings {c : Str} {xs : List Int} {S : Sto} {P : D → Sto → Prop} {R : RX} (hl : xs.length ≤ 1000) (h : P (.bl true) S) : w_are_strings [.lst (xs.map fun i => .str (tx c i))] S P R := by
  have hline := line_eq
  simp only [w_are_strings, gSeq, gRet, gRetN, gExpr, gAsg, gIf, gNext, gKill, gDrop, gBrk, gCnt, gNever, gFor, gAug, gOwn, gPut, gDPut, gSprPut, gObjPut, gPar, eObj, eRev, gtName, gtTup, gtCons, gtNil, seqOf, eC, eVar, eUn, eBin, eChain, eAnd, eOr, eNot, eOrT, eIf, tE, tTru, DL.tAnd, DL.tOr, DL.tNot, DL.tYes, aNil, aCons, eLst, eTup, eCall, eCallP, eCallB, aDef, eFn, eIsI, eMt, eGet2, eSpr, oNone, oSome, eSl, eSlX, eSlN, gLPut, gTPut, gOwnAsg, gObjApp, gObjIns, eNewObj, eObjPop, eObjR, eObjL, eObjLen, eObjEnd, eSort, eSortSet, eLstRg, gPar0, sIn, eLc, iSeq, DL.iRng1, DL.iRng2, DL.iEnum, DL.iZip, DL.iStr, killL, fnW, fnWo, eNever, tNever, List.getElem?_cons_zero, List.getElem?_cons_succ, List.set_cons_zero, List.set_cons_succ, List.map_cons, List.map_nil, List.cons_append, List.nil_append, List.append_nil, List.replicate_succ, List.replicate_zero, List.length_cons, List.length_nil, List.foldl_cons, List.foldl_nil, Nat.zero_add, Nat.reduceAdd, Nat.reduceSub, ex_some, ex_bl, ex_int, ex_obj, ex_str, ex_lst, ex_cons, true_and, and_true, dAdd_int, dSub_int, dCmp_int, dNeg_int, Option.some.injEq, exists_eq_left', exists_eq_left, itemsOf]
  refine p_is_sequence (.inl rfl) ⟨_, rfl, ?_⟩
  simp only [if_true]
  refine ⟨by rw [List.length_map]; omega, ?_⟩
  refine lcL_mapOf (fun i => D.str (tx c i)) (fun _ => D.bl true) (fun i _ Q hQ => ?_) ?_
  · simp only [gSeq, gRet, gRetN, gExpr, gAsg, gIf, gNext, gKill, gDrop, gBrk, gCnt, gNever, gFor, gAug, gOwn, gPut, gDPut, gSprPut, gObjPut, gPar, eObj, eRev, gtName, gtTup, gtCons, gtNil, seqOf, eC, eVar, eUn, eBin, eChain, eAnd, eOr, eNot, eOrT, eIf, tE, tTru, DL.tAnd, DL.tOr, DL.tNot, DL.tYes, aNil, aCons, eLst, eTup, eCall, eCallP, eCallB, aDef, eFn, eIsI, eMt, eGet2, eSpr, oNone, oSome, eSl, eSlX, eSlN, gLPut, gTPut, gOwnAsg, gObjApp, gObjIns, eNewObj, eObjPop, eObjR, eObjL, eObjLen, eObjEnd, eSort, eSortSet, eLstRg, gPar0, sIn, eLc, iSeq, DL.iRng1, DL.iRng2, DL.iEnum, DL.iZip, DL.iStr, killL, fnW, fnWo, eNever, tNever, List.getElem?_cons_zero, List.getElem?_cons_succ, List.set_cons_zero, List.set_cons_succ, List.map_cons, List.map_nil, List.cons_append, List.nil_append, List.append_nil, List.replicate_succ, List.replicate_zero, List.length_cons, List.length_nil, List.foldl_cons, List.foldl_nil, Nat.zero_add, Nat.reduceAdd, Nat.reduceSub, ex_some, ex_bl, ex_int, ex_obj, ex_str, ex_lst, ex_cons, true_and, and_true, dAdd_int, dSub_int, dCmp_int, dNeg_int, Option.some.injEq, exists_eq_left', exists_eq_left, dIsAny, dIsI, Option.bind_some, if_true]
    exact hQ
  · rw [List.nil_append]
    have e1 : (xs.map fun _ => D.bl true) = (xs.map fun _ => true).map D.bl := by rw [List.map_map]; rfl
    have e2 : (xs.map fun _ => true).all id = true := by simp
    rw [e1]
    simp only [fAll, boolsOf_map, Option.map_some, e2, List.getElem?_cons_zero, List.getElem?_cons_succ, List.set_cons_zero, List.set_cons_succ, List.map_cons, List.map_nil, List.cons_append, List.nil_append, List.append_nil, List.replicate_succ, List.replicate_zero, List.length_cons, List.length_nil, List.foldl_cons, List.foldl_nil, Nat.zero_add, Nat.reduceAdd, Nat.reduceSub, ex_some, ex_bl, ex_int, ex_obj, ex_str, ex_lst, ex_cons, true_and, and_true, dAdd_int, dSub_int, dCmp_int, dNeg_int, Option.some.injEq, exists_eq_left', exists_eq_left]
    exact h
theorem p_distances_of {c : Str} {xs : List Int} {S : Sto} {P : D → Sto → Prop} {R : RX} (hl : xs.length ≤ 400) (hr : ∀ x ∈ xs, 0 ≤ x ∧ x ≤ 1000) (h : P (.lst ((dist xs).map D.int)) S) : w_distances_of [.lst (xs.map fun i => .str (tx c i))] S P R := by
  simp only [w_distances_of, gSeq, gRet, gRetN, gExpr, gAsg, gIf, gNext, gKill, gDrop, gBrk, gCnt, gNever, gFor, gAug, gOwn, gPut, gDPut, gSprPut, gObjPut, gPar, eObj, eRev, gtName, gtTup, gtCons, gtNil, seqOf, eC, eVar, eUn, eBin, eChain, eAnd, eOr, eNot, eOrT, eIf, tE, tTru, DL.tAnd, DL.tOr, DL.tNot, DL.tYes, aNil, aCons, eLst, eTup, eCall, eCallP, eCallB, aDef, eFn, eIsI, eMt, eGet2, eSpr, oNone, oSome, eSl, eSlX, eSlN, gLPut, gTPut, gOwnAsg, gObjApp, gObjIns, eNewObj, eObjPop, eObjR, eObjL, eObjLen, eObjEnd, eSort, eSortSet, eLstRg, gPar0, sIn, eLc, iSeq, DL.iRng1, DL.iRng2, DL.iEnum, DL.iZip, DL.iStr, killL, fnW, fnWo, eNever, tNever, List.getElem?_cons_zero, List.getElem?_cons_succ, List.set_cons_zero, List.set_cons_succ, List.map_cons, List.map_nil, List.cons_append, List.nil_append, List.append_nil, List.replicate_succ, List.replicate_zero, List.length_cons, List.length_nil, List.foldl_cons, List.foldl_nil, Nat.zero_add, Nat.reduceAdd, Nat.reduceSub, ex_some, ex_bl, ex_int, ex_obj, ex_str, ex_lst, ex_cons, true_and, and_true, dAdd_int, dSub_int, dCmp_int, dNeg_int, Option.some.injEq, exists_eq_left', exists_eq_left]
  refine p_are_strings (by omega) ⟨_, rfl, ?_⟩
  simp only [Bool.not_true, Bool.false_eq_true, if_false]
  exact p_distances_by' (em := fun i => .str (tx c i)) (g := fun i => .inr (tx c i)) (fun _ => rfl) (fun s hs t ht e => tx_inj (hr s hs) (hr t ht) (by simpa using e)) (by omega) h
theorem notIn_tx {c : Str} {l : List Int} {n : Int} (hl : ∀ x ∈ l, 0 ≤ x ∧ x ≤ 1000) (hn : 0 ≤ n ∧ n ≤ 1000) : dNotInL (.str (tx c n)) (.lst (l.map fun i => .str (tx c i))) = some (.bl (!decide (n ∈ l))) := by
  have hs : ((l.map fun i => D.str (tx c i)).all isScal) = true := by
    rw [List.all_map, List.all_eq_true]
    intro x _
    rfl
  show (if isScal (.str (tx c n)) = true ∧ ((l.map fun i => D.str (tx c i)).all isScal) = true then some (D.bl (!((l.map fun i => D.str (tx c i)).any fun z => scEq z (.str (tx c n))))) else none) = _
  rw [if_pos ⟨rfl, hs⟩, List.any_map]
  congr 3
  rw [Bool.eq_iff_iff, List.any_eq_true, decide_eq_true_eq]
  constructor
  · rintro ⟨x, hx, h⟩
    have e : tx c x = tx c n := by simpa [scEq] using h
    rw [← tx_inj (hl x hx) hn e]
    exact hx
  · intro h
    exact ⟨n, h, by simp [scEq]⟩
theorem dedup_step (xs : List Int) (x : Int) : dedup (xs ++ [x]) = if x ∈ dedup xs then dedup xs else dedup xs ++ [x] := by
  rw [dedup_snoc, any_eq_mem]
  by_cases h : x ∈ dedup xs
  · simp [h]
  · simp [h]
theorem p__law_firsts {c : Str} {xs : List Int} {S : Sto} {P : D → Sto → Prop} {R : RX} (hl : xs.length ≤ 400) (hr : ∀ x ∈ xs, 0 ≤ x ∧ x ≤ 1000) (h : P (.lst ((dedup xs).map fun i => .str (tx c i))) S) : w__law_firsts [.lst (xs.map fun i => .str (tx c i))] S P R := by
  have hline := line_eq
  simp only [w__law_firsts, gSeq, gRet, gRetN, gExpr, gAsg, gIf, gNext, gKill, gDrop, gBrk, gCnt, gNever, gFor, gAug, gOwn, gPut, gDPut, gSprPut, gObjPut, gPar, eObj, eRev, gtName, gtTup, gtCons, gtNil, seqOf, eC, eVar, eUn, eBin, eChain, eAnd, eOr, eNot, eOrT, eIf, tE, tTru, DL.tAnd, DL.tOr, DL.tNot, DL.tYes, aNil, aCons, eLst, eTup, eCall, eCallP, eCallB, aDef, eFn, eIsI, eMt, eGet2, eSpr, oNone, oSome, eSl, eSlX, eSlN, gLPut, gTPut, gOwnAsg, gObjApp, gObjIns, eNewObj, eObjPop, eObjR, eObjL, eObjLen, eObjEnd, eSort, eSortSet, eLstRg, gPar0, sIn, eLc, iSeq, DL.iRng1, DL.iRng2, DL.iEnum, DL.iZip, DL.iStr, killL, fnW, fnWo, eNever, tNever, List.getElem?_cons_zero, List.getElem?_cons_succ, List.set_cons_zero, List.set_cons_succ, List.map_cons, List.map_nil, List.cons_append, List.nil_append, List.append_nil, List.replicate_succ, List.replicate_zero, List.length_cons, List.length_nil, List.foldl_cons, List.foldl_nil, Nat.zero_add, Nat.reduceAdd, Nat.reduceSub, ex_some, ex_bl, ex_int, ex_obj, ex_str, ex_lst, ex_cons, true_and, and_true, dAdd_int, dSub_int, dCmp_int, dNeg_int, Option.some.injEq, exists_eq_left', exists_eq_left, itemsOf]
  refine ⟨by omega, ?_⟩
  refine forL_inv (fun i Δ S' => S' = S ∧ ∃ c2 : Option D, i ≤ xs.length ∧ Δ = [some (.lst (xs.map fun i => .str (tx c i))), some (.lst ((dedup (xs.take i)).map fun i => .str (tx c i))), c2]) ⟨rfl, _, by omega, rfl⟩ ?_ ?_
  · rintro i x Δ S' Nx hx ⟨rfl, c2, hi, rfl⟩ hN
    rw [List.getElem?_map] at hx
    cases hd : xs[i]? with
    | none => rw [hd] at hx; simp at hx
    | some n =>
      rw [hd] at hx
      cases hx
      have hlt := (List.getElem?_eq_some_iff.mp hd).1
      have hnm := List.mem_of_getElem? hd
      have htk : xs.take (i + 1) = xs.take i ++ [n] := by rw [List.take_succ, hd]; rfl
      have hdr : ∀ x ∈ dedup (xs.take i), 0 ≤ x ∧ x ≤ 1000 := fun x hx => hr x (List.mem_of_mem_take (mem_dedup.mp hx))
      have hdl : (dedup (xs.take i)).length ≤ 400 := Nat.le_trans (dedup_le _) (by rw [List.length_take]; omega)
      simp only [gSeq, gRet, gRetN, gExpr, gAsg, gIf, gNext, gKill, gDrop, gBrk, gCnt, gNever, gFor, gAug, gOwn, gPut, gDPut, gSprPut, gObjPut, gPar, eObj, eRev, gtName, gtTup, gtCons, gtNil, seqOf, eC, eVar, eUn, eBin, eChain, eAnd, eOr, eNot, eOrT, eIf, tE, tTru, DL.tAnd, DL.tOr, DL.tNot, DL.tYes, aNil, aCons, eLst, eTup, eCall, eCallP, eCallB, aDef, eFn, eIsI, eMt, eGet2, eSpr, oNone, oSome, eSl, eSlX, eSlN, gLPut, gTPut, gOwnAsg, gObjApp, gObjIns, eNewObj, eObjPop, eObjR, eObjL, eObjLen, eObjEnd, eSort, eSortSet, eLstRg, gPar0, sIn, eLc, iSeq, DL.iRng1, DL.iRng2, DL.iEnum, DL.iZip, DL.iStr, killL, fnW, fnWo, eNever, tNever, List.getElem?_cons_zero, List.getElem?_cons_succ, List.set_cons_zero, List.set_cons_succ, List.map_cons, List.map_nil, List.cons_append, List.nil_append, List.append_nil, List.replicate_succ, List.replicate_zero, List.length_cons, List.length_nil, List.foldl_cons, List.foldl_nil, Nat.zero_add, Nat.reduceAdd, Nat.reduceSub, ex_some, ex_bl, ex_int, ex_obj, ex_str, ex_lst, ex_cons, true_and, and_true, dAdd_int, dSub_int, dCmp_int, dNeg_int, Option.some.injEq, exists_eq_left', exists_eq_left, notIn_tx hdr (hr n hnm), isLst]
      by_cases hm : n ∈ dedup (xs.take i)
      · simp only [decide_eq_true hm, Bool.not_true, Bool.false_eq_true, if_false]
        exact hN _ _ ⟨rfl, some (.str (tx c n)), by omega, by rw [htk, dedup_step, if_pos hm]⟩
      · simp only [decide_eq_false hm, Bool.not_false, if_true]
        have happ : oAppend (.lst ((dedup (xs.take i)).map fun i => D.str (tx c i))) [.str (tx c n)] = some (.lst ((dedup (xs.take i)).map (fun i => D.str (tx c i)) ++ [.str (tx c n)]), .non) := if_pos (by rw [List.length_map]; omega)
        refine ⟨_, _, happ, hN _ _ ⟨rfl, some (.str (tx c n)), by omega, ?_⟩⟩
        rw [htk, dedup_step, if_neg hm, List.map_append]
        rfl
  · rintro Δ S' ⟨rfl, c2, hi, rfl⟩
    rw [List.length_map, List.take_length]
    simp only [List.getElem?_cons_zero, List.getElem?_cons_succ, List.set_cons_zero, List.set_cons_succ, List.map_cons, List.map_nil, List.cons_append, List.nil_append, List.append_nil, List.replicate_succ, List.replicate_zero, List.length_cons, List.length_nil, List.foldl_cons, List.foldl_nil, Nat.zero_add, Nat.reduceAdd, Nat.reduceSub, ex_some, ex_bl, ex_int, ex_obj, ex_str, ex_lst, ex_cons, true_and, and_true, dAdd_int, dSub_int, dCmp_int, dNeg_int, Option.some.injEq, exists_eq_left', exists_eq_left]
    exact h
theorem dedupS_nodup : ∀ (l acc : List Str), (acc ++ l).Nodup → l.foldl stepS acc = acc ++ l
  | [], acc, _ => by simp
  | x :: l, acc, h => by
    have hx : (acc.any (· == x)) = false := by
      rw [List.any_eq_false]
      intro y hy e
      have e2 : y = x := by simpa using e
      subst e2
      exact (List.nodup_append.mp h).2.2 y hy y (by simp) rfl
    rw [List.foldl_cons]
    have hs : stepS acc x = acc ++ [x] := by unfold stepS; rw [hx]; rfl
    rw [hs, dedupS_nodup l (acc ++ [x]) (by rw [List.append_assoc]; exact h), List.append_assoc]
    rfl
theorem nodup_tx {c : Str} : ∀ {l : List Int}, l.Nodup → (∀ x ∈ l, 0 ≤ x ∧ x ≤ 1000) → (l.map (tx c)).Nodup
  | [], _, _ => List.nodup_nil
  | x :: l, h, hr => by
    rw [List.map_cons, List.nodup_cons]
    have h2 := List.nodup_cons.mp h
    refine ⟨fun hm => ?_, nodup_tx h2.2 fun y hy => hr y (List.mem_cons_of_mem _ hy)⟩
    obtain ⟨y, hy, e⟩ := List.mem_map.mp hm
    have := tx_inj (hr y (List.mem_cons_of_mem _ hy)) (hr x (List.mem_cons_self ..)) e
    subst this
    exact h2.1 hy
theorem rk_get {ys : List Int} {x : Int} (h : x ∈ ys) : (dedup ys)[(dedup ys).idxOf x]? = some x := by
  have hm := mem_dedup.mpr h
  rw [List.getElem?_eq_getElem (List.idxOf_lt_length_of_mem hm)]
  simp
theorem p_with_symbols {c : Str} {ys : List Int} {S : Sto} {P : D → Sto → Prop} {R : RX} (hl : ys.length ≤ 400) (hr : ∀ x ∈ ys, 0 ≤ x ∧ x ≤ 1000) (h : P (.lst (ys.map fun i => .str (tx c i))) S) :
    w_with_symbols [.lst ((dist ys).map D.int), .lst ((dedup ys).map fun i => .str (tx c i))] S P R := by
  have hline := line_eq
  have hdl : (dedup ys).length ≤ ys.length := dedup_le ys
  have hdr : ∀ x ∈ dedup ys, 0 ≤ x ∧ x ≤ 1000 := fun x hx => hr x (mem_dedup.mp hx)
  have hset : dLenSetX (.lst ((dedup ys).map fun i => D.str (tx c i))) = some (.int ((dedup ys).length : Nat)) := by
    have e : ((dedup ys).map fun i => D.str (tx c i)) = ((dedup ys).map (tx c)).map D.str := by rw [List.map_map]; rfl
    show (strsOf ((dedup ys).map fun i => D.str (tx c i))).bind _ = _
    rw [e, strsOf_map, Option.bind_some, List.length_map, if_pos (by omega)]
    have := dedupS_nodup ((dedup ys).map (tx c)) [] (by rw [List.nil_append]; exact nodup_tx (dedup_nd ys) hdr)
    unfold dedupS
    rw [this, List.nil_append, List.length_map]
  simp only [w_with_symbols, gSeq, gRet, gRetN, gExpr, gAsg, gIf, gNext, gKill, gDrop, gBrk, gCnt, gNever, gFor, gAug, gOwn, gPut, gDPut, gSprPut, gObjPut, gPar, eObj, eRev, gtName, gtTup, gtCons, gtNil, seqOf, eC, eVar, eUn, eBin, eChain, eAnd, eOr, eNot, eOrT, eIf, tE, tTru, DL.tAnd, DL.tOr, DL.tNot, DL.tYes, aNil, aCons, eLst, eTup, eCall, eCallP, eCallB, aDef, eFn, eIsI, eMt, eGet2, eSpr, oNone, oSome, eSl, eSlX, eSlN, gLPut, gTPut, gOwnAsg, gObjApp, gObjIns, eNewObj, eObjPop, eObjR, eObjL, eObjLen, eObjEnd, eSort, eSortSet, eLstRg, gPar0, sIn, eLc, iSeq, DL.iRng1, DL.iRng2, DL.iEnum, DL.iZip, DL.iStr, killL, fnW, fnWo, eNever, tNever, List.getElem?_cons_zero, List.getElem?_cons_succ, List.set_cons_zero, List.set_cons_succ, List.map_cons, List.map_nil, List.cons_append, List.nil_append, List.append_nil, List.replicate_succ, List.replicate_zero, List.length_cons, List.length_nil, List.foldl_cons, List.foldl_nil, Nat.zero_add, Nat.reduceAdd, Nat.reduceSub, ex_some, ex_bl, ex_int, ex_obj, ex_str, ex_lst, ex_cons, true_and, and_true, dAdd_int, dSub_int, dCmp_int, dNeg_int, Option.some.injEq, exists_eq_left', exists_eq_left]
  refine p_checked (VD_dist hl) ?_
  refine p_are_strings (by omega) ⟨_, rfl, ?_⟩
  simp only [Bool.not_true, Bool.false_eq_true, if_false, hset, fLen, dLen, List.length_map, List.getElem?_cons_zero, List.getElem?_cons_succ, List.set_cons_zero, List.set_cons_succ, List.map_cons, List.map_nil, List.cons_append, List.nil_append, List.append_nil, List.replicate_succ, List.replicate_zero, List.length_cons, List.length_nil, List.foldl_cons, List.foldl_nil, Nat.zero_add, Nat.reduceAdd, Nat.reduceSub, ex_some, ex_bl, ex_int, ex_obj, ex_str, ex_lst, ex_cons, true_and, and_true, dAdd_int, dSub_int, dCmp_int, dNeg_int, Option.some.injEq, exists_eq_left', exists_eq_left, Int.lt_irrefl, decide_false]
  refine p_symbol_count (by omega) ?_
  simp only [dNe_int, beq_self_eq_true, Bool.not_true, Bool.false_eq_true, if_false, List.getElem?_cons_zero, List.getElem?_cons_succ, List.set_cons_zero, List.set_cons_succ, List.map_cons, List.map_nil, List.cons_append, List.nil_append, List.append_nil, List.replicate_succ, List.replicate_zero, List.length_cons, List.length_nil, List.foldl_cons, List.foldl_nil, Nat.zero_add, Nat.reduceAdd, Nat.reduceSub, ex_some, ex_bl, ex_int, ex_obj, ex_str, ex_lst, ex_cons, true_and, and_true, dAdd_int, dSub_int, dCmp_int, dNeg_int, Option.some.injEq, exists_eq_left', exists_eq_left]
  refine p_ids_of (by omega) ⟨_, rfl, ?_, ?_⟩
  · rw [List.length_map]; unfold can; rw [List.length_map]; omega
  · unfold can
    rw [List.map_map]
    refine lcL_mapOf (D.int ∘ rk ys) (fun i => D.str (tx c i)) (fun x hx Q hQ => ?_) ?_
    · simp only [gSeq, gRet, gRetN, gExpr, gAsg, gIf, gNext, gKill, gDrop, gBrk, gCnt, gNever, gFor, gAug, gOwn, gPut, gDPut, gSprPut, gObjPut, gPar, eObj, eRev, gtName, gtTup, gtCons, gtNil, seqOf, eC, eVar, eUn, eBin, eChain, eAnd, eOr, eNot, eOrT, eIf, tE, tTru, DL.tAnd, DL.tOr, DL.tNot, DL.tYes, aNil, aCons, eLst, eTup, eCall, eCallP, eCallB, aDef, eFn, eIsI, eMt, eGet2, eSpr, oNone, oSome, eSl, eSlX, eSlN, gLPut, gTPut, gOwnAsg, gObjApp, gObjIns, eNewObj, eObjPop, eObjR, eObjL, eObjLen, eObjEnd, eSort, eSortSet, eLstRg, gPar0, sIn, eLc, iSeq, DL.iRng1, DL.iRng2, DL.iEnum, DL.iZip, DL.iStr, killL, fnW, fnWo, eNever, tNever, List.getElem?_cons_zero, List.getElem?_cons_succ, List.set_cons_zero, List.set_cons_succ, List.map_cons, List.map_nil, List.cons_append, List.nil_append, List.append_nil, List.replicate_succ, List.replicate_zero, List.length_cons, List.length_nil, List.foldl_cons, List.foldl_nil, Nat.zero_add, Nat.reduceAdd, Nat.reduceSub, ex_some, ex_bl, ex_int, ex_obj, ex_str, ex_lst, ex_cons, true_and, and_true, dAdd_int, dSub_int, dCmp_int, dNeg_int, Option.some.injEq, exists_eq_left', exists_eq_left, Function.comp]
      have hix : dIx (.lst ((dedup ys).map fun i => D.str (tx c i))) (.int (rk ys x)) = some (.str (tx c x)) := by
        show L2.atI _ (((dedup ys).idxOf x : Nat) : Int) = _
        exact atI_nat (by rw [List.getElem?_map, rk_get hx]; rfl)
      rw [hix]
      exact ⟨_, rfl, hQ⟩
    · rw [List.nil_append]
      exact h
theorem p_text {a m : Nat} {S : Sto} {P : D → Sto → Prop} {R : RX} (hs : S a = some (.bag m)) (hm : m + 1000 < 2 ^ 60) (h : ∀ (xs : List Int) (m' : Nat), xs.length ≤ 60 → (∀ x ∈ xs, 0 ≤ x ∧ x ≤ 60) → m' ≤ m + 200 → P (.lst (xs.map D.int)) (S.upd a (.bag m'))) : w__law_text [.obj a, .int 60] S P R := by
  have sm : ∀ k, (S.upd a (.bag k)) a = some (.bag k) := fun k => Sto.upd_same _ _ _
  simp only [w__law_text, gSeq, gRet, gRetN, gExpr, gAsg, gIf, gNext, gKill, gDrop, gBrk, gCnt, gNever, gFor, gAug, gOwn, gPut, gDPut, gSprPut, gObjPut, gPar, eObj, eRev, gtName, gtTup, gtCons, gtNil, seqOf, eC, eVar, eUn, eBin, eChain, eAnd, eOr, eNot, eOrT, eIf, tE, tTru, DL.tAnd, DL.tOr, DL.tNot, DL.tYes, aNil, aCons, eLst, eTup, eCall, eCallP, eCallB, aDef, eFn, eIsI, eMt, eGet2, eSpr, oNone, oSome, eSl, eSlX, eSlN, gLPut, gTPut, gOwnAsg, gObjApp, gObjIns, eNewObj, eObjPop, eObjR, eObjL, eObjLen, eObjEnd, eSort, eSortSet, eLstRg, gPar0, sIn, eLc, iSeq, DL.iRng1, DL.iRng2, DL.iEnum, DL.iZip, DL.iStr, killL, fnW, fnWo, eNever, tNever, List.getElem?_cons_zero, List.getElem?_cons_succ, List.set_cons_zero, List.set_cons_succ, List.map_cons, List.map_nil, List.cons_append, List.nil_append, List.append_nil, List.replicate_succ, List.replicate_zero, List.length_cons, List.length_nil, List.foldl_cons, List.foldl_nil, Nat.zero_add, Nat.reduceAdd, Nat.reduceSub, ex_some, ex_bl, ex_int, ex_obj, ex_str, ex_lst, ex_cons, true_and, and_true, dAdd_int, dSub_int, dCmp_int, dNeg_int, Option.some.injEq, exists_eq_left', exists_eq_left, fMin_int]
  refine p_draw hs (by omega) (by decide) (by decide) fun k1 a1 b1 => ?_
  refine p_draw (sm _) (by omega) (by decide) (by decide) fun k2 a2 b2 => ?_
  simp only [Sto.upd_upd]
  refine ⟨by rw [line_eq]; omega, ?_⟩
  refine p_draw (sm _) (by omega) (by decide) (by decide) fun k3 a3 b3 => ?_
  simp only [Sto.upd_upd]
  rw [dDiv_int (by decide) (by decide)]
  simp only [List.getElem?_cons_zero, List.getElem?_cons_succ, List.set_cons_zero, List.set_cons_succ, List.map_cons, List.map_nil, List.cons_append, List.nil_append, List.append_nil, List.replicate_succ, List.replicate_zero, List.length_cons, List.length_nil, List.foldl_cons, List.foldl_nil, Nat.zero_add, Nat.reduceAdd, Nat.reduceSub, ex_some, ex_bl, ex_int, ex_obj, ex_str, ex_lst, ex_cons, true_and, and_true, dAdd_int, dSub_int, dCmp_int, dNeg_int, Option.some.injEq, exists_eq_left', exists_eq_left]
  have hsz : ∃ sz : Int, dIx (.lst [.int k1, .int k2, .int 60]) (.int (k3 / 3)) = some (.int sz) ∧ 0 ≤ sz ∧ sz ≤ 60 := by
    have b1 : k1 < 6 := by simpa using b1
    rcases (show k3 / 3 = 0 ∨ k3 / 3 = 1 ∨ k3 / 3 = 2 by omega) with e | e | e <;> rw [e]
    · exact ⟨k1, rfl, by omega, by omega⟩
    · exact ⟨k2, rfl, by omega, by omega⟩
    · exact ⟨60, rfl, by omega, by omega⟩
  obtain ⟨sz, hix, z0, z1⟩ := hsz
  rw [hix]
  simp only [List.getElem?_cons_zero, List.getElem?_cons_succ, List.set_cons_zero, List.set_cons_succ, List.map_cons, List.map_nil, List.cons_append, List.nil_append, List.append_nil, List.replicate_succ, List.replicate_zero, List.length_cons, List.length_nil, List.foldl_cons, List.foldl_nil, Nat.zero_add, Nat.reduceAdd, Nat.reduceSub, ex_some, ex_bl, ex_int, ex_obj, ex_str, ex_lst, ex_cons, true_and, and_true, dAdd_int, dSub_int, dCmp_int, dNeg_int, Option.some.injEq, exists_eq_left', exists_eq_left]
  refine ⟨by rw [line_eq]; omega, ?_⟩
  refine p_draw (sm _) (by omega) (by decide) (by decide) fun k4 a4 b4 => ?_
  simp only [Sto.upd_upd]
  have hwd : ∃ wd : Int, dIx (.lst [.int 1, .int 2, .int 5, .int 12, .int (60 + 1)]) (.int k4) = some (.int wd) ∧ 1 ≤ wd ∧ wd ≤ 61 := by
    rcases (show k4 = 0 ∨ k4 = 1 ∨ k4 = 2 ∨ k4 = 3 ∨ k4 = 4 by omega) with e | e | e | e | e <;> rw [e]
    · exact ⟨1, rfl, by omega, by omega⟩
    · exact ⟨2, rfl, by omega, by omega⟩
    · exact ⟨5, rfl, by omega, by omega⟩
    · exact ⟨12, rfl, by omega, by omega⟩
    · exact ⟨61, rfl, by omega, by omega⟩
  obtain ⟨wd, hix2, w0, w1⟩ := hwd
  rw [hix2]
  simp only [List.getElem?_cons_zero, List.getElem?_cons_succ, List.set_cons_zero, List.set_cons_succ, List.map_cons, List.map_nil, List.cons_append, List.nil_append, List.append_nil, List.replicate_succ, List.replicate_zero, List.length_cons, List.length_nil, List.foldl_cons, List.foldl_nil, Nat.zero_add, Nat.reduceAdd, Nat.reduceSub, ex_some, ex_bl, ex_int, ex_obj, ex_str, ex_lst, ex_cons, true_and, and_true, dAdd_int, dSub_int, dCmp_int, dNeg_int, Option.some.injEq, exists_eq_left', exists_eq_left]
  refine ⟨by rw [line_eq]; omega, by omega, by omega, ?_⟩
  refine forL_inv (fun i Δ S' => ∃ (m' : Nat) (found : List Int) (c : Option D), S' = S.upd a (.bag m') ∧ i ≤ sz.toNat ∧ m' ≤ m + 4 + 2 * i ∧ found.length = i ∧ (∀ x ∈ found, 0 ≤ x ∧ x ≤ 60) ∧ Δ = [some (.obj a), some (.int 60), some (.int sz), some (.int wd), some (.lst (found.map D.int)), c]) ⟨m + 1 + 1 + 1 + 1, [], none, rfl, by omega, by omega, rfl, by simp, rfl⟩ ?_ ?_
  · rintro i x Δ S' Nx hx ⟨m', found, c, rfl, hi, hm', hf, hfr, rfl⟩ hN
    have hi2 : i < sz.toNat := by
      have := (List.getElem?_eq_some_iff.mp hx).1
      rw [rngD_len] at this
      exact this
    have hN2 : ∀ (mm : Nat) (l : List Int) (c : Option D), mm ≤ m' + 2 → l.length = i + 1 → (∀ x ∈ l, 0 ≤ x ∧ x ≤ 60) → Nx [some (.obj a), some (.int 60), some (.int sz), some (.int wd), some (.lst (l.map D.int)), c] (S.upd a (.bag mm)) := fun mm l c e1 e2 e3 => hN _ _ ⟨mm, l, c, rfl, by omega, by omega, e2, e3, rfl⟩
    have snr : ∀ v : Int, 0 ≤ v → v ≤ 60 → ∀ x ∈ found ++ [v], 0 ≤ x ∧ x ≤ 60 := fun v h0 h1 x hx => by
      rcases List.mem_append.mp hx with hx | hx
      · exact hfr x hx
      · rw [List.mem_singleton.mp hx]; exact ⟨h0, h1⟩
    have happ : ∀ v : Int, oAppend (.lst (found.map D.int)) [.int v] = some (.lst ((found ++ [v]).map D.int), .non) := fun v => by
      show (if _ then _ else none) = _
      rw [if_pos (by rw [List.length_map, line_eq]; omega), List.map_append]
      rfl
    have plain : ∀ mm, mm ≤ m' + 1 → isLst (.lst (found.map D.int)) = true ∧ bagUse w__law_draw [.obj a, .int wd] (S.upd a (.bag mm)) (fun y S1 => ∃ z r, oAppend (.lst (found.map D.int)) [y] = some (z, r) ∧ Nx [some (.obj a), some (.int 60), some (.int sz), some (.int wd), some z, some x] S1) R := fun mm hmm => by
      refine ⟨rfl, p_draw (sm _) (by omega) (by omega) (by omega) fun v v0 v1 => ?_⟩
      rw [Sto.upd_upd]
      exact ⟨_, _, happ v, hN2 _ _ _ (by omega) (by rw [List.length_append, hf]; rfl) (snr v (by omega) (by omega))⟩
    simp only [gSeq, gRet, gRetN, gExpr, gAsg, gIf, gNext, gKill, gDrop, gBrk, gCnt, gNever, gFor, gAug, gOwn, gPut, gDPut, gSprPut, gObjPut, gPar, eObj, eRev, gtName, gtTup, gtCons, gtNil, seqOf, eC, eVar, eUn, eBin, eChain, eAnd, eOr, eNot, eOrT, eIf, tE, tTru, DL.tAnd, DL.tOr, DL.tNot, DL.tYes, aNil, aCons, eLst, eTup, eCall, eCallP, eCallB, aDef, eFn, eIsI, eMt, eGet2, eSpr, oNone, oSome, eSl, eSlX, eSlN, gLPut, gTPut, gOwnAsg, gObjApp, gObjIns, eNewObj, eObjPop, eObjR, eObjL, eObjLen, eObjEnd, eSort, eSortSet, eLstRg, gPar0, sIn, eLc, iSeq, DL.iRng1, DL.iRng2, DL.iEnum, DL.iZip, DL.iStr, killL, fnW, fnWo, eNever, tNever, List.getElem?_cons_zero, List.getElem?_cons_succ, List.set_cons_zero, List.set_cons_succ, List.map_cons, List.map_nil, List.cons_append, List.nil_append, List.append_nil, List.replicate_succ, List.replicate_zero, List.length_cons, List.length_nil, List.foldl_cons, List.foldl_nil, Nat.zero_add, Nat.reduceAdd, Nat.reduceSub, ex_some, ex_bl, ex_int, ex_obj, ex_str, ex_lst, ex_cons, true_and, and_true, dAdd_int, dSub_int, dCmp_int, dNeg_int, Option.some.injEq, exists_eq_left', exists_eq_left]
    refine ⟨by rw [line_eq]; omega, ?_⟩
    rw [dNe_nil]
    simp only [List.getElem?_cons_zero, List.getElem?_cons_succ, List.set_cons_zero, List.set_cons_succ, List.map_cons, List.map_nil, List.cons_append, List.nil_append, List.append_nil, List.replicate_succ, List.replicate_zero, List.length_cons, List.length_nil, List.foldl_cons, List.foldl_nil, Nat.zero_add, Nat.reduceAdd, Nat.reduceSub, ex_some, ex_bl, ex_int, ex_obj, ex_str, ex_lst, ex_cons, true_and, and_true, dAdd_int, dSub_int, dCmp_int, dNeg_int, Option.some.injEq, exists_eq_left', exists_eq_left]
    split
    · rename_i hne
      have hpos : 0 < found.length := by
        cases found with
        | nil => simp at hne
        | cons y ys => simp
      refine p_draw (sm _) (by omega) (by decide) (by decide) fun v v0 v1 => ?_
      simp only [dEq_int, List.getElem?_cons_zero, List.getElem?_cons_succ, List.set_cons_zero, List.set_cons_succ, List.map_cons, List.map_nil, List.cons_append, List.nil_append, List.append_nil, List.replicate_succ, List.replicate_zero, List.length_cons, List.length_nil, List.foldl_cons, List.foldl_nil, Nat.zero_add, Nat.reduceAdd, Nat.reduceSub, ex_some, ex_bl, ex_int, ex_obj, ex_str, ex_lst, ex_cons, true_and, and_true, dAdd_int, dSub_int, dCmp_int, dNeg_int, Option.some.injEq, exists_eq_left', exists_eq_left, Sto.upd_upd]
      split
      · simp only [fLen_ints, fMin_int, List.getElem?_cons_zero, List.getElem?_cons_succ, List.set_cons_zero, List.set_cons_succ, List.map_cons, List.map_nil, List.cons_append, List.nil_append, List.append_nil, List.replicate_succ, List.replicate_zero, List.length_cons, List.length_nil, List.foldl_cons, List.foldl_nil, Nat.zero_add, Nat.reduceAdd, Nat.reduceSub, ex_some, ex_bl, ex_int, ex_obj, ex_str, ex_lst, ex_cons, true_and, and_true, dAdd_int, dSub_int, dCmp_int, dNeg_int, Option.some.injEq, exists_eq_left', exists_eq_left]
        refine ⟨rfl, p_draw (sm _) (by omega) (by split <;> omega) (by split <;> omega) fun u u0 u1 => ?_⟩
        have hu : u < found.length := by split at u1 <;> omega
        obtain ⟨uN, rfl⟩ := Int.eq_ofNat_of_zero_le u0
        have hix3 : dIx (.lst (found.map D.int)) (.int (-1 - (uN : Int))) = some (.int found[found.length - 1 - uN]) := by
          show L2.atI _ _ = _
          rw [atI_neg (by rw [List.length_map]; omega), List.length_map, List.getElem?_map, List.getElem?_eq_getElem (by omega)]
          rfl
        refine ⟨.int (-1 - (uN : Int)), rfl, _, hix3, ?_⟩
        rw [Sto.upd_upd]
        exact ⟨_, _, happ _, hN2 _ _ _ (by omega) (by rw [List.length_append]; exact congrArg (· + 1) hf) (snr _ (hfr _ (List.getElem_mem _)).1 (hfr _ (List.getElem_mem _)).2)⟩
      · exact plain (m' + 1) (by omega)
    · simp only [Bool.false_eq_true, if_false]
      exact plain m' (by omega)
  · rintro Δ S' ⟨m', found, c, rfl, hi, hm', hf, hfr, rfl⟩
    simp only [List.getElem?_cons_zero, List.getElem?_cons_succ, List.set_cons_zero, List.set_cons_succ, List.map_cons, List.map_nil, List.cons_append, List.nil_append, List.append_nil, List.replicate_succ, List.replicate_zero, List.length_cons, List.length_nil, List.foldl_cons, List.foldl_nil, Nat.zero_add, Nat.reduceAdd, Nat.reduceSub, ex_some, ex_bl, ex_int, ex_obj, ex_str, ex_lst, ex_cons, true_and, and_true, dAdd_int, dSub_int, dCmp_int, dNeg_int, Option.some.injEq, exists_eq_left', exists_eq_left]
    rw [rngD_len] at hm' hf
    exact h _ _ (by omega) hfr (by omega)
theorem p_symbol_ids {xs : List Int} {S : Sto} {P : D → Sto → Prop} {R : RX} (hl : xs.length ≤ 400) (h : P (.lst ((can xs).map D.int)) S) : w_symbol_ids [.lst ((dist xs).map D.int)] S P R := by
  simp only [w_symbol_ids, gSeq, gRet, gRetN, gExpr, gAsg, gIf, gNext, gKill, gDrop, gBrk, gCnt, gNever, gFor, gAug, gOwn, gPut, gDPut, gSprPut, gObjPut, gPar, eObj, eRev, gtName, gtTup, gtCons, gtNil, seqOf, eC, eVar, eUn, eBin, eChain, eAnd, eOr, eNot, eOrT, eIf, tE, tTru, DL.tAnd, DL.tOr, DL.tNot, DL.tYes, aNil, aCons, eLst, eTup, eCall, eCallP, eCallB, aDef, eFn, eIsI, eMt, eGet2, eSpr, oNone, oSome, eSl, eSlX, eSlN, gLPut, gTPut, gOwnAsg, gObjApp, gObjIns, eNewObj, eObjPop, eObjR, eObjL, eObjLen, eObjEnd, eSort, eSortSet, eLstRg, gPar0, sIn, eLc, iSeq, DL.iRng1, DL.iRng2, DL.iEnum, DL.iZip, DL.iStr, killL, fnW, fnWo, eNever, tNever, List.getElem?_cons_zero, List.getElem?_cons_succ, List.set_cons_zero, List.set_cons_succ, List.map_cons, List.map_nil, List.cons_append, List.nil_append, List.append_nil, List.replicate_succ, List.replicate_zero, List.length_cons, List.length_nil, List.foldl_cons, List.foldl_nil, Nat.zero_add, Nat.reduceAdd, Nat.reduceSub, ex_some, ex_bl, ex_int, ex_obj, ex_str, ex_lst, ex_cons, true_and, and_true, dAdd_int, dSub_int, dCmp_int, dNeg_int, Option.some.injEq, exists_eq_left', exists_eq_left]
  refine p_checked (VD_dist (by omega)) ?_
  exact p_ids_of (by omega) h
theorem enumZ_snd : ∀ (xs : List Int) (i : Nat), (enumZ i xs).map (·.2) = xs
  | [], _ => rfl
  | x :: xs, i => by simp [enumZ, enumZ_snd xs]
theorem dist_take (xs : List Int) (p : Nat) : (dist xs).take p = dist (xs.take p) := by
  have e : xs = xs.take p ++ xs.drop p := (List.take_append_drop p xs).symm
  have h : dist xs = dist (xs.take p) ++ distF (xs.take p).reverse (xs.drop p) := by conv => lhs; rw [e, dist_app]
  rcases Nat.le_total p xs.length with q | q
  · rw [h, List.take_append_of_le_length (by rw [dist_len, List.length_take]; omega), List.take_of_length_le (by rw [dist_len, List.length_take]; omega)]
  · rw [List.take_of_length_le (by rw [dist_len]; exact q), List.take_of_length_le q]
theorem Sto.upd_ne {S : Sto} {a b : Nat} {o : Ob} (h : b ≠ a) : S.upd a o b = S b := if_neg h
/-! ### recency -/
theorem dedup_same_len {l k : List Int} (h : ∀ x, x ∈ l ↔ x ∈ k) : (dedup l).length = (dedup k).length :=
  ((List.perm_ext_iff_of_nodup (dedup_nd l) (dedup_nd k)).mpr fun x => by rw [mem_dedup, mem_dedup]; exact h x).length_eq
theorem idx_dedup {r : List Int} {x : Int} (h : x ∈ r) : (dedup r).idxOf x = (dedup (r.take (r.idxOf x))).length := by
  have hlt := List.idxOf_lt_length_of_mem h
  have e : r = (r.take (r.idxOf x) ++ [x]) ++ r.drop (r.idxOf x + 1) := by
    rw [List.append_assoc]
    conv => lhs; rw [← List.take_append_drop (r.idxOf x) r]
    rw [← List.getElem_cons_drop (h := hlt), List.getElem_idxOf hlt]
    rfl
  have hn : x ∉ r.take (r.idxOf x) := fun z => by
    obtain ⟨i, hi, e2⟩ := List.getElem_of_mem z
    have hi2 : i < r.idxOf x := by rw [List.length_take] at hi; omega
    rw [List.getElem_take] at e2
    have := List.not_of_lt_findIdx (p := (· == x)) (xs := r) hi2
    simp [e2] at this
  obtain ⟨t, ht⟩ := dedup_pre (r.take (r.idxOf x) ++ [x]) (r.drop (r.idxOf x + 1))
  have h2 : dedup r = dedup (r.take (r.idxOf x)) ++ [x] ++ t := by
    conv => lhs; rw [e]
    rw [ht, dedup_step, if_neg fun z => hn (mem_dedup.mp z)]
  rw [h2, List.append_assoc, List.idxOf_append, if_neg fun z => hn (mem_dedup.mp z)]
  simp
theorem dedup_cons (x : Int) (r : List Int) : dedup (x :: r) = x :: (dedup r).erase x := by
  induction r using snoc_ind with
  | h0 => rfl
  | hs r y ih =>
    have e : x :: (r ++ [y]) = (x :: r) ++ [y] := rfl
    rw [e, dedup_step, dedup_step, ih]
    by_cases hy : y = x
    · subst hy
      rw [if_pos (List.mem_cons_self ..)]
      split
      · rfl
      · rename_i h
        rw [List.erase_append, if_neg h, List.erase_of_not_mem h]
        simp
    · have hm : y ∈ x :: (dedup r).erase x ↔ y ∈ dedup r := by
        rw [List.mem_cons, List.mem_erase_of_ne hy]
        exact ⟨fun z => z.resolve_left hy, .inr⟩
      by_cases h : y ∈ dedup r
      · rw [if_pos (hm.mpr h), if_pos h]
      · rw [if_neg fun z => h (hm.mp z), if_neg h, List.erase_append]
        split
        · rfl
        · rename_i h2
          rw [List.erase_of_not_mem h2, List.erase_of_not_mem (l := [y]) (by simp; exact fun z => hy z.symm)]
          rfl
/-- the recency rank of a sign behind what was seen, the last first -/
def rkr (r : List Int) (x : Int) : Int := if x ∈ r then 1 + ((dedup r).idxOf x : Nat) else 0
def ranksOf (xs : List Int) : List Int := (List.range xs.length).map fun i => rkr (xs.take i).reverse (xs.getD i 0)
theorem seg_eq {xs : List Int} {i k : Nat} (hi : i ≤ xs.length) (hk : k ≤ i) : (xs.drop (i - k)).take k = ((xs.take i).reverse.take k).reverse := by
  rw [List.take_reverse, List.reverse_reverse, List.length_take, Nat.min_eq_left hi, List.drop_take]
  congr 1
  omega
theorem cutD_both {α : Type} {xs : List α} {a b : Nat} (h : a ≤ b) (hb : b ≤ xs.length) : cutD xs (some (a : Int)) (some (b : Int)) = (xs.drop a).take (b - a) := by
  unfold cutD
  rw [HT.sIx_nat, HT.sIx_nat, show min a xs.length = a by omega, show min b xs.length = b by omega]
theorem p_rank_at {xs : List Int} {i : Nat} {x : Int} {S : Sto} {P : D → Sto → Prop} {R : RX} (hl : xs.length ≤ 1000) (hx : xs[i]? = some x) (h : P (.int (rkr (xs.take i).reverse x)) S) :
    w_rank_at [.lst ((dist xs).map D.int), .lst ((can xs).map D.int), .int (i : Int)] S P R := by
  obtain ⟨hlt, hn⟩ := List.getElem?_eq_some_iff.mp hx
  have hix : dIx (.lst ((dist xs).map D.int)) (.int (i : Int)) = some (.int (dlr (xs.take i).reverse x)) := atI_nat (by rw [List.getElem?_map, dl_at hx]; rfl)
  simp only [w_rank_at, gSeq, gRet, gRetN, gExpr, gAsg, gIf, gNext, gKill, gDrop, gBrk, gCnt, gNever, gFor, gAug, gOwn, gPut, gDPut, gSprPut, gObjPut, gPar, eObj, eRev, gtName, gtTup, gtCons, gtNil, seqOf, eC, eVar, eUn, eBin, eChain, eAnd, eOr, eNot, eOrT, eIf, tE, tTru, DL.tAnd, DL.tOr, DL.tNot, DL.tYes, aNil, aCons, eLst, eTup, eCall, eCallP, eCallB, aDef, eFn, eIsI, eMt, eGet2, eSpr, oNone, oSome, eSl, eSlX, eSlN, gLPut, gTPut, gOwnAsg, gObjApp, gObjIns, eNewObj, eObjPop, eObjR, eObjL, eObjLen, eObjEnd, eSort, eSortSet, eLstRg, gPar0, sIn, eLc, iSeq, DL.iRng1, DL.iRng2, DL.iEnum, DL.iZip, DL.iStr, killL, fnW, fnWo, eNever, tNever, List.getElem?_cons_zero, List.getElem?_cons_succ, List.set_cons_zero, List.set_cons_succ, List.map_cons, List.map_nil, List.cons_append, List.nil_append, List.append_nil, List.replicate_succ, List.replicate_zero, List.length_cons, List.length_nil, List.foldl_cons, List.foldl_nil, Nat.zero_add, Nat.reduceAdd, Nat.reduceSub, ex_some, ex_bl, ex_int, ex_obj, ex_str, ex_lst, ex_cons, true_and, and_true, dAdd_int, dSub_int, dCmp_int, dNeg_int, Option.some.injEq, exists_eq_left', exists_eq_left, hix, dEq_int]
  by_cases hm : x ∈ (xs.take i).reverse
  · have e0 : dlr (xs.take i).reverse x = ((xs.take i).reverse.idxOf x : Int) + 1 := if_pos hm
    have hk := List.idxOf_lt_length_of_mem hm
    rw [List.length_reverse, List.length_take, Nat.min_eq_left (by omega)] at hk
    have hne : (dlr (xs.take i).reverse x == 0) = false := by rw [e0]; simp; omega
    rw [hne]
    simp only [Bool.false_eq_true, if_false]
    have hlo : (i : Int) - dlr (xs.take i).reverse x + 1 = ((i - (xs.take i).reverse.idxOf x : Nat) : Int) := by rw [e0]; omega
    have hsl : dSl (.lst ((can xs).map D.int)) (some ((i : Int) - dlr (xs.take i).reverse x + 1)) (some (i : Int)) = some (.lst (((((xs.take i).reverse.take ((xs.take i).reverse.idxOf x)).reverse).map (rk xs)).map D.int)) := by
      rw [hlo]
      show some (D.lst (cutD _ _ _)) = _
      rw [cutD_both (by omega) (by rw [List.length_map, can_len]; omega), ← seg_eq (by omega) (by omega)]
      unfold can
      rw [show i - (i - (xs.take i).reverse.idxOf x) = (xs.take i).reverse.idxOf x by omega]
      simp only [List.map_drop, List.map_take]
    rw [hsl]
    simp only [List.getElem?_cons_zero, List.getElem?_cons_succ, List.set_cons_zero, List.set_cons_succ, List.map_cons, List.map_nil, List.cons_append, List.nil_append, List.append_nil, List.replicate_succ, List.replicate_zero, List.length_cons, List.length_nil, List.foldl_cons, List.foldl_nil, Nat.zero_add, Nat.reduceAdd, Nat.reduceSub, ex_some, ex_bl, ex_int, ex_obj, ex_str, ex_lst, ex_cons, true_and, and_true, dAdd_int, dSub_int, dCmp_int, dNeg_int, Option.some.injEq, exists_eq_left', exists_eq_left]
    have hsub : ∀ y ∈ ((xs.take i).reverse.take ((xs.take i).reverse.idxOf x)).reverse, y ∈ xs := fun y hy => by
      have := List.mem_of_mem_take (List.mem_reverse.mp hy)
      exact List.mem_of_mem_take (List.mem_reverse.mp this)
    rw [dLenSet_any (by rw [List.length_map, List.length_reverse, List.length_take]; omega), dedup_map _ ((rk_inj xs).sub hsub), List.length_map]
    simp only [List.getElem?_cons_zero, List.getElem?_cons_succ, List.set_cons_zero, List.set_cons_succ, List.map_cons, List.map_nil, List.cons_append, List.nil_append, List.append_nil, List.replicate_succ, List.replicate_zero, List.length_cons, List.length_nil, List.foldl_cons, List.foldl_nil, Nat.zero_add, Nat.reduceAdd, Nat.reduceSub, ex_some, ex_bl, ex_int, ex_obj, ex_str, ex_lst, ex_cons, true_and, and_true, dAdd_int, dSub_int, dCmp_int, dNeg_int, Option.some.injEq, exists_eq_left', exists_eq_left]
    have e1 : rkr (xs.take i).reverse x = 1 + ((dedup (((xs.take i).reverse.take ((xs.take i).reverse.idxOf x)).reverse)).length : Nat) := by
      unfold rkr
      rw [if_pos hm, idx_dedup hm, dedup_same_len (l := ((xs.take i).reverse.take ((xs.take i).reverse.idxOf x)).reverse) (fun y => List.mem_reverse)]
    rw [← e1]
    exact h
  · have e0 : dlr (xs.take i).reverse x = 0 := if_neg hm
    have e1 : rkr (xs.take i).reverse x = 0 := if_neg hm
    rw [e0]
    rw [e1] at h
    simpa using h
theorem p_recency_ranks {xs : List Int} {S : Sto} {P : D → Sto → Prop} {R : RX} (hl : xs.length ≤ 400) (h : P (.lst ((ranksOf xs).map D.int)) S) : w_recency_ranks [.lst ((dist xs).map D.int)] S P R := by
  have hline := line_eq
  simp only [w_recency_ranks, gSeq, gRet, gRetN, gExpr, gAsg, gIf, gNext, gKill, gDrop, gBrk, gCnt, gNever, gFor, gAug, gOwn, gPut, gDPut, gSprPut, gObjPut, gPar, eObj, eRev, gtName, gtTup, gtCons, gtNil, seqOf, eC, eVar, eUn, eBin, eChain, eAnd, eOr, eNot, eOrT, eIf, tE, tTru, DL.tAnd, DL.tOr, DL.tNot, DL.tYes, aNil, aCons, eLst, eTup, eCall, eCallP, eCallB, aDef, eFn, eIsI, eMt, eGet2, eSpr, oNone, oSome, eSl, eSlX, eSlN, gLPut, gTPut, gOwnAsg, gObjApp, gObjIns, eNewObj, eObjPop, eObjR, eObjL, eObjLen, eObjEnd, eSort, eSortSet, eLstRg, gPar0, sIn, eLc, iSeq, DL.iRng1, DL.iRng2, DL.iEnum, DL.iZip, DL.iStr, killL, fnW, fnWo, eNever, tNever, List.getElem?_cons_zero, List.getElem?_cons_succ, List.set_cons_zero, List.set_cons_succ, List.map_cons, List.map_nil, List.cons_append, List.nil_append, List.append_nil, List.replicate_succ, List.replicate_zero, List.length_cons, List.length_nil, List.foldl_cons, List.foldl_nil, Nat.zero_add, Nat.reduceAdd, Nat.reduceSub, ex_some, ex_bl, ex_int, ex_obj, ex_str, ex_lst, ex_cons, true_and, and_true, dAdd_int, dSub_int, dCmp_int, dNeg_int, Option.some.injEq, exists_eq_left', exists_eq_left]
  refine p_checked (VD_dist hl) ?_
  refine p_ids_of (by omega) ?_
  simp only [fLen_ints, List.getElem?_cons_zero, List.getElem?_cons_succ, List.set_cons_zero, List.set_cons_succ, List.map_cons, List.map_nil, List.cons_append, List.nil_append, List.append_nil, List.replicate_succ, List.replicate_zero, List.length_cons, List.length_nil, List.foldl_cons, List.foldl_nil, Nat.zero_add, Nat.reduceAdd, Nat.reduceSub, ex_some, ex_bl, ex_int, ex_obj, ex_str, ex_lst, ex_cons, true_and, and_true, dAdd_int, dSub_int, dCmp_int, dNeg_int, Option.some.injEq, exists_eq_left', exists_eq_left, dist_len]
  refine ⟨by omega, by omega, ?_, ?_⟩
  · rw [rngD_len]; omega
  · unfold rngD
    rw [Int.toNat_natCast]
    refine lcL_mapOf (fun i : Nat => D.int (0 + (i : Int))) (fun i => D.int (rkr (xs.take i).reverse (xs.getD i 0))) (fun i hi Q hQ => ?_) ?_
    · have hi := List.mem_range.mp hi
      simp only [gSeq, gRet, gRetN, gExpr, gAsg, gIf, gNext, gKill, gDrop, gBrk, gCnt, gNever, gFor, gAug, gOwn, gPut, gDPut, gSprPut, gObjPut, gPar, eObj, eRev, gtName, gtTup, gtCons, gtNil, seqOf, eC, eVar, eUn, eBin, eChain, eAnd, eOr, eNot, eOrT, eIf, tE, tTru, DL.tAnd, DL.tOr, DL.tNot, DL.tYes, aNil, aCons, eLst, eTup, eCall, eCallP, eCallB, aDef, eFn, eIsI, eMt, eGet2, eSpr, oNone, oSome, eSl, eSlX, eSlN, gLPut, gTPut, gOwnAsg, gObjApp, gObjIns, eNewObj, eObjPop, eObjR, eObjL, eObjLen, eObjEnd, eSort, eSortSet, eLstRg, gPar0, sIn, eLc, iSeq, DL.iRng1, DL.iRng2, DL.iEnum, DL.iZip, DL.iStr, killL, fnW, fnWo, eNever, tNever, List.getElem?_cons_zero, List.getElem?_cons_succ, List.set_cons_zero, List.set_cons_succ, List.map_cons, List.map_nil, List.cons_append, List.nil_append, List.append_nil, List.replicate_succ, List.replicate_zero, List.length_cons, List.length_nil, List.foldl_cons, List.foldl_nil, Nat.zero_add, Nat.reduceAdd, Nat.reduceSub, ex_some, ex_bl, ex_int, ex_obj, ex_str, ex_lst, ex_cons, true_and, and_true, dAdd_int, dSub_int, dCmp_int, dNeg_int, Option.some.injEq, exists_eq_left', exists_eq_left, Int.zero_add]
      refine p_rank_at (by omega) (List.getElem?_eq_getElem hi) ?_
      have e : xs.getD i 0 = xs[i] := by simp [List.getD, hi]
      rw [e] at hQ
      exact hQ
    · rw [List.nil_append]
      have e : (ranksOf xs).map D.int = (List.range xs.length).map fun i => D.int (rkr (xs.take i).reverse (xs.getD i 0)) := by unfold ranksOf; rw [List.map_map]; rfl
      rw [← e]
      exact h
theorem ranks_get {xs : List Int} {i : Nat} {x : Int} (hx : xs[i]? = some x) : (ranksOf xs)[i]? = some (rkr (xs.take i).reverse x) := by
  obtain ⟨hlt, hn⟩ := List.getElem?_eq_some_iff.mp hx
  unfold ranksOf
  rw [List.getElem?_map, List.getElem?_range hlt]
  simp [List.getD, hx]
theorem ranks_len (xs : List Int) : (ranksOf xs).length = xs.length := by unfold ranksOf; rw [List.length_map, List.length_range]
theorem atI_first {z : D} {l r : List D} : L2.atI (l.take 0 ++ [z] ++ r) 0 = some z := by
  rw [List.take_zero]
  exact atI_nat (n := 0) (xs := [] ++ [z] ++ r) rfl
theorem map_erase {α β : Type} {f : α → β} : ∀ (l : List α) (i : Nat), (l.map f).eraseIdx i = (l.eraseIdx i).map f
  | [], _ => rfl
  | _ :: _, 0 => rfl
  | x :: l, i + 1 => by simp [map_erase l i]
theorem p_distances_from_ranks {xs : List Int} {S : Sto} {P : D → Sto → Prop} {R : RX} (hl : xs.length ≤ 400) (h : P (.lst ((dist xs).map D.int)) S) : fnSub w_distances_from_ranks [.lst ((ranksOf xs).map D.int)] S P R := by
  have hline := line_eq
  unfold fnSub
  simp only [w_distances_from_ranks, gSeq, gRet, gRetN, gExpr, gAsg, gIf, gNext, gKill, gDrop, gBrk, gCnt, gNever, gFor, gAug, gOwn, gPut, gDPut, gSprPut, gObjPut, gPar, eObj, eRev, gtName, gtTup, gtCons, gtNil, seqOf, eC, eVar, eUn, eBin, eChain, eAnd, eOr, eNot, eOrT, eIf, tE, tTru, DL.tAnd, DL.tOr, DL.tNot, DL.tYes, aNil, aCons, eLst, eTup, eCall, eCallP, eCallB, aDef, eFn, eIsI, eMt, eGet2, eSpr, oNone, oSome, eSl, eSlX, eSlN, gLPut, gTPut, gOwnAsg, gObjApp, gObjIns, eNewObj, eObjPop, eObjR, eObjL, eObjLen, eObjEnd, eSort, eSortSet, eLstRg, gPar0, sIn, eLc, iSeq, DL.iRng1, DL.iRng2, DL.iEnum, DL.iZip, DL.iStr, killL, fnW, fnWo, eNever, tNever, List.getElem?_cons_zero, List.getElem?_cons_succ, List.set_cons_zero, List.set_cons_succ, List.map_cons, List.map_nil, List.cons_append, List.nil_append, List.append_nil, List.replicate_succ, List.replicate_zero, List.length_cons, List.length_nil, List.foldl_cons, List.foldl_nil, Nat.zero_add, Nat.reduceAdd, Nat.reduceSub, ex_some, ex_bl, ex_int, ex_obj, ex_str, ex_lst, ex_cons, true_and, and_true, dAdd_int, dSub_int, dCmp_int, dNeg_int, Option.some.injEq, exists_eq_left', exists_eq_left, itemsOf]
  refine p_is_sequence (.inl rfl) ⟨_, rfl, ?_⟩
  simp only [Bool.not_true, Bool.false_eq_true, if_false]
  refine ⟨by omega, by omega, fun p hp => ?_⟩
  have hget : ∀ ds, (S.upd p (.lst ds)) p = some (.lst ds) := fun ds => Sto.upd_same _ _ _
  refine forL_inv (fun i Δ S' => ∃ c3 : Option D, i ≤ xs.length ∧ S' = S.upd p (.lst (((dedup (xs.take i).reverse).map (rk xs)).map D.int)) ∧ Δ = [some (.lst ((ranksOf xs).map D.int)), some (.lst (((xs.take i).map (rk xs)).map D.int)), some (.obj p), c3]) ⟨none, by omega, rfl, rfl⟩ ?_ ?_
  · rintro i y Δ S' Nx hy ⟨c3, hi, rfl, rfl⟩ hN
    rw [List.getElem?_map] at hy
    have hlt : i < xs.length := by
      rcases Nat.lt_or_ge i xs.length with z | z
      · exact z
      · rw [List.getElem?_eq_none (by rw [ranks_len]; exact z)] at hy; cases hy
    obtain ⟨n, hd⟩ : ∃ n, xs[i]? = some n := ⟨_, List.getElem?_eq_getElem hlt⟩
    rw [ranks_get hd] at hy
    cases hy
    have htk : xs.take (i + 1) = xs.take i ++ [n] := by rw [List.take_succ, hd]; rfl
    have hrev : (xs.take (i + 1)).reverse = n :: (xs.take i).reverse := by rw [htk, List.reverse_append]; rfl
    have hrl : (dedup (xs.take i).reverse).length ≤ i := Nat.le_trans (dedup_le _) (by rw [List.length_reverse, List.length_take]; omega)
    have hrk : rkr (xs.take i).reverse n ≤ ((dedup (xs.take i).reverse).length : Int) ∧ 0 ≤ rkr (xs.take i).reverse n := by
      unfold rkr
      split
      · rename_i hm
        have := List.idxOf_lt_length_of_mem (mem_dedup.mpr hm)
        omega
      · omega
    have happ : oAppend (.lst (((xs.take i).map (rk xs)).map D.int)) [.int (rk xs n)] = some (.lst (((xs.take (i + 1)).map (rk xs)).map D.int), .non) := by
      show (if _ then _ else none) = _
      rw [if_pos (by rw [List.length_map, List.length_map, List.length_take]; omega), htk, List.map_append, List.map_append]
      rfl
    simp only [gSeq, gRet, gRetN, gExpr, gAsg, gIf, gNext, gKill, gDrop, gBrk, gCnt, gNever, gFor, gAug, gOwn, gPut, gDPut, gSprPut, gObjPut, gPar, eObj, eRev, gtName, gtTup, gtCons, gtNil, seqOf, eC, eVar, eUn, eBin, eChain, eAnd, eOr, eNot, eOrT, eIf, tE, tTru, DL.tAnd, DL.tOr, DL.tNot, DL.tYes, aNil, aCons, eLst, eTup, eCall, eCallP, eCallB, aDef, eFn, eIsI, eMt, eGet2, eSpr, oNone, oSome, eSl, eSlX, eSlN, gLPut, gTPut, gOwnAsg, gObjApp, gObjIns, eNewObj, eObjPop, eObjR, eObjL, eObjLen, eObjEnd, eSort, eSortSet, eLstRg, gPar0, sIn, eLc, iSeq, DL.iRng1, DL.iRng2, DL.iEnum, DL.iZip, DL.iStr, killL, fnW, fnWo, eNever, tNever, List.getElem?_cons_zero, List.getElem?_cons_succ, List.set_cons_zero, List.set_cons_succ, List.map_cons, List.map_nil, List.cons_append, List.nil_append, List.append_nil, List.replicate_succ, List.replicate_zero, List.length_cons, List.length_nil, List.foldl_cons, List.foldl_nil, Nat.zero_add, Nat.reduceAdd, Nat.reduceSub, ex_some, ex_bl, ex_int, ex_obj, ex_str, ex_lst, ex_cons, true_and, and_true, dAdd_int, dSub_int, dCmp_int, dNeg_int, Option.some.injEq, exists_eq_left', exists_eq_left]
    refine ⟨p, _, rfl, hget _, ?_⟩
    refine p_is_integer ⟨_, rfl, ?_⟩
    rw [List.length_map, List.length_map, decide_eq_true hrk.2, decide_eq_true hrk.1]
    simp only [Bool.and_true, Bool.not_true, Bool.false_eq_true, if_false]
    refine ⟨⟨_, hget _⟩, ?_⟩
    have hend : ∀ S1, S1 = S.upd p (.lst (((dedup (n :: (xs.take i).reverse)).map (rk xs)).map D.int)) → Nx [some (.lst ((ranksOf xs).map D.int)), some (.lst (((xs.take (i + 1)).map (rk xs)).map D.int)), some (.obj p), some (.int (rkr (xs.take i).reverse n))] S1 := fun S1 e => hN _ _ ⟨_, by omega, by rw [e, hrev], rfl⟩
    by_cases hm : n ∈ (xs.take i).reverse
    · have e0 : rkr (xs.take i).reverse n = 1 + ((dedup (xs.take i).reverse).idxOf n : Nat) := if_pos hm
      have hix := List.idxOf_lt_length_of_mem (mem_dedup.mpr hm)
      rw [decide_eq_true (show 0 < rkr (xs.take i).reverse n by omega)]
      simp only [if_true]
      refine ⟨⟨_, hget _⟩, _, (dedup (xs.take i).reverse).idxOf n, .int (rk xs n), hget _, by rw [List.length_map, List.length_map]; omega, by congr 1; omega, ?_, ?_⟩
      · rw [List.getElem?_map, List.getElem?_map, List.getElem?_eq_getElem hix, List.getElem_idxOf hix]
        rfl
      · rw [Sto.upd_upd]
        refine ⟨_, 0, hget _, ?_, rfl, Nat.zero_le _, ?_⟩
        · rw [List.length_eraseIdx, List.length_map, List.length_map]; split <;> omega
        · rw [Sto.upd_upd]
          refine ⟨rfl, p, _, 0, .int (rk xs n), rfl, hget _, rfl, atI_first, _, _, happ, hend _ ?_⟩
          rw [dedup_cons, List.erase_eq_eraseIdx_of_idxOf rfl]
          simp only [List.take_zero, List.drop_zero, List.nil_append, List.map_cons, List.cons_append, map_erase]
    · have e0 : rkr (xs.take i).reverse n = 0 := if_neg hm
      have hdn : n ∉ dedup (xs.take i).reverse := fun z => hm (mem_dedup.mp z)
      rw [decide_eq_false (show ¬ 0 < rkr (xs.take i).reverse n by omega)]
      simp only [Bool.false_eq_true, if_false]
      have hrkn : rk xs n = ((dedup (xs.take i).reverse).length : Int) := by
        have hxs : xs = xs.take (i + 1) ++ xs.drop (i + 1) := (List.take_append_drop _ _).symm
        conv => lhs; rw [hxs]
        rw [rk_pre (by rw [htk]; simp), htk]
        have hni : n ∉ dedup (xs.take i) := fun z => hm (List.mem_reverse.mpr (mem_dedup.mp z))
        unfold rk
        rw [dedup_step, if_neg hni, List.idxOf_append, if_neg hni, dedup_same_len (l := (xs.take i).reverse) fun x => List.mem_reverse]
        simp
      refine ⟨p, _, rfl, hget _, ?_⟩
      refine ⟨_, 0, hget _, by rw [List.length_map, List.length_map]; omega, rfl, Nat.zero_le _, ?_⟩
      rw [Sto.upd_upd]
      have hz : [D.int ((((dedup (xs.take i).reverse).map (rk xs)).map D.int).length : Int)] = [D.int (rk xs n)] := by rw [hrkn, List.length_map, List.length_map]
      rw [hz]
      refine ⟨rfl, p, _, 0, .int (rk xs n), rfl, hget _, rfl, atI_first, _, _, happ, hend _ ?_⟩
      rw [dedup_cons, List.erase_of_not_mem hdn]
      rfl
  · rintro Δ S' ⟨c3, hi, rfl, rfl⟩
    rw [List.length_map, ranks_len, List.take_length]
    simp only [List.getElem?_cons_zero, List.getElem?_cons_succ, List.set_cons_zero, List.set_cons_succ, List.map_cons, List.map_nil, List.cons_append, List.nil_append, List.append_nil, List.replicate_succ, List.replicate_zero, List.length_cons, List.length_nil, List.foldl_cons, List.foldl_nil, Nat.zero_add, Nat.reduceAdd, Nat.reduceSub, ex_some, ex_bl, ex_int, ex_obj, ex_str, ex_lst, ex_cons, true_and, and_true, dAdd_int, dSub_int, dCmp_int, dNeg_int, Option.some.injEq, exists_eq_left', exists_eq_left]
    refine p_distances_by (xs := xs.map (rk xs)) (by rw [List.length_map]; omega) ⟨S, ?_, ?_⟩
    · exact SubS.upd hp
    · have e : dist (xs.map (rk xs)) = dist xs := dist_can xs
      rw [e]
      exact h
/-! ### names -/
theorem lcL_inv' {g : WG} {t : WT} {e : WE} {Δ : DL.Env} (I : Nat → List D → Sto → Prop) {P : D → Sto → Prop} : ∀ (xs : List D) (n : Nat) (acc : List D) (S : Sto), I n acc S →
    (∀ i x acc S (Nx : List D → Sto → Prop), xs[i]? = some x → I (n + i) acc S → (∀ acc' S', I (n + i + 1) acc' S' → Nx acc' S') → g x Δ fun Δ1 => t Δ1 S (fun k S1 => if k = true then e Δ1 S1 (fun d S2 => Nx (acc ++ [d]) S2) noR else Nx acc S1) noR) →
    (∀ acc S, I (n + xs.length) acc S → P (.lst acc) S) → lcL g t e Δ xs acc S P
  | [], n, acc, S, h0, hs, hd => hd acc S h0
  | x :: xs, n, acc, S, h0, hs, hd => by
    unfold lcL
    exact hs 0 x acc S (fun acc S1 => lcL g t e Δ xs acc S1 P) rfl h0 fun acc' S' h => lcL_inv' I xs (n + 1) acc' S' h (fun i y acc S Nx hy hI hN => by
      have e : n + 1 + i = n + (i + 1) := by omega
      rw [e] at hI hN
      exact hs (i + 1) y acc S Nx (by simpa using hy) hI hN) (fun acc S hI => hd acc S (by
      have e : n + 1 + xs.length = n + (x :: xs).length := by simp; omega
      rwa [e] at hI))
theorem lcL_inv {g : WG} {t : WT} {e : WE} {Δ : DL.Env} (I : Nat → List D → Sto → Prop) {P : D → Sto → Prop} {xs : List D} {S : Sto} (h0 : I 0 [] S)
    (hs : ∀ i x acc S (Nx : List D → Sto → Prop), xs[i]? = some x → I i acc S → (∀ acc' S', I (i + 1) acc' S' → Nx acc' S') → g x Δ fun Δ1 => t Δ1 S (fun k S1 => if k = true then e Δ1 S1 (fun d S2 => Nx (acc ++ [d]) S2) noR else Nx acc S1) noR)
    (hd : ∀ acc S, I xs.length acc S → P (.lst acc) S) : lcL g t e Δ xs [] S P :=
  lcL_inv' I xs 0 [] S h0 (fun i x acc S Nx hx hI hN => hs i x acc S Nx hx (by rwa [Nat.zero_add] at hI) (by rwa [Nat.zero_add] at hN)) fun acc S hI => hd acc S (by rwa [Nat.zero_add] at hI)
theorem eraseIdx_perm {α : Type} : ∀ (l : List α) (i : Nat) (x : α), l[i]? = some x → l.Perm (x :: l.eraseIdx i)
  | [], i, x, h => by simp at h
  | y :: l, 0, x, h => by simp at h; subst h; exact List.Perm.refl _
  | y :: l, i + 1, x, h => by
    have := eraseIdx_perm l i x (by simpa using h)
    exact (List.Perm.cons y this).trans (List.Perm.swap ..)
theorem p_shuffled {a m : Nat} {em : Int → D} {l : List Int} {S : Sto} {P : D → Sto → Prop} {R : RX} (hs : S a = some (.bag m)) (hm : m + 2000 < 2 ^ 60) (hl : l.length ≤ 1000)
    (h : ∀ (z : List Int) (m' : Nat), z.Perm l → m' ≤ m + l.length → P (.lst (z.map em)) (S.upd a (.bag m'))) : fnSub w__law_shuffled [.obj a, .lst (l.map em)] S P R := by
  have hline := line_eq
  have hlen : fLen [.lst (l.map em)] = some (.int (l.length : Int)) := by simp [fLen, dLen]
  unfold fnSub
  simp only [w__law_shuffled, gSeq, gRet, gRetN, gExpr, gAsg, gIf, gNext, gKill, gDrop, gBrk, gCnt, gNever, gFor, gAug, gOwn, gPut, gDPut, gSprPut, gObjPut, gPar, eObj, eRev, gtName, gtTup, gtCons, gtNil, seqOf, eC, eVar, eUn, eBin, eChain, eAnd, eOr, eNot, eOrT, eIf, tE, tTru, DL.tAnd, DL.tOr, DL.tNot, DL.tYes, aNil, aCons, eLst, eTup, eCall, eCallP, eCallB, aDef, eFn, eIsI, eMt, eGet2, eSpr, oNone, oSome, eSl, eSlX, eSlN, gLPut, gTPut, gOwnAsg, gObjApp, gObjIns, eNewObj, eObjPop, eObjR, eObjL, eObjLen, eObjEnd, eSort, eSortSet, eLstRg, gPar0, sIn, eLc, iSeq, DL.iRng1, DL.iRng2, DL.iEnum, DL.iZip, DL.iStr, killL, fnW, fnWo, eNever, tNever, List.getElem?_cons_zero, List.getElem?_cons_succ, List.set_cons_zero, List.set_cons_succ, List.map_cons, List.map_nil, List.cons_append, List.nil_append, List.append_nil, List.replicate_succ, List.replicate_zero, List.length_cons, List.length_nil, List.foldl_cons, List.foldl_nil, Nat.zero_add, Nat.reduceAdd, Nat.reduceSub, ex_some, ex_bl, ex_int, ex_obj, ex_str, ex_lst, ex_cons, true_and, and_true, dAdd_int, dSub_int, dCmp_int, dNeg_int, Option.some.injEq, exists_eq_left', exists_eq_left, fList, hlen]
  intro p hp
  have hap : a ≠ p := fun e => by rw [e, hp] at hs; cases hs
  refine ⟨by omega, by omega, by rw [rngD_len]; omega, ?_⟩
  refine lcL_inv (fun i acc S' => ∃ (u v : List Int) (m' : Nat), i ≤ l.length ∧ (u ++ v).Perm l ∧ u.length = i ∧ acc = u.map em ∧ m' ≤ m + i ∧ S' = (S.upd a (.bag m')).upd p (.lst (v.map em))) ⟨[], l, m, by omega, List.Perm.refl _, rfl, rfl, by omega, ?_⟩ ?_ ?_
  · funext b
    by_cases hb : b = p
    · subst hb; rw [Sto.upd_same, Sto.upd_same]
    · rw [Sto.upd_ne hb, Sto.upd_ne hb]
      by_cases hb2 : b = a
      · subst hb2; rw [Sto.upd_same, hs]
      · rw [Sto.upd_ne hb2]
  · rintro i x acc S' Nx hx ⟨u, v, m', hi, hper, hu, rfl, hm', rfl⟩ hN
    have hi2 : i < l.length := by
      have := (List.getElem?_eq_some_iff.mp hx).1
      rw [rngD_len] at this
      exact this
    have hvl : v.length = l.length - i := by
      have := hper.length_eq
      rw [List.length_append] at this
      omega
    simp only [gSeq, gRet, gRetN, gExpr, gAsg, gIf, gNext, gKill, gDrop, gBrk, gCnt, gNever, gFor, gAug, gOwn, gPut, gDPut, gSprPut, gObjPut, gPar, eObj, eRev, gtName, gtTup, gtCons, gtNil, seqOf, eC, eVar, eUn, eBin, eChain, eAnd, eOr, eNot, eOrT, eIf, tE, tTru, DL.tAnd, DL.tOr, DL.tNot, DL.tYes, aNil, aCons, eLst, eTup, eCall, eCallP, eCallB, aDef, eFn, eIsI, eMt, eGet2, eSpr, oNone, oSome, eSl, eSlX, eSlN, gLPut, gTPut, gOwnAsg, gObjApp, gObjIns, eNewObj, eObjPop, eObjR, eObjL, eObjLen, eObjEnd, eSort, eSortSet, eLstRg, gPar0, sIn, eLc, iSeq, DL.iRng1, DL.iRng2, DL.iEnum, DL.iZip, DL.iStr, killL, fnW, fnWo, eNever, tNever, List.getElem?_cons_zero, List.getElem?_cons_succ, List.set_cons_zero, List.set_cons_succ, List.map_cons, List.map_nil, List.cons_append, List.nil_append, List.append_nil, List.replicate_succ, List.replicate_zero, List.length_cons, List.length_nil, List.foldl_cons, List.foldl_nil, Nat.zero_add, Nat.reduceAdd, Nat.reduceSub, ex_some, ex_bl, ex_int, ex_obj, ex_str, ex_lst, ex_cons, true_and, and_true, dAdd_int, dSub_int, dCmp_int, dNeg_int, Option.some.injEq, exists_eq_left', exists_eq_left, if_true]
    refine ⟨⟨_, Sto.upd_same _ _ _⟩, p, _, rfl, Sto.upd_same _ _ _, ?_⟩
    refine p_draw (m := m') (by rw [Sto.upd_ne hap, Sto.upd_same]) (by omega) (by rw [List.length_map]; omega) (by rw [List.length_map]; omega) fun k k0 k1 => ?_
    rw [List.length_map] at k1
    obtain ⟨j, rfl⟩ := Int.eq_ofNat_of_zero_le k0
    have hj : j < v.length := by omega
    refine ⟨v.map em, j, em v[j], ?_, by rw [List.length_map]; omega, rfl, by rw [List.getElem?_map, List.getElem?_eq_getElem hj]; rfl, ?_⟩
    · rw [Sto.upd_ne hap.symm, Sto.upd_same]
    · refine hN _ _ ⟨u ++ [v[j]], v.eraseIdx j, m' + 1, by omega, ?_, by rw [List.length_append, hu]; rfl, by rw [List.map_append]; rfl, by omega, ?_⟩
      · rw [List.append_assoc]
        refine List.Perm.trans (List.Perm.append_left u ?_) hper
        exact (eraseIdx_perm v j v[j] (List.getElem?_eq_getElem hj)).symm
      · rw [map_erase]
        funext b
        by_cases hb : b = p
        · subst hb; rw [Sto.upd_same, Sto.upd_same]
        · rw [Sto.upd_ne hb, Sto.upd_ne hb]
          by_cases hb2 : b = a
          · subst hb2; rw [Sto.upd_same, Sto.upd_same]
          · rw [Sto.upd_ne hb2, Sto.upd_ne hb, Sto.upd_ne hb2, Sto.upd_ne hb2]
  · rintro acc S' ⟨u, v, m', hi, hper, hu, rfl, hm', rfl⟩
    rw [rngD_len] at hu hm'
    have hv : v = [] := by
      have := hper.length_eq
      rw [List.length_append] at this
      exact List.eq_nil_of_length_eq_zero (by omega)
    subst hv
    rw [List.append_nil] at hper
    refine ⟨S.upd a (.bag m'), SubS.upd (by rw [Sto.upd_ne hap.symm]; exact hp), h u m' hper hm'⟩
theorem strsD {c : Str} {z : List Int} : (z.map fun i => D.str (tx c i)) = z.map (fun i => D.str (tx c i)) := rfl
theorem tx_len {c : Str} {i : Int} (h0 : 0 ≤ i) (h1 : i ≤ 1000) (hc : c.length ≤ 1) : c.length + (numS i).length ≤ 5 := by
  have := numS_len h0 h1
  omega
theorem tx_add {c : Str} {i : Int} (h0 : 0 ≤ i) (h1 : i ≤ 1000) (hc : c.length ≤ 1) : dAdd (.str c) (.str (numS i)) = some (.str (tx c i)) := by
  have := tx_len h0 h1 hc
  have hline := line_eq
  show (if c.length + (numS i).length ≤ LINE then some (D.str (c ++ numS i)) else none) = _
  rw [if_pos (by omega)]
  rfl
theorem pairs_put : ∀ (kvs : List (L2.Key × D)) (acc : List (L2.Key × D)) (k : L2.Key), (kvs.map (·.1)).Nodup →
    DL.getD (kvs.foldl (fun acc kv => putD acc kv.1 kv.2) acc) k = (match kvs.find? (fun kv => decide (kv.1 = k)) with | some q => some q.2 | none => DL.getD acc k)
  | [], acc, k, _ => rfl
  | x :: kvs, acc, k, h => by
    have h2 := List.nodup_cons.mp h
    rw [List.foldl_cons, pairs_put kvs _ k h2.2, List.find?_cons]
    by_cases e : x.1 = k
    · have hn : kvs.find? (fun kv => decide (kv.1 = k)) = none := by
        rw [List.find?_eq_none]
        intro y hy hyk
        have hyk : y.1 = k := by simpa using hyk
        exact h2.1 (by show x.1 ∈ _; rw [e, ← hyk]; exact List.mem_map_of_mem hy)
      rw [hn, decide_eq_true e, getD_putD, if_pos e]
    · rw [decide_eq_false e]
      cases hf : kvs.find? (fun kv => decide (kv.1 = k)) with
      | some q => rfl
      | none => rw [getD_putD, if_neg e]
theorem pairsOf_enum (g : Nat → D) : ∀ (ms : List Int) (i : Nat), pairsOf ((enumZ i ms).map fun p => D.tup [.int p.2, g p.1.toNat]) = some ((enumZ i ms).map fun p => ((Sum.inl p.2 : L2.Key), g p.1.toNat))
  | [], _ => rfl
  | m :: ms, i => by
    unfold enumZ
    rw [List.map_cons, List.map_cons]
    show (keyD (.int m)).bind _ = _
    simp only [keyD, Option.bind_some]
    rw [pairsOf_enum g ms (i + 1)]
    rfl
theorem enumZ_get : ∀ (xs : List Int) (k i : Nat), (enumZ k xs)[i]? = (xs[i]?).map fun x => ((k : Int) + (i : Int), x)
  | [], _, _ => by simp [enumZ]
  | x :: xs, k, 0 => by simp [enumZ]
  | x :: xs, k, i + 1 => by
    unfold enumZ
    rw [List.getElem?_cons_succ, List.getElem?_cons_succ, enumZ_get xs (k + 1) i]
    congr 1
    funext y
    congr 1
    omega
theorem enumZ_mem {xs : List Int} {k : Nat} {p : Int × Int} (h : p ∈ enumZ k xs) : ∃ i : Nat, i < xs.length ∧ p.1 = (k : Int) + i ∧ xs[i]? = some p.2 := by
  obtain ⟨i, hi⟩ := List.mem_iff_getElem?.mp h
  rw [enumZ_get] at hi
  obtain ⟨x, hx, e⟩ := Option.map_eq_some_iff.mp hi
  subst e
  exact ⟨i, (List.getElem?_eq_some_iff.mp hx).1, rfl, hx⟩
theorem p__law_names {a m : Nat} {xs : List Int} {S : Sto} {P : D → Sto → Prop} {R : RX} (hs : S a = some (.bag m)) (hm : m + 3000 < 2 ^ 60) (hl : xs.length ≤ 60)
    (h : ∀ (kds : List (L2.Key × D)) (nu : Int → Int) (m' : Nat), m' ≤ m + 60 → InjOn nu xs → (∀ x ∈ xs, 0 ≤ nu x ∧ nu x ≤ 60) → (∀ x ∈ xs, DL.getD kds (.inl x) = some (.str (tx "n" (nu x)))) → P (.dct kds) (S.upd a (.bag m'))) :
    w__law_names [.obj a, .lst (xs.map D.int)] S P R := by
  have hline := line_eq
  simp only [w__law_names, gSeq, gRet, gRetN, gExpr, gAsg, gIf, gNext, gKill, gDrop, gBrk, gCnt, gNever, gFor, gAug, gOwn, gPut, gDPut, gSprPut, gObjPut, gPar, eObj, eRev, gtName, gtTup, gtCons, gtNil, seqOf, eC, eVar, eUn, eBin, eChain, eAnd, eOr, eNot, eOrT, eIf, tE, tTru, DL.tAnd, DL.tOr, DL.tNot, DL.tYes, aNil, aCons, eLst, eTup, eCall, eCallP, eCallB, aDef, eFn, eIsI, eMt, eGet2, eSpr, oNone, oSome, eSl, eSlX, eSlN, gLPut, gTPut, gOwnAsg, gObjApp, gObjIns, eNewObj, eObjPop, eObjR, eObjL, eObjLen, eObjEnd, eSort, eSortSet, eLstRg, gPar0, sIn, eLc, iSeq, DL.iRng1, DL.iRng2, DL.iEnum, DL.iZip, DL.iStr, killL, fnW, fnWo, eNever, tNever, List.getElem?_cons_zero, List.getElem?_cons_succ, List.set_cons_zero, List.set_cons_succ, List.map_cons, List.map_nil, List.cons_append, List.nil_append, List.append_nil, List.replicate_succ, List.replicate_zero, List.length_cons, List.length_nil, List.foldl_cons, List.foldl_nil, Nat.zero_add, Nat.reduceAdd, Nat.reduceSub, ex_some, ex_bl, ex_int, ex_obj, ex_str, ex_lst, ex_cons, true_and, and_true, dAdd_int, dSub_int, dCmp_int, dNeg_int, Option.some.injEq, exists_eq_left', exists_eq_left]
  refine ⟨_, xs, rfl, intsOf_map xs, by omega, fun ms hp hk => ?_⟩
  have hnd : ms.Nodup := hp.imp fun z => Int.ne_of_lt z
  have hml : ms.length ≤ xs.length := hnd.length_le_of_subset fun x hx => (hk x).mp hx
  simp only [fLen_ints, List.getElem?_cons_zero, List.getElem?_cons_succ, List.set_cons_zero, List.set_cons_succ, List.map_cons, List.map_nil, List.cons_append, List.nil_append, List.append_nil, List.replicate_succ, List.replicate_zero, List.length_cons, List.length_nil, List.foldl_cons, List.foldl_nil, Nat.zero_add, Nat.reduceAdd, Nat.reduceSub, ex_some, ex_bl, ex_int, ex_obj, ex_str, ex_lst, ex_cons, true_and, and_true, dAdd_int, dSub_int, dCmp_int, dNeg_int, Option.some.injEq, exists_eq_left', exists_eq_left]
  refine ⟨by omega, by omega, by rw [rngD_len]; omega, ?_⟩
  unfold rngD
  rw [Int.toNat_natCast]
  refine lcL_mapOf (fun i : Nat => D.int (0 + (i : Int))) (fun i => D.str (tx "n" (i : Int))) (fun i hi Q hQ => ?_) ?_
  · have hi := List.mem_range.mp hi
    simp only [gSeq, gRet, gRetN, gExpr, gAsg, gIf, gNext, gKill, gDrop, gBrk, gCnt, gNever, gFor, gAug, gOwn, gPut, gDPut, gSprPut, gObjPut, gPar, eObj, eRev, gtName, gtTup, gtCons, gtNil, seqOf, eC, eVar, eUn, eBin, eChain, eAnd, eOr, eNot, eOrT, eIf, tE, tTru, DL.tAnd, DL.tOr, DL.tNot, DL.tYes, aNil, aCons, eLst, eTup, eCall, eCallP, eCallB, aDef, eFn, eIsI, eMt, eGet2, eSpr, oNone, oSome, eSl, eSlX, eSlN, gLPut, gTPut, gOwnAsg, gObjApp, gObjIns, eNewObj, eObjPop, eObjR, eObjL, eObjLen, eObjEnd, eSort, eSortSet, eLstRg, gPar0, sIn, eLc, iSeq, DL.iRng1, DL.iRng2, DL.iEnum, DL.iZip, DL.iStr, killL, fnW, fnWo, eNever, tNever, List.getElem?_cons_zero, List.getElem?_cons_succ, List.set_cons_zero, List.set_cons_succ, List.map_cons, List.map_nil, List.cons_append, List.nil_append, List.append_nil, List.replicate_succ, List.replicate_zero, List.length_cons, List.length_nil, List.foldl_cons, List.foldl_nil, Nat.zero_add, Nat.reduceAdd, Nat.reduceSub, ex_some, ex_bl, ex_int, ex_obj, ex_str, ex_lst, ex_cons, true_and, and_true, dAdd_int, dSub_int, dCmp_int, dNeg_int, Option.some.injEq, exists_eq_left', exists_eq_left, Int.zero_add]
    rw [fStr_num (by omega)]
    simp only [List.getElem?_cons_zero, List.getElem?_cons_succ, List.set_cons_zero, List.set_cons_succ, List.map_cons, List.map_nil, List.cons_append, List.nil_append, List.append_nil, List.replicate_succ, List.replicate_zero, List.length_cons, List.length_nil, List.foldl_cons, List.foldl_nil, Nat.zero_add, Nat.reduceAdd, Nat.reduceSub, ex_some, ex_bl, ex_int, ex_obj, ex_str, ex_lst, ex_cons, true_and, and_true, dAdd_int, dSub_int, dCmp_int, dNeg_int, Option.some.injEq, exists_eq_left', exists_eq_left]
    rw [tx_add (by omega) (by omega) (by decide)]
    exact ⟨_, rfl, hQ⟩
  rw [List.nil_append]
  have e : ((List.range ms.length).map fun i : Nat => D.str (tx "n" (i : Int))) = ((List.range ms.length).map fun i : Nat => (i : Int)).map fun i => D.str (tx "n" i) := by rw [List.map_map]; rfl
  rw [e]
  refine p_shuffled hs (by omega) (by rw [List.length_map, List.length_range]; omega) fun z m' hz hm' => ?_
  have hzl : z.length = ms.length := by rw [hz.length_eq, List.length_map, List.length_range]
  have hzn : z.Nodup := hz.nodup_iff.mpr (by
    exact List.Pairwise.map _ (fun a b hne e => hne (Int.ofNat.inj e)) List.nodup_range)
  have hzr : ∀ x ∈ z, 0 ≤ x ∧ x ≤ 60 := fun x hx => by
    have := hz.mem_iff.mp hx
    obtain ⟨i, hi, e⟩ := List.mem_map.mp this
    have := List.mem_range.mp hi
    omega
  rw [List.length_map, List.length_range] at hm'
  simp only [itemsOf, enumD_Z, List.getElem?_cons_zero, List.getElem?_cons_succ, List.set_cons_zero, List.set_cons_succ, List.map_cons, List.map_nil, List.cons_append, List.nil_append, List.append_nil, List.replicate_succ, List.replicate_zero, List.length_cons, List.length_nil, List.foldl_cons, List.foldl_nil, Nat.zero_add, Nat.reduceAdd, Nat.reduceSub, ex_some, ex_bl, ex_int, ex_obj, ex_str, ex_lst, ex_cons, true_and, and_true, dAdd_int, dSub_int, dCmp_int, dNeg_int, Option.some.injEq, exists_eq_left', exists_eq_left]
  refine ⟨by rw [List.length_map, enumZ_len]; omega, ?_⟩
  refine lcL_mapOf (fun p : Int × Int => D.tup [.int p.1, .int p.2]) (fun p => D.tup [.int p.2, D.str (tx "n" (z.getD p.1.toNat 0))]) (fun p hp Q hQ => ?_) ?_
  · obtain ⟨i, hi, e1, e2⟩ := enumZ_mem hp
    rw [Int.natCast_zero, Int.zero_add] at e1
    simp only [gSeq, gRet, gRetN, gExpr, gAsg, gIf, gNext, gKill, gDrop, gBrk, gCnt, gNever, gFor, gAug, gOwn, gPut, gDPut, gSprPut, gObjPut, gPar, eObj, eRev, gtName, gtTup, gtCons, gtNil, seqOf, eC, eVar, eUn, eBin, eChain, eAnd, eOr, eNot, eOrT, eIf, tE, tTru, DL.tAnd, DL.tOr, DL.tNot, DL.tYes, aNil, aCons, eLst, eTup, eCall, eCallP, eCallB, aDef, eFn, eIsI, eMt, eGet2, eSpr, oNone, oSome, eSl, eSlX, eSlN, gLPut, gTPut, gOwnAsg, gObjApp, gObjIns, eNewObj, eObjPop, eObjR, eObjL, eObjLen, eObjEnd, eSort, eSortSet, eLstRg, gPar0, sIn, eLc, iSeq, DL.iRng1, DL.iRng2, DL.iEnum, DL.iZip, DL.iStr, killL, fnW, fnWo, eNever, tNever, List.getElem?_cons_zero, List.getElem?_cons_succ, List.set_cons_zero, List.set_cons_succ, List.map_cons, List.map_nil, List.cons_append, List.nil_append, List.append_nil, List.replicate_succ, List.replicate_zero, List.length_cons, List.length_nil, List.foldl_cons, List.foldl_nil, Nat.zero_add, Nat.reduceAdd, Nat.reduceSub, ex_some, ex_bl, ex_int, ex_obj, ex_str, ex_lst, ex_cons, true_and, and_true, dAdd_int, dSub_int, dCmp_int, dNeg_int, Option.some.injEq, exists_eq_left', exists_eq_left]
    have hix : dIx (.lst (z.map fun i => D.str (tx "n" i))) (.int p.1) = some (.str (tx "n" (z.getD p.1.toNat 0))) := by
      rw [e1]
      refine atI_nat ?_
      have hz2 : i < z.length := by omega
      simp [List.getD, hz2]
    rw [hix]
    exact ⟨_, rfl, by rw [line_eq]; omega, hQ⟩
  · rw [List.nil_append]
    have hpo := pairsOf_enum (fun i => D.str (tx "n" (z.getD i 0))) ms 0
    simp only [fDictP, hpo, Option.map_some, List.getElem?_cons_zero, List.getElem?_cons_succ, List.set_cons_zero, List.set_cons_succ, List.map_cons, List.map_nil, List.cons_append, List.nil_append, List.append_nil, List.replicate_succ, List.replicate_zero, List.length_cons, List.length_nil, List.foldl_cons, List.foldl_nil, Nat.zero_add, Nat.reduceAdd, Nat.reduceSub, ex_some, ex_bl, ex_int, ex_obj, ex_str, ex_lst, ex_cons, true_and, and_true, dAdd_int, dSub_int, dCmp_int, dNeg_int, Option.some.injEq, exists_eq_left', exists_eq_left]
    have hidx : ∀ x ∈ xs, ms.idxOf x < ms.length := fun x hx => List.idxOf_lt_length_of_mem ((hk x).mpr hx)
    have hget : ∀ x (hx : x ∈ xs), z.getD (ms.idxOf x) 0 = z[ms.idxOf x]'(by have := hidx x hx; omega) := fun x hx => by
      have := hidx x hx
      simp [List.getD, show ms.idxOf x < z.length by omega]
    refine h _ (fun x => z.getD (ms.idxOf x) 0) m' (by omega) (fun x hx y hy e => ?_) (fun x hx => ?_) fun x hx => ?_
    · have e : z.getD (ms.idxOf x) 0 = z.getD (ms.idxOf y) 0 := e
      rw [hget x hx, hget y hy] at e
      have e2 := (List.getElem_inj hzn).mp e
      have h1 := hidx x hx
      have h2 := hidx y hy
      rw [← List.getElem_idxOf h1, ← List.getElem_idxOf h2]
      simp only [e2]
    · show 0 ≤ z.getD (ms.idxOf x) 0 ∧ z.getD (ms.idxOf x) 0 ≤ 60
      rw [hget x hx]
      exact hzr _ (List.getElem_mem _)
    · rw [pairs_put]
      · have hx1 := hidx x hx
        cases hf : ((enumZ 0 ms).map fun p => ((Sum.inl p.2 : L2.Key), D.str (tx "n" (z.getD p.1.toNat 0)))).find? (fun kv => decide (kv.1 = (Sum.inl x : L2.Key))) with
        | none =>
          rw [List.find?_eq_none] at hf
          have hmem : ((0 : Int) + (ms.idxOf x : Int), x) ∈ enumZ 0 ms := List.mem_iff_getElem?.mpr ⟨ms.idxOf x, by
            rw [enumZ_get, List.getElem?_eq_getElem hx1, List.getElem_idxOf hx1]; rfl⟩
          exact absurd (decide_eq_true rfl) (hf _ (List.mem_map_of_mem hmem))
        | some q =>
          have hq := List.find?_some hf
          have hqm := List.mem_of_find?_eq_some hf
          obtain ⟨p, hpm, rfl⟩ := List.mem_map.mp hqm
          have hq2 : p.2 = x := by simpa using hq
          obtain ⟨i, hi, e1, e2⟩ := enumZ_mem hpm
          rw [Int.natCast_zero, Int.zero_add] at e1
          rw [hq2] at e2
          have hi2 : ms.idxOf x = i := by
            obtain ⟨h1, h2⟩ := List.getElem?_eq_some_iff.mp e2
            rw [← h2]
            exact hnd.idxOf_getElem i h1
          show some (D.str (tx "n" (z.getD p.1.toNat 0))) = _
          rw [e1, hi2, Int.toNat_natCast]
      · have e3 : (((enumZ 0 ms).map fun p => ((Sum.inl p.2 : L2.Key), D.str (tx "n" (z.getD p.1.toNat 0)))).map (·.1)) = ms.map fun x => (Sum.inl x : L2.Key) := by
          rw [List.map_map]
          have : ((·.1) ∘ fun p : Int × Int => ((Sum.inl p.2 : L2.Key), D.str (tx "n" (z.getD p.1.toNat 0)))) = (fun x => (Sum.inl x : L2.Key)) ∘ (fun p : Int × Int => p.2) := rfl
          rw [this, ← List.map_map, enumZ_snd]
        rw [e3]
        exact List.Pairwise.map _ (fun a b hne e => hne (Sum.inl.inj e)) hnd

/-! ### the same by a renaming -/
theorem rk_last {xs : List Int} {x : Int} : rk (xs ++ [x]) x = if x ∈ xs then rk xs x else ((dedup xs).length : Nat) := by
  by_cases h : x ∈ xs
  · rw [if_pos h, rk_pre h]
  · rw [if_neg h]
    have hn : x ∉ dedup xs := fun z => h (mem_dedup.mp z)
    unfold rk
    rw [dedup_step, if_neg hn, List.idxOf_append, if_neg hn]
    simp
theorem can_snoc (xs : List Int) (x : Int) : can (xs ++ [x]) = can xs ++ [rk (xs ++ [x]) x] := by
  unfold can
  rw [List.map_append]
  congr 1
  exact List.map_congr_left fun y hy => rk_pre hy
theorem can_take (xs : List Int) (p : Nat) : (can xs).take p = can (xs.take p) := by
  have e : xs = xs.take p ++ xs.drop p := (List.take_append_drop p xs).symm
  unfold can
  rw [← List.map_take]
  refine List.map_congr_left fun y hy => ?_
  conv => lhs; rw [e]
  exact rk_pre hy
theorem can_of_dist : ∀ (n : Nat) (xs ys : List Int), xs.length = n → dist xs = dist ys → can xs = can ys
  | 0, xs, ys, hn, h => by
    have hx := List.eq_nil_of_length_eq_zero hn
    have hl : ys.length = 0 := by rw [← dist_len ys, ← h, dist_len]; exact hn
    rw [hx, List.eq_nil_of_length_eq_zero hl]
  | n + 1, xs, ys, hn, h => by
    have hl : ys.length = n + 1 := by rw [← dist_len ys, ← h, dist_len]; exact hn
    have hx : xs ≠ [] := fun e => by rw [e] at hn; cases hn
    have hy : ys ≠ [] := fun e => by rw [e] at hl; cases hl
    have ex := List.dropLast_concat_getLast hx
    have ey := List.dropLast_concat_getLast hy
    generalize xs.getLast hx = x at ex
    generalize ys.getLast hy = y at ey
    have lx : xs.dropLast.length = n := by rw [List.length_dropLast, hn]; rfl
    have ly : ys.dropLast.length = n := by rw [List.length_dropLast, hl]; rfl
    generalize xs.dropLast = us at ex lx
    generalize ys.dropLast = vs at ey ly
    subst ex ey
    rw [dist_snoc, dist_snoc] at h
    obtain ⟨h1, h2⟩ := List.append_inj h (by rw [dist_len, dist_len, lx, ly])
    have ih := can_of_dist n us vs lx h1
    have h3 : dlr us.reverse x = dlr vs.reverse y := by simpa using h2
    rw [can_snoc, can_snoc, ih]
    congr 1
    rw [rk_last, rk_last]
    by_cases hm : x ∈ us
    · have hmr : x ∈ us.reverse := List.mem_reverse.mpr hm
      have hmr2 : y ∈ vs.reverse := by
        by_cases z : y ∈ vs.reverse
        · exact z
        · unfold dlr at h3
          rw [if_pos hmr, if_neg z] at h3
          omega
      have hm2 : y ∈ vs := List.mem_reverse.mp hmr2
      rw [if_pos hm, if_pos hm2]
      unfold dlr at h3
      rw [if_pos hmr, if_pos hmr2] at h3
      have hi : us.reverse.idxOf x = vs.reverse.idxOf y := by omega
      have p1 := dlr_place hmr
      have p2 := dlr_place hmr2
      rw [List.reverse_reverse, List.length_reverse] at p1 p2
      rw [lx, hi] at p1
      rw [ly] at p2
      have q1 : (can us)[n - 1 - vs.reverse.idxOf y]? = some (rk us x) := by unfold can; rw [List.getElem?_map, p1]; rfl
      have q2 : (can vs)[n - 1 - vs.reverse.idxOf y]? = some (rk vs y) := by unfold can; rw [List.getElem?_map, p2]; rfl
      rw [ih, q2] at q1
      have := Option.some.inj q1
      rw [this]
    · have hmr : x ∉ us.reverse := fun z => hm (List.mem_reverse.mp z)
      have hm2 : y ∉ vs := fun z => by
        unfold dlr at h3
        rw [if_neg hmr, if_pos (List.mem_reverse.mpr z)] at h3
        omega
      rw [if_neg hm, if_neg hm2, ← dedup_can us, ih, dedup_can]
theorem dist_iff_can {xs ys : List Int} : dist xs = dist ys ↔ can xs = can ys := ⟨can_of_dist _ xs ys rfl, fun h => by rw [← dist_can xs, h, dist_can]⟩
/-- the same list: the same places are equal -/
theorem dist_pairs {xs ys : List Int} (h : dist xs = dist ys) {i j : Nat} {x x' y y' : Int} (hx : xs[i]? = some x) (hx' : xs[j]? = some x') (hy : ys[i]? = some y) (hy' : ys[j]? = some y') : x = x' ↔ y = y' := by
  have hc := dist_iff_can.mp h
  have c1 : (can xs)[i]? = some (rk xs x) := by unfold can; rw [List.getElem?_map, hx]; rfl
  have c2 : (can xs)[j]? = some (rk xs x') := by unfold can; rw [List.getElem?_map, hx']; rfl
  have c3 : (can ys)[i]? = some (rk ys y) := by unfold can; rw [List.getElem?_map, hy]; rfl
  have c4 : (can ys)[j]? = some (rk ys y') := by unfold can; rw [List.getElem?_map, hy']; rfl
  rw [hc, c3] at c1
  rw [hc, c4] at c2
  have e1 := Option.some.inj c1
  have e2 := Option.some.inj c2
  constructor
  · intro e
    subst e
    exact rk_inj ys y (List.mem_of_getElem? hy) y' (List.mem_of_getElem? hy') (by rw [e1, e2])
  · intro e
    subst e
    exact rk_inj xs x (List.mem_of_getElem? hx) x' (List.mem_of_getElem? hx') (by rw [← e1, ← e2])
theorem dist_of_pairs {xs ys : List Int} (hl : xs.length = ys.length) (h : ∀ (i j : Nat) (x x' y y' : Int), xs[i]? = some x → xs[j]? = some x' → ys[i]? = some y → ys[j]? = some y' → (x = x' ↔ y = y')) : dist xs = dist ys := by
  have hat : ∀ x ∈ xs, ∃ y, xs[xs.idxOf x]? = some x ∧ ys[xs.idxOf x]? = some y ∧ ys.getD (xs.idxOf x) 0 = y := fun x hx => by
    have h1 := List.idxOf_lt_length_of_mem hx
    have h2 : xs.idxOf x < ys.length := by omega
    exact ⟨ys[xs.idxOf x], by rw [List.getElem?_eq_getElem h1, List.getElem_idxOf h1], List.getElem?_eq_getElem h2, by simp [List.getD, h2]⟩
  have e : ys = xs.map fun x => ys.getD (xs.idxOf x) 0 := by
    refine List.ext_getElem? fun i => ?_
    rw [List.getElem?_map]
    cases hx : xs[i]? with
    | none => rw [List.getElem?_eq_none (by have := List.getElem?_eq_none_iff.mp hx; omega)]; rfl
    | some x =>
      obtain ⟨y, a1, a2, a3⟩ := hat x (List.mem_of_getElem? hx)
      have hlt : i < ys.length := by have := (List.getElem?_eq_some_iff.mp hx).1; omega
      show _ = some (ys.getD (xs.idxOf x) 0)
      rw [a3, List.getElem?_eq_getElem hlt]
      congr 1
      exact (h i (xs.idxOf x) x x _ y hx a1 (List.getElem?_eq_getElem hlt) a2).mp rfl
  conv => rhs; rw [e]
  refine (dist_map fun x hx x' hx' e2 => ?_).symm
  obtain ⟨y, a1, a2, a3⟩ := hat x hx
  obtain ⟨y', b1, b2, b3⟩ := hat x' hx'
  have e3 : ys.getD (xs.idxOf x) 0 = ys.getD (xs.idxOf x') 0 := e2
  rw [a3, b3] at e3
  exact (h _ _ x x' y y' a1 b1 a2 b2).mpr e3
/-- a dict of what was seen: each place's partner -/
def AL (g : Int → L2.Key) (v : Int → D) (xs ys : List Int) (i : Nat) (kvs : List (L2.Key × D)) : Prop :=
  (∀ (j : Nat) (x y : Int), j < i → xs[j]? = some x → ys[j]? = some y → DL.getD kvs (g x) = some (v y)) ∧ ∀ x ∈ xs, x ∉ xs.take i → DL.getD kvs (g x) = none
theorem AL.step {g : Int → L2.Key} {v : Int → D} {xs ys : List Int} {i : Nat} {kvs : List (L2.Key × D)} {x y : Int} (h : AL g v xs ys i kvs) (inj : ∀ s ∈ xs, ∀ t ∈ xs, g s = g t → s = t) (hx : xs[i]? = some x) (hy : ys[i]? = some y)
    (ok : ∀ (j : Nat) (y' : Int), j < i → xs[j]? = some x → ys[j]? = some y' → y' = y) : AL g v xs ys (i + 1) (putD kvs (g x) (v y)) := by
  have hxm := List.mem_of_getElem? hx
  refine ⟨fun j x' y' hj hx' hy' => ?_, fun x' hx' hn => ?_⟩
  · rw [getD_putD]
    by_cases e : x = x'
    · subst e
      rw [if_pos rfl]
      by_cases hji : j = i
      · subst hji
        rw [hy] at hy'
        cases hy'
        rfl
      · rw [ok j y' (by omega) hx' hy']
    · rw [if_neg fun z => e (inj x hxm x' (List.mem_of_getElem? hx') z)]
      have hji : j ≠ i := fun z => e (by rw [z, hx] at hx'; exact Option.some.inj hx')
      exact h.1 j x' y' (by omega) hx' hy'
  · rw [List.take_succ, hx] at hn
    have hn' : x' ∉ xs.take i ++ [x] := hn
    rw [List.mem_append, not_or] at hn'
    have hne : x ≠ x' := fun z => hn'.2 (by simp [z])
    rw [getD_putD, if_neg fun z => hne (inj x hxm x' hx' z)]
    exact h.2 x' hx' hn'.1
/-- what .get(x, y) != y asks -/
theorem AL.ask {g : Int → L2.Key} {v : Int → D} {xs ys : List Int} {i : Nat} {kvs : List (L2.Key × D)} {x y : Int} (h : AL g v xs ys i kvs) (vi : ∀ s ∈ ys, ∀ t ∈ ys, v s = v t → s = t) (hl : xs.length ≤ ys.length) (hx : xs[i]? = some x) (hy : ys[i]? = some y) :
    ∃ y' ∈ ys, (DL.getD kvs (g x)).getD (v y) = v y' ∧ (y' = y → ∀ (j : Nat) (y2 : Int), j < i → xs[j]? = some x → ys[j]? = some y2 → y2 = y) ∧ (y' ≠ y → ∃ j : Nat, xs[j]? = some x ∧ ys[j]? = some y') := by
  by_cases hm : x ∈ xs.take i
  · obtain ⟨j, hj⟩ := List.mem_iff_getElem?.mp hm
    have hji : j < i := by
      have := (List.getElem?_eq_some_iff.mp hj).1
      rw [List.length_take] at this
      omega
    rw [List.getElem?_take_of_lt hji] at hj
    have hjy : j < ys.length := by have := (List.getElem?_eq_some_iff.mp hj).1; omega
    have hy1 : ys[j]? = some ys[j] := List.getElem?_eq_getElem hjy
    generalize ys[j] = y' at hy1
    have e1 := h.1 j x _ hji hj hy1
    refine ⟨y', List.mem_of_getElem? hy1, by rw [e1]; rfl, fun e j2 y2 hj2 a1 a2 => ?_, fun _ => ⟨j, hj, hy1⟩⟩
    have e2 := h.1 j2 x y2 hj2 a1 a2
    rw [e1] at e2
    rw [← e]
    exact (vi _ (List.mem_of_getElem? hy1) _ (List.mem_of_getElem? a2) (Option.some.inj e2)).symm
  · have hno : ∀ j : Nat, j < i → xs[j]? ≠ some x := fun j hj e => hm (List.mem_of_getElem? (i := j) (by rw [List.getElem?_take_of_lt hj]; exact e))
    refine ⟨y, List.mem_of_getElem? hy, ?_, fun _ j y2 hj a1 _ => absurd a1 (hno j hj), fun e => absurd rfl e⟩
    rw [h.2 x (List.mem_of_getElem? hx) hm]
    rfl
theorem p__law_alike {c d : Str} {xs ys : List Int} {S : Sto} {P : D → Sto → Prop} {R : RX} (hl : xs.length ≤ 400) (hl2 : ys.length ≤ 400) (hr : ∀ x ∈ xs, 0 ≤ x ∧ x ≤ 1000) (hr2 : ∀ x ∈ ys, 0 ≤ x ∧ x ≤ 1000)
    (h : P (.bl (decide (dist xs = dist ys))) S) : w__law_alike [.lst (xs.map fun i => .str (tx c i)), .lst (ys.map fun i => .str (tx d i))] S P R := by
  have hline := line_eq
  have hfl : ∀ (c : Str) (l : List Int), fLen [.lst (l.map fun i => D.str (tx c i))] = some (.int (l.length : Int)) := fun c l => by simp [fLen, dLen]
  simp only [w__law_alike, gSeq, gRet, gRetN, gExpr, gAsg, gIf, gNext, gKill, gDrop, gBrk, gCnt, gNever, gFor, gAug, gOwn, gPut, gDPut, gSprPut, gObjPut, gPar, eObj, eRev, gtName, gtTup, gtCons, gtNil, seqOf, eC, eVar, eUn, eBin, eChain, eAnd, eOr, eNot, eOrT, eIf, tE, tTru, DL.tAnd, DL.tOr, DL.tNot, DL.tYes, aNil, aCons, eLst, eTup, eCall, eCallP, eCallB, aDef, eFn, eIsI, eMt, eGet2, eSpr, oNone, oSome, eSl, eSlX, eSlN, gLPut, gTPut, gOwnAsg, gObjApp, gObjIns, eNewObj, eObjPop, eObjR, eObjL, eObjLen, eObjEnd, eSort, eSortSet, eLstRg, gPar0, sIn, eLc, iSeq, DL.iRng1, DL.iRng2, DL.iEnum, DL.iZip, DL.iStr, killL, fnW, fnWo, eNever, tNever, List.getElem?_cons_zero, List.getElem?_cons_succ, List.set_cons_zero, List.set_cons_succ, List.map_cons, List.map_nil, List.cons_append, List.nil_append, List.append_nil, List.replicate_succ, List.replicate_zero, List.length_cons, List.length_nil, List.foldl_cons, List.foldl_nil, Nat.zero_add, Nat.reduceAdd, Nat.reduceSub, ex_some, ex_bl, ex_int, ex_obj, ex_str, ex_lst, ex_cons, true_and, and_true, dAdd_int, dSub_int, dCmp_int, dNeg_int, Option.some.injEq, exists_eq_left', exists_eq_left, hfl, dNe_int]
  by_cases hll : xs.length = ys.length
  · rw [show ((xs.length : Int) == (ys.length : Int)) = true by simp [hll]]
    simp only [Bool.not_true, Bool.false_eq_true, if_false]
    have inj : ∀ (c : Str) (l : List Int), (∀ x ∈ l, 0 ≤ x ∧ x ≤ 1000) → ∀ s ∈ l, ∀ t ∈ l, (Sum.inr (tx c s) : L2.Key) = Sum.inr (tx c t) → s = t := fun c l hr s hs t ht e => tx_inj (hr s hs) (hr t ht) (Sum.inr.inj e)
    refine ⟨_, _, rfl, rfl, ?_⟩
    refine forL_inv (fun i Δ S' => ∃ (k1 k2 : List (L2.Key × D)) (c4 c5 : Option D), i ≤ xs.length ∧ S' = S ∧ AL (fun x => .inr (tx c x)) (fun y => .str (tx d y)) xs ys i k1 ∧ AL (fun x => .inr (tx d x)) (fun y => .str (tx c y)) ys xs i k2 ∧ k1.length ≤ i ∧ k2.length ≤ i ∧ Δ = [some (.lst (xs.map fun i => .str (tx c i))), some (.lst (ys.map fun i => .str (tx d i))), some (.dct k1), some (.dct k2), c4, c5])
      ⟨[], [], none, none, by omega, rfl, ⟨fun j _ _ hj => by omega, fun _ _ _ => rfl⟩, ⟨fun j _ _ hj => by omega, fun _ _ _ => rfl⟩, Nat.le_refl _, Nat.le_refl _, rfl⟩ ?_ ?_
    · rintro i z Δ S' Nx hz ⟨k1, k2, c4, c5, hi, rfl, A1, A2, l1, l2, rfl⟩ hN
      have hlt : i < xs.length := by
        have := (List.getElem?_eq_some_iff.mp hz).1
        rw [zipD_len, List.length_map, List.length_map] at this
        omega
      have hx : xs[i]? = some xs[i] := List.getElem?_eq_getElem hlt
      have hy : ys[i]? = some (ys[i]'(by omega)) := List.getElem?_eq_getElem (by omega)
      generalize xs[i] = x at hx
      generalize ys[i]'(by omega) = y at hy
      rw [zipD_get _ _ i (.str (tx c x)) (.str (tx d y)) (by rw [List.getElem?_map, hx]; rfl) (by rw [List.getElem?_map, hy]; rfl)] at hz
      cases hz
      have hxr := hr x (List.mem_of_getElem? hx)
      have hyr := hr2 y (List.mem_of_getElem? hy)
      have g1 : dGet2 (.dct k1) (.str (tx c x)) (.str (tx d y)) = some ((DL.getD k1 (.inr (tx c x))).getD (.str (tx d y))) := rfl
      have g2 : dGet2 (.dct k2) (.str (tx d y)) (.str (tx c x)) = some ((DL.getD k2 (.inr (tx d y))).getD (.str (tx c x))) := rfl
      have bad : dist xs ≠ dist ys → P (.bl false) S' := fun e => by rw [decide_eq_false e] at h; exact h
      have good : (∀ (j : Nat) (y' : Int), j < i → xs[j]? = some x → ys[j]? = some y' → y' = y) → (∀ (j : Nat) (x' : Int), j < i → ys[j]? = some y → xs[j]? = some x' → x' = x) →
          Nx [some (.lst (xs.map fun i => .str (tx c i))), some (.lst (ys.map fun i => .str (tx d i))), some (.dct (putD k1 (.inr (tx c x)) (.str (tx d y)))), some (.dct (putD k2 (.inr (tx d y)) (.str (tx c x)))), some (.str (tx c x)), some (.str (tx d y))] S' := fun o1 o2 =>
        hN _ _ ⟨_, _, _, _, by omega, rfl, A1.step (inj c xs hr) hx hy o1, A2.step (inj d ys hr2) hy hx o2, Nat.le_trans putD_len (by omega), Nat.le_trans putD_len (by omega), rfl⟩
      have hp1 : putX (.dct k1) (.str (tx c x)) (.str (tx d y)) = some (.dct (putD k1 (.inr (tx c x)) (.str (tx d y)))) := by
        show (if _ then _ else none) = _
        rw [if_pos (by omega)]
        rfl
      have hp2 : putX (.dct k2) (.str (tx d y)) (.str (tx c x)) = some (.dct (putD k2 (.inr (tx d y)) (.str (tx c x)))) := by
        show (if _ then _ else none) = _
        rw [if_pos (by omega)]
        rfl
      simp only [gSeq, gRet, gRetN, gExpr, gAsg, gIf, gNext, gKill, gDrop, gBrk, gCnt, gNever, gFor, gAug, gOwn, gPut, gDPut, gSprPut, gObjPut, gPar, eObj, eRev, gtName, gtTup, gtCons, gtNil, seqOf, eC, eVar, eUn, eBin, eChain, eAnd, eOr, eNot, eOrT, eIf, tE, tTru, DL.tAnd, DL.tOr, DL.tNot, DL.tYes, aNil, aCons, eLst, eTup, eCall, eCallP, eCallB, aDef, eFn, eIsI, eMt, eGet2, eSpr, oNone, oSome, eSl, eSlX, eSlN, gLPut, gTPut, gOwnAsg, gObjApp, gObjIns, eNewObj, eObjPop, eObjR, eObjL, eObjLen, eObjEnd, eSort, eSortSet, eLstRg, gPar0, sIn, eLc, iSeq, DL.iRng1, DL.iRng2, DL.iEnum, DL.iZip, DL.iStr, killL, fnW, fnWo, eNever, tNever, List.getElem?_cons_zero, List.getElem?_cons_succ, List.set_cons_zero, List.set_cons_succ, List.map_cons, List.map_nil, List.cons_append, List.nil_append, List.append_nil, List.replicate_succ, List.replicate_zero, List.length_cons, List.length_nil, List.foldl_cons, List.foldl_nil, Nat.zero_add, Nat.reduceAdd, Nat.reduceSub, ex_some, ex_bl, ex_int, ex_obj, ex_str, ex_lst, ex_cons, true_and, and_true, dAdd_int, dSub_int, dCmp_int, dNeg_int, Option.some.injEq, exists_eq_left', exists_eq_left]
      refine ⟨⟨_, rfl⟩, _, g1, ?_⟩
      have vi : ∀ (c : Str) (l : List Int), (∀ x ∈ l, 0 ≤ x ∧ x ≤ 1000) → ∀ s ∈ l, ∀ t ∈ l, D.str (tx c s) = D.str (tx c t) → s = t := fun c l hr s hs t ht e => tx_inj (hr s hs) (hr t ht) (D.str.inj e)
      obtain ⟨y', m1, e1, o1, b1⟩ := A1.ask (vi d ys hr2) (by omega) hx hy
      have e1' : (DL.getD k1 (.inr (tx c x))).getD (.str (tx d y)) = .str (tx d y') := e1
      rw [e1', dNe_str]
      simp only [List.getElem?_cons_zero, List.getElem?_cons_succ, List.set_cons_zero, List.set_cons_succ, List.map_cons, List.map_nil, List.cons_append, List.nil_append, List.append_nil, List.replicate_succ, List.replicate_zero, List.length_cons, List.length_nil, List.foldl_cons, List.foldl_nil, Nat.zero_add, Nat.reduceAdd, Nat.reduceSub, ex_some, ex_bl, ex_int, ex_obj, ex_str, ex_lst, ex_cons, true_and, and_true, dAdd_int, dSub_int, dCmp_int, dNeg_int, Option.some.injEq, exists_eq_left', exists_eq_left]
      by_cases hyy : y' = y
      · rw [decide_eq_true (show tx d y' = tx d y by rw [hyy])]
        simp only [Bool.not_true, Bool.false_eq_true, if_false]
        refine ⟨⟨_, rfl⟩, _, g2, ?_⟩
        obtain ⟨x', m2, e2, o2, b2⟩ := A2.ask (vi c xs hr) (by omega) hy hx
        have e2' : (DL.getD k2 (.inr (tx d y))).getD (.str (tx c x)) = .str (tx c x') := e2
        rw [e2', dNe_str]
        simp only [List.getElem?_cons_zero, List.getElem?_cons_succ, List.set_cons_zero, List.set_cons_succ, List.map_cons, List.map_nil, List.cons_append, List.nil_append, List.append_nil, List.replicate_succ, List.replicate_zero, List.length_cons, List.length_nil, List.foldl_cons, List.foldl_nil, Nat.zero_add, Nat.reduceAdd, Nat.reduceSub, ex_some, ex_bl, ex_int, ex_obj, ex_str, ex_lst, ex_cons, true_and, and_true, dAdd_int, dSub_int, dCmp_int, dNeg_int, Option.some.injEq, exists_eq_left', exists_eq_left]
        by_cases hxx : x' = x
        · rw [decide_eq_true (show tx c x' = tx c x by rw [hxx])]
          simp only [Bool.not_true, Bool.false_eq_true, if_false]
          exact ⟨⟨_, rfl⟩, _, hp1, ⟨_, rfl⟩, _, hp2, good (o1 hyy) (o2 hxx)⟩
        · rw [decide_eq_false fun z => hxx (tx_inj (hr _ m2) hxr z)]
          simp only [Bool.not_false, if_true]
          obtain ⟨j, a1, a2⟩ := b2 hxx
          exact bad fun e => hxx ((dist_pairs e a2 hx a1 hy).mpr rfl)
      · rw [decide_eq_false fun z => hyy (tx_inj (hr2 _ m1) hyr z)]
        simp only [Bool.not_false, if_true]
        obtain ⟨j, a1, a2⟩ := b1 hyy
        exact bad fun e => hyy ((dist_pairs e a1 hx a2 hy).mp rfl)
    · rintro Δ S' ⟨k1, k2, c4, c5, hi, rfl, A1, A2, l1, l2, rfl⟩
      rw [zipD_len, List.length_map, List.length_map, ← hll, Nat.min_self] at A1 A2
      have e : dist xs = dist ys := dist_of_pairs hll fun i j x x' y y' a1 a2 b1 b2 => by
        have i1 := (List.getElem?_eq_some_iff.mp a1).1
        have i2 := (List.getElem?_eq_some_iff.mp a2).1
        constructor
        · intro e
          subst e
          have z1 := A1.1 i x y i1 a1 b1
          have z2 := A1.1 j x y' i2 a2 b2
          rw [z1] at z2
          exact tx_inj (hr2 _ (List.mem_of_getElem? b1)) (hr2 _ (List.mem_of_getElem? b2)) (D.str.inj (Option.some.inj z2))
        · intro e
          subst e
          have z1 := A2.1 i y x i1 b1 a1
          have z2 := A2.1 j y x' i2 b2 a2
          rw [z1] at z2
          exact tx_inj (hr _ (List.mem_of_getElem? a1)) (hr _ (List.mem_of_getElem? a2)) (D.str.inj (Option.some.inj z2))
      rw [decide_eq_true e] at h
      exact h
  · rw [show ((xs.length : Int) == (ys.length : Int)) = false by simp; omega]
    simp only [Bool.not_false, if_true]
    rw [decide_eq_false fun e => hll (by rw [← dist_len xs, e, dist_len])] at h
    exact h
/-! ### the law -/
theorem eqv_intsB : ∀ (xs ys : List Int), PyData.eqvAll (xs.map PyData.int) (ys.map PyData.int) = decide (xs = ys)
  | [], [] => rfl
  | [], y :: ys => by simp [PyData.eqvAll]
  | x :: xs, [] => by simp [PyData.eqvAll]
  | x :: xs, y :: ys => by
    simp only [List.map_cons, PyData.eqvAll, PyData.eqv, eqv_intsB xs ys]
    by_cases h : x = y
    · by_cases h2 : xs = ys
      · simp [h, h2]
      · simp [h, h2]
    · simp [h]
theorem dEq_ints (xs ys : List Int) : dEq (.lst (xs.map D.int)) (.lst (ys.map D.int)) = some (.bl (decide (xs = ys))) := by
  unfold dEq dEqB
  simp only [shD_ints, and_self, if_true, Option.map_some, toPy, toPyAll_ints, PyData.eqv, eqv_intsB]
theorem dNe_ints (xs ys : List Int) : dNe (.lst (xs.map D.int)) (.lst (ys.map D.int)) = some (.bl (!decide (xs = ys))) := by
  unfold dNe dEqB
  simp only [shD_ints, and_self, if_true, Option.map_some, toPy, toPyAll_ints, PyData.eqv, eqv_intsB]
theorem toPyAll_strs (l : List Str) : toPyAll (l.map D.str) = l.map PyData.str := by
  induction l with
  | nil => rfl
  | cons x l ih => simp [toPyAll, toPy, ih]
theorem eqv_strs (l : List Str) : PyData.eqvAll (l.map PyData.str) (l.map PyData.str) = true := by
  induction l with
  | nil => rfl
  | cons x l ih => simp [PyData.eqvAll, PyData.eqv, ih]
theorem depthAll_strs (l : List Str) : PyData.depthAll (l.map PyData.str) = 0 := by
  induction l with
  | nil => rfl
  | cons n l ih => simp [PyData.depthAll, PyData.depth, ih]
theorem canLay_strs (l : List Str) (h : ∀ x ∈ l, PyData.strOk x = true) : PyData.canLayAll0 (l.map PyData.str) = true := by
  induction l with
  | nil => rfl
  | cons n l ih => simp [PyData.canLayAll0, PyData.canLay0, ih (fun x hx => h x (List.mem_cons_of_mem _ hx)), h n (List.mem_cons_self ..)]
theorem shD_strs (l : List Str) (h : ∀ x ∈ l, PyData.strOk x = true) : shD (.lst (l.map D.str)) = true := by
  unfold shD
  simp [toPy, toPyAll_strs, SeqAt.shaped, PyData.canLay0, PyData.depth, canLay_strs l h, depthAll_strs]
theorem strOk_tl (x : Str) (h : ∀ c ∈ TL.tl x, c < 0x110000) : PyData.strOk x = true := by
  unfold PyData.strOk
  rw [← Array.all_toList, List.all_eq_true]
  intro c hc
  exact decide_eq_true (h c hc)
theorem strOk_tx {c : Str} (hc : ∀ k ∈ TL.tl c, k < 0x110000) (i : Int) : PyData.strOk (tx c i) = true := strOk_tl _ fun k hk => by
  unfold tx at hk
  rw [TL.tl_append, List.mem_append] at hk
  rcases hk with hk | hk
  · exact hc k hk
  · unfold numS at hk
    rw [TL.tl_ofString] at hk
    obtain ⟨ch, _, rfl⟩ := List.mem_map.mp hk
    have := ch.valid
    rcases this with z | z
    · have z2 : ch.toNat < 0xd800 := z
      omega
    · exact z.2
theorem dNe_tx {c : Str} {xs : List Int} (hc : ∀ k ∈ TL.tl c, k < 0x110000) : dNe (.lst (xs.map fun i => D.str (tx c i))) (.lst (xs.map fun i => D.str (tx c i))) = some (.bl false) := by
  have e : (xs.map fun i => D.str (tx c i)) = (xs.map (tx c)).map D.str := by rw [List.map_map]; rfl
  have h : ∀ x ∈ xs.map (tx c), PyData.strOk x = true := fun x hx => by
    obtain ⟨i, _, rfl⟩ := List.mem_map.mp hx
    exact strOk_tx hc i
  rw [e]
  unfold dNe dEqB
  simp only [shD_strs _ h, and_self, if_true, Option.map_some, toPy, toPyAll_strs, PyData.eqv, eqv_strs, Bool.not_true]
theorem sl_take_tx {c : Str} {xs : List Int} {p : Nat} : dSl (.lst (xs.map fun i => D.str (tx c i))) none (some (p : Int)) = some (.lst ((xs.take p).map fun i => D.str (tx c i))) := by
  show some (D.lst (cutD _ none (some (p : Int)))) = _
  rw [cutD_take _ (Int.natCast_nonneg _), Int.toNat_natCast, List.map_take]
theorem p_rest {ns : List Int} {a m : Nat} {x k1 k2 : D} {c9 c10 c11 c12 c13 c14 : Option D} {xs F ch : List Int} {S : Sto} {B : EndsD} (hFr : ∀ x ∈ F, 0 ≤ x ∧ x ≤ 1000) (hFl : F.length = xs.length) (hxl : xs.length ≤ 60) (hcl : ch.length ≤ 60) (hcr : ∀ x ∈ ch, 0 ≤ x ∧ x ≤ 60)
    (hm : m + 2000 < 2 ^ 60)
    (hB : ∀ (Δ' : DL.Env) (m' : Nat), m' ≤ m + 300 → (∃ d8 d9 d10 d11 d12 d13 d14 : Option D, Δ' = [some (.scr ns), some (.obj a), some x, some (.lst (xs.map D.int)), some k1, some k2, some (.lst (F.map fun i => .str (tx "n" i))), some (.lst ((dist F).map D.int)), d8, d9, d10, d11, d12, d13, d14]) → B.nx Δ' (S.upd a (.bag m'))) :
    w_law_rest [some (.scr ns), some (.obj a), some x, some (.lst (xs.map D.int)), some k1, some k2, some (.lst (F.map fun i => .str (tx "n" i))), some (.lst ((dist F).map D.int)), some (.lst (ch.map D.int)), c9, c10, c11, c12, c13, c14] (S.upd a (.bag m)) B noR := by
  have hline := line_eq
  have sm : ∀ k, (S.upd a (.bag k)) a = some (.bag k) := fun k => Sto.upd_same _ _ _
  simp only [w_law_rest, gSeq, gRet, gRetN, gExpr, gAsg, gIf, gNext, gKill, gDrop, gBrk, gCnt, gNever, gFor, gAug, gOwn, gPut, gDPut, gSprPut, gObjPut, gPar, eObj, eRev, gtName, gtTup, gtCons, gtNil, seqOf, eC, eVar, eUn, eBin, eChain, eAnd, eOr, eNot, eOrT, eIf, tE, tTru, DL.tAnd, DL.tOr, DL.tNot, DL.tYes, aNil, aCons, eLst, eTup, eCall, eCallP, eCallB, aDef, eFn, eIsI, eMt, eGet2, eSpr, oNone, oSome, eSl, eSlX, eSlN, gLPut, gTPut, gOwnAsg, gObjApp, gObjIns, eNewObj, eObjPop, eObjR, eObjL, eObjLen, eObjEnd, eSort, eSortSet, eLstRg, gPar0, sIn, eLc, iSeq, DL.iRng1, DL.iRng2, DL.iEnum, DL.iZip, DL.iStr, killL, fnW, fnWo, eNever, tNever, List.getElem?_cons_zero, List.getElem?_cons_succ, List.set_cons_zero, List.set_cons_succ, List.map_cons, List.map_nil, List.cons_append, List.nil_append, List.append_nil, List.replicate_succ, List.replicate_zero, List.length_cons, List.length_nil, List.foldl_cons, List.foldl_nil, Nat.zero_add, Nat.reduceAdd, Nat.reduceSub, ex_some, ex_bl, ex_int, ex_obj, ex_str, ex_lst, ex_cons, true_and, and_true, dAdd_int, dSub_int, dCmp_int, dNeg_int, Option.some.injEq, exists_eq_left', exists_eq_left]
  refine p_text (sm m) (by omega) fun t2 m1 htl htr hm1 => ?_
  rw [Sto.upd_upd]
  simp only [itemsOf, List.getElem?_cons_zero, List.getElem?_cons_succ, List.set_cons_zero, List.set_cons_succ, List.map_cons, List.map_nil, List.cons_append, List.nil_append, List.append_nil, List.replicate_succ, List.replicate_zero, List.length_cons, List.length_nil, List.foldl_cons, List.foldl_nil, Nat.zero_add, Nat.reduceAdd, Nat.reduceSub, ex_some, ex_bl, ex_int, ex_obj, ex_str, ex_lst, ex_cons, true_and, and_true, dAdd_int, dSub_int, dCmp_int, dNeg_int, Option.some.injEq, exists_eq_left', exists_eq_left]
  refine ⟨by omega, ?_⟩
  have hin : ∀ z ∈ [D.lst (t2.map D.int), D.lst (ch.map D.int)], ∃ o : List Int, z = .lst (o.map D.int) ∧ o.length ≤ 60 ∧ ∀ x ∈ o, 0 ≤ x ∧ x ≤ 60 := fun z hz => by
    rcases List.mem_cons.mp hz with rfl | hz
    · exact ⟨t2, rfl, htl, htr⟩
    · rw [List.mem_singleton.mp hz]
      exact ⟨ch, rfl, hcl, hcr⟩
  refine forL_inv (fun i Δ S' => S' = S.upd a (.bag m1) ∧ ∃ d9 d10 d11 d13 : Option D, Δ = [some (.scr ns), some (.obj a), some x, some (.lst (xs.map D.int)), some k1, some k2, some (.lst (F.map fun i => .str (tx "n" i))), some (.lst ((dist F).map D.int)), some (.lst (ch.map D.int)), d9, d10, d11, c12, d13, c14]) ⟨rfl, _, _, _, _, rfl⟩ ?_ ?_
  · rintro i z Δ S' Nx hz ⟨rfl, d9, d10, d11, d13, rfl⟩ hN
    obtain ⟨o, rfl, hol, hor⟩ := hin z (List.mem_of_getElem? hz)
    have hor2 : ∀ x ∈ o, 0 ≤ x ∧ x ≤ 1000 := fun x hx => by have := hor x hx; omega
    simp only [gSeq, gRet, gRetN, gExpr, gAsg, gIf, gNext, gKill, gDrop, gBrk, gCnt, gNever, gFor, gAug, gOwn, gPut, gDPut, gSprPut, gObjPut, gPar, eObj, eRev, gtName, gtTup, gtCons, gtNil, seqOf, eC, eVar, eUn, eBin, eChain, eAnd, eOr, eNot, eOrT, eIf, tE, tTru, DL.tAnd, DL.tOr, DL.tNot, DL.tYes, aNil, aCons, eLst, eTup, eCall, eCallP, eCallB, aDef, eFn, eIsI, eMt, eGet2, eSpr, oNone, oSome, eSl, eSlX, eSlN, gLPut, gTPut, gOwnAsg, gObjApp, gObjIns, eNewObj, eObjPop, eObjR, eObjL, eObjLen, eObjEnd, eSort, eSortSet, eLstRg, gPar0, sIn, eLc, iSeq, DL.iRng1, DL.iRng2, DL.iEnum, DL.iZip, DL.iStr, killL, fnW, fnWo, eNever, tNever, List.getElem?_cons_zero, List.getElem?_cons_succ, List.set_cons_zero, List.set_cons_succ, List.map_cons, List.map_nil, List.cons_append, List.nil_append, List.append_nil, List.replicate_succ, List.replicate_zero, List.length_cons, List.length_nil, List.foldl_cons, List.foldl_nil, Nat.zero_add, Nat.reduceAdd, Nat.reduceSub, ex_some, ex_bl, ex_int, ex_obj, ex_str, ex_lst, ex_cons, true_and, and_true, dAdd_int, dSub_int, dCmp_int, dNeg_int, Option.some.injEq, exists_eq_left', exists_eq_left, itemsOf]
    refine ⟨by rw [List.length_map]; omega, ?_⟩
    refine lcL_mapOf D.int (fun i => D.str (tx "o" i)) (fun x hx Q hQ => ?_) ?_
    · have := hor x hx
      simp only [gSeq, gRet, gRetN, gExpr, gAsg, gIf, gNext, gKill, gDrop, gBrk, gCnt, gNever, gFor, gAug, gOwn, gPut, gDPut, gSprPut, gObjPut, gPar, eObj, eRev, gtName, gtTup, gtCons, gtNil, seqOf, eC, eVar, eUn, eBin, eChain, eAnd, eOr, eNot, eOrT, eIf, tE, tTru, DL.tAnd, DL.tOr, DL.tNot, DL.tYes, aNil, aCons, eLst, eTup, eCall, eCallP, eCallB, aDef, eFn, eIsI, eMt, eGet2, eSpr, oNone, oSome, eSl, eSlX, eSlN, gLPut, gTPut, gOwnAsg, gObjApp, gObjIns, eNewObj, eObjPop, eObjR, eObjL, eObjLen, eObjEnd, eSort, eSortSet, eLstRg, gPar0, sIn, eLc, iSeq, DL.iRng1, DL.iRng2, DL.iEnum, DL.iZip, DL.iStr, killL, fnW, fnWo, eNever, tNever, List.getElem?_cons_zero, List.getElem?_cons_succ, List.set_cons_zero, List.set_cons_succ, List.map_cons, List.map_nil, List.cons_append, List.nil_append, List.append_nil, List.replicate_succ, List.replicate_zero, List.length_cons, List.length_nil, List.foldl_cons, List.foldl_nil, Nat.zero_add, Nat.reduceAdd, Nat.reduceSub, ex_some, ex_bl, ex_int, ex_obj, ex_str, ex_lst, ex_cons, true_and, and_true, dAdd_int, dSub_int, dCmp_int, dNeg_int, Option.some.injEq, exists_eq_left', exists_eq_left]
      rw [fStr_num (by omega)]
      simp only [List.getElem?_cons_zero, List.getElem?_cons_succ, List.set_cons_zero, List.set_cons_succ, List.map_cons, List.map_nil, List.cons_append, List.nil_append, List.append_nil, List.replicate_succ, List.replicate_zero, List.length_cons, List.length_nil, List.foldl_cons, List.foldl_nil, Nat.zero_add, Nat.reduceAdd, Nat.reduceSub, ex_some, ex_bl, ex_int, ex_obj, ex_str, ex_lst, ex_cons, true_and, and_true, dAdd_int, dSub_int, dCmp_int, dNeg_int, Option.some.injEq, exists_eq_left', exists_eq_left]
      rw [tx_add (by omega) (by omega) (by decide)]
      exact ⟨_, rfl, hQ⟩
    rw [List.nil_append]
    refine p_distances_of (by omega) hor2 ?_
    rw [dEq_ints]
    simp only [List.getElem?_cons_zero, List.getElem?_cons_succ, List.set_cons_zero, List.set_cons_succ, List.map_cons, List.map_nil, List.cons_append, List.nil_append, List.append_nil, List.replicate_succ, List.replicate_zero, List.length_cons, List.length_nil, List.foldl_cons, List.foldl_nil, Nat.zero_add, Nat.reduceAdd, Nat.reduceSub, ex_some, ex_bl, ex_int, ex_obj, ex_str, ex_lst, ex_cons, true_and, and_true, dAdd_int, dSub_int, dCmp_int, dNeg_int, Option.some.injEq, exists_eq_left', exists_eq_left]
    refine p__law_alike (by omega) (by omega) hFr hor2 ?_
    have hsame : decide (dist F = dist o) = decide (dist o = dist F) := by
      rw [Bool.eq_iff_iff, decide_eq_true_eq, decide_eq_true_eq]
      exact ⟨Eq.symm, Eq.symm⟩
    rw [hsame, dNe_bl]
    simp only [List.getElem?_cons_zero, List.getElem?_cons_succ, List.set_cons_zero, List.set_cons_succ, List.map_cons, List.map_nil, List.cons_append, List.nil_append, List.append_nil, List.replicate_succ, List.replicate_zero, List.length_cons, List.length_nil, List.foldl_cons, List.foldl_nil, Nat.zero_add, Nat.reduceAdd, Nat.reduceSub, ex_some, ex_bl, ex_int, ex_obj, ex_str, ex_lst, ex_cons, true_and, and_true, dAdd_int, dSub_int, dCmp_int, dNeg_int, Option.some.injEq, exists_eq_left', exists_eq_left, beq_self_eq_true, Bool.not_true, Bool.false_eq_true, if_false]
    refine p_distances_of (by omega) hor2 ?_
    refine p_symbol_ids (by omega) ?_
    refine p_symbol_ids (by omega) ?_
    rw [dEq_ints]
    have hc : decide (can o = can F) = decide (dist o = dist F) := by
      rw [Bool.eq_iff_iff, decide_eq_true_eq, decide_eq_true_eq]
      exact dist_iff_can.symm
    rw [hc]
    simp only [List.getElem?_cons_zero, List.getElem?_cons_succ, List.set_cons_zero, List.set_cons_succ, List.map_cons, List.map_nil, List.cons_append, List.nil_append, List.append_nil, List.replicate_succ, List.replicate_zero, List.length_cons, List.length_nil, List.foldl_cons, List.foldl_nil, Nat.zero_add, Nat.reduceAdd, Nat.reduceSub, ex_some, ex_bl, ex_int, ex_obj, ex_str, ex_lst, ex_cons, true_and, and_true, dAdd_int, dSub_int, dCmp_int, dNeg_int, Option.some.injEq, exists_eq_left', exists_eq_left, dNe_bl, beq_self_eq_true, Bool.not_true, Bool.false_eq_true, if_false]
    exact hN _ _ ⟨rfl, _, _, _, _, rfl⟩
  · rintro Δ S' ⟨rfl, d9, d10, d11, d13, rfl⟩
    simp only [fLen_ints, List.getElem?_cons_zero, List.getElem?_cons_succ, List.set_cons_zero, List.set_cons_succ, List.map_cons, List.map_nil, List.cons_append, List.nil_append, List.append_nil, List.replicate_succ, List.replicate_zero, List.length_cons, List.length_nil, List.foldl_cons, List.foldl_nil, Nat.zero_add, Nat.reduceAdd, Nat.reduceSub, ex_some, ex_bl, ex_int, ex_obj, ex_str, ex_lst, ex_cons, true_and, and_true, dAdd_int, dSub_int, dCmp_int, dNeg_int, Option.some.injEq, exists_eq_left', exists_eq_left]
    refine p_draw (sm m1) (by omega) (by omega) (by omega) fun p p0 p1 => ?_
    rw [Sto.upd_upd]
    obtain ⟨pN, rfl⟩ := Int.eq_ofNat_of_zero_le p0
    have hpF : (F.take pN).length ≤ 60 := by rw [List.length_take]; omega
    have hpr : ∀ x ∈ F.take pN, 0 ≤ x ∧ x ≤ 1000 := fun x hx => hFr x (List.mem_of_mem_take hx)
    simp only [List.getElem?_cons_zero, List.getElem?_cons_succ, List.set_cons_zero, List.set_cons_succ, List.map_cons, List.map_nil, List.cons_append, List.nil_append, List.append_nil, List.replicate_succ, List.replicate_zero, List.length_cons, List.length_nil, List.foldl_cons, List.foldl_nil, Nat.zero_add, Nat.reduceAdd, Nat.reduceSub, ex_some, ex_bl, ex_int, ex_obj, ex_str, ex_lst, ex_cons, true_and, and_true, dAdd_int, dSub_int, dCmp_int, dNeg_int, Option.some.injEq, exists_eq_left', exists_eq_left, sl_take_tx]
    refine p_distances_of (by omega) hpr ?_
    simp only [List.getElem?_cons_zero, List.getElem?_cons_succ, List.set_cons_zero, List.set_cons_succ, List.map_cons, List.map_nil, List.cons_append, List.nil_append, List.append_nil, List.replicate_succ, List.replicate_zero, List.length_cons, List.length_nil, List.foldl_cons, List.foldl_nil, Nat.zero_add, Nat.reduceAdd, Nat.reduceSub, ex_some, ex_bl, ex_int, ex_obj, ex_str, ex_lst, ex_cons, true_and, and_true, dAdd_int, dSub_int, dCmp_int, dNeg_int, Option.some.injEq, exists_eq_left', exists_eq_left, sl_take, dist_take, dNe_self, Bool.false_eq_true, if_false]
    refine p_symbol_ids (by omega) ?_
    refine p_symbol_ids (by omega) ?_
    simp only [List.getElem?_cons_zero, List.getElem?_cons_succ, List.set_cons_zero, List.set_cons_succ, List.map_cons, List.map_nil, List.cons_append, List.nil_append, List.append_nil, List.replicate_succ, List.replicate_zero, List.length_cons, List.length_nil, List.foldl_cons, List.foldl_nil, Nat.zero_add, Nat.reduceAdd, Nat.reduceSub, ex_some, ex_bl, ex_int, ex_obj, ex_str, ex_lst, ex_cons, true_and, and_true, dAdd_int, dSub_int, dCmp_int, dNeg_int, Option.some.injEq, exists_eq_left', exists_eq_left, sl_take, can_take, dNe_self, Bool.false_eq_true, if_false]
    refine p_symbol_ids (by omega) ?_
    simp only [itemsOf, List.getElem?_cons_zero, List.getElem?_cons_succ, List.set_cons_zero, List.set_cons_succ, List.map_cons, List.map_nil, List.cons_append, List.nil_append, List.append_nil, List.replicate_succ, List.replicate_zero, List.length_cons, List.length_nil, List.foldl_cons, List.foldl_nil, Nat.zero_add, Nat.reduceAdd, Nat.reduceSub, ex_some, ex_bl, ex_int, ex_obj, ex_str, ex_lst, ex_cons, true_and, and_true, dAdd_int, dSub_int, dCmp_int, dNeg_int, Option.some.injEq, exists_eq_left', exists_eq_left]
    refine ⟨by rw [List.length_map, can_len]; omega, ?_⟩
    have hcr2 : ∀ x ∈ can F, 0 ≤ x ∧ x ≤ 1000 := fun x hx => by
      obtain ⟨y, hy, rfl⟩ := List.mem_map.mp hx
      have h1 := rk_rng hy
      have h2 := dedup_le F
      omega
    refine lcL_mapOf D.int (fun i => D.str (tx "k" i)) (fun x hx Q hQ => ?_) ?_
    · have := hcr2 x hx
      simp only [gSeq, gRet, gRetN, gExpr, gAsg, gIf, gNext, gKill, gDrop, gBrk, gCnt, gNever, gFor, gAug, gOwn, gPut, gDPut, gSprPut, gObjPut, gPar, eObj, eRev, gtName, gtTup, gtCons, gtNil, seqOf, eC, eVar, eUn, eBin, eChain, eAnd, eOr, eNot, eOrT, eIf, tE, tTru, DL.tAnd, DL.tOr, DL.tNot, DL.tYes, aNil, aCons, eLst, eTup, eCall, eCallP, eCallB, aDef, eFn, eIsI, eMt, eGet2, eSpr, oNone, oSome, eSl, eSlX, eSlN, gLPut, gTPut, gOwnAsg, gObjApp, gObjIns, eNewObj, eObjPop, eObjR, eObjL, eObjLen, eObjEnd, eSort, eSortSet, eLstRg, gPar0, sIn, eLc, iSeq, DL.iRng1, DL.iRng2, DL.iEnum, DL.iZip, DL.iStr, killL, fnW, fnWo, eNever, tNever, List.getElem?_cons_zero, List.getElem?_cons_succ, List.set_cons_zero, List.set_cons_succ, List.map_cons, List.map_nil, List.cons_append, List.nil_append, List.append_nil, List.replicate_succ, List.replicate_zero, List.length_cons, List.length_nil, List.foldl_cons, List.foldl_nil, Nat.zero_add, Nat.reduceAdd, Nat.reduceSub, ex_some, ex_bl, ex_int, ex_obj, ex_str, ex_lst, ex_cons, true_and, and_true, dAdd_int, dSub_int, dCmp_int, dNeg_int, Option.some.injEq, exists_eq_left', exists_eq_left]
      rw [fStr_num (by omega)]
      simp only [List.getElem?_cons_zero, List.getElem?_cons_succ, List.set_cons_zero, List.set_cons_succ, List.map_cons, List.map_nil, List.cons_append, List.nil_append, List.append_nil, List.replicate_succ, List.replicate_zero, List.length_cons, List.length_nil, List.foldl_cons, List.foldl_nil, Nat.zero_add, Nat.reduceAdd, Nat.reduceSub, ex_some, ex_bl, ex_int, ex_obj, ex_str, ex_lst, ex_cons, true_and, and_true, dAdd_int, dSub_int, dCmp_int, dNeg_int, Option.some.injEq, exists_eq_left', exists_eq_left]
      rw [tx_add (by omega) (by omega) (by decide)]
      exact ⟨_, rfl, hQ⟩
    rw [List.nil_append]
    refine p_distances_of (by rw [can_len]; omega) hcr2 ?_
    rw [dist_can, dNe_self]
    simp only [List.getElem?_cons_zero, List.getElem?_cons_succ, List.set_cons_zero, List.set_cons_succ, List.map_cons, List.map_nil, List.cons_append, List.nil_append, List.append_nil, List.replicate_succ, List.replicate_zero, List.length_cons, List.length_nil, List.foldl_cons, List.foldl_nil, Nat.zero_add, Nat.reduceAdd, Nat.reduceSub, ex_some, ex_bl, ex_int, ex_obj, ex_str, ex_lst, ex_cons, true_and, and_true, dAdd_int, dSub_int, dCmp_int, dNeg_int, Option.some.injEq, exists_eq_left', exists_eq_left, Bool.false_eq_true, if_false]
    exact hB _ _ (by omega) ⟨_, _, _, _, _, _, _, rfl⟩
theorem law_ok (ns : List Int) (hl : ns.length ≤ 63) : w_law [.scr ns] noS (fun d _ => d = .bl true) noR := by
  have hline := line_eq
  simp only [w_law, gSeq, gRet, gRetN, gExpr, gAsg, gIf, gNext, gKill, gDrop, gBrk, gCnt, gNever, gFor, gAug, gOwn, gPut, gDPut, gSprPut, gObjPut, gPar, eObj, eRev, gtName, gtTup, gtCons, gtNil, seqOf, eC, eVar, eUn, eBin, eChain, eAnd, eOr, eNot, eOrT, eIf, tE, tTru, DL.tAnd, DL.tOr, DL.tNot, DL.tYes, aNil, aCons, eLst, eTup, eCall, eCallP, eCallB, aDef, eFn, eIsI, eMt, eGet2, eSpr, oNone, oSome, eSl, eSlX, eSlN, gLPut, gTPut, gOwnAsg, gObjApp, gObjIns, eNewObj, eObjPop, eObjR, eObjL, eObjLen, eObjEnd, eSort, eSortSet, eLstRg, gPar0, sIn, eLc, iSeq, DL.iRng1, DL.iRng2, DL.iEnum, DL.iZip, DL.iStr, killL, fnW, fnWo, eNever, tNever, List.getElem?_cons_zero, List.getElem?_cons_succ, List.set_cons_zero, List.set_cons_succ, List.map_cons, List.map_nil, List.cons_append, List.nil_append, List.append_nil, List.replicate_succ, List.replicate_zero, List.length_cons, List.length_nil, List.foldl_cons, List.foldl_nil, Nat.zero_add, Nat.reduceAdd, Nat.reduceSub, ex_some, ex_bl, ex_int, ex_obj, ex_str, ex_lst, ex_cons, true_and, and_true, dAdd_int, dSub_int, dCmp_int, dNeg_int, Option.some.injEq, exists_eq_left', exists_eq_left]
  refine p_bag fun a ha => ?_
  generalize noS = S
  have sm : ∀ k, (S.upd a (.bag k)) a = some (.bag k) := fun k => Sto.upd_same _ _ _
  simp only [List.getElem?_cons_zero, List.getElem?_cons_succ, List.set_cons_zero, List.set_cons_succ, List.map_cons, List.map_nil, List.cons_append, List.nil_append, List.append_nil, List.replicate_succ, List.replicate_zero, List.length_cons, List.length_nil, List.foldl_cons, List.foldl_nil, Nat.zero_add, Nat.reduceAdd, Nat.reduceSub, ex_some, ex_bl, ex_int, ex_obj, ex_str, ex_lst, ex_cons, true_and, and_true, dAdd_int, dSub_int, dCmp_int, dNeg_int, Option.some.injEq, exists_eq_left', exists_eq_left, fLen, dLen, fMin_int]
  generalize hb : (3 + if ((ns.length : Nat) : Int) < 6 then ((ns.length : Nat) : Int) else 6) = b
  have hb7 : b ≤ 9 := by rw [← hb]; split <;> omega
  have hb0 : 0 ≤ b := by rw [← hb]; split <;> omega
  refine ⟨by omega, by omega, ?_⟩
  refine forL_inv (fun i Δ S' => ∃ m : Nat, S' = S.upd a (.bag m) ∧ m ≤ 2000 * i ∧ i ≤ b.toNat ∧ ∃ c2 c3 c4 c5 c6 c7 c8 c9 c10 c11 c12 c13 c14 : Option D, Δ = [some (.scr ns), some (.obj a), c2, c3, c4, c5, c6, c7, c8, c9, c10, c11, c12, c13, c14]) ⟨0, rfl, by omega, by omega, _, _, _, _, _, _, _, _, _, _, _, _, _, rfl⟩ ?_ ?_
  · rintro i x Δ S' Nx hx ⟨m, rfl, hm, hi, c2, c3, c4, c5, c6, c7, c8, c9, c10, c11, c12, c13, c14, rfl⟩ hN
    have hi2 : i < b.toNat := by
      have := (List.getElem?_eq_some_iff.mp hx).1
      rw [rngD_len] at this
      exact this
    simp only [gSeq, gRet, gRetN, gExpr, gAsg, gIf, gNext, gKill, gDrop, gBrk, gCnt, gNever, gFor, gAug, gOwn, gPut, gDPut, gSprPut, gObjPut, gPar, eObj, eRev, gtName, gtTup, gtCons, gtNil, seqOf, eC, eVar, eUn, eBin, eChain, eAnd, eOr, eNot, eOrT, eIf, tE, tTru, DL.tAnd, DL.tOr, DL.tNot, DL.tYes, aNil, aCons, eLst, eTup, eCall, eCallP, eCallB, aDef, eFn, eIsI, eMt, eGet2, eSpr, oNone, oSome, eSl, eSlX, eSlN, gLPut, gTPut, gOwnAsg, gObjApp, gObjIns, eNewObj, eObjPop, eObjR, eObjL, eObjLen, eObjEnd, eSort, eSortSet, eLstRg, gPar0, sIn, eLc, iSeq, DL.iRng1, DL.iRng2, DL.iEnum, DL.iZip, DL.iStr, killL, fnW, fnWo, eNever, tNever, List.getElem?_cons_zero, List.getElem?_cons_succ, List.set_cons_zero, List.set_cons_succ, List.map_cons, List.map_nil, List.cons_append, List.nil_append, List.append_nil, List.replicate_succ, List.replicate_zero, List.length_cons, List.length_nil, List.foldl_cons, List.foldl_nil, Nat.zero_add, Nat.reduceAdd, Nat.reduceSub, ex_some, ex_bl, ex_int, ex_obj, ex_str, ex_lst, ex_cons, true_and, and_true, dAdd_int, dSub_int, dCmp_int, dNeg_int, Option.some.injEq, exists_eq_left', exists_eq_left]
    refine p_text (sm m) (by omega) fun xs m1 hxl hxr hm1 => ?_
    rw [Sto.upd_upd]
    refine p__law_names (sm m1) (by omega) hxl fun k1 nu m2 hm2 inj1 r1 g1 => ?_
    rw [Sto.upd_upd]
    refine p__law_names (sm m2) (by omega) hxl fun k2 nu2 m3 hm3 inj2 r2 g2 => ?_
    rw [Sto.upd_upd]
    simp only [List.getElem?_cons_zero, List.getElem?_cons_succ, List.set_cons_zero, List.set_cons_succ, List.map_cons, List.map_nil, List.cons_append, List.nil_append, List.append_nil, List.replicate_succ, List.replicate_zero, List.length_cons, List.length_nil, List.foldl_cons, List.foldl_nil, Nat.zero_add, Nat.reduceAdd, Nat.reduceSub, ex_some, ex_bl, ex_int, ex_obj, ex_str, ex_lst, ex_cons, true_and, and_true, dAdd_int, dSub_int, dCmp_int, dNeg_int, Option.some.injEq, exists_eq_left', exists_eq_left, itemsOf]
    refine ⟨by omega, by rw [List.length_map]; omega, ?_⟩
    have dg : ∀ (kk : List (L2.Key × D)) (x : Int), dGet (.dct kk) (.int x) = DL.getD kk (.inl x) := fun _ _ => rfl
    refine lcL_mapOf D.int (fun x => D.str (tx "n" (nu x))) (fun x hx Q hQ => ?_) ?_
    · simp only [gSeq, gRet, gRetN, gExpr, gAsg, gIf, gNext, gKill, gDrop, gBrk, gCnt, gNever, gFor, gAug, gOwn, gPut, gDPut, gSprPut, gObjPut, gPar, eObj, eRev, gtName, gtTup, gtCons, gtNil, seqOf, eC, eVar, eUn, eBin, eChain, eAnd, eOr, eNot, eOrT, eIf, tE, tTru, DL.tAnd, DL.tOr, DL.tNot, DL.tYes, aNil, aCons, eLst, eTup, eCall, eCallP, eCallB, aDef, eFn, eIsI, eMt, eGet2, eSpr, oNone, oSome, eSl, eSlX, eSlN, gLPut, gTPut, gOwnAsg, gObjApp, gObjIns, eNewObj, eObjPop, eObjR, eObjL, eObjLen, eObjEnd, eSort, eSortSet, eLstRg, gPar0, sIn, eLc, iSeq, DL.iRng1, DL.iRng2, DL.iEnum, DL.iZip, DL.iStr, killL, fnW, fnWo, eNever, tNever, List.getElem?_cons_zero, List.getElem?_cons_succ, List.set_cons_zero, List.set_cons_succ, List.map_cons, List.map_nil, List.cons_append, List.nil_append, List.append_nil, List.replicate_succ, List.replicate_zero, List.length_cons, List.length_nil, List.foldl_cons, List.foldl_nil, Nat.zero_add, Nat.reduceAdd, Nat.reduceSub, ex_some, ex_bl, ex_int, ex_obj, ex_str, ex_lst, ex_cons, true_and, and_true, dAdd_int, dSub_int, dCmp_int, dNeg_int, Option.some.injEq, exists_eq_left', exists_eq_left, dg, g1 x hx]
      exact hQ
    rw [List.nil_append]
    have e1 : (xs.map fun x => D.str (tx "n" (nu x))) = (xs.map nu).map fun i => D.str (tx "n" i) := by rw [List.map_map]; rfl
    have hF : dist (xs.map nu) = dist xs := dist_map inj1
    have hFr : ∀ x ∈ xs.map nu, 0 ≤ x ∧ x ≤ 1000 := fun x hx => by
      obtain ⟨y, hy, rfl⟩ := List.mem_map.mp hx
      have := r1 y hy
      omega
    have hFl : (xs.map nu).length = xs.length := List.length_map _
    rw [e1]
    generalize xs.map nu = F at hF hFr hFl
    refine p_distances_of (by omega) hFr ?_
    refine ⟨by rw [List.length_map]; omega, ?_⟩
    refine lcL_mapOf D.int (fun x => D.str (tx "n" (nu2 x))) (fun x hx Q hQ => ?_) ?_
    · simp only [gSeq, gRet, gRetN, gExpr, gAsg, gIf, gNext, gKill, gDrop, gBrk, gCnt, gNever, gFor, gAug, gOwn, gPut, gDPut, gSprPut, gObjPut, gPar, eObj, eRev, gtName, gtTup, gtCons, gtNil, seqOf, eC, eVar, eUn, eBin, eChain, eAnd, eOr, eNot, eOrT, eIf, tE, tTru, DL.tAnd, DL.tOr, DL.tNot, DL.tYes, aNil, aCons, eLst, eTup, eCall, eCallP, eCallB, aDef, eFn, eIsI, eMt, eGet2, eSpr, oNone, oSome, eSl, eSlX, eSlN, gLPut, gTPut, gOwnAsg, gObjApp, gObjIns, eNewObj, eObjPop, eObjR, eObjL, eObjLen, eObjEnd, eSort, eSortSet, eLstRg, gPar0, sIn, eLc, iSeq, DL.iRng1, DL.iRng2, DL.iEnum, DL.iZip, DL.iStr, killL, fnW, fnWo, eNever, tNever, List.getElem?_cons_zero, List.getElem?_cons_succ, List.set_cons_zero, List.set_cons_succ, List.map_cons, List.map_nil, List.cons_append, List.nil_append, List.append_nil, List.replicate_succ, List.replicate_zero, List.length_cons, List.length_nil, List.foldl_cons, List.foldl_nil, Nat.zero_add, Nat.reduceAdd, Nat.reduceSub, ex_some, ex_bl, ex_int, ex_obj, ex_str, ex_lst, ex_cons, true_and, and_true, dAdd_int, dSub_int, dCmp_int, dNeg_int, Option.some.injEq, exists_eq_left', exists_eq_left, dg, g2 x hx]
      exact hQ
    rw [List.nil_append]
    have e2 : (xs.map fun x => D.str (tx "n" (nu2 x))) = (xs.map nu2).map fun i => D.str (tx "n" i) := by rw [List.map_map]; rfl
    rw [e2]
    refine p_distances_of (by rw [List.length_map]; omega) (fun x hx => by
      obtain ⟨y, hy, rfl⟩ := List.mem_map.mp hx
      have := r2 y hy
      omega) ?_
    rw [dist_map inj2, hF, dNe_self]
    simp only [List.getElem?_cons_zero, List.getElem?_cons_succ, List.set_cons_zero, List.set_cons_succ, List.map_cons, List.map_nil, List.cons_append, List.nil_append, List.append_nil, List.replicate_succ, List.replicate_zero, List.length_cons, List.length_nil, List.foldl_cons, List.foldl_nil, Nat.zero_add, Nat.reduceAdd, Nat.reduceSub, ex_some, ex_bl, ex_int, ex_obj, ex_str, ex_lst, ex_cons, true_and, and_true, dAdd_int, dSub_int, dCmp_int, dNeg_int, Option.some.injEq, exists_eq_left', exists_eq_left, Bool.false_eq_true, if_false]
    rw [← hF]
    refine p_recency_ranks (by omega) ?_
    refine p_distances_from_ranks (by omega) ?_
    rw [dNe_self]
    simp only [List.getElem?_cons_zero, List.getElem?_cons_succ, List.set_cons_zero, List.set_cons_succ, List.map_cons, List.map_nil, List.cons_append, List.nil_append, List.append_nil, List.replicate_succ, List.replicate_zero, List.length_cons, List.length_nil, List.foldl_cons, List.foldl_nil, Nat.zero_add, Nat.reduceAdd, Nat.reduceSub, ex_some, ex_bl, ex_int, ex_obj, ex_str, ex_lst, ex_cons, true_and, and_true, dAdd_int, dSub_int, dCmp_int, dNeg_int, Option.some.injEq, exists_eq_left', exists_eq_left, Bool.false_eq_true, if_false]
    refine p__law_firsts (by omega) hFr ?_
    refine p_with_symbols (by omega) hFr ?_
    rw [dNe_tx (by decide)]
    simp only [List.getElem?_cons_zero, List.getElem?_cons_succ, List.set_cons_zero, List.set_cons_succ, List.map_cons, List.map_nil, List.cons_append, List.nil_append, List.append_nil, List.replicate_succ, List.replicate_zero, List.length_cons, List.length_nil, List.foldl_cons, List.foldl_nil, Nat.zero_add, Nat.reduceAdd, Nat.reduceSub, ex_some, ex_bl, ex_int, ex_obj, ex_str, ex_lst, ex_cons, true_and, and_true, dAdd_int, dSub_int, dCmp_int, dNeg_int, Option.some.injEq, exists_eq_left', exists_eq_left, Bool.false_eq_true, if_false, fList]
    rw [dNe_nil]
    simp only [List.getElem?_cons_zero, List.getElem?_cons_succ, List.set_cons_zero, List.set_cons_succ, List.map_cons, List.map_nil, List.cons_append, List.nil_append, List.append_nil, List.replicate_succ, List.replicate_zero, List.length_cons, List.length_nil, List.foldl_cons, List.foldl_nil, Nat.zero_add, Nat.reduceAdd, Nat.reduceSub, ex_some, ex_bl, ex_int, ex_obj, ex_str, ex_lst, ex_cons, true_and, and_true, dAdd_int, dSub_int, dCmp_int, dNeg_int, Option.some.injEq, exists_eq_left', exists_eq_left]
    split
    · refine ⟨by omega, ⟨_, rfl⟩, ?_⟩
      refine p_draw (sm m3) (by omega) (by decide) (by decide) fun v v0 v1 => ?_
      rw [Sto.upd_upd, fLen_ints]
      refine ⟨_, rfl, ?_⟩
      rename_i hne
      have hpos : 0 < xs.length := by
        cases xs with
        | nil => simp at hne
        | cons y ys => simp
      refine p_draw (sm (m3 + 1)) (by omega) (by omega) (by omega) fun u u0 u1 => ?_
      rw [Sto.upd_upd]
      obtain ⟨uN, rfl⟩ := Int.eq_ofNat_of_zero_le u0
      have hput : putX (.lst (xs.map D.int)) (.int (uN : Int)) (.int v) = some (.lst ((xs.set uN v).map D.int)) := by
        show (L2.ixN (xs.map D.int).length (uN : Int)).map (fun j => D.lst ((xs.map D.int).set j (.int v))) = _
        have : L2.ixN (xs.map D.int).length (uN : Int) = some uN := by
          unfold L2.ixN
          rw [if_pos (by omega), if_pos (by rw [List.length_map]; omega)]
          rfl
        rw [this, Option.map_some, List.map_set]
      refine ⟨_, hput, p_rest (m := m3 + 1 + 1) hFr hFl hxl (by rw [List.length_set]; exact hxl) (fun x hx => ?_) (by omega) fun Δ' m' hm' hΔ => ?_⟩
      · rcases List.mem_or_eq_of_mem_set hx with h | h
        · exact hxr x h
        · subst h; omega
      · obtain ⟨d8, d9, d10, d11, d12, d13, d14, rfl⟩ := hΔ
        exact hN _ _ ⟨m', rfl, by omega, by omega, _, _, _, _, _, _, _, _, _, _, _, _, _, rfl⟩
    · refine ⟨by omega, p_rest (m := m3) hFr hFl hxl hxl hxr (by omega) fun Δ' m' hm' hΔ => ?_⟩
      obtain ⟨d8, d9, d10, d11, d12, d13, d14, rfl⟩ := hΔ
      exact hN _ _ ⟨m', rfl, by omega, by omega, _, _, _, _, _, _, _, _, _, _, _, _, _, rfl⟩
  · rintro Δ S' ⟨m, rfl, hm, hi, c2, c3, c4, c5, c6, c7, c8, c9, c10, c11, c12, c13, c14, rfl⟩
    simp only [gSeq, gRet, gRetN, gExpr, gAsg, gIf, gNext, gKill, gDrop, gBrk, gCnt, gNever, gFor, gAug, gOwn, gPut, gDPut, gSprPut, gObjPut, gPar, eObj, eRev, gtName, gtTup, gtCons, gtNil, seqOf, eC, eVar, eUn, eBin, eChain, eAnd, eOr, eNot, eOrT, eIf, tE, tTru, DL.tAnd, DL.tOr, DL.tNot, DL.tYes, aNil, aCons, eLst, eTup, eCall, eCallP, eCallB, aDef, eFn, eIsI, eMt, eGet2, eSpr, oNone, oSome, eSl, eSlX, eSlN, gLPut, gTPut, gOwnAsg, gObjApp, gObjIns, eNewObj, eObjPop, eObjR, eObjL, eObjLen, eObjEnd, eSort, eSortSet, eLstRg, gPar0, sIn, eLc, iSeq, DL.iRng1, DL.iRng2, DL.iEnum, DL.iZip, DL.iStr, killL, fnW, fnWo, eNever, tNever, List.getElem?_cons_zero, List.getElem?_cons_succ, List.set_cons_zero, List.set_cons_succ, List.map_cons, List.map_nil, List.cons_append, List.nil_append, List.append_nil, List.replicate_succ, List.replicate_zero, List.length_cons, List.length_nil, List.foldl_cons, List.foldl_nil, Nat.zero_add, Nat.reduceAdd, Nat.reduceSub, ex_some, ex_bl, ex_int, ex_obj, ex_str, ex_lst, ex_cons, true_and, and_true, dAdd_int, dSub_int, dCmp_int, dNeg_int, Option.some.injEq, exists_eq_left', exists_eq_left]
end K05

namespace K05
open PySem PySem.Spec PyProof.Rows L2 DL
theorem all_fin {l : PySem.W.OpenLaw} {w : World} {K : PySem.W.Frag} {h : Heap} {mg : Str → Option Value} {fa : Addr} (X : K.In h) (G : h.Ns mainGlobals mg) (hfa : mg "law" = some (.ref fa))
    {f_x__law_bag : Addr} {o1_x__law_bag o3_x__law_bag : Option Addr} {o2_x__law_bag : Array (Option Value)} {v1_x__law_bag v2_x__law_bag v3_x__law_bag v4_x__law_bag v5_x__law_bag v6_x__law_bag : Value}
    (a_x__law_bag : PySem.W.nsIn K mainGlobals "_law_bag" = some (some (.ref f_x__law_bag)))
    (l_x__law_bag : K.lookup f_x__law_bag = some ⟨v1_x__law_bag, o1_x__law_bag, .func (PySem.W.fnOf "_law_bag" "_law_bag" (defArgs s__law_bag) (defBody s__law_bag) (defScope s__law_bag) .none v2_x__law_bag v3_x__law_bag v4_x__law_bag o3_x__law_bag v5_x__law_bag v6_x__law_bag), o2_x__law_bag⟩)
    (c_x__law_bag : PySem.W.codeIn K v5_x__law_bag "_law_bag" = true)
    (k_x__law_bag : PySem.W.keepIn K (.ref f_x__law_bag) = true)
    {f_x__law_stir : Addr} {o1_x__law_stir o3_x__law_stir : Option Addr} {o2_x__law_stir : Array (Option Value)} {v1_x__law_stir v2_x__law_stir v3_x__law_stir v4_x__law_stir v5_x__law_stir v6_x__law_stir : Value}
    (a_x__law_stir : PySem.W.nsIn K mainGlobals "_law_stir" = some (some (.ref f_x__law_stir)))
    (l_x__law_stir : K.lookup f_x__law_stir = some ⟨v1_x__law_stir, o1_x__law_stir, .func (PySem.W.fnOf "_law_stir" "_law_stir" (defArgs s__law_stir) (defBody s__law_stir) (defScope s__law_stir) .none v2_x__law_stir v3_x__law_stir v4_x__law_stir o3_x__law_stir v5_x__law_stir v6_x__law_stir), o2_x__law_stir⟩)
    (c_x__law_stir : PySem.W.codeIn K v5_x__law_stir "_law_stir" = true)
    (k_x__law_stir : PySem.W.keepIn K (.ref f_x__law_stir) = true)
    {f_x__law_draw : Addr} {o1_x__law_draw o3_x__law_draw : Option Addr} {o2_x__law_draw : Array (Option Value)} {v1_x__law_draw v2_x__law_draw v3_x__law_draw v4_x__law_draw v5_x__law_draw v6_x__law_draw : Value}
    (a_x__law_draw : PySem.W.nsIn K mainGlobals "_law_draw" = some (some (.ref f_x__law_draw)))
    (l_x__law_draw : K.lookup f_x__law_draw = some ⟨v1_x__law_draw, o1_x__law_draw, .func (PySem.W.fnOf "_law_draw" "_law_draw" (defArgs s__law_draw) (defBody s__law_draw) (defScope s__law_draw) .none v2_x__law_draw v3_x__law_draw v4_x__law_draw o3_x__law_draw v5_x__law_draw v6_x__law_draw), o2_x__law_draw⟩)
    (c_x__law_draw : PySem.W.codeIn K v5_x__law_draw "_law_draw" = true)
    (k_x__law_draw : PySem.W.keepIn K (.ref f_x__law_draw) = true)
    {f_x__law_text : Addr} {o1_x__law_text o3_x__law_text : Option Addr} {o2_x__law_text : Array (Option Value)} {v1_x__law_text v2_x__law_text v3_x__law_text v4_x__law_text v5_x__law_text v6_x__law_text : Value}
    (a_x__law_text : PySem.W.nsIn K mainGlobals "_law_text" = some (some (.ref f_x__law_text)))
    (l_x__law_text : K.lookup f_x__law_text = some ⟨v1_x__law_text, o1_x__law_text, .func (PySem.W.fnOf "_law_text" "_law_text" (defArgs s__law_text) (defBody s__law_text) (defScope s__law_text) .none v2_x__law_text v3_x__law_text v4_x__law_text o3_x__law_text v5_x__law_text v6_x__law_text), o2_x__law_text⟩)
    (c_x__law_text : PySem.W.codeIn K v5_x__law_text "_law_text" = true)
    (k_x__law_text : PySem.W.keepIn K (.ref f_x__law_text) = true)
    {f_x_distances_by : Addr} {o1_x_distances_by o3_x_distances_by : Option Addr} {o2_x_distances_by : Array (Option Value)} {v1_x_distances_by v2_x_distances_by v3_x_distances_by v4_x_distances_by v5_x_distances_by v6_x_distances_by : Value}
    (a_x_distances_by : PySem.W.nsIn K mainGlobals "distances_by" = some (some (.ref f_x_distances_by)))
    (l_x_distances_by : K.lookup f_x_distances_by = some ⟨v1_x_distances_by, o1_x_distances_by, .func (PySem.W.fnOf "distances_by" "distances_by" (defArgs s_distances_by) (defBody s_distances_by) (defScope s_distances_by) .none v2_x_distances_by v3_x_distances_by v4_x_distances_by o3_x_distances_by v5_x_distances_by v6_x_distances_by), o2_x_distances_by⟩)
    (c_x_distances_by : PySem.W.codeIn K v5_x_distances_by "distances_by" = true)
    (k_x_distances_by : PySem.W.keepIn K (.ref f_x_distances_by) = true)
    {f_x_is_sequence : Addr} {o1_x_is_sequence o3_x_is_sequence : Option Addr} {o2_x_is_sequence : Array (Option Value)} {v1_x_is_sequence v2_x_is_sequence v3_x_is_sequence v4_x_is_sequence v5_x_is_sequence v6_x_is_sequence : Value}
    (a_x_is_sequence : PySem.W.nsIn K mainGlobals "is_sequence" = some (some (.ref f_x_is_sequence)))
    (l_x_is_sequence : K.lookup f_x_is_sequence = some ⟨v1_x_is_sequence, o1_x_is_sequence, .func (PySem.W.fnOf "is_sequence" "is_sequence" (defArgs s_is_sequence) (defBody s_is_sequence) (defScope s_is_sequence) .none v2_x_is_sequence v3_x_is_sequence v4_x_is_sequence o3_x_is_sequence v5_x_is_sequence v6_x_is_sequence), o2_x_is_sequence⟩)
    (c_x_is_sequence : PySem.W.codeIn K v5_x_is_sequence "is_sequence" = true)
    (k_x_is_sequence : PySem.W.keepIn K (.ref f_x_is_sequence) = true)
    {f_x_are_strings : Addr} {o1_x_are_strings o3_x_are_strings : Option Addr} {o2_x_are_strings : Array (Option Value)} {v1_x_are_strings v2_x_are_strings v3_x_are_strings v4_x_are_strings v5_x_are_strings v6_x_are_strings : Value}
    (a_x_are_strings : PySem.W.nsIn K mainGlobals "are_strings" = some (some (.ref f_x_are_strings)))
    (l_x_are_strings : K.lookup f_x_are_strings = some ⟨v1_x_are_strings, o1_x_are_strings, .func (PySem.W.fnOf "are_strings" "are_strings" (defArgs s_are_strings) (defBody s_are_strings) (defScope s_are_strings) .none v2_x_are_strings v3_x_are_strings v4_x_are_strings o3_x_are_strings v5_x_are_strings v6_x_are_strings), o2_x_are_strings⟩)
    (c_x_are_strings : PySem.W.codeIn K v5_x_are_strings "are_strings" = true)
    (k_x_are_strings : PySem.W.keepIn K (.ref f_x_are_strings) = true)
    {f_x_distances_of : Addr} {o1_x_distances_of o3_x_distances_of : Option Addr} {o2_x_distances_of : Array (Option Value)} {v1_x_distances_of v2_x_distances_of v3_x_distances_of v4_x_distances_of v5_x_distances_of v6_x_distances_of : Value}
    (a_x_distances_of : PySem.W.nsIn K mainGlobals "distances_of" = some (some (.ref f_x_distances_of)))
    (l_x_distances_of : K.lookup f_x_distances_of = some ⟨v1_x_distances_of, o1_x_distances_of, .func (PySem.W.fnOf "distances_of" "distances_of" (defArgs s_distances_of) (defBody s_distances_of) (defScope s_distances_of) .none v2_x_distances_of v3_x_distances_of v4_x_distances_of o3_x_distances_of v5_x_distances_of v6_x_distances_of), o2_x_distances_of⟩)
    (c_x_distances_of : PySem.W.codeIn K v5_x_distances_of "distances_of" = true)
    (k_x_distances_of : PySem.W.keepIn K (.ref f_x_distances_of) = true)
    {f_x__law_shuffled : Addr} {o1_x__law_shuffled o3_x__law_shuffled : Option Addr} {o2_x__law_shuffled : Array (Option Value)} {v1_x__law_shuffled v2_x__law_shuffled v3_x__law_shuffled v4_x__law_shuffled v5_x__law_shuffled v6_x__law_shuffled : Value}
    (a_x__law_shuffled : PySem.W.nsIn K mainGlobals "_law_shuffled" = some (some (.ref f_x__law_shuffled)))
    (l_x__law_shuffled : K.lookup f_x__law_shuffled = some ⟨v1_x__law_shuffled, o1_x__law_shuffled, .func (PySem.W.fnOf "_law_shuffled" "_law_shuffled" (defArgs s__law_shuffled) (defBody s__law_shuffled) (defScope s__law_shuffled) .none v2_x__law_shuffled v3_x__law_shuffled v4_x__law_shuffled o3_x__law_shuffled v5_x__law_shuffled v6_x__law_shuffled), o2_x__law_shuffled⟩)
    (c_x__law_shuffled : PySem.W.codeIn K v5_x__law_shuffled "_law_shuffled" = true)
    (k_x__law_shuffled : PySem.W.keepIn K (.ref f_x__law_shuffled) = true)
    {f_x__law_names : Addr} {o1_x__law_names o3_x__law_names : Option Addr} {o2_x__law_names : Array (Option Value)} {v1_x__law_names v2_x__law_names v3_x__law_names v4_x__law_names v5_x__law_names v6_x__law_names : Value}
    (a_x__law_names : PySem.W.nsIn K mainGlobals "_law_names" = some (some (.ref f_x__law_names)))
    (l_x__law_names : K.lookup f_x__law_names = some ⟨v1_x__law_names, o1_x__law_names, .func (PySem.W.fnOf "_law_names" "_law_names" (defArgs s__law_names) (defBody s__law_names) (defScope s__law_names) .none v2_x__law_names v3_x__law_names v4_x__law_names o3_x__law_names v5_x__law_names v6_x__law_names), o2_x__law_names⟩)
    (c_x__law_names : PySem.W.codeIn K v5_x__law_names "_law_names" = true)
    (k_x__law_names : PySem.W.keepIn K (.ref f_x__law_names) = true)
    {f_x_is_integer : Addr} {o1_x_is_integer o3_x_is_integer : Option Addr} {o2_x_is_integer : Array (Option Value)} {v1_x_is_integer v2_x_is_integer v3_x_is_integer v4_x_is_integer v5_x_is_integer v6_x_is_integer : Value} {t_x_is_integer : Addr} {oc_x_is_integer : Value} {od_x_is_integer : Option Addr} {n_x_is_integer : Nat} {os_x_is_integer : Array (Option Value)}
    (a_x_is_integer : PySem.W.nsIn K mainGlobals "is_integer" = some (some (.ref f_x_is_integer)))
    (l_x_is_integer : K.lookup f_x_is_integer = some ⟨v1_x_is_integer, o1_x_is_integer, .func (PySem.W.fnOf "is_integer" "is_integer" (defArgs s_is_integer) (defBody s_is_integer) (defScope s_is_integer) (.ref t_x_is_integer) v2_x_is_integer v3_x_is_integer v4_x_is_integer o3_x_is_integer v5_x_is_integer v6_x_is_integer), o2_x_is_integer⟩)
    (d_x_is_integer : K.lookup t_x_is_integer = some ⟨oc_x_is_integer, od_x_is_integer, .seq #[.none] n_x_is_integer, os_x_is_integer⟩)
    (c_x_is_integer : PySem.W.codeIn K v5_x_is_integer "is_integer" = true)
    (k_x_is_integer : PySem.W.keepIn K (.ref f_x_is_integer) = true)
    {f_x_distances_from_ranks : Addr} {o1_x_distances_from_ranks o3_x_distances_from_ranks : Option Addr} {o2_x_distances_from_ranks : Array (Option Value)} {v1_x_distances_from_ranks v2_x_distances_from_ranks v3_x_distances_from_ranks v4_x_distances_from_ranks v5_x_distances_from_ranks v6_x_distances_from_ranks : Value}
    (a_x_distances_from_ranks : PySem.W.nsIn K mainGlobals "distances_from_ranks" = some (some (.ref f_x_distances_from_ranks)))
    (l_x_distances_from_ranks : K.lookup f_x_distances_from_ranks = some ⟨v1_x_distances_from_ranks, o1_x_distances_from_ranks, .func (PySem.W.fnOf "distances_from_ranks" "distances_from_ranks" (defArgs s_distances_from_ranks) (defBody s_distances_from_ranks) (defScope s_distances_from_ranks) .none v2_x_distances_from_ranks v3_x_distances_from_ranks v4_x_distances_from_ranks o3_x_distances_from_ranks v5_x_distances_from_ranks v6_x_distances_from_ranks), o2_x_distances_from_ranks⟩)
    (c_x_distances_from_ranks : PySem.W.codeIn K v5_x_distances_from_ranks "distances_from_ranks" = true)
    (k_x_distances_from_ranks : PySem.W.keepIn K (.ref f_x_distances_from_ranks) = true)
    {f_x_is_distances : Addr} {o1_x_is_distances o3_x_is_distances : Option Addr} {o2_x_is_distances : Array (Option Value)} {v1_x_is_distances v2_x_is_distances v3_x_is_distances v4_x_is_distances v5_x_is_distances v6_x_is_distances : Value}
    (a_x_is_distances : PySem.W.nsIn K mainGlobals "is_distances" = some (some (.ref f_x_is_distances)))
    (l_x_is_distances : K.lookup f_x_is_distances = some ⟨v1_x_is_distances, o1_x_is_distances, .func (PySem.W.fnOf "is_distances" "is_distances" (defArgs s_is_distances) (defBody s_is_distances) (defScope s_is_distances) .none v2_x_is_distances v3_x_is_distances v4_x_is_distances o3_x_is_distances v5_x_is_distances v6_x_is_distances), o2_x_is_distances⟩)
    (c_x_is_distances : PySem.W.codeIn K v5_x_is_distances "is_distances" = true)
    (k_x_is_distances : PySem.W.keepIn K (.ref f_x_is_distances) = true)
    {f_x_checked : Addr} {o1_x_checked o3_x_checked : Option Addr} {o2_x_checked : Array (Option Value)} {v1_x_checked v2_x_checked v3_x_checked v4_x_checked v5_x_checked v6_x_checked : Value}
    (a_x_checked : PySem.W.nsIn K mainGlobals "checked" = some (some (.ref f_x_checked)))
    (l_x_checked : K.lookup f_x_checked = some ⟨v1_x_checked, o1_x_checked, .func (PySem.W.fnOf "checked" "checked" (defArgs s_checked) (defBody s_checked) (defScope s_checked) .none v2_x_checked v3_x_checked v4_x_checked o3_x_checked v5_x_checked v6_x_checked), o2_x_checked⟩)
    (c_x_checked : PySem.W.codeIn K v5_x_checked "checked" = true)
    (k_x_checked : PySem.W.keepIn K (.ref f_x_checked) = true)
    {f_x_symbol_count : Addr} {o1_x_symbol_count o3_x_symbol_count : Option Addr} {o2_x_symbol_count : Array (Option Value)} {v1_x_symbol_count v2_x_symbol_count v3_x_symbol_count v4_x_symbol_count v5_x_symbol_count v6_x_symbol_count : Value}
    (a_x_symbol_count : PySem.W.nsIn K mainGlobals "symbol_count" = some (some (.ref f_x_symbol_count)))
    (l_x_symbol_count : K.lookup f_x_symbol_count = some ⟨v1_x_symbol_count, o1_x_symbol_count, .func (PySem.W.fnOf "symbol_count" "symbol_count" (defArgs s_symbol_count) (defBody s_symbol_count) (defScope s_symbol_count) .none v2_x_symbol_count v3_x_symbol_count v4_x_symbol_count o3_x_symbol_count v5_x_symbol_count v6_x_symbol_count), o2_x_symbol_count⟩)
    (c_x_symbol_count : PySem.W.codeIn K v5_x_symbol_count "symbol_count" = true)
    (k_x_symbol_count : PySem.W.keepIn K (.ref f_x_symbol_count) = true)
    {f_x_ids_of : Addr} {o1_x_ids_of o3_x_ids_of : Option Addr} {o2_x_ids_of : Array (Option Value)} {v1_x_ids_of v2_x_ids_of v3_x_ids_of v4_x_ids_of v5_x_ids_of v6_x_ids_of : Value}
    (a_x_ids_of : PySem.W.nsIn K mainGlobals "ids_of" = some (some (.ref f_x_ids_of)))
    (l_x_ids_of : K.lookup f_x_ids_of = some ⟨v1_x_ids_of, o1_x_ids_of, .func (PySem.W.fnOf "ids_of" "ids_of" (defArgs s_ids_of) (defBody s_ids_of) (defScope s_ids_of) .none v2_x_ids_of v3_x_ids_of v4_x_ids_of o3_x_ids_of v5_x_ids_of v6_x_ids_of), o2_x_ids_of⟩)
    (c_x_ids_of : PySem.W.codeIn K v5_x_ids_of "ids_of" = true)
    (k_x_ids_of : PySem.W.keepIn K (.ref f_x_ids_of) = true)
    {f_x_with_symbols : Addr} {o1_x_with_symbols o3_x_with_symbols : Option Addr} {o2_x_with_symbols : Array (Option Value)} {v1_x_with_symbols v2_x_with_symbols v3_x_with_symbols v4_x_with_symbols v5_x_with_symbols v6_x_with_symbols : Value}
    (a_x_with_symbols : PySem.W.nsIn K mainGlobals "with_symbols" = some (some (.ref f_x_with_symbols)))
    (l_x_with_symbols : K.lookup f_x_with_symbols = some ⟨v1_x_with_symbols, o1_x_with_symbols, .func (PySem.W.fnOf "with_symbols" "with_symbols" (defArgs s_with_symbols) (defBody s_with_symbols) (defScope s_with_symbols) .none v2_x_with_symbols v3_x_with_symbols v4_x_with_symbols o3_x_with_symbols v5_x_with_symbols v6_x_with_symbols), o2_x_with_symbols⟩)
    (c_x_with_symbols : PySem.W.codeIn K v5_x_with_symbols "with_symbols" = true)
    (k_x_with_symbols : PySem.W.keepIn K (.ref f_x_with_symbols) = true)
    {f_x_rank_at : Addr} {o1_x_rank_at o3_x_rank_at : Option Addr} {o2_x_rank_at : Array (Option Value)} {v1_x_rank_at v2_x_rank_at v3_x_rank_at v4_x_rank_at v5_x_rank_at v6_x_rank_at : Value}
    (a_x_rank_at : PySem.W.nsIn K mainGlobals "rank_at" = some (some (.ref f_x_rank_at)))
    (l_x_rank_at : K.lookup f_x_rank_at = some ⟨v1_x_rank_at, o1_x_rank_at, .func (PySem.W.fnOf "rank_at" "rank_at" (defArgs s_rank_at) (defBody s_rank_at) (defScope s_rank_at) .none v2_x_rank_at v3_x_rank_at v4_x_rank_at o3_x_rank_at v5_x_rank_at v6_x_rank_at), o2_x_rank_at⟩)
    (c_x_rank_at : PySem.W.codeIn K v5_x_rank_at "rank_at" = true)
    (k_x_rank_at : PySem.W.keepIn K (.ref f_x_rank_at) = true)
    {f_x_recency_ranks : Addr} {o1_x_recency_ranks o3_x_recency_ranks : Option Addr} {o2_x_recency_ranks : Array (Option Value)} {v1_x_recency_ranks v2_x_recency_ranks v3_x_recency_ranks v4_x_recency_ranks v5_x_recency_ranks v6_x_recency_ranks : Value}
    (a_x_recency_ranks : PySem.W.nsIn K mainGlobals "recency_ranks" = some (some (.ref f_x_recency_ranks)))
    (l_x_recency_ranks : K.lookup f_x_recency_ranks = some ⟨v1_x_recency_ranks, o1_x_recency_ranks, .func (PySem.W.fnOf "recency_ranks" "recency_ranks" (defArgs s_recency_ranks) (defBody s_recency_ranks) (defScope s_recency_ranks) .none v2_x_recency_ranks v3_x_recency_ranks v4_x_recency_ranks o3_x_recency_ranks v5_x_recency_ranks v6_x_recency_ranks), o2_x_recency_ranks⟩)
    (c_x_recency_ranks : PySem.W.codeIn K v5_x_recency_ranks "recency_ranks" = true)
    (k_x_recency_ranks : PySem.W.keepIn K (.ref f_x_recency_ranks) = true)
    {f_x__law_firsts : Addr} {o1_x__law_firsts o3_x__law_firsts : Option Addr} {o2_x__law_firsts : Array (Option Value)} {v1_x__law_firsts v2_x__law_firsts v3_x__law_firsts v4_x__law_firsts v5_x__law_firsts v6_x__law_firsts : Value}
    (a_x__law_firsts : PySem.W.nsIn K mainGlobals "_law_firsts" = some (some (.ref f_x__law_firsts)))
    (l_x__law_firsts : K.lookup f_x__law_firsts = some ⟨v1_x__law_firsts, o1_x__law_firsts, .func (PySem.W.fnOf "_law_firsts" "_law_firsts" (defArgs s__law_firsts) (defBody s__law_firsts) (defScope s__law_firsts) .none v2_x__law_firsts v3_x__law_firsts v4_x__law_firsts o3_x__law_firsts v5_x__law_firsts v6_x__law_firsts), o2_x__law_firsts⟩)
    (c_x__law_firsts : PySem.W.codeIn K v5_x__law_firsts "_law_firsts" = true)
    (k_x__law_firsts : PySem.W.keepIn K (.ref f_x__law_firsts) = true)
    {f_x__law_alike : Addr} {o1_x__law_alike o3_x__law_alike : Option Addr} {o2_x__law_alike : Array (Option Value)} {v1_x__law_alike v2_x__law_alike v3_x__law_alike v4_x__law_alike v5_x__law_alike v6_x__law_alike : Value}
    (a_x__law_alike : PySem.W.nsIn K mainGlobals "_law_alike" = some (some (.ref f_x__law_alike)))
    (l_x__law_alike : K.lookup f_x__law_alike = some ⟨v1_x__law_alike, o1_x__law_alike, .func (PySem.W.fnOf "_law_alike" "_law_alike" (defArgs s__law_alike) (defBody s__law_alike) (defScope s__law_alike) .none v2_x__law_alike v3_x__law_alike v4_x__law_alike o3_x__law_alike v5_x__law_alike v6_x__law_alike), o2_x__law_alike⟩)
    (c_x__law_alike : PySem.W.codeIn K v5_x__law_alike "_law_alike" = true)
    (k_x__law_alike : PySem.W.keepIn K (.ref f_x__law_alike) = true)
    {f_x_symbol_ids : Addr} {o1_x_symbol_ids o3_x_symbol_ids : Option Addr} {o2_x_symbol_ids : Array (Option Value)} {v1_x_symbol_ids v2_x_symbol_ids v3_x_symbol_ids v4_x_symbol_ids v5_x_symbol_ids v6_x_symbol_ids : Value}
    (a_x_symbol_ids : PySem.W.nsIn K mainGlobals "symbol_ids" = some (some (.ref f_x_symbol_ids)))
    (l_x_symbol_ids : K.lookup f_x_symbol_ids = some ⟨v1_x_symbol_ids, o1_x_symbol_ids, .func (PySem.W.fnOf "symbol_ids" "symbol_ids" (defArgs s_symbol_ids) (defBody s_symbol_ids) (defScope s_symbol_ids) .none v2_x_symbol_ids v3_x_symbol_ids v4_x_symbol_ids o3_x_symbol_ids v5_x_symbol_ids v6_x_symbol_ids), o2_x_symbol_ids⟩)
    (c_x_symbol_ids : PySem.W.codeIn K v5_x_symbol_ids "symbol_ids" = true)
    (k_x_symbol_ids : PySem.W.keepIn K (.ref f_x_symbol_ids) = true)
    {f_x_law : Addr} {o1_x_law o3_x_law : Option Addr} {o2_x_law : Array (Option Value)} {v1_x_law v2_x_law v3_x_law v4_x_law v5_x_law v6_x_law : Value}
    (a_x_law : PySem.W.nsIn K mainGlobals "law" = some (some (.ref f_x_law)))
    (l_x_law : K.lookup f_x_law = some ⟨v1_x_law, o1_x_law, .func (PySem.W.fnOf "law" "law" (defArgs s_law) (defBody s_law) (defScope s_law) .none v2_x_law v3_x_law v4_x_law o3_x_law v5_x_law v6_x_law), o2_x_law⟩)
    (c_x_law : PySem.W.codeIn K v5_x_law "law" = true)
    (k_x_law : PySem.W.keepIn K (.ref f_x_law) = true)
    {t_g_MAX_POSITIONS : Tok} (g_MAX_POSITIONS : PySem.W.nsIn K mainGlobals "MAX_POSITIONS" = some (some (.int 400 t_g_MAX_POSITIONS)))
    (z_all : PySem.W.nsIn K mainGlobals "all" = some none)
    (z_bool : PySem.W.nsIn K mainGlobals "bool" = some none)
    (z_dict : PySem.W.nsIn K mainGlobals "dict" = some none)
    (z_enumerate : PySem.W.nsIn K mainGlobals "enumerate" = some none)
    (z_int : PySem.W.nsIn K mainGlobals "int" = some none)
    (z_isinstance : PySem.W.nsIn K mainGlobals "isinstance" = some none)
    (z_len : PySem.W.nsIn K mainGlobals "len" = some none)
    (z_list : PySem.W.nsIn K mainGlobals "list" = some none)
    (z_min : PySem.W.nsIn K mainGlobals "min" = some none)
    (z_range : PySem.W.nsIn K mainGlobals "range" = some none)
    (z_set : PySem.W.nsIn K mainGlobals "set" = some none)
    (z_sorted : PySem.W.nsIn K mainGlobals "sorted" = some none)
    (z_str : PySem.W.nsIn K mainGlobals "str" = some none)
    (z_tuple : PySem.W.nsIn K mainGlobals "tuple" = some none)
    (z_zip : PySem.W.nsIn K mainGlobals "zip" = some none) :
    ∃ fd : FuncData, (∀ (s : Shared) (u : Value), BindsTo s fd ⟨[u], []⟩ [("_law_script", u)]) ∧ ∀ base : Heap, K.In base → base.Ns mainGlobals mg → FnG l.prog w K mg base CX0 5 fa fd ["_law_script"] (spW K mg false w_law) :=
  have T : Txt K mg := all_mk X G a_x__law_bag l_x__law_bag c_x__law_bag k_x__law_bag a_x__law_stir l_x__law_stir c_x__law_stir k_x__law_stir a_x__law_draw l_x__law_draw c_x__law_draw k_x__law_draw a_x__law_text l_x__law_text c_x__law_text k_x__law_text a_x_distances_by l_x_distances_by c_x_distances_by k_x_distances_by a_x_is_sequence l_x_is_sequence c_x_is_sequence k_x_is_sequence a_x_are_strings l_x_are_strings c_x_are_strings k_x_are_strings a_x_distances_of l_x_distances_of c_x_distances_of k_x_distances_of a_x__law_shuffled l_x__law_shuffled c_x__law_shuffled k_x__law_shuffled a_x__law_names l_x__law_names c_x__law_names k_x__law_names a_x_is_integer l_x_is_integer d_x_is_integer c_x_is_integer k_x_is_integer a_x_distances_from_ranks l_x_distances_from_ranks c_x_distances_from_ranks k_x_distances_from_ranks a_x_is_distances l_x_is_distances c_x_is_distances k_x_is_distances a_x_checked l_x_checked c_x_checked k_x_checked a_x_symbol_count l_x_symbol_count c_x_symbol_count k_x_symbol_count a_x_ids_of l_x_ids_of c_x_ids_of k_x_ids_of a_x_with_symbols l_x_with_symbols c_x_with_symbols k_x_with_symbols a_x_rank_at l_x_rank_at c_x_rank_at k_x_rank_at a_x_recency_ranks l_x_recency_ranks c_x_recency_ranks k_x_recency_ranks a_x__law_firsts l_x__law_firsts c_x__law_firsts k_x__law_firsts a_x__law_alike l_x__law_alike c_x__law_alike k_x__law_alike a_x_symbol_ids l_x_symbol_ids c_x_symbol_ids k_x_symbol_ids a_x_law l_x_law c_x_law k_x_law g_MAX_POSITIONS z_all z_bool z_dict z_enumerate z_int z_isinstance z_len z_list z_min z_range z_set z_sorted z_str z_tuple z_zip
  law_fin (x := "_law_script") T.d_law hfa (fun _ _ _ _ _ _ _ => rfl) fun base => t_law T
theorem walk {l : PySem.W.OpenLaw} {q : Program} {loose : List Str} {XP : (Str → Option Value) → Heap → Prop} {YP : World → Heap → Prop} {d : DefRec} {K : Params → PySem.W.Frag} (hn : l.most = some 63) (hdf : d.params.defaults = [])
    (hY : ∀ (w : World) (h : Heap), YP w h → (K w.params).In h)
    (F : ∀ (w : World) (mg : Str → Option Value) (fa : Addr) (h : Heap), (K w.params).In h → h.Ns mainGlobals mg → mg d.name = some (.ref fa) →
      ∃ fd : FuncData, (∀ (s : Shared) (u : Value), BindsTo s fd ⟨[u], []⟩ [("_law_script", u)]) ∧ ∀ base : Heap, (K w.params).In base → base.Ns mainGlobals mg → FnG l.prog w (K w.params) mg base CX0 5 fa fd ["_law_script"] (spW (K w.params) mg false w_law)) :
    PySem.W.WalkO q loose XP YP l.row.toRowW d [] (fun f vs => PySem.call f vs) :=
  DL.walkG (n := 63) (k := 5) (x := "_law_script") (CX := CX0) (f := w_law) hn (by decide) hdf ⟨rfl, by decide, by decide⟩ hY F law_ok (fun _ _ _ _ z => z)
end K05

open PySem PySem.W PyProof.Rows
set_option maxRecDepth 100000 in
set_option maxHeartbeats 0 in
theorem PySem.Challenge.cw_howfarback_k05_whole_names_do_not_matter_holds : PySem.Challenge.rw_howfarback_k05_whole_names_do_not_matter.Holds := by
  w_on; o_law; k_head; (case hw => w_witness2)
  k_fill
  refine K05.walk (l := PySem.Challenge.rw_howfarback_k05_whole_names_do_not_matter) rfl rfl (fun w h Y => PySem.W.kIn_of Y) ?F
  case F =>
    intro w mg fa h KX G hmg
    refine' K05.all_fin KX G hmg ?a_x__law_bag ?l_x__law_bag ?c_x__law_bag ?k_x__law_bag ?a_x__law_stir ?l_x__law_stir ?c_x__law_stir ?k_x__law_stir ?a_x__law_draw ?l_x__law_draw ?c_x__law_draw ?k_x__law_draw ?a_x__law_text ?l_x__law_text ?c_x__law_text ?k_x__law_text ?a_x_distances_by ?l_x_distances_by ?c_x_distances_by ?k_x_distances_by ?a_x_is_sequence ?l_x_is_sequence ?c_x_is_sequence ?k_x_is_sequence ?a_x_are_strings ?l_x_are_strings ?c_x_are_strings ?k_x_are_strings ?a_x_distances_of ?l_x_distances_of ?c_x_distances_of ?k_x_distances_of ?a_x__law_shuffled ?l_x__law_shuffled ?c_x__law_shuffled ?k_x__law_shuffled ?a_x__law_names ?l_x__law_names ?c_x__law_names ?k_x__law_names ?a_x_is_integer ?l_x_is_integer ?d_x_is_integer ?c_x_is_integer ?k_x_is_integer ?a_x_distances_from_ranks ?l_x_distances_from_ranks ?c_x_distances_from_ranks ?k_x_distances_from_ranks ?a_x_is_distances ?l_x_is_distances ?c_x_is_distances ?k_x_is_distances ?a_x_checked ?l_x_checked ?c_x_checked ?k_x_checked ?a_x_symbol_count ?l_x_symbol_count ?c_x_symbol_count ?k_x_symbol_count ?a_x_ids_of ?l_x_ids_of ?c_x_ids_of ?k_x_ids_of ?a_x_with_symbols ?l_x_with_symbols ?c_x_with_symbols ?k_x_with_symbols ?a_x_rank_at ?l_x_rank_at ?c_x_rank_at ?k_x_rank_at ?a_x_recency_ranks ?l_x_recency_ranks ?c_x_recency_ranks ?k_x_recency_ranks ?a_x__law_firsts ?l_x__law_firsts ?c_x__law_firsts ?k_x__law_firsts ?a_x__law_alike ?l_x__law_alike ?c_x__law_alike ?k_x__law_alike ?a_x_symbol_ids ?l_x_symbol_ids ?c_x_symbol_ids ?k_x_symbol_ids ?a_x_law ?l_x_law ?c_x_law ?k_x_law ?g_MAX_POSITIONS ?z_all ?z_bool ?z_dict ?z_enumerate ?z_int ?z_isinstance ?z_len ?z_list ?z_min ?z_range ?z_set ?z_sorted ?z_str ?z_tuple ?z_zip
    (case a_x__law_bag => k_is)
    (case l_x__law_bag => k_is)
    (case c_x__law_bag => k_is)
    (case k_x__law_bag => k_is)
    (case a_x__law_stir => k_is)
    (case l_x__law_stir => k_is)
    (case c_x__law_stir => k_is)
    (case k_x__law_stir => k_is)
    (case a_x__law_draw => k_is)
    (case l_x__law_draw => k_is)
    (case c_x__law_draw => k_is)
    (case k_x__law_draw => k_is)
    (case a_x__law_text => k_is)
    (case l_x__law_text => k_is)
    (case c_x__law_text => k_is)
    (case k_x__law_text => k_is)
    (case a_x_distances_by => k_is)
    (case l_x_distances_by => k_is)
    (case c_x_distances_by => k_is)
    (case k_x_distances_by => k_is)
    (case a_x_is_sequence => k_is)
    (case l_x_is_sequence => k_is)
    (case c_x_is_sequence => k_is)
    (case k_x_is_sequence => k_is)
    (case a_x_are_strings => k_is)
    (case l_x_are_strings => k_is)
    (case c_x_are_strings => k_is)
    (case k_x_are_strings => k_is)
    (case a_x_distances_of => k_is)
    (case l_x_distances_of => k_is)
    (case c_x_distances_of => k_is)
    (case k_x_distances_of => k_is)
    (case a_x__law_shuffled => k_is)
    (case l_x__law_shuffled => k_is)
    (case c_x__law_shuffled => k_is)
    (case k_x__law_shuffled => k_is)
    (case a_x__law_names => k_is)
    (case l_x__law_names => k_is)
    (case c_x__law_names => k_is)
    (case k_x__law_names => k_is)
    (case a_x_is_integer => k_is)
    (case l_x_is_integer => k_is)
    (case d_x_is_integer => k_is)
    (case c_x_is_integer => k_is)
    (case k_x_is_integer => k_is)
    (case a_x_distances_from_ranks => k_is)
    (case l_x_distances_from_ranks => k_is)
    (case c_x_distances_from_ranks => k_is)
    (case k_x_distances_from_ranks => k_is)
    (case a_x_is_distances => k_is)
    (case l_x_is_distances => k_is)
    (case c_x_is_distances => k_is)
    (case k_x_is_distances => k_is)
    (case a_x_checked => k_is)
    (case l_x_checked => k_is)
    (case c_x_checked => k_is)
    (case k_x_checked => k_is)
    (case a_x_symbol_count => k_is)
    (case l_x_symbol_count => k_is)
    (case c_x_symbol_count => k_is)
    (case k_x_symbol_count => k_is)
    (case a_x_ids_of => k_is)
    (case l_x_ids_of => k_is)
    (case c_x_ids_of => k_is)
    (case k_x_ids_of => k_is)
    (case a_x_with_symbols => k_is)
    (case l_x_with_symbols => k_is)
    (case c_x_with_symbols => k_is)
    (case k_x_with_symbols => k_is)
    (case a_x_rank_at => k_is)
    (case l_x_rank_at => k_is)
    (case c_x_rank_at => k_is)
    (case k_x_rank_at => k_is)
    (case a_x_recency_ranks => k_is)
    (case l_x_recency_ranks => k_is)
    (case c_x_recency_ranks => k_is)
    (case k_x_recency_ranks => k_is)
    (case a_x__law_firsts => k_is)
    (case l_x__law_firsts => k_is)
    (case c_x__law_firsts => k_is)
    (case k_x__law_firsts => k_is)
    (case a_x__law_alike => k_is)
    (case l_x__law_alike => k_is)
    (case c_x__law_alike => k_is)
    (case k_x__law_alike => k_is)
    (case a_x_symbol_ids => k_is)
    (case l_x_symbol_ids => k_is)
    (case c_x_symbol_ids => k_is)
    (case k_x_symbol_ids => k_is)
    (case a_x_law => k_is)
    (case l_x_law => k_is)
    (case c_x_law => k_is)
    (case k_x_law => k_is)
    (case g_MAX_POSITIONS => k_is)
    (case z_all => k_is)
    (case z_bool => k_is)
    (case z_dict => k_is)
    (case z_enumerate => k_is)
    (case z_int => k_is)
    (case z_isinstance => k_is)
    (case z_len => k_is)
    (case z_list => k_is)
    (case z_min => k_is)
    (case z_range => k_is)
    (case z_set => k_is)
    (case z_sorted => k_is)
    (case z_str => k_is)
    (case z_tuple => k_is)
    (case z_zip => k_is)
