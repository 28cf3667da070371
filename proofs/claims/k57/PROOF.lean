import PyProof.Rows.All
import Wide.All
import OpenK.AllK
import Wide.FinOn
import HandS.ForMost
import HandS.IsInst
import HandS.Flow
import HandS.Exc
import HandS.Wide
import HandS.Style
import HandS.Deep
import HandS.More
import HandS.Text
import HandS.Zip
import HandS.Conv
import HandS.SetFor
import HandS.RaiseMore
import HandS.Words
import HandS.NoneIn
import HandS.Walk
import KE.GoesEnum
import HandS.Comp
import HandS.Ends
import HandS.Iter
import HandS.Defaults
import PyProof.EqKinds
import HandS.Dict
import PyProof.NeKinds
import PyProof.NeData
import HandS.SortInts
import HandS.Strs
import HandS.Set
import HandS.ExcOwn
import HandS.ExcIs
import HandS.FStr
import HandS.Codes
import PySem.Challenge.RW_howfarback_k57_format_errors
set_option Elab.async false
set_option linter.all false
set_option maxRecDepth 100000
set_option maxHeartbeats 4000000
/-! DW: Python values as trees, and the meaning of a def's body over them (no heap in sight). -/
namespace DL
open PySem

/-- a value as a tree; obj: a mutable object by its address; scr: the law's script -/
inductive D where
  | non
  | bl (b : Bool)
  | int (i : Int)
  | str (x : Str)
  | lst (xs : List D)
  | tup (xs : List D)
  | dct (kvs : List (L2.Key × D))
  | dcT (kvs : List (List L2.Key × D))
  | obj (a : Nat)
  | scr (ns : List Int)
/-- what a mutable object holds -/
inductive Ob where
  | spr
  | bag (m : Nat)
  | lst (xs : List D)
  | dct (kvs : List (L2.Key × D))
  | ins (cn : Str) (fs : List (Str × D))
  | exc (nm : Str) (cls : Value)
/-- what a law's bag holds: the script, how far it is read, what is left of a cell, two numbers more -/
def BagOk (m : Nat) (c : List D) : Prop := ∃ (ns : List Int) (i b n t : Int), c = [.lst (ns.map D.int), .int i, .int b, .int n, .int t] ∧ 0 ≤ i ∧ i ≤ ns.length ∧ 0 ≤ b ∧ 0 ≤ n ∧ n ≤ m ∧ 0 ≤ t ∧ t < 2 ^ 61
abbrev Sto := Nat → Option Ob
def Sto.upd (S : Sto) (a : Nat) (o : Ob) : Sto := fun b => if b = a then some o else S b
def noS : Sto := fun _ => none
abbrev Env := List (Option D)
structure Exn where
  cls : Str
  fs : List (Str × D)
abbrev RX := Exn → Sto → Prop
def noR : RX := fun _ _ => False
abbrev W (α : Type) := Sto → (α → Sto → Prop) → RX → Prop
abbrev WE := Env → W D
abbrev WT := Env → W Bool
abbrev WA := Env → W (List D)
abbrev Fn := List D → W D
structure EndsD where
  nx : Env → Sto → Prop
  rt : D → Sto → Prop
  bk : Env → Sto → Prop := fun _ _ => False
  ct : Env → Sto → Prop := fun _ _ => False
abbrev WS := Env → Sto → EndsD → RX → Prop
/-- the most items -/
abbrev LINE : Nat := 16777216

/-! ### operators on trees -/
def dAdd : D → D → Option D
  | .int a, .int b => some (.int (a + b))
  | .str a, .str b => if a.length + b.length ≤ LINE then some (.str (a ++ b)) else none
  | .lst a, .lst b => if a.length + b.length ≤ LINE then some (.lst (a ++ b)) else none
  | _, _ => none
def dSub : D → D → Option D
  | .int a, .int b => some (.int (a - b))
  | _, _ => none
def dMul : D → D → Option D
  | .int a, .int b => if ((-(2 ^ 64) < a ∧ a < 2 ^ 64) ∨ (-(2 ^ 64) < b ∧ b < 2 ^ 64)) ∨ a.natAbs.log2 + b.natAbs.log2 < 1000000 then some (.int (a * b)) else none
  | .lst a, .int k => if -(2 ^ 63) ≤ k ∧ k < 2 ^ 63 ∧ a.length * k.toNat ≤ LINE then some (.lst (List.replicate k.toNat a).flatten) else none
  | _, _ => none
def dDiv : D → D → Option D
  | .int a, .int b => if 0 < b ∧ b < 1073741824 then some (.int (a / b)) else none
  | _, _ => none
def dMod : D → D → Option D
  | .int a, .int b => if 0 < b then some (.int (a % b)) else none
  | _, _ => none
def dPow : D → D → Option D
  | .int a, .int b => if 0 ≤ b ∧ b ≤ 1000000 ∧ a.natAbs < 2 ^ 64 then some (.int (a ^ b.toNat)) else none
  | _, _ => none
def dNeg : D → Option D
  | .int a => some (.int (-a))
  | _ => none
def dCmp (f : Int → Int → Bool) : D → D → Option D
  | .int a, .int b => some (.bl (f a b))
  | _, _ => none
abbrev dLt := dCmp fun a b => decide (a < b)
abbrev dLe := dCmp fun a b => decide (a ≤ b)
abbrev dGt := dCmp fun a b => decide (b < a)
abbrev dGe := dCmp fun a b => decide (b ≤ a)

/-! ### == -/
mutual
def toPy : D → PyData
  | .non => .none
  | .bl b => .bool b
  | .int i => .int i
  | .str x => .str x
  | .lst xs => .list (toPyAll xs)
  | .tup xs => .tuple (toPyAll xs)
  | .scr ns => .list (ns.map PyData.int)
  | .dct kvs => .dict (toPyKv kvs)
  | _ => .dict []
def toPyAll : List D → List PyData
  | [] => []
  | x :: xs => toPy x :: toPyAll xs
def toPyKv : List (L2.Key × D) → List (PyData × PyData)
  | [] => []
  | (k, v) :: r => ((match k with | .inl i => PyData.int i | .inr x => .str x), toPy v) :: toPyKv r
end
def shD (d : D) : Bool := SeqAt.shaped (toPy d)
def dEqB : D → D → Option Bool
  | .str x, .str y => some (decide (x = y))
  | x, y => if shD x = true ∧ shD y = true then some (PyData.eqv (toPy x) (toPy y)) else none
def dEq (x y : D) : Option D := (dEqB x y).map D.bl
def dNe (x y : D) : Option D := (dEqB x y).map fun b => D.bl (!b)
/-- is None, is True, is False -/
def isNonD : D → Bool
  | .non => true
  | _ => false
def dIs : D → D → Option D
  | x, .non => some (.bl (isNonD x))
  | .bl a, .bl b => some (.bl (a == b))
  | _, _ => none
def dIsNot (x y : D) : Option D := match dIs x y with
  | some (.bl b) => some (.bl (!b))
  | _ => none
def isScal : D → Bool
  | .non => true | .bl _ => true | .int _ => true | .str _ => true | _ => false

/-! ### sequences -/
/-- the items of what may be walked -/
def itemsOf : D → Option (List D)
  | .lst xs => some xs
  | .tup xs => some xs
  | .scr ns => some (ns.map D.int)
  | _ => none
def dLen : D → Option D
  | .lst xs => some (.int (xs.length : Int))
  | .tup xs => some (.int (xs.length : Int))
  | .scr xs => some (.int (xs.length : Int))
  | .str x => if x.length ≤ LINE then some (.int (x.length : Int)) else none
  | .dct kvs => some (.int (kvs.length : Int))
  | _ => none
def dIx : D → D → Option D
  | .lst xs, .int i => L2.atI xs i
  | .tup xs, .int i => L2.atI xs i
  | .scr xs, .int i => (L2.atI xs i).map D.int
  | .str x, .int i => if x.length ≤ LINE then (L2.atI x.cps.toList i).map fun c => D.str ⟨#[c]⟩ else none
  | _, _ => none
/-- a key as a tree -/
def keyD : D → Option L2.Key
  | .int i => some (.inl i)
  | .str x => some (.inr x)
  | _ => none
def getD (kvs : List (L2.Key × D)) (k : L2.Key) : Option D := (kvs.find? fun kv => decide (kv.1 = k)).map (·.2)
/-- d[k] -/
def dGet : D → D → Option D
  | .dct kvs, k => (keyD k).bind (getD kvs)
  | _, _ => none
/-- d.get(k, x) -/
def dGet2 : D → D → D → Option D
  | .dct kvs, k, x => (keyD k).map fun k => (getD kvs k).getD x
  | _, _, _ => none
/-- k in d -/
def dInK : D → D → Option D
  | k, .dct kvs => (keyD k).map fun k => .bl (getD kvs k).isSome
  | _, _ => none
def dNotInK : D → D → Option D
  | k, .dct kvs => (keyD k).map fun k => .bl (!(getD kvs k).isSome)
  | _, _ => none
def putD (kvs : List (L2.Key × D)) (k : L2.Key) (v : D) : List (L2.Key × D) :=
  if (kvs.any fun kv => decide (kv.1 = k)) = true then kvs.map (fun kv => if kv.1 = k then (kv.1, v) else kv) else kvs ++ [(k, v)]
def cutD {α : Type} (xs : List α) (lo hi : Option Int) : List α :=
  (xs.drop (HT.sIx xs.length 0 lo)).take (HT.sIx xs.length xs.length hi - HT.sIx xs.length 0 lo)
def dTru : D → Option Bool
  | .non => some false
  | .bl b => some b
  | .int i => some (i != 0)
  | .str y => if y.length ≤ LINE then some ((y.length : Int) != 0) else none
  | .lst xs => some (!xs.isEmpty)
  | .tup xs => some (!xs.isEmpty)
  | .dct kvs => some (!kvs.isEmpty)
  | _ => none
/-- the built-in classes asked for by isinstance -/
inductive Ty5 where
  | int | bool | str | list | tuple
def Ty5.nm : Ty5 → String
  | .int => "int" | .bool => "bool" | .str => "str" | .list => "list" | .tuple => "tuple"
/-- isinstance(x, T) -/
def dIsI : D → Ty5 → Option Bool
  | .non, _ => some false
  | .bl _, .int => some true | .bl _, .bool => some true | .bl _, _ => some false
  | .int _, .int => some true | .int _, _ => some false
  | .str _, .str => some true | .str _, _ => some false
  | .lst _, .list => some true | .lst _, _ => some false
  | .scr _, .list => some true | .scr _, _ => some false
  | .tup _, .tuple => some true | .tup _, _ => some false
  | .dct _, _ => some false
  | _, _ => none
def dIsAny (d : D) : List Ty5 → Option Bool
  | [] => some false
  | T :: Ts => (dIsI d T).bind fun b => if b = true then some true else dIsAny d Ts

/-! ### functions -/
def boolsOf : List D → Option (List Bool)
  | [] => some []
  | .bl b :: r => (boolsOf r).map (b :: ·)
  | _ :: _ => none
def intsOf : List D → Option (List Int)
  | [] => some []
  | .int i :: r => (intsOf r).map (i :: ·)
  | _ :: _ => none
def strsOf : List D → Option (List Str)
  | [] => some []
  | .str i :: r => (strsOf r).map (i :: ·)
  | _ :: _ => none
def fLen : List D → Option D
  | [x] => dLen x
  | _ => none
def fAll : List D → Option D
  | [.lst xs] => (boolsOf xs).map fun bs => .bl (bs.all id)
  | _ => none
def fAny : List D → Option D
  | [.lst xs] => (boolsOf xs).map fun bs => .bl (bs.any id)
  | _ => none
def fSum : List D → Option D
  | [.lst xs] => (intsOf xs).map fun ns => .int ns.sum
  | _ => none
def fAbs : List D → Option D
  | [.int i] => some (.int (if i < 0 then -i else i))
  | _ => none
def fMax : List D → Option D
  | [.int i, .int j] => some (.int (if j > i then j else i))
  | _ => none
def fMin : List D → Option D
  | [.int i, .int j] => some (.int (if j < i then j else i))
  | _ => none
def fInt : List D → Option D
  | [.int i] => some (.int i)
  | [.bl k] => some (.int (if k then 1 else 0))
  | [.str a] => if a.length ≤ 640 then (PySem.intText? a).map D.int else none
  | _ => none
def fStr : List D → Option D
  | [.int i] => if i.natAbs.log2 < 1920 then some (.str (toString i)) else none
  | [.str a] => some (.str a)
  | _ => none
def fList : List D → Option D
  | [.lst xs] => some (.lst xs)
  | [.tup xs] => some (.lst xs)
  | [.scr xs] => some (.lst (xs.map D.int))
  | _ => none
def fTup : List D → Option D
  | [.lst xs] => some (.tup xs)
  | [.tup xs] => some (.tup xs)
  | _ => none
/-- the ints of a list, each once -/
def dedup (ns : List Int) : List Int := ns.foldl (fun acc n => if acc.any (· == n) then acc else acc ++ [n]) []
/-- len(set(x)) -/
def dLenSet : D → Option D
  | .lst xs => (intsOf xs).bind fun ns => if ns.length + 1 < 4096 then some (.int ((dedup ns).length : Int)) else none
  | _ => none
/-- repr(x): some text that hangs on the tree alone -/
def dRepr (d : D) : Option D := if (toPy d).canLay0 = true ∧ PyData.showable (toPy d) = true ∧ PyData.depth (toPy d) ≤ 64 ∧ (PyData.shown (toPy d)).length + 64 ≤ LINE then some (.str (PyData.shown (toPy d))) else none
/-! ### methods -/
def isStr : D → Bool
  | .str _ => true | _ => false
def isLst : D → Bool
  | .lst _ => true | _ => false
def mJoin : D → List D → Option D
  | .str a, [.lst xs] => (strsOf xs).bind fun ys => if (ys.map (·.length)).sum + ys.length * a.length ≤ LINE then some (.str (Txt.join a ys)) else none
  | _, _ => none
def mSplit : D → List D → Option D
  | .str a, [.str b] => if (b.length == 0) = false ∧ a.length + 2 ≤ LINE then some (.lst ((Txt.split a b).map D.str)) else none
  | _, _ => none
def mCount : D → List D → Option D
  | .lst xs, [.int k] => (intsOf xs).map fun ns => .int (ns.count k : Nat)
  | _, _ => none

/-! ### expressions -/
def eC (d : D) : WE := fun _ S P _ => P d S
def eVar (i : Nat) : WE := fun Δ S P _ => ∃ d, Δ[i]? = some (some d) ∧ P d S
def eUn (f : D → Option D) (a : WE) : WE := fun Δ S P R => a Δ S (fun x S1 => ∃ d, f x = some d ∧ P d S1) R
def eBin (f : D → D → Option D) (a b : WE) : WE := fun Δ S P R => a Δ S (fun x S1 => b Δ S1 (fun y S2 => ∃ d, f x y = some d ∧ P d S2) R) R
/-- x < y < z -/
def eChain (f g : D → D → Option D) (a b c : WE) : WE := fun Δ S P R => a Δ S (fun x S1 => b Δ S1 (fun y S2 => ∃ k, f x y = some (.bl k) ∧
  (if k = true then c Δ S2 (fun z S3 => ∃ d, g y z = some d ∧ P d S3) R else P (.bl false) S2)) R) R
def eAnd (a b : WE) : WE := fun Δ S P R => a Δ S (fun x S1 => ∃ k, x = .bl k ∧ (if k = true then b Δ S1 P R else P (.bl false) S1)) R
def eOr (a b : WE) : WE := fun Δ S P R => a Δ S (fun x S1 => ∃ k, x = .bl k ∧ (if k = true then P (.bl true) S1 else b Δ S1 P R)) R
def eNot (a : WE) : WE := fun Δ S P R => a Δ S (fun x S1 => ∃ k, x = .bl k ∧ P (.bl (!k)) S1) R
/-- x or y by truth -/
def eOrT (a b : WE) : WE := fun Δ S P R => a Δ S (fun x S1 => ∃ k, dTru x = some k ∧ (if k = true then P x S1 else b Δ S1 P R)) R
def eIf (t : WT) (a b : WE) : WE := fun Δ S P R => t Δ S (fun k S1 => if k = true then a Δ S1 P R else b Δ S1 P R) R
def tE (a : WE) : WT := fun Δ S P R => a Δ S (fun x S1 => ∃ k, x = .bl k ∧ P k S1) R
def tTru (a : WE) : WT := fun Δ S P R => a Δ S (fun x S1 => ∃ k, dTru x = some k ∧ P k S1) R
def tAnd (t u : WT) : WT := fun Δ S P R => t Δ S (fun k S1 => if k = true then u Δ S1 P R else P false S1) R
def tOr (t u : WT) : WT := fun Δ S P R => t Δ S (fun k S1 => if k = true then P true S1 else u Δ S1 P R) R
def tNot (t : WT) : WT := fun Δ S P R => t Δ S (fun k S1 => P (!k) S1) R
def aNil : WA := fun _ S P _ => P [] S
def aCons (a : WE) (r : WA) : WA := fun Δ S P R => a Δ S (fun x S1 => r Δ S1 (fun xs S2 => P (x :: xs) S2) R) R
def eLst (a : WA) : WE := fun Δ S P R => a Δ S (fun xs S1 => xs.length ≤ LINE ∧ P (.lst xs) S1) R
def eTup (a : WA) : WE := fun Δ S P R => a Δ S (fun xs S1 => xs.length ≤ LINE ∧ P (.tup xs) S1) R
/-- a call of a def: effects on the store; a pure one runs over no store -/
def eCall (f : Fn) (a : WA) : WE := fun Δ S P R => a Δ S (fun xs S1 => f xs S1 P R) R
def eCallP (f : Fn) (a : WA) : WE := fun Δ S P R => a Δ S (fun xs S1 => f xs noS (fun d _ => P d S1) fun x _ => R x S1) R
/-- the written arguments, then the defaults -/
def aDef (w : WA) (dd : List D) : WA := fun Δ S P R => w Δ S (fun ds S1 => P (ds ++ dd) S1) R
/-- a built-in of one, of any number of arguments, no effect -/
def eFn (f : List D → Option D) (a : WA) : WE := fun Δ S P R => a Δ S (fun xs S1 => ∃ d, f xs = some d ∧ P d S1) R
/-- isinstance(a, T), isinstance(a, (T, ..)) -/
def eIsI (Ts : List Ty5) (a : WE) : WE := fun Δ S P R => a Δ S (fun x S1 => ∃ k, dIsAny x Ts = some k ∧ P (.bl k) S1) R
/-- x.m(..) of a built-in class, nothing changed -/
def eMt (ok : D → Bool) (f : D → List D → Option D) (o : WE) (a : WA) : WE := fun Δ S P R => o Δ S (fun x S1 => ok x = true ∧ a Δ S1 (fun xs S2 => ∃ d, f x xs = some d ∧ P d S2) R) R
/-- d.get(k, x) -/
def eGet2 (o k x : WE) : WE := fun Δ S P R => o Δ S (fun d S1 => (∃ kvs, d = .dct kvs) ∧ k Δ S1 (fun y S2 => x Δ S2 (fun z S3 => ∃ r, dGet2 d y z = some r ∧ P r S3) R) R) R
/-- only a scalar is handed on -/
def eScal (a : WE) : WE := fun Δ S P R => a Δ S (fun x S1 => isScal x = true ∧ P x S1) R
/-- slices -/
def oNone : Env → W (Option Int) := fun _ S P _ => P none S
def oSome (a : WE) : Env → W (Option Int) := fun Δ S P R => a Δ S (fun x S1 => ∃ i, x = .int i ∧ P (some i) S1) R
def dSl : D → Option Int → Option Int → Option D
  | .lst xs, lo, hi => some (.lst (cutD xs lo hi))
  | .scr xs, lo, hi => some (.lst ((cutD xs lo hi).map D.int))
  | .str x, lo, hi => if x.length ≤ LINE then some (.str (L2.cutS x lo hi)) else none
  | _, _, _ => none
def eSl (a : WE) (l h : Env → W (Option Int)) : WE := fun Δ S P R => a Δ S (fun x S1 => l Δ S1 (fun lo S2 => h Δ S2 (fun hi S3 => ∃ d, dSl x lo hi = some d ∧ P d S3) R) R) R

/-! ### targets, walks -/
abbrev WG := D → Env → (Env → Prop) → Prop
abbrev WGs := List D → Env → (Env → Prop) → Prop
def gtName (i : Nat) : WG := fun d Δ K => K (Δ.set i (some d))
def gtNil : WGs := fun ds Δ K => ds = [] ∧ K Δ
def gtCons (g : WG) (r : WGs) : WGs := fun ds Δ K => ∃ d t, ds = d :: t ∧ g d Δ fun Δ1 => r t Δ1 K
def seqOf : D → Option (List D)
  | .tup ds => some ds
  | .lst ds => some ds
  | _ => none
def gtTup (n : Nat) (g : WGs) : WG := fun d Δ K => ∃ ds, seqOf d = some ds ∧ ds.length = n ∧ g ds Δ K
def killL (is : List Nat) (Δ : Env) : Env := is.foldl (fun Δ i => Δ.set i none) Δ
abbrev WI := Env → W (List D)
/-- the items of a list, tuple -/
def iSeq (a : WE) : WI := fun Δ S P R => a Δ S (fun x S1 => ∃ xs, itemsOf x = some xs ∧ P xs S1) R
def rngD (lo : Int) (n : Nat) : List D := (List.range n).map fun i => D.int (lo + (i : Nat))
def iRng1 (a : WE) : WI := fun Δ S P R => a Δ S (fun x S1 => ∃ j, x = .int j ∧ -(2 ^ 62) ≤ j ∧ j < 2 ^ 62 ∧ P (rngD 0 j.toNat) S1) R
def iRng2 (a b : WE) : WI := fun Δ S P R => a Δ S (fun x S1 => b Δ S1 (fun y S2 => ∃ i j, x = .int i ∧ y = .int j ∧ (-(2 ^ 62) ≤ i ∧ i < 2 ^ 62 ∧ -(2 ^ 62) ≤ j ∧ j < 2 ^ 62) ∧ P (rngD i (j - i).toNat) S2) R) R
def enumD (i : Nat) : List D → List D
  | [] => []
  | x :: xs => .tup [.int (i : Int), x] :: enumD (i + 1) xs
def iEnum (a : WE) : WI := fun Δ S P R => a Δ S (fun x S1 => ∃ xs, itemsOf x = some xs ∧ P (enumD 0 xs) S1) R
def zipD : List D → List D → List D
  | x :: xs, y :: ys => .tup [x, y] :: zipD xs ys
  | _, _ => []
def iZip (a b : WE) : WI := fun Δ S P R => a Δ S (fun x S1 => b Δ S1 (fun y S2 => ∃ xs ys, x = .lst xs ∧ y = .lst ys ∧ P (zipD xs ys) S2) R) R
def iStr (a : WE) : WI := fun Δ S P R => a Δ S (fun x S1 => ∃ z, x = .str z ∧ P (z.cps.toList.map fun c => D.str ⟨#[c]⟩) S1) R
def tYes : WT := fun _ S P _ => P true S
/-- a comprehension's turns -/
def lcL (g : WG) (t : WT) (e : WE) (Δ : Env) : List D → List D → Sto → (D → Sto → Prop) → Prop
  | [], acc, S, P => P (.lst acc) S
  | x :: xs, acc, S, P => g x Δ fun Δ1 => t Δ1 S (fun k S1 => if k = true then e Δ1 S1 (fun d S2 => lcL g t e Δ xs (acc ++ [d]) S2 P) noR else lcL g t e Δ xs acc S1 P) noR
def eLc (i : WI) (own : List Nat) (g : WG) (t : WT) (e : WE) : WE := fun Δ S P R => i Δ S (fun xs S1 => xs.length ≤ LINE ∧ lcL g t e (killL own Δ) xs [] S1 P) R

/-! ### statements -/
def gNext : WS := fun Δ S B _ => B.nx Δ S
def gSeq (g h : WS) : WS := fun Δ S B R => g Δ S { B with nx := fun Δ1 S1 => h Δ1 S1 B R } R
def gRet (e : WE) : WS := fun Δ S B R => e Δ S B.rt R
def gRetN : WS := fun _ S B _ => B.rt .non S
def gExpr (e : WE) : WS := fun Δ S B R => e Δ S (fun _ S1 => B.nx Δ S1) R
def gAsg (e : WE) (g : WG) : WS := fun Δ S B R => e Δ S (fun d S1 => g d Δ fun Δ1 => B.nx Δ1 S1) R
def gIf (t : WT) (g h : WS) : WS := fun Δ S B R => t Δ S (fun k S1 => if k = true then g Δ S1 B R else h Δ S1 B R) R
def gKill (is : List Nat) (g : WS) : WS := fun Δ S B R => g (killL is Δ) S B R
/-- names forgotten behind -/
def gDrop (is : List Nat) (g : WS) : WS := fun Δ S B R => g Δ S { B with nx := fun Δ1 S1 => B.nx (killL is Δ1) S1, ct := fun Δ1 S1 => B.ct (killL is Δ1) S1 } R
def gBrk : WS := fun Δ S B _ => B.bk Δ S
def gCnt : WS := fun Δ S B _ => B.ct Δ S
def gNever : WS := fun _ _ _ _ => False
def forL (g : WG) (b : WS) (R : RX) (B : EndsD) : List D → Env → Sto → Prop
  | [], Δ, S => B.nx Δ S
  | x :: xs, Δ, S => g x Δ fun Δ1 => b Δ1 S { nx := fun Δ2 S2 => forL g b R B xs Δ2 S2, ct := fun Δ2 S2 => forL g b R B xs Δ2 S2, bk := B.nx, rt := B.rt } R
def gFor (i : WI) (g : WG) (b : WS) : WS := fun Δ S B R => i Δ S (fun xs S1 => forL g b R B xs Δ S1) R
def gWhile (c : WT) (b : WS) : WS := fun Δ S B R => ∃ I : Nat → Env → Sto → Prop, (∃ m, I m Δ S) ∧ ∀ m Δ S, I m Δ S → c Δ S (fun k S1 => if k = true then
  b Δ S1 { nx := fun Δ2 S2 => ∃ m', m' < m ∧ I m' Δ2 S2, ct := fun Δ2 S2 => ∃ m', m' < m ∧ I m' Δ2 S2, bk := B.nx, rt := B.rt } R else B.nx Δ S1) R
/-- x op= e -/
def gAug (i : Nat) (f : D → D → Option D) (e : WE) : WS := fun Δ S B R => ∃ x, Δ[i]? = some (some x) ∧ e Δ S (fun y S1 => ∃ z, f x y = some z ∧ B.nx (Δ.set i (some z)) S1) R
/-- a list or dict that a name owns is changed by a method -/
def gOwn (i : Nat) (ok : D → Bool) (f : D → List D → Option (D × D)) (a : WA) : WS := fun Δ S B R => ∃ x, Δ[i]? = some (some x) ∧ ok x = true ∧ a Δ S (fun ys S1 => ∃ z r, f x ys = some (z, r) ∧ B.nx (Δ.set i (some z)) S1) R
def oAppend : D → List D → Option (D × D)
  | .lst xs, [y] => if xs.length < LINE then some (.lst (xs ++ [y]), .non) else none
  | _, _ => none
def oExtend : D → List D → Option (D × D)
  | .lst xs, [.lst ys] => if xs.length + ys.length ≤ LINE then some (.lst (xs ++ ys), .non) else none
  | _, _ => none
def oPop : D → List D → Option (D × D)
  | .lst xs, [] => (xs[xs.length - 1]?).map fun y => (.lst xs.dropLast, y)
  | _, _ => none
/-- xs[i] = e, d[k] = e, the name's own -/
def putX : D → D → D → Option D
  | .lst xs, .int k, v => (L2.ixN xs.length k).map fun j => .lst (xs.set j v)
  | .dct kvs, k, v => if kvs.length < LINE then (keyD k).map fun k => .dct (putD kvs k v) else none
  | _, _, _ => none
def gPut (i : Nat) (e ix : WE) : WS := fun Δ S B R => e Δ S (fun v S1 => ∃ x, Δ[i]? = some (some x) ∧ ix Δ S1 (fun k S2 => ∃ z, putX x k v = some z ∧ B.nx (Δ.set i (some z)) S2) R) R
def fnW (k n : Nat) (g : WS) : Fn := fun ds S P R => ds.length = k ∧ g (ds.map some ++ List.replicate (n - ds.length) none) S { nx := fun _ S1 => P .non S1, rt := P } R
end DL

/-! DS: the trees over the heap; the readings of the hand layer from the meanings of DW. -/
namespace DL
open PySem L2

/-! ### heaps that grow -/
def Ex (H H' : Hp) : Prop := ∀ a o, H a = some o → H' a = some o
theorem Ex.refl (H : Hp) : Ex H H := fun _ _ h => h
theorem Ex.trans {A B C : Hp} (a : Ex A B) (b : Ex B C) : Ex A C := fun x o h => b x o (a x o h)
theorem Ex.new {H : Hp} {p : Addr} {o : HO} (h : H p = none) : Ex H (L2.upd H p o) := fun a u e => (upd_ne (ne_of_none e h)).trans e
theorem Ex.mut {A H : Hp} {p : Addr} {o : HO} (e : Ex A H) (h : A p = none) : Ex A (L2.upd H p o) := fun a u q => (upd_ne (ne_of_none q h)).trans (e a u q)
theorem Ex.none {A B : Hp} (e : Ex A B) {p : Addr} (h : B p = none) : A p = none := by
  cases q : A p with
  | none => rfl
  | some o => rw [e p o q] at h; cases h
theorem Ex.rd {A B : Hp} (e : Ex A B) {a : Addr} {u : HO} (h : Rd A a u) : Rd B a u := h.elim (fun z => .inl (e a _ z)) fun ⟨o, z⟩ => .inr ⟨o, e a _ z⟩
theorem Ex.sl {K : PySem.W.Frag} {A B : Hp} (e : Ex A B) {a : Addr} {xs : List V} (h : SqL K A a xs) : SqL K B a xs := h.elim (fun z => .inl (e.rd z)) .inr
theorem Ex.st {K : PySem.W.Frag} {A B : Hp} (e : Ex A B) {a : Addr} {xs : List V} (h : SqT K A a xs) : SqT K B a xs := h.elim (fun z => .inl (e.rd z)) .inr

/-! ### a tree stands in the heap -/
mutual
inductive Rep (K : PySem.W.Frag) (F : Hp) : V → D → Prop
  | non : Rep K F .non .non
  | bl (b : Bool) : Rep K F (.bl b) (.bl b)
  | int (i : Int) : Rep K F (.int i) (.int i)
  | str (x : Str) : Rep K F (.str x) (.str x)
  | lst {a : Addr} {vs : List V} {ds : List D} : F a = some (.lst vs) → Reps K F vs ds → Rep K F (.ref a) (.lst ds)
  | tup {a : Addr} {vs : List V} {ds : List D} : F a = some (.tup vs) → Reps K F vs ds → Rep K F (.ref a) (.tup ds)
  | dct {a : Addr} {kvs : List (Key × V)} {kds : List (Key × D)} : F a = some (.dK kvs) → RepK K F kvs kds → Rep K F (.ref a) (.dct kds)
  | dcT {a : Addr} {kvs : List (List Key × V)} {kds : List (List Key × D)} : F a = some (.dT kvs) → RepK K F kvs kds → Rep K F (.ref a) (.dcT kds)
  | obj (a : Addr) : Rep K F (.ref a) (.obj a)
  | scr {a : Addr} {ns : List Int} : SqL K F a (ns.map V.int) → Rep K F (.ref a) (.scr ns)
inductive Reps (K : PySem.W.Frag) (F : Hp) : List V → List D → Prop
  | nil : Reps K F [] []
  | cons {v : V} {d : D} {vs : List V} {ds : List D} : Rep K F v d → Reps K F vs ds → Reps K F (v :: vs) (d :: ds)
inductive RepK (K : PySem.W.Frag) (F : Hp) : {κ : Type} → List (κ × V) → List (κ × D) → Prop
  | nil {κ : Type} : RepK K F ([] : List (κ × V)) ([] : List (κ × D))
  | cons {κ : Type} {k : κ} {v : V} {d : D} {vs : List (κ × V)} {ds : List (κ × D)} : Rep K F v d → RepK K F vs ds → RepK K F ((k, v) :: vs) ((k, d) :: ds)
end
section
variable {K : PySem.W.Frag} {F F' : Hp}
mutual
theorem Rep.mono (e : Ex F F') : ∀ {d : D} {v : V}, Rep K F v d → Rep K F' v d
  | _, _, .non => .non
  | _, _, .bl b => .bl b
  | _, _, .int i => .int i
  | _, _, .str x => .str x
  | _, _, .lst h r => .lst (e _ _ h) (Reps.mono e r)
  | _, _, .tup h r => .tup (e _ _ h) (Reps.mono e r)
  | _, _, .dct h r => .dct (e _ _ h) (RepK.mono e r)
  | _, _, .dcT h r => .dcT (e _ _ h) (RepK.mono e r)
  | _, _, .obj a => .obj a
  | _, _, .scr h => .scr (e.sl h)
theorem Reps.mono (e : Ex F F') : ∀ {ds : List D} {vs : List V}, Reps K F vs ds → Reps K F' vs ds
  | _, _, .nil => .nil
  | _, _, .cons h r => .cons (Rep.mono e h) (Reps.mono e r)
theorem RepK.mono (e : Ex F F') : ∀ {κ : Type} {ds : List (κ × D)} {vs : List (κ × V)}, RepK K F vs ds → RepK K F' vs ds
  | _, _, _, .nil => .nil
  | _, _, _, .cons h r => .cons (Rep.mono e h) (RepK.mono e r)
end
theorem Reps.len : ∀ {ds : List D} {vs : List V}, Reps K F vs ds → vs.length = ds.length
  | _, _, .nil => rfl
  | _, _, .cons _ r => by rw [List.length_cons, List.length_cons, Reps.len r]
theorem Reps.app : ∀ {ds es : List D} {vs us : List V}, Reps K F vs ds → Reps K F us es → Reps K F (vs ++ us) (ds ++ es)
  | _, _, _, _, .nil, s => s
  | _, _, _, _, .cons h r, s => .cons h (Reps.app r s)
theorem Reps.get : ∀ {ds : List D} {vs : List V} {i : Nat} {d : D}, Reps K F vs ds → ds[i]? = some d → ∃ v, vs[i]? = some v ∧ Rep K F v d
  | _, _, _, _, .nil, e => by simp at e
  | _, _, 0, _, .cons h _, e => by simp at e; subst e; exact ⟨_, rfl, h⟩
  | _, _, i + 1, d, .cons _ r, e => by
    obtain ⟨v, h1, h2⟩ := Reps.get (i := i) (d := d) r (by simpa using e)
    exact ⟨v, by simpa using h1, h2⟩
theorem Reps.getV : ∀ {ds : List D} {vs : List V} {i : Nat} {v : V}, Reps K F vs ds → vs[i]? = some v → ∃ d, ds[i]? = some d ∧ Rep K F v d
  | _, _, _, _, .nil, e => by simp at e
  | _, _, 0, _, .cons h _, e => by simp at e; subst e; exact ⟨_, rfl, h⟩
  | _, _, i + 1, v, .cons _ r, e => by
    obtain ⟨d, h1, h2⟩ := Reps.getV (i := i) (v := v) r (by simpa using e)
    exact ⟨d, by simpa using h1, h2⟩
theorem Reps.take : ∀ {ds : List D} {vs : List V} (n : Nat), Reps K F vs ds → Reps K F (vs.take n) (ds.take n)
  | _, _, 0, _ => .nil
  | _, _, _ + 1, .nil => .nil
  | _, _, n + 1, .cons h r => .cons h (Reps.take n r)
theorem Reps.drop : ∀ {ds : List D} {vs : List V} (n : Nat), Reps K F vs ds → Reps K F (vs.drop n) (ds.drop n)
  | _, _, 0, r => r
  | _, _, _ + 1, .nil => .nil
  | _, _, n + 1, .cons _ r => Reps.drop n r
theorem Reps.set : ∀ {ds : List D} {vs : List V} {v : V} {d : D} (i : Nat), Reps K F vs ds → Rep K F v d → Reps K F (vs.set i v) (ds.set i d)
  | _, _, _, _, _, .nil, _ => .nil
  | _, _, _, _, 0, .cons _ r, h => .cons h r
  | _, _, _, _, i + 1, .cons q r, h => .cons q (Reps.set i r h)
theorem Reps.rep {ds : List D} {vs : List V} (r : Reps K F vs ds) : ∀ n : Nat, Reps K F (List.replicate n vs).flatten (List.replicate n ds).flatten
  | 0 => .nil
  | n + 1 => by
    rw [List.replicate_succ, List.replicate_succ, List.flatten_cons, List.flatten_cons]
    exact r.app (Reps.rep r n)
theorem Reps.cut {ds : List D} {vs : List V} (r : Reps K F vs ds) (lo hi : Option Int) : Reps K F (cutV vs lo hi) (cutD ds lo hi) := by
  unfold cutV cutD
  rw [r.len]
  exact (r.drop _).take _
theorem Reps.ints : ∀ {ns : List Int}, Reps K F (ns.map V.int) (ns.map D.int)
  | [] => .nil
  | n :: ns => .cons (.int n) Reps.ints
theorem RepK.len {κ : Type} : ∀ {ds : List (κ × D)} {vs : List (κ × V)}, RepK K F vs ds → vs.length = ds.length
  | _, _, .nil => rfl
  | _, _, .cons _ r => by rw [List.length_cons, List.length_cons, RepK.len r]
theorem RepK.find {κ : Type} [DecidableEq κ] {k : κ} : ∀ {ds : List (κ × D)} {vs : List (κ × V)}, RepK K F vs ds →
    (∃ v d, (vs.find? fun kv => decide (kv.1 = k)).map (·.2) = some v ∧ (ds.find? fun kv => decide (kv.1 = k)).map (·.2) = some d ∧ Rep K F v d) ∨
      ((vs.find? fun kv => decide (kv.1 = k)).map (·.2) = none ∧ (ds.find? fun kv => decide (kv.1 = k)).map (·.2) = none)
  | _, _, .nil => .inr ⟨rfl, rfl⟩
  | _, _, .cons (k := j) (v := v) (d := d) h r => by
    by_cases e : j = k
    · refine .inl ⟨v, d, ?_, ?_, h⟩
      · rw [List.find?_cons_of_pos (by simpa using e)]; rfl
      · rw [List.find?_cons_of_pos (by simpa using e)]; rfl
    · rw [List.find?_cons_of_neg (by simpa using e), List.find?_cons_of_neg (by simpa using e)]
      exact RepK.find r
end

/-! ### the state -/
/-- what an owned cell holds -/
inductive OwnO (K : PySem.W.Frag) (F : Hp) : HO → D → Prop
  | lst {vs : List V} {ds : List D} : Reps K F vs ds → OwnO K F (.lst vs) (.lst ds)
  | dct {kvs : List (Key × V)} {kds : List (Key × D)} : RepK K F kvs kds → OwnO K F (.dK kvs) (.dct kds)
  | dcT {kvs : List (List Key × V)} {kds : List (List Key × D)} : RepK K F kvs kds → OwnO K F (.dT kvs) (.dcT kds)
theorem OwnO.mono {K : PySem.W.Frag} {F F' : Hp} {o : HO} {d : D} (e : Ex F F') : OwnO K F o d → OwnO K F' o d
  | .lst r => .lst (r.mono e)
  | .dct r => .dct (r.mono e)
  | .dcT r => .dcT (r.mono e)
theorem OwnO.rep {K : PySem.W.Frag} {F : Hp} {o : HO} {d : D} {a : Addr} (h : F a = some o) : OwnO K F o d → Rep K F (.ref a) d
  | .lst r => .lst h r
  | .dct r => .dct h r
  | .dcT r => .dcT h r
/-- a caught exception of the class cls, without a dict -/
def ExX (cls : Value) (a : Addr) : HO := .ext fun h => ∃ (oe : Obj) (vs : Array Value), h.get? a = some oe ∧ Zc cls none oe ∧ oe.data = .fields vs
/-- a mutable object of the store -/
def ObR (K : PySem.W.Frag) (F H : Hp) (a : Addr) : Ob → Prop
  | .spr => ∃ d s c : Int, H a = some (.lst [.int d, .int s, .int c]) ∧ 0 ≤ d ∧ 0 ≤ s ∧ s < 2 ^ 61
  | .bag m => ∃ ds vs, BagOk m ds ∧ H a = some (.lst vs) ∧ Reps K F vs ds
  | .lst ds => ∃ vs, H a = some (.lst vs) ∧ Reps K F vs ds
  | .dct kds => ∃ kvs, H a = some (.dK kvs) ∧ RepK K F kvs kds
  | .ins cn fs => ∃ C dx vs, PySem.W.nsIn K mainGlobals cn = some (some (.ref C)) ∧ H a = some (.ins C dx vs) ∧ Paired (fun (p : Str × V) (q : Str × D) => p.1 = q.1 ∧ Rep K F p.2 q.2) vs fs
  | .exc nm cls => H a = some (ExX cls a) ∧ PySem.W.nsIn K mainGlobals nm = some (some cls)
theorem ObR.mono {K : PySem.W.Frag} {F F' H H' : Hp} {a : Addr} (e : Ex F F') (h : H' a = H a) : ∀ {o : Ob}, ObR K F H a o → ObR K F' H' a o
  | .spr, ⟨d, s, c, q⟩ => ⟨d, s, c, by rw [h]; exact q⟩
  | .bag _, ⟨ds, vs, o, q, r⟩ => ⟨ds, vs, o, by rw [h]; exact q, r.mono e⟩
  | .lst _, ⟨vs, q, r⟩ => ⟨vs, by rw [h]; exact q, r.mono e⟩
  | .dct _, ⟨vs, q, r⟩ => ⟨vs, by rw [h]; exact q, r.mono e⟩
  | .ins _ _, ⟨C, dx, vs, n, q, r⟩ => ⟨C, dx, vs, n, by rw [h]; exact q, Paired.mapP r fun _ _ z => ⟨z.1, z.2.mono e⟩⟩
  | .exc _ _, ⟨q, r⟩ => ⟨by rw [h]; exact q, r⟩
theorem ObR.some {K : PySem.W.Frag} {F H : Hp} {a : Addr} : ∀ {o : Ob}, ObR K F H a o → ∃ u, H a = some u
  | .spr, ⟨_, _, _, q, _⟩ => ⟨_, q⟩
  | .bag _, ⟨_, _, _, q, _⟩ => ⟨_, q⟩
  | .lst _, ⟨_, q, _⟩ => ⟨_, q⟩
  | .dct _, ⟨_, q, _⟩ => ⟨_, q⟩
  | .ins _ _, ⟨_, _, _, _, q, _⟩ => ⟨_, q⟩
  | .exc _ _, ⟨q, _⟩ => ⟨_, q⟩

/-- σ, H hold Δ, S: F: what is shared and never changes; Z: what others own; O: the slots that own a cell -/
structure Wd (K : PySem.W.Frag) (O : List Nat) (Z : Hp) (σ : L2.St) (Δ : Env) (S : Sto) (F H : Hp) : Prop where
  fH : Ex F H
  zH : Ex Z H
  fz : ∀ b o, F b = some o → Z b = none
  st : ∀ a ob, S a = some ob → F a = none ∧ Z a = none ∧ ObR K F H a ob
  fr : ∀ i d, i ∉ O → Δ[i]? = some (some d) → ∃ v, σ[i]? = some (some v) ∧ Rep K F v d
  ow : ∀ i d, i ∈ O → Δ[i]? = some (some d) → ∃ p o, σ[i]? = some (some (.ref p)) ∧ H p = some o ∧ OwnO K F o d ∧ F p = none ∧ Z p = none ∧ S p = none
  sep : ∀ i j d e p, i ∈ O → j ∈ O → i ≠ j → Δ[i]? = some (some d) → Δ[j]? = some (some e) → σ[i]? = some (some (.ref p)) → σ[j]? ≠ some (some (.ref p))
  len : σ.length = Δ.length
/-- objects are made, nothing else happens -/
structure Al (F H F' H' : Hp) : Prop where
  f : Ex F F'
  h : Ex H H'
  s : Ex F' H'
  n : ∀ b o, F' b = some o → F b = some o ∨ H b = none
theorem Al.refl {F H : Hp} (e : Ex F H) : Al F H F H := ⟨Ex.refl _, Ex.refl _, e, fun _ _ h => .inl h⟩
theorem Al.trans {F H F1 H1 F2 H2 : Hp} (a : Al F H F1 H1) (b : Al F1 H1 F2 H2) : Al F H F2 H2 :=
  ⟨a.f.trans b.f, a.h.trans b.h, b.s, fun c o q => by
    rcases b.n c o q with z | z
    · exact a.n c o z
    · exact .inr (a.h.none z)⟩
theorem Al.new {F H : Hp} {p : Addr} {o : HO} (e : Ex F H) (h : H p = none) : Al F H (L2.upd F p o) (L2.upd H p o) :=
  ⟨Ex.new (e.none h), Ex.new h, fun a u q => by
    by_cases z : a = p
    · subst z; rw [upd_same] at q ⊢; exact q
    · rw [upd_ne z] at q ⊢; exact e a u q, fun b u q => by
    by_cases z : b = p
    · subst z; exact .inr h
    · rw [upd_ne z] at q; exact .inl q⟩
section
variable {K : PySem.W.Frag} {O : List Nat} {Z : Hp} {σ : L2.St} {Δ : Env} {S : Sto} {F H F' H' : Hp}
theorem Wd.al (w : Wd K O Z σ Δ S F H) (a : Al F H F' H') : Wd K O Z σ Δ S F' H' where
  fH := a.s
  zH := w.zH.trans a.h
  fz := fun b o q => by
    rcases a.n b o q with z | z
    · exact w.fz b o z
    · exact w.zH.none z
  st := fun b ob q => by
    obtain ⟨h1, h2, h3⟩ := w.st b ob q
    obtain ⟨u, hu⟩ := h3.some
    refine ⟨?_, h2, h3.mono a.f ((a.h b u hu).trans hu.symm)⟩
    cases e : F' b with
    | none => rfl
    | some o =>
      rcases a.n b o e with z | z
      · rw [h1] at z; cases z
      · rw [hu] at z; cases z
  fr := fun i d ni q => by
    obtain ⟨v, h1, h2⟩ := w.fr i d ni q
    exact ⟨v, h1, h2.mono a.f⟩
  ow := fun i d ni q => by
    obtain ⟨p, o, h1, h2, h3, h4, h5, h6⟩ := w.ow i d ni q
    refine ⟨p, o, h1, a.h p o h2, h3.mono a.f, ?_, h5, h6⟩
    cases e : F' p with
    | none => rfl
    | some u =>
      rcases a.n p u e with z | z
      · rw [h4] at z; cases z
      · rw [h2] at z; cases z
  sep := w.sep
  len := w.len
/-- a slot is set to a shared tree -/
theorem Wd.set (w : Wd K O Z σ Δ S F H) {i : Nat} {v : V} {d : D} (hi : i ∉ O) (r : Rep K F v d) : Wd K O Z (σ.set i (some v)) (Δ.set i (some d)) S F H where
  fH := w.fH
  zH := w.zH
  fz := w.fz
  st := w.st
  fr := fun j e nj q => by
    by_cases z : i = j
    · subst z
      have hl : i < Δ.length := by
        rcases Nat.lt_or_ge i Δ.length with h | h
        · exact h
        · rw [List.getElem?_eq_none (by simpa using h)] at q; cases q
      rw [List.getElem?_set_self hl] at q
      cases q
      exact ⟨v, List.getElem?_set_self (by rw [w.len]; exact hl), r⟩
    · rw [List.getElem?_set_ne z] at q
      rw [List.getElem?_set_ne z]
      exact w.fr j e nj q
  ow := fun j e nj q => by
    have z : i ≠ j := fun z => hi (z ▸ nj)
    rw [List.getElem?_set_ne z] at q
    rw [List.getElem?_set_ne z]
    exact w.ow j e nj q
  sep := fun j k d1 d2 p hj hk hn q1 q2 q3 => by
    have z1 : i ≠ j := fun z => hi (z ▸ hj)
    have z2 : i ≠ k := fun z => hi (z ▸ hk)
    rw [List.getElem?_set_ne z1] at q1 q3
    rw [List.getElem?_set_ne z2] at q2 ⊢
    exact w.sep j k d1 d2 p hj hk hn q1 q2 q3
  len := by rw [List.length_set, List.length_set]; exact w.len
/-- any change of σ, Δ that only forgets -/
theorem Wd.weak (w : Wd K O Z σ Δ S F H) {σ' : L2.St} {Δ' : Env} (hl : σ'.length = Δ'.length) (h : ∀ (i : Nat) (d : D), Δ'[i]? = some (some d) → Δ[i]? = some (some d) ∧ σ'[i]? = σ[i]?) : Wd K O Z σ' Δ' S F H where
  fH := w.fH
  zH := w.zH
  fz := w.fz
  st := w.st
  fr := fun i d ni q => by
    obtain ⟨q1, q2⟩ := h i d q
    rw [q2]
    exact w.fr i d ni q1
  ow := fun i d ni q => by
    obtain ⟨q1, q2⟩ := h i d q
    rw [q2]
    exact w.ow i d ni q1
  sep := fun i j d e p hi hj hn q1 q2 q3 => by
    obtain ⟨a1, a2⟩ := h i d q1
    obtain ⟨b1, b2⟩ := h j e q2
    rw [a2] at q3
    rw [b2]
    exact w.sep i j d e p hi hj hn a1 b1 q3
  len := hl
theorem killL_len : ∀ (is : List Nat) (Δ : Env), (killL is Δ).length = Δ.length
  | [], _ => rfl
  | i :: is, Δ => by
    show (killL is (Δ.set i none)).length = _
    rw [killL_len is, List.length_set]
theorem killL_some : ∀ (is : List Nat) (Δ : Env) {j : Nat} {d : D}, (killL is Δ)[j]? = some (some d) → Δ[j]? = some (some d) ∧ j ∉ is
  | [], _, _, _, h => ⟨h, by simp⟩
  | i :: is, Δ, j, d, h => by
    obtain ⟨h1, h2⟩ := killL_some is (Δ.set i none) (j := j) (d := d) h
    by_cases z : i = j
    · subst z
      by_cases hl : i < Δ.length
      · rw [List.getElem?_set_self hl] at h1; cases h1
      · rw [List.getElem?_eq_none (by simpa using hl)] at h1; cases h1
    · rw [List.getElem?_set_ne z] at h1
      exact ⟨h1, by simp only [List.mem_cons, not_or]; exact ⟨fun e => z e.symm, h2⟩⟩
theorem Wd.kill (w : Wd K O Z σ Δ S F H) (is : List Nat) : Wd K O Z σ (killL is Δ) S F H :=
  w.weak (by rw [killL_len]; exact w.len) fun _ _ q => ⟨(killL_some is Δ q).1, rfl⟩
/-- the same state by another list of owners -/
theorem Wd.mode {O' : List Nat} (w : Wd K O Z σ Δ S F H) (h : ∀ (i : Nat) (d : D), Δ[i]? = some (some d) → (i ∈ O ↔ i ∈ O')) : Wd K O' Z σ Δ S F H where
  fH := w.fH
  zH := w.zH
  fz := w.fz
  st := w.st
  fr := fun i d ni q => w.fr i d (fun z => ni ((h i d q).mp z)) q
  ow := fun i d ni q => w.ow i d ((h i d q).mpr ni) q
  sep := fun i j d e p hi hj hn q1 q2 q3 => w.sep i j d e p ((h i d q1).mpr hi) ((h j e q2).mpr hj) hn q1 q2 q3
  len := w.len
def drp (i : Nat) (O : List Nat) : List Nat := O.filter fun j => decide (j ≠ i)
theorem mem_drp {i j : Nat} {O : List Nat} : j ∈ drp i O ↔ j ∈ O ∧ j ≠ i := by
  unfold drp
  rw [List.mem_filter, decide_eq_true_eq]
/-- what a slot owns becomes shared -/
theorem Wd.freeze (w : Wd K O Z σ Δ S F H) (i : Nat) : ∃ F', Ex F F' ∧ Wd K (drp i O) Z σ Δ S F' H := by
  by_cases hO : i ∈ O
  · cases hd : Δ[i]? with
    | none => exact ⟨F, Ex.refl _, w.mode fun j d q => by
        rw [mem_drp]
        exact ⟨fun z => ⟨z, fun e => by rw [e, hd] at q; cases q⟩, fun z => z.1⟩⟩
    | some od =>
      cases od with
      | none => exact ⟨F, Ex.refl _, w.mode fun j d q => by
          rw [mem_drp]
          exact ⟨fun z => ⟨z, fun e => by rw [e, hd] at q; cases q⟩, fun z => z.1⟩⟩
      | some d =>
        obtain ⟨p, o, h1, h2, h3, h4, h5, h6⟩ := w.ow i d hO hd
        have ef : Ex F (L2.upd F p o) := Ex.new h4
        refine ⟨L2.upd F p o, ef, ⟨fun b u q => ?_, w.zH, fun b u q => ?_, fun b ob q => ?_, fun j e nj q => ?_, fun j e nj q => ?_, fun j k e1 e2 r hj hk hn q1 q2 q3 => ?_, w.len⟩⟩
        · by_cases z : b = p
          · subst z; rw [upd_same] at q; cases q; exact h2
          · rw [upd_ne z] at q; exact w.fH b u q
        · by_cases z : b = p
          · subst z; exact h5
          · rw [upd_ne z] at q; exact w.fz b u q
        · obtain ⟨a1, a2, a3⟩ := w.st b ob q
          have z : b ≠ p := fun z => by rw [z, h6] at q; cases q
          exact ⟨(upd_ne z).trans a1, a2, a3.mono ef rfl⟩
        · by_cases z : j = i
          · subst z
            rw [hd] at q; cases q
            exact ⟨_, h1, (OwnO.mono ef h3).rep upd_same⟩
          · obtain ⟨v, b1, b2⟩ := w.fr j e (fun c => nj (mem_drp.mpr ⟨c, z⟩)) q
            exact ⟨v, b1, b2.mono ef⟩
        · obtain ⟨c1, c2⟩ := mem_drp.mp nj
          obtain ⟨r, u, a1, a2, a3, a4, a5, a6⟩ := w.ow j e c1 q
          refine ⟨r, u, a1, a2, a3.mono ef, ?_, a5, a6⟩
          have z : r ≠ p := fun z => w.sep i j d e p hO c1 (fun y => c2 y.symm) hd q h1 (z ▸ a1)
          exact (upd_ne z).trans a4
        · exact w.sep j k e1 e2 r (mem_drp.mp hj).1 (mem_drp.mp hk).1 hn q1 q2 q3
  · exact ⟨F, Ex.refl _, w.mode fun j d q => by
      rw [mem_drp]
      exact ⟨fun z => ⟨z, fun e => hO (e ▸ z)⟩, fun z => z.1⟩⟩
/-- a slot takes a new cell -/
theorem Wd.own (w : Wd K O Z σ Δ S F H) {i : Nat} {p : Addr} {o : HO} {d : D} (hi : i ∈ O) (hp : H p = some o) (r : OwnO K F o d) (hF : F p = none) (hZ : Z p = none) (hS : S p = none)
    (hn : ∀ (j : Nat) (e : D), j ∈ O → Δ[j]? = some (some e) → σ[j]? ≠ some (some (.ref p))) : Wd K O Z (σ.set i (some (.ref p))) (Δ.set i (some d)) S F H where
  fH := w.fH
  zH := w.zH
  fz := w.fz
  st := w.st
  fr := fun j e nj q => by
    have z : i ≠ j := fun z => nj (z ▸ hi)
    rw [List.getElem?_set_ne z] at q
    rw [List.getElem?_set_ne z]
    exact w.fr j e nj q
  ow := fun j e nj q => by
    by_cases z : i = j
    · subst z
      have hl : i < Δ.length := by
        rcases Nat.lt_or_ge i Δ.length with h | h
        · exact h
        · rw [List.getElem?_eq_none (by simpa using h)] at q; cases q
      rw [List.getElem?_set_self hl] at q
      cases q
      exact ⟨p, o, List.getElem?_set_self (by rw [w.len]; exact hl), hp, r, hF, hZ, hS⟩
    · rw [List.getElem?_set_ne z] at q
      rw [List.getElem?_set_ne z]
      exact w.ow j e nj q
  sep := fun j k d1 d2 r hj hk hjk q1 q2 q3 => by
    by_cases zj : i = j
    · subst zj
      have zk : i ≠ k := hjk
      rw [List.getElem?_set_ne zk] at q2 ⊢
      have hl : i < σ.length := by
        rcases Nat.lt_or_ge i σ.length with h | h
        · exact h
        · rw [List.getElem?_eq_none (by simpa using h)] at q3; cases q3
      rw [List.getElem?_set_self hl] at q3
      cases q3
      exact hn k d2 hk q2
    · rw [List.getElem?_set_ne zj] at q1 q3
      by_cases zk : i = k
      · subst zk
        intro q4
        have hl : i < σ.length := by
          rcases Nat.lt_or_ge i σ.length with h | h
          · exact h
          · rw [List.getElem?_eq_none (by simpa using h)] at q4; cases q4
        rw [List.getElem?_set_self hl] at q4
        cases q4
        exact hn j d1 hj q1 q3
      · rw [List.getElem?_set_ne zk] at q2 ⊢
        exact w.sep j k d1 d2 r hj hk hjk q1 q2 q3
  len := by rw [List.length_set, List.length_set]; exact w.len
/-- an owned cell is changed -/
theorem Wd.change (w : Wd K O Z σ Δ S F H) {i : Nat} {p : Addr} {o : HO} {d e : D} (hi : i ∈ O) (hd : Δ[i]? = some (some d)) (hs : σ[i]? = some (some (.ref p))) (r : OwnO K F o e) : Wd K O Z σ (Δ.set i (some e)) S F (L2.upd H p o) := by
  obtain ⟨p', o', a1, a2, a3, a4, a5, a6⟩ := w.ow i d hi hd
  rw [hs] at a1; cases a1
  have hl : i < Δ.length := by
    rcases Nat.lt_or_ge i Δ.length with h | h
    · exact h
    · rw [List.getElem?_eq_none (by simpa using h)] at hd; cases hd
  refine ⟨w.fH.mut a4, w.zH.mut a5, w.fz, fun b ob q => ?_, fun j f nj q => ?_, fun j f nj q => ?_, fun j k f1 f2 r hj hk hn q1 q2 q3 => ?_, by rw [List.length_set]; exact w.len⟩
  · obtain ⟨b1, b2, b3⟩ := w.st b ob q
    have z : b ≠ p := fun z => by rw [z, a6] at q; cases q
    exact ⟨b1, b2, b3.mono (Ex.refl _) (upd_ne z)⟩
  · have z : i ≠ j := fun z => nj (z ▸ hi)
    rw [List.getElem?_set_ne z] at q
    exact w.fr j f nj q
  · by_cases z : i = j
    · subst z
      rw [List.getElem?_set_self hl] at q
      cases q
      exact ⟨p, o, hs, upd_same, r, a4, a5, a6⟩
    · rw [List.getElem?_set_ne z] at q
      obtain ⟨r', u, b1, b2, b3, b4, b5, b6⟩ := w.ow j f nj q
      have y : r' ≠ p := fun y => w.sep i j d f p hi nj z hd q hs (y ▸ b1)
      exact ⟨r', u, b1, (upd_ne y).trans b2, b3, b4, b5, b6⟩
  · have back : ∀ (m : Nat) (g : D), (Δ.set i (some e))[m]? = some (some g) → ∃ g', Δ[m]? = some (some g') := fun m g q => by
      by_cases z : i = m
      · subst z; exact ⟨d, hd⟩
      · rw [List.getElem?_set_ne z] at q; exact ⟨g, q⟩
    obtain ⟨g1, y1⟩ := back j f1 q1
    obtain ⟨g2, y2⟩ := back k f2 q2
    exact w.sep j k g1 g2 r hj hk hn y1 y2 q3
/-- the frame of a callee: what others own and what the slots own -/
noncomputable def zo (O : List Nat) (σ : L2.St) (Δ : Env) (Z H : Hp) : Hp := by
  classical
  exact fun b => if ∃ i ∈ O, ∃ d, Δ[i]? = some (some d) ∧ σ[i]? = some (some (.ref b)) then H b else Z b
theorem zo_yes {b : Addr} (h : ∃ i ∈ O, ∃ d, Δ[i]? = some (some d) ∧ σ[i]? = some (some (.ref b))) : zo O σ Δ Z H b = H b := by
  unfold zo
  exact if_pos h
theorem zo_no {b : Addr} (h : ¬ ∃ i ∈ O, ∃ d, Δ[i]? = some (some d) ∧ σ[i]? = some (some (.ref b))) : zo O σ Δ Z H b = Z b := by
  unfold zo
  exact if_neg h
end
end DL

/-! DR: readings of the hand layer by meanings over trees: expressions. -/
namespace DL
open PySem L2

/-! ### readings -/
/-- an exception as it leaves -/
def ExnR (K : PySem.W.Frag) (x : Exn) (cls : Value) (dd : Option Addr) : Prop := PySem.W.nsIn K mainGlobals x.cls = some (some cls) ∧ x.fs = [] ∧ dd = none
/-- what is wished of exceptions -/
def XQ (K : PySem.W.Frag) (mg : Str → Option Value) (E : XK) (Z F : Hp) (R : RX) : Prop := ∀ (x : Exn) (cls : Value) (dd : Option Addr) (S' : Sto) (F' H' : Hp), Wd K [] Z [] [] S' F' H' → Ex F F' → ExnR K x cls dd → R x S' → E cls dd H'
section
variable (K : PySem.W.Frag) (mg : Str → Option Value)
/-- a value that is shared, or owned by a slot -/
def BRep (O : List Nat) (σ : L2.St) (Δ : Env) (F : Hp) (v : V) (d : D) : Prop := Rep K F v d ∨ ∃ i, i ∈ O ∧ Δ[i]? = some (some d) ∧ σ[i]? = some (some v)
inductive BReps (O : List Nat) (σ : L2.St) (Δ : Env) (F : Hp) : List V → List D → Prop
  | nil : BReps O σ Δ F [] []
  | cons {v : V} {d : D} {vs : List V} {ds : List D} : BRep K O σ Δ F v d → BReps O σ Δ F vs ds → BReps O σ Δ F (v :: vs) (d :: ds)
/-- a new cell -/
def NRep (O : List Nat) (σ : L2.St) (Δ : Env) (Z : Hp) (S : Sto) (F H : Hp) (v : V) (d : D) : Prop :=
  ∃ p o, v = .ref p ∧ H p = some o ∧ OwnO K F o d ∧ F p = none ∧ Z p = none ∧ S p = none ∧ ∀ (j : Nat) (e : D), j ∈ O → Δ[j]? = some (some e) → σ[j]? ≠ some (some (.ref p))
def rdE (b : Bool) (O : List Nat) (E : XK) (w : WE) : TE := fun σ H Q => ∃ Z Δ S F P R, Wd K O Z σ Δ S F H ∧ w Δ S P R ∧ XQ K mg E Z F R ∧
  ∀ v d S' F' H', Wd K O Z σ Δ S' F' H' → Ex F F' → (b = true → S' = S ∧ Al F H F' H') → Rep K F' v d → P d S' → Q v H'
def rdB (b : Bool) (O : List Nat) (E : XK) (w : WE) : TE := fun σ H Q => ∃ Z Δ S F P R, Wd K O Z σ Δ S F H ∧ w Δ S P R ∧ XQ K mg E Z F R ∧
  ∀ v d S' F' H', Wd K O Z σ Δ S' F' H' → Ex F F' → (b = true → S' = S ∧ Al F H F' H') → BRep K O σ Δ F' v d → P d S' → Q v H'
def rdN (b : Bool) (O : List Nat) (E : XK) (w : WE) : TE := fun σ H Q => ∃ Z Δ S F P R, Wd K O Z σ Δ S F H ∧ w Δ S P R ∧ XQ K mg E Z F R ∧
  ∀ v d S' F' H', Wd K O Z σ Δ S' F' H' → Ex F F' → (b = true → S' = S ∧ Al F H F' H') → NRep K O σ Δ Z S' F' H' v d → (b = true → ∀ p, v = .ref p → H p = none) → P d S' → Q v H'
def rdT (b : Bool) (O : List Nat) (E : XK) (w : WT) : TT := fun σ H Q => ∃ Z Δ S F P R, Wd K O Z σ Δ S F H ∧ w Δ S P R ∧ XQ K mg E Z F R ∧
  ∀ k S' F' H', Wd K O Z σ Δ S' F' H' → Ex F F' → (b = true → S' = S ∧ Al F H F' H') → P k S' → Q k H'
def rdA (b : Bool) (O : List Nat) (E : XK) (w : WA) : TA := fun σ H Q => ∃ Z Δ S F P R, Wd K O Z σ Δ S F H ∧ w Δ S P R ∧ XQ K mg E Z F R ∧
  ∀ vs ds S' F' H', Wd K O Z σ Δ S' F' H' → Ex F F' → (b = true → S' = S ∧ Al F H F' H') → Reps K F' vs ds → P ds S' → Q vs H'
def rdAB (b : Bool) (O : List Nat) (E : XK) (w : WA) : TA := fun σ H Q => ∃ Z Δ S F P R, Wd K O Z σ Δ S F H ∧ w Δ S P R ∧ XQ K mg E Z F R ∧
  ∀ vs ds S' F' H', Wd K O Z σ Δ S' F' H' → Ex F F' → (b = true → S' = S ∧ Al F H F' H') → BReps K O σ Δ F' vs ds → P ds S' → Q vs H'
def rdO (b : Bool) (O : List Nat) (E : XK) (w : Env → W (Option Int)) : TO := fun σ H Q => ∃ Z Δ S F P R, Wd K O Z σ Δ S F H ∧ w Δ S P R ∧ XQ K mg E Z F R ∧
  ∀ k S' F' H', Wd K O Z σ Δ S' F' H' → Ex F F' → (b = true → S' = S ∧ Al F H F' H') → P k S' → Q k H'
end
section
variable {K : PySem.W.Frag} {mg : Str → Option Value} {O : List Nat} {E : XK} {Z : Hp} {σ : L2.St} {Δ : Env} {S : Sto} {F F' H H' : Hp} {R : RX}
theorem XQ.mono (e : Ex F F') (x : XQ K mg E Z F R) : XQ K mg E Z F' R := fun a b c d f h w e' => x a b c d f h w (e.trans e')
theorem XQ.never {E : XK} : XQ K mg E Z F noR := fun _ _ _ _ _ _ _ _ _ h => h.elim
theorem BRep.mono (e : Ex F F') {v : V} {d : D} : BRep K O σ Δ F v d → BRep K O σ Δ F' v d := fun h => h.imp (fun z => z.mono e) fun z => z
theorem BReps.mono (e : Ex F F') : ∀ {vs : List V} {ds : List D}, BReps K O σ Δ F vs ds → BReps K O σ Δ F' vs ds
  | _, _, .nil => .nil
  | _, _, .cons h r => .cons (h.mono e) (BReps.mono e r)
/-- what can be seen of such a value -/
inductive VRep (K : PySem.W.Frag) (F H : Hp) : V → D → Prop
  | rep {v : V} {d : D} : Rep K F v d → VRep K F H v d
  | own {p : Addr} {o : HO} {d : D} : H p = some o → OwnO K F o d → VRep K F H (.ref p) d
inductive VReps (K : PySem.W.Frag) (F H : Hp) : List V → List D → Prop
  | nil : VReps K F H [] []
  | cons {v : V} {d : D} {vs : List V} {ds : List D} : VRep K F H v d → VReps K F H vs ds → VReps K F H (v :: vs) (d :: ds)
theorem BRep.see (w : Wd K O Z σ Δ S F H) {v : V} {d : D} : BRep K O σ Δ F v d → VRep K F H v d
  | .inl r => .rep r
  | .inr ⟨i, h1, h2, h3⟩ => by
    obtain ⟨p, o, a1, a2, a3, _⟩ := w.ow i d h1 h2
    rw [h3] at a1; cases a1
    exact .own a2 a3
theorem BReps.see (w : Wd K O Z σ Δ S F H) : ∀ {vs : List V} {ds : List D}, BReps K O σ Δ F vs ds → VReps K F H vs ds
  | _, _, .nil => .nil
  | _, _, .cons h r => .cons (h.see w) (BReps.see w r)
theorem VRep.int {v : V} {i : Int} (h : VRep K F H v (.int i)) : v = .int i := by
  cases h with
  | rep r => cases r; rfl
  | own _ o => cases o
theorem VRep.str {v : V} {i : Str} (h : VRep K F H v (.str i)) : v = .str i := by
  cases h with
  | rep r => cases r; rfl
  | own _ o => cases o
theorem VRep.bl {v : V} {i : Bool} (h : VRep K F H v (.bl i)) : v = .bl i := by
  cases h with
  | rep r => cases r; rfl
  | own _ o => cases o
theorem VRep.non {v : V} (h : VRep K F H v .non) : v = .non := by
  cases h with
  | rep r => cases r; rfl
  | own _ o => cases o
theorem VRep.lst (e : Ex F H) {v : V} {ds : List D} : VRep K F H v (.lst ds) → ∃ p vs, v = .ref p ∧ H p = some (.lst vs) ∧ Reps K F vs ds := fun h => by
  cases h with
  | rep r => cases r with | lst h r => exact ⟨_, _, rfl, e _ _ h, r⟩
  | own h o => cases o with | lst r => exact ⟨_, _, rfl, h, r⟩
theorem VRep.tupH (e : Ex F H) {v : V} {ds : List D} : VRep K F H v (.tup ds) → ∃ p vs, v = .ref p ∧ H p = some (.tup vs) ∧ Reps K F vs ds := fun h => by
  cases h with
  | rep r => cases r with | tup h r => exact ⟨_, _, rfl, e _ _ h, r⟩
  | own h o => cases o
theorem VRep.tup (e : Ex F H) {v : V} {ds : List D} : VRep K F H v (.tup ds) → ∃ p vs, v = .ref p ∧ SqT K H p vs ∧ Reps K F vs ds := fun h => by
  obtain ⟨p, vs, h1, h2, h3⟩ := h.tupH e
  exact ⟨p, vs, h1, .inl (.inl h2), h3⟩
theorem VRep.scr (e : Ex F H) {v : V} {ns : List Int} : VRep K F H v (.scr ns) → ∃ p, v = .ref p ∧ SqL K H p (ns.map V.int) := fun h => by
  cases h with
  | rep r => cases r with | scr h => exact ⟨_, rfl, e.sl h⟩
  | own h o => cases o
theorem VRep.dct (e : Ex F H) {v : V} {ds : List (Key × D)} : VRep K F H v (.dct ds) → ∃ p vs, v = .ref p ∧ H p = some (.dK vs) ∧ RepK K F vs ds := fun h => by
  cases h with
  | rep r => cases r with | dct h r => exact ⟨_, _, rfl, e _ _ h, r⟩
  | own h o => cases o with | dct r => exact ⟨_, _, rfl, h, r⟩
theorem VRep.obj {v : V} {a : Nat} (h : VRep K F H v (.obj a)) : v = .ref a := by
  cases h with
  | rep r => cases r; rfl
  | own _ o => cases o
theorem Rep.nonN {v : V} : Rep K F v .non → v = .non
  | .non => rfl
theorem NRep.share {v : V} {d : D} (w : Wd K O Z σ Δ S F H) (n : NRep K O σ Δ Z S F H v d) : ∃ F', Ex F F' ∧ Wd K O Z σ Δ S F' H ∧ Rep K F' v d ∧ ∀ b o, F' b = some o → F b = some o ∨ v = .ref b := by
  obtain ⟨p, o, rfl, h2, h3, h4, h5, h6, h7⟩ := n
  have ef : Ex F (L2.upd F p o) := Ex.new h4
  refine ⟨L2.upd F p o, ef, ⟨fun b u q => ?_, w.zH, fun b u q => ?_, fun b ob q => ?_, fun j e nj q => ?_, fun j e nj q => ?_, w.sep, w.len⟩, (OwnO.mono ef h3).rep upd_same, fun b u q => ?_⟩
  · by_cases z : b = p
    · subst z; rw [upd_same] at q; cases q; exact h2
    · rw [upd_ne z] at q; exact w.fH b u q
  · by_cases z : b = p
    · subst z; exact h5
    · rw [upd_ne z] at q; exact w.fz b u q
  · obtain ⟨a1, a2, a3⟩ := w.st b ob q
    have z : b ≠ p := fun z => by rw [z, h6] at q; cases q
    exact ⟨(upd_ne z).trans a1, a2, a3.mono ef rfl⟩
  · obtain ⟨v, b1, b2⟩ := w.fr j e nj q
    exact ⟨v, b1, b2.mono ef⟩
  · obtain ⟨r, u, a1, a2, a3, a4, a5, a6⟩ := w.ow j e nj q
    refine ⟨r, u, a1, a2, a3.mono ef, (upd_ne fun z => ?_).trans a4, a5, a6⟩
    exact h7 j e nj q (z ▸ a1)
  · by_cases z : b = p
    · subst z; exact .inr rfl
    · rw [upd_ne z] at q; exact .inl q
end

/-! ### weakening -/
section
variable {X : Cx}
theorem pe_to {e : Expr} {t t' : TE} (h : PE X e t) (i : ∀ σ H Q, t' σ H Q → t σ H Q) : PE X e t' := ⟨fun pins s σ H Q I q => h.run pins s σ H Q I (i σ H Q q)⟩
theorem pt_to {e : Expr} {t t' : TT} (h : PT X e t) (i : ∀ σ H Q, t' σ H Q → t σ H Q) : PT X e t' := ⟨fun pins s σ H Q I q => h.run pins s σ H Q I (i σ H Q q)⟩
theorem pw_to {e : Expr} {t t' : TT} (h : PW X e t) (i : ∀ σ H Q, t' σ H Q → t σ H Q) : PW X e t' := ⟨fun wh pins s σ H Q I q => h.run wh pins s σ H Q I (i σ H Q q)⟩
theorem pa_to {e : List Expr} {t t' : TA} (h : PA X e t) (i : ∀ σ H Q, t' σ H Q → t σ H Q) : PA X e t' := ⟨fun pos pins s σ H Q I q => h.run pos pins s σ H Q I (i σ H Q q)⟩
theorem po_to {e : Option Expr} {t t' : TO} (h : PO X e t) (i : ∀ σ H Q, t' σ H Q → t σ H Q) : PO X e t' := ⟨fun pins s σ H Q I q => h.run pins s σ H Q I (i σ H Q q)⟩
theorem ps_to {e : Stmt} {t t' : TS} (h : PS X e t) (i : ∀ D σ H, t' D σ H → t D σ H) : PS X e t' := ⟨fun pins s σ H D I q => h.run pins s σ H D I (i D σ H q)⟩
theorem pss_to {e : List Stmt} {t t' : TS} (h : PSs X e t) (i : ∀ D σ H, t' D σ H → t D σ H) : PSs X e t' := ⟨fun pins s σ H D I q => h.run pins s σ H D I (i D σ H q)⟩

abbrev DE (X : Cx) (b : Bool) (O : List Nat) (E : XK) (e : Expr) (w : WE) : Prop := PE X e (rdE X.K X.mg b O E w)
abbrev DB (X : Cx) (b : Bool) (O : List Nat) (E : XK) (e : Expr) (w : WE) : Prop := PE X e (rdB X.K X.mg b O E w)
abbrev DN (X : Cx) (b : Bool) (O : List Nat) (E : XK) (e : Expr) (w : WE) : Prop := PE X e (rdN X.K X.mg b O E w)
abbrev DT (X : Cx) (b : Bool) (O : List Nat) (E : XK) (e : Expr) (w : WT) : Prop := PT X e (rdT X.K X.mg b O E w)
abbrev DA (X : Cx) (b : Bool) (O : List Nat) (E : XK) (es : List Expr) (w : WA) : Prop := PA X es (rdA X.K X.mg b O E w)
abbrev DAB (X : Cx) (b : Bool) (O : List Nat) (E : XK) (es : List Expr) (w : WA) : Prop := PA X es (rdAB X.K X.mg b O E w)
abbrev DO (X : Cx) (b : Bool) (O : List Nat) (E : XK) (e : Option Expr) (w : Env → W (Option Int)) : Prop := PO X e (rdO X.K X.mg b O E w)

variable {b : Bool} {O : List Nat} {E : XK} {e a c : Expr} {w wa wb wc : WE} {pos : Pos}
/-- both pure: the steps of two pure parts -/
theorem pure2 {b : Bool} {S S1 S2 : Sto} {F H F1 H1 F2 H2 : Hp} (p1 : b = true → S1 = S ∧ Al F H F1 H1) (p2 : b = true → S2 = S1 ∧ Al F1 H1 F2 H2) : b = true → S2 = S ∧ Al F H F2 H2 := fun h =>
  ⟨(p2 h).1.trans (p1 h).1, (p1 h).2.trans (p2 h).2⟩
theorem pureA {b : Bool} {S S1 : Sto} {F H F1 H1 F2 H2 : Hp} (p1 : b = true → S1 = S ∧ Al F H F1 H1) (p2 : Al F1 H1 F2 H2) : b = true → S1 = S ∧ Al F H F2 H2 := fun h => ⟨(p1 h).1, (p1 h).2.trans p2⟩
theorem de_eff (h : DE X true O E e w) : DE X false O E e w := pe_to h fun σ H Q ⟨Z, Δ, S, F, P, R, k, hw, hx, hq⟩ =>
  ⟨Z, Δ, S, F, P, R, k, hw, hx, fun v d S' F' H' k' e' _ r p => hq v d S' F' H' k' e' (fun z => nomatch z) r p⟩
theorem db_eff (h : DB X true O E e w) : DB X false O E e w := pe_to h fun σ H Q ⟨Z, Δ, S, F, P, R, k, hw, hx, hq⟩ =>
  ⟨Z, Δ, S, F, P, R, k, hw, hx, fun v d S' F' H' k' e' _ r p => hq v d S' F' H' k' e' (fun z => nomatch z) r p⟩
theorem dn_eff (h : DN X true O E e w) : DN X false O E e w := pe_to h fun σ H Q ⟨Z, Δ, S, F, P, R, k, hw, hx, hq⟩ =>
  ⟨Z, Δ, S, F, P, R, k, hw, hx, fun v d S' F' H' k' e' _ r _ p => hq v d S' F' H' k' e' (fun z => nomatch z) r (fun z => nomatch z) p⟩
theorem dt_eff {w : WT} (h : DT X true O E e w) : DT X false O E e w := pt_to h fun σ H Q ⟨Z, Δ, S, F, P, R, k, hw, hx, hq⟩ =>
  ⟨Z, Δ, S, F, P, R, k, hw, hx, fun v S' F' H' k' e' _ p => hq v S' F' H' k' e' (fun z => nomatch z) p⟩
theorem de_b (h : DE X b O E e w) : DB X b O E e w := pe_to h fun σ H Q ⟨Z, Δ, S, F, P, R, k, hw, hx, hq⟩ =>
  ⟨Z, Δ, S, F, P, R, k, hw, hx, fun v d S' F' H' k' e' p r => hq v d S' F' H' k' e' p (.inl r)⟩
/-- a new cell is shared -/
theorem dn_e (h : DN X b O E e w) : DE X b O E e w := pe_to h fun σ H Q ⟨Z, Δ, S, F, P, R, k, hw, hx, hq⟩ =>
  ⟨Z, Δ, S, F, P, R, k, hw, hx, fun v d S' F' H' k' e' pu r hn p => by
    obtain ⟨F2, f1, f2, f3, f4⟩ := r.share k'
    refine hq v d S' F2 H' f2 (e'.trans f1) (fun z => ⟨(pu z).1, ?_⟩) f3 p
    have al := (pu z).2
    refine ⟨e'.trans f1, al.h, f2.fH, fun c o q => ?_⟩
    rcases f4 c o q with y | y
    · exact al.n c o y
    · exact .inr (hn z c y)⟩

/-! ### names, constants -/
theorem de_var (i : Nat) {x : Str} (hi : i ∉ O) (h : PE X (.Name x pos) (tVar i)) : DE X true O E (.Name x pos) (eVar i) := pe_to h fun σ H Q ⟨Z, Δ, S, F, P, R, k, ⟨d, hd, hp⟩, hx, hq⟩ => by
  obtain ⟨v, h1, h2⟩ := k.fr i d hi hd
  exact ⟨v, h1, hq v d S F H k (Ex.refl _) (fun _ => ⟨rfl, Al.refl k.fH⟩) h2 hp⟩
theorem db_var (i : Nat) {x : Str} (hi : i ∈ O) (h : PE X (.Name x pos) (tVar i)) : DB X true O E (.Name x pos) (eVar i) := pe_to h fun σ H Q ⟨Z, Δ, S, F, P, R, k, ⟨d, hd, hp⟩, hx, hq⟩ => by
  obtain ⟨p, o, h1, h2⟩ := k.ow i d hi hd
  exact ⟨.ref p, h1, hq _ d S F H k (Ex.refl _) (fun _ => ⟨rfl, Al.refl k.fH⟩) (.inr ⟨i, hi, hd, h1⟩) hp⟩
theorem de_c {v : V} {d : D} (h : PE X e (tC v)) (r : ∀ F, Rep X.K F v d) : DE X true O E e (eC d) := pe_to h fun σ H Q ⟨Z, Δ, S, F, P, R, k, hp, hx, hq⟩ =>
  hq v d S F H k (Ex.refl _) (fun _ => ⟨rfl, Al.refl k.fH⟩) (r F) hp
theorem de_int {i : Int} {j : Nat} : DE X true O E (.Constant (.int i) j pos) (eC (.int i)) := de_c pe_int fun _ => .int i
theorem de_bl {i : Bool} {j : Nat} : DE X true O E (.Constant (.bool i) j pos) (eC (.bl i)) := de_c pe_bl fun _ => .bl i
theorem de_non {j : Nat} : DE X true O E (.Constant .none j pos) (eC .non) := de_c pe_non fun _ => .non
theorem de_str {x : Str} {j : Nat} : DE X true O E (.Constant (.str x) j pos) (eC (.str x)) := de_c pe_str fun _ => .str x

/-! ### operators -/
/-- an operator's rule serves f -/
def OpS (K : PySem.W.Frag) (f : D → D → Option D) (r : R2) : Prop := ∀ (F H : Hp) (x y : V) (d1 d2 z : D) (Q : VK), Ex F H → VRep K F H x d1 → VRep K F H y d2 → f d1 d2 = some z →
  (∀ v F' H', Al F H F' H' → Rep K F' v z → Q v H') → r x y H Q
def UnS (K : PySem.W.Frag) (f : D → Option D) (r : V → Hp → VK → Prop) : Prop := ∀ (F H : Hp) (x : V) (d1 z : D) (Q : VK), Ex F H → VRep K F H x d1 → f d1 = some z →
  (∀ v F' H', Al F H F' H' → Rep K F' v z → Q v H') → r x H Q
def FnS (K : PySem.W.Frag) (f : List D → Option D) (r : List V → Hp → VK → Prop) : Prop := ∀ (F H : Hp) (xs : List V) (ds : List D) (z : D) (Q : VK), Ex F H → VReps K F H xs ds → f ds = some z →
  (∀ v F' H', Al F H F' H' → Rep K F' v z → Q v H') → r xs H Q
theorem rd_bin {f : D → D → Option D} {r : R2} (hr : OpS X.K f r) : ∀ σ H Q, rdE X.K X.mg b O E (eBin f wa wb) σ H Q → tOp r (rdB X.K X.mg b O E wa) (rdB X.K X.mg b O E wb) σ H Q :=
  fun σ H Q ⟨Z, Δ, S, F, P, R, k, hw, hx, hq⟩ => ⟨Z, Δ, S, F, _, R, k, hw, hx, fun v d S1 F1 H1 k1 e1 p1 r1 h1 => ⟨Z, Δ, S1, F1, _, R, k1, h1, hx.mono e1, fun u c S2 F2 H2 k2 e2 p2 r2 ⟨z, hz, hp⟩ =>
    hr F2 H2 v u d c z Q k2.fH ((r1.mono e2).see k2) (r2.see k2) hz fun v' F3 H3 al r3 => hq v' z S2 F3 H3 (k2.al al) (e1.trans (e2.trans al.f)) (pureA (pure2 p1 p2) al) r3 hp⟩⟩
theorem de_bin {op : Operator} {f : D → D → Option D} {r : R2} (ho : OpR X (binaryOp op) r) (hr : OpS X.K f r) (ha : DB X b O E a wa) (hb : DB X b O E c wb) : DE X b O E (.BinOp a op c pos) (eBin f wa wb) :=
  pe_to (pe_op ho ha hb) (rd_bin hr)
theorem de_cmp {op : CmpOp} {f : D → D → Option D} {r : R2} (ho : OpR X (compareOp op) r) (hr : OpS X.K f r) (ha : DB X b O E a wa) (hb : DB X b O E c wb) (hm : behindInMarks op c = false) : DE X b O E (.Compare a [op] [c] pos) (eBin f wa wb) :=
  pe_to (pe_cmpR ho ha hb hm) (rd_bin hr)
theorem de_un {op : UnaryOp} {f : D → Option D} {r : V → Hp → VK → Prop} (ho : UnR X (unaryOp op) r) (hr : UnS X.K f r) (ha : DB X b O E a wa) : DE X b O E (.UnaryOp op a pos) (eUn f wa) :=
  pe_to (pe_un ho ha) fun σ H Q ⟨Z, Δ, S, F, P, R, k, hw, hx, hq⟩ => ⟨Z, Δ, S, F, _, R, k, hw, hx, fun v d S1 F1 H1 k1 e1 p1 r1 ⟨z, hz, hp⟩ =>
    hr F1 H1 v d z Q k1.fH (r1.see k1) hz fun v' F3 H3 al r3 => hq v' z S1 F3 H3 (k1.al al) (e1.trans al.f) (pureA p1 al) r3 hp⟩
end
end DL

/-! DR2: readings by meanings: booleans, tests, arguments, displays, subscripts, built-in functions and methods. -/
namespace DL
open PySem L2
section
variable {X : Cx} {b : Bool} {O : List Nat} {E : XK} {e a c : Expr} {es : List Expr} {w wa wb wc : WE} {t u : WT} {pos : Pos}

/-! ### and, or, not, if -/
theorem de_one {op : BoolOp} (h : DE X b O E a w) : DE X b O E (.BoolOp op [a] pos) w := pe_one h
theorem de_and {rest : List Expr} (ha : DE X b O E a wa) (hb : DE X b O E (.BoolOp .And (c :: rest) pos) wb) : DE X b O E (.BoolOp .And (a :: c :: rest) pos) (eAnd wa wb) :=
  pe_to (pe_and ha hb) fun σ H Q ⟨Z, Δ, S, F, P, R, k, hw, hx, hq⟩ => ⟨Z, Δ, S, F, _, R, k, hw, hx, fun v d S1 F1 H1 k1 e1 p1 r1 ⟨q, hd, h⟩ => by
    subst hd
    cases r1
    refine ⟨q, rfl, ?_⟩
    cases q with
    | true => exact ⟨Z, Δ, S1, F1, P, R, k1, h, hx.mono e1, fun v d S2 F2 H2 k2 e2 p2 r2 hp => hq v d S2 F2 H2 k2 (e1.trans e2) (pure2 p1 p2) r2 hp⟩
    | false => exact hq _ _ S1 F1 H1 k1 e1 p1 (.bl false) h⟩
theorem de_or {rest : List Expr} (ha : DE X b O E a wa) (hb : DE X b O E (.BoolOp .Or (c :: rest) pos) wb) : DE X b O E (.BoolOp .Or (a :: c :: rest) pos) (eOr wa wb) :=
  pe_to (pe_or ha hb) fun σ H Q ⟨Z, Δ, S, F, P, R, k, hw, hx, hq⟩ => ⟨Z, Δ, S, F, _, R, k, hw, hx, fun v d S1 F1 H1 k1 e1 p1 r1 ⟨q, hd, h⟩ => by
    subst hd
    cases r1
    refine ⟨q, rfl, ?_⟩
    cases q with
    | true => exact hq _ _ S1 F1 H1 k1 e1 p1 (.bl true) h
    | false => exact ⟨Z, Δ, S1, F1, P, R, k1, h, hx.mono e1, fun v d S2 F2 H2 k2 e2 p2 r2 hp => hq v d S2 F2 H2 k2 (e1.trans e2) (pure2 p1 p2) r2 hp⟩⟩
theorem de_not (ha : DE X b O E a wa) : DE X b O E (.UnaryOp .Not a pos) (eNot wa) :=
  pe_to (pe_not ha) fun σ H Q ⟨Z, Δ, S, F, P, R, k, hw, hx, hq⟩ => ⟨Z, Δ, S, F, _, R, k, hw, hx, fun v d S1 F1 H1 k1 e1 p1 r1 ⟨q, hd, h⟩ => by
    subst hd
    cases r1
    exact ⟨q, rfl, hq _ _ S1 F1 H1 k1 e1 p1 (.bl (!q)) h⟩⟩
theorem de_if {t : WT} (ht : DT X b O E e t) (ha : DE X b O E a wa) (hb : DE X b O E c wb) : DE X b O E (.IfExp e a c pos) (eIf t wa wb) :=
  pe_to (pe_ifExp ht ha hb) fun σ H Q ⟨Z, Δ, S, F, P, R, k, hw, hx, hq⟩ => ⟨Z, Δ, S, F, _, R, k, hw, hx, fun q S1 F1 H1 k1 e1 p1 h => by
    cases q with
    | true => exact ⟨Z, Δ, S1, F1, P, R, k1, h, hx.mono e1, fun v d S2 F2 H2 k2 e2 p2 r2 hp => hq v d S2 F2 H2 k2 (e1.trans e2) (pure2 p1 p2) r2 hp⟩
    | false => exact ⟨Z, Δ, S1, F1, P, R, k1, h, hx.mono e1, fun v d S2 F2 H2 k2 e2 p2 r2 hp => hq v d S2 F2 H2 k2 (e1.trans e2) (pure2 p1 p2) r2 hp⟩⟩

/-! ### tests -/
theorem dt_val (ha : DE X b O E e w) (he : ∀ whole, isTrue e X.env whole = (do let v ← whole; standAt e.pos; holding [v] (truthy v)) := by intro _; rfl) : DT X b O E e (tE w) :=
  pt_to (pt_val ha he) fun σ H Q ⟨Z, Δ, S, F, P, R, k, hw, hx, hq⟩ => ⟨Z, Δ, S, F, _, R, k, hw, hx, fun v d S1 F1 H1 k1 e1 p1 r1 ⟨q, hd, h⟩ => by
    subst hd
    cases r1
    exact ⟨q, rfl, hq q S1 F1 H1 k1 e1 p1 h⟩⟩
theorem dt_cmp {op : CmpOp} {f : D → D → Option D} {r : R2} (ho : OpR X (compareOp op) r) (hr : OpS X.K f r) (ha : DB X b O E a wa) (hb : DB X b O E c wb) (hm : behindInMarks op c = false) : DT X b O E (.Compare a [op] [c] pos) (tE (eBin f wa wb)) :=
  pt_to (pt_cmpR ho ha hb hm) fun σ H Q ⟨Z, Δ, S, F, P, R, k, hw, hx, hq⟩ => rd_bin hr σ H _ ⟨Z, Δ, S, F, _, R, k, hw, hx, fun v d S1 F1 H1 k1 e1 p1 r1 ⟨q, hd, h⟩ => by
    subst hd
    cases r1
    exact ⟨q, rfl, hq q S1 F1 H1 k1 e1 p1 h⟩⟩
theorem tru_see {K : PySem.W.Frag} {F H : Hp} {v : V} {d : D} {k : Bool} (e : Ex F H) (r : VRep K F H v d) (h : dTru d = some k) : TruV K v H k := by
  cases d with
  | non => cases r.non; cases h; exact rfl
  | bl q => cases r.bl; cases h; exact rfl
  | int i => cases r.int; cases h; exact rfl
  | str x =>
    cases r.str
    have h' : (if x.length ≤ LINE then some ((x.length : Int) != 0) else none) = some k := h
    by_cases hl : x.length ≤ LINE
    · rw [if_pos hl] at h'; cases h'; exact ⟨hl, rfl⟩
    · rw [if_neg hl] at h'; cases h'
  | lst xs =>
    obtain ⟨p, vs, rfl, hp, rr⟩ := r.lst e
    cases h
    refine .inl ⟨vs, .inl (.inl hp), ?_⟩
    cases rr <;> rfl
  | tup xs =>
    obtain ⟨p, vs, rfl, hp, rr⟩ := r.tup e
    cases h
    refine .inr (.inl ⟨vs, hp, ?_⟩)
    cases rr <;> rfl
  | dct xs =>
    obtain ⟨p, vs, rfl, hp, rr⟩ := r.dct e
    cases h
    refine .inr (.inr ⟨vs, hp, ?_⟩)
    cases rr <;> rfl
  | _ => cases h
theorem dt_tru (ha : DB X b O E e w) (he : ∀ whole, isTrue e X.env whole = (do let v ← whole; standAt e.pos; holding [v] (truthy v)) := by intro _; rfl) : DT X b O E e (tTru w) :=
  pt_to (pt_truth ha he) fun σ H Q ⟨Z, Δ, S, F, P, R, k, hw, hx, hq⟩ => ⟨Z, Δ, S, F, _, R, k, hw, hx, fun v d S1 F1 H1 k1 e1 p1 r1 ⟨q, hd, h⟩ =>
    ⟨q, tru_see k1.fH (r1.see k1) hd, hq q S1 F1 H1 k1 e1 p1 h⟩⟩
theorem dt_not (ht : DT X b O E e t) : DT X b O E (.UnaryOp .Not e pos) (tNot t) :=
  pt_to (pt_not ht) fun σ H Q ⟨Z, Δ, S, F, P, R, k, hw, hx, hq⟩ => ⟨Z, Δ, S, F, _, R, k, hw, hx, fun q S1 F1 H1 k1 e1 p1 h => hq _ S1 F1 H1 k1 e1 p1 h⟩
abbrev DW' (X : Cx) (b : Bool) (O : List Nat) (E : XK) (e : Expr) (w : WT) : Prop := PW X e (rdT X.K X.mg b O E w)
theorem dw_and1 (ha : DT X b O E a t) : DW' X b O E (.BoolOp .And [a] pos) t := pw_and1 ha
theorem dw_or1 (ha : DT X b O E a t) : DW' X b O E (.BoolOp .Or [a] pos) t := pw_or1 ha
theorem dw_and {rest : List Expr} (ha : DT X b O E a t) (hb : DW' X b O E (.BoolOp .And (c :: rest) pos) u) : DW' X b O E (.BoolOp .And (a :: c :: rest) pos) (tAnd t u) :=
  pw_to (pw_and ha hb) fun σ H Q ⟨Z, Δ, S, F, P, R, k, hw, hx, hq⟩ => ⟨Z, Δ, S, F, _, R, k, hw, hx, fun q S1 F1 H1 k1 e1 p1 h => by
    cases q with
    | true => exact ⟨Z, Δ, S1, F1, P, R, k1, h, hx.mono e1, fun d S2 F2 H2 k2 e2 p2 hp => hq d S2 F2 H2 k2 (e1.trans e2) (pure2 p1 p2) hp⟩
    | false => exact hq _ S1 F1 H1 k1 e1 p1 h⟩
theorem dw_or {rest : List Expr} (ha : DT X b O E a t) (hb : DW' X b O E (.BoolOp .Or (c :: rest) pos) u) : DW' X b O E (.BoolOp .Or (a :: c :: rest) pos) (tOr t u) :=
  pw_to (pw_or ha hb) fun σ H Q ⟨Z, Δ, S, F, P, R, k, hw, hx, hq⟩ => ⟨Z, Δ, S, F, _, R, k, hw, hx, fun q S1 F1 H1 k1 e1 p1 h => by
    cases q with
    | true => exact hq _ S1 F1 H1 k1 e1 p1 h
    | false => exact ⟨Z, Δ, S1, F1, P, R, k1, h, hx.mono e1, fun d S2 F2 H2 k2 e2 p2 hp => hq d S2 F2 H2 k2 (e1.trans e2) (pure2 p1 p2) hp⟩⟩
theorem dt_w {op : BoolOp} {l : List Expr} (h : DW' X b O E (.BoolOp op l pos) t) : DT X b O E (.BoolOp op l pos) t := h.pt
/-- a < b < c -/
theorem rd_chain {f g : D → D → Option D} {r r' : R2} (hr : OpS X.K f r) (hr' : OpS X.K g r') : ∀ σ H Q, rdE X.K X.mg b O E (eChain f g wa wb wc) σ H Q → tChain r r' (rdB X.K X.mg b O E wa) (rdB X.K X.mg b O E wb) (rdB X.K X.mg b O E wc) σ H Q :=
  fun σ H Q ⟨Z, Δ, S, F, P, R, k, hw, hx, hq⟩ => ⟨Z, Δ, S, F, _, R, k, hw, hx, fun v d S1 F1 H1 k1 e1 p1 r1 h1 => ⟨Z, Δ, S1, F1, _, R, k1, h1, hx.mono e1, fun v2 d2 S2 F2 H2 k2 e2 p2 r2 ⟨q, hz, hp⟩ =>
    hr F2 H2 v v2 d d2 (.bl q) _ k2.fH ((r1.mono e2).see k2) (r2.see k2) hz fun v' F3 H3 al r3 => ⟨q, by cases r3; rfl, by
      have k3 := k2.al al
      cases q with
      | true => exact ⟨Z, Δ, S2, F3, _, R, k3, hp, hx.mono ((e1.trans e2).trans al.f), fun v4 d4 S4 F4 H4 k4 e4 p4 r4 ⟨z, hz', hp'⟩ =>
          hr' F4 H4 v2 v4 d2 d4 z Q k4.fH ((r2.mono (al.f.trans e4)).see k4) (r4.see k4) hz' fun v5 F5 H5 al5 r5 => hq v5 z S4 F5 H5 (k4.al al5) (((e1.trans e2).trans al.f).trans (e4.trans al5.f)) (pureA (pure2 (pureA (pure2 p1 p2) al) p4) al5) r5 hp'⟩
      | false => exact hq _ _ S2 F3 H3 k3 ((e1.trans e2).trans al.f) (pureA (pure2 p1 p2) al) (.bl false) hp⟩⟩⟩
theorem de_chain {op op' : CmpOp} {f g : D → D → Option D} {r r' : R2} {e3 : Expr} (ho : OpR X (compareOp op) r) (hr : OpS X.K f r) (ho' : OpR X (compareOp op') r') (hr' : OpS X.K g r') (ha : DB X b O E a wa) (hb : DB X b O E c wb) (hc : DB X b O E e3 wc)
    (hm : lastMarks [op, op'] [c, e3] = false := by with_unfolding_all rfl) : DE X b O E (.Compare a [op, op'] [c, e3] pos) (eChain f g wa wb wc) := pe_to (pe_chain ho ho' ha hb hc hm) (rd_chain hr hr')
theorem dt_chain {op op' : CmpOp} {f g : D → D → Option D} {r r' : R2} {e3 : Expr} (ho : OpR X (compareOp op) r) (hr : OpS X.K f r) (ho' : OpR X (compareOp op') r') (hr' : OpS X.K g r') (ha : DB X b O E a wa) (hb : DB X b O E c wb) (hc : DB X b O E e3 wc)
    (hm : lastMarks [op, op'] [c, e3] = false := by with_unfolding_all rfl) : DT X b O E (.Compare a [op, op'] [c, e3] pos) (tE (eChain f g wa wb wc)) :=
  pt_to (pt_chain ho ho' ha hb hc hm) fun σ H Q ⟨Z, Δ, S, F, P, R, k, hw, hx, hq⟩ => rd_chain hr hr' σ H _ ⟨Z, Δ, S, F, _, R, k, hw, hx, fun v d S1 F1 H1 k1 e1 p1 r1 ⟨q, hd, h⟩ => by
    subst hd
    cases r1
    exact ⟨q, rfl, hq q S1 F1 H1 k1 e1 p1 h⟩⟩

/-! ### arguments, displays -/
theorem da_nil : DA X true O E [] aNil := pa_to pa_nil fun σ H Q ⟨Z, Δ, S, F, P, R, k, hw, hx, hq⟩ => hq [] [] S F H k (Ex.refl _) (fun _ => ⟨rfl, Al.refl k.fH⟩) .nil hw
theorem dab_nil : DAB X true O E [] aNil := pa_to pa_nil fun σ H Q ⟨Z, Δ, S, F, P, R, k, hw, hx, hq⟩ => hq [] [] S F H k (Ex.refl _) (fun _ => ⟨rfl, Al.refl k.fH⟩) .nil hw
theorem da_eff {w : WA} (h : DA X true O E es w) : DA X false O E es w := pa_to h fun σ H Q ⟨Z, Δ, S, F, P, R, k, hw, hx, hq⟩ =>
  ⟨Z, Δ, S, F, P, R, k, hw, hx, fun v d S' F' H' k' e' _ r p => hq v d S' F' H' k' e' (fun z => nomatch z) r p⟩
theorem dab_eff {w : WA} (h : DAB X true O E es w) : DAB X false O E es w := pa_to h fun σ H Q ⟨Z, Δ, S, F, P, R, k, hw, hx, hq⟩ =>
  ⟨Z, Δ, S, F, P, R, k, hw, hx, fun v d S' F' H' k' e' _ r p => hq v d S' F' H' k' e' (fun z => nomatch z) r p⟩
theorem da_cons {w : WA} (ha : DE X b O E e wa) (hr : DA X b O E es w) (hs : starEach (e :: es) X.env = (false, eval e X.env) :: starEach es X.env := by rfl) : DA X b O E (e :: es) (aCons wa w) :=
  pa_to (pa_cons ha hr hs) fun σ H Q ⟨Z, Δ, S, F, P, R, k, hw, hx, hq⟩ => ⟨Z, Δ, S, F, _, R, k, hw, hx, fun v d S1 F1 H1 k1 e1 p1 r1 h1 => ⟨Z, Δ, S1, F1, _, R, k1, h1, hx.mono e1, fun vs ds S2 F2 H2 k2 e2 p2 r2 hp =>
    hq (v :: vs) (d :: ds) S2 F2 H2 k2 (e1.trans e2) (pure2 p1 p2) (.cons (r1.mono e2) r2) hp⟩⟩
theorem dab_cons {w : WA} (ha : DB X b O E e wa) (hr : DAB X b O E es w) (hs : starEach (e :: es) X.env = (false, eval e X.env) :: starEach es X.env := by rfl) : DAB X b O E (e :: es) (aCons wa w) :=
  pa_to (pa_cons ha hr hs) fun σ H Q ⟨Z, Δ, S, F, P, R, k, hw, hx, hq⟩ => ⟨Z, Δ, S, F, _, R, k, hw, hx, fun v d S1 F1 H1 k1 e1 p1 r1 h1 => ⟨Z, Δ, S1, F1, _, R, k1, h1, hx.mono e1, fun vs ds S2 F2 H2 k2 e2 p2 r2 hp =>
    hq (v :: vs) (d :: ds) S2 F2 H2 k2 (e1.trans e2) (pure2 p1 p2) (.cons (r1.mono e2) r2) hp⟩⟩
theorem LINE_le {n : Nat} (h : n ≤ LINE) : n ≤ sizeLine := by rw [sizeLine_eq]; exact h
theorem LINE_lt {n : Nat} (h : n < LINE) : n < sizeLine := by rw [sizeLine_eq]; exact h
theorem line_le {n : Nat} (h : n ≤ sizeLine) : n ≤ LINE := by rw [sizeLine_eq] at h; exact h
/-- a place that no one knows, in every part of the state -/
theorem new_cell {K : PySem.W.Frag} {O : List Nat} {Z : Hp} {σ : L2.St} {Δ : Env} {S : Sto} {F H : Hp} (k : Wd K O Z σ Δ S F H) {p : Addr} (hp : H p = none) (o : HO) :
    Wd K O Z σ Δ S F (L2.upd H p o) ∧ F p = none ∧ Z p = none ∧ S p = none ∧ ∀ (j : Nat) (e : D), j ∈ O → Δ[j]? = some (some e) → σ[j]? ≠ some (some (.ref p)) := by
  have hF := k.fH.none hp
  have hS : S p = none := by
    cases q : S p with
    | none => rfl
    | some ob =>
      obtain ⟨_, _, r⟩ := k.st p ob q
      obtain ⟨u, hu⟩ := r.some
      rw [hp] at hu; cases hu
  refine ⟨k.al ⟨Ex.refl _, Ex.new hp, k.fH.mut hF, fun _ _ q => .inl q⟩, hF, k.zH.none hp, hS, fun j e hj hd hs => ?_⟩
  obtain ⟨p', o', a1, a2, _⟩ := k.ow j e hj hd
  rw [hs] at a1; cases a1
  rw [hp] at a2; cases a2
theorem dn_lst {w : WA} (h : DA X b O E es w) : DN X b O E (.List es pos) (eLst w) :=
  pe_to (pe_lst h) fun σ H Q ⟨Z, Δ, S, F, P, R, k, hw, hx, hq⟩ => ⟨Z, Δ, S, F, _, R, k, hw, hx, fun vs ds S1 F1 H1 k1 e1 p1 r1 ⟨hl, hp⟩ => ⟨LINE_le (by rw [r1.len]; exact hl), fun p np => by
    obtain ⟨k2, f1, f2, f3, f4⟩ := new_cell k1 np (.lst vs)
    exact hq (.ref p) (.lst ds) S1 F1 _ k2 e1 (pureA p1 ⟨Ex.refl _, Ex.new np, k2.fH, fun _ _ q => .inl q⟩) ⟨p, _, rfl, upd_same, .lst r1, f1, f2, f3, f4⟩ (fun z q hq => by cases hq; exact (p1 z).2.h.none np) hp⟩⟩
theorem de_tup {w : WA} {x1 : Nat} (h : DA X b O E es w) : DE X b O E (.Tuple es x1 pos) (eTup w) :=
  pe_to (pe_tup h) fun σ H Q ⟨Z, Δ, S, F, P, R, k, hw, hx, hq⟩ => ⟨Z, Δ, S, F, _, R, k, hw, hx, fun vs ds S1 F1 H1 k1 e1 p1 r1 ⟨hl, hp⟩ => ⟨LINE_le (by rw [r1.len]; exact hl), fun p np => by
    have al := Al.new (o := .tup vs) k1.fH np
    exact hq (.ref p) (.tup ds) S1 _ _ (k1.al al) (e1.trans al.f) (pureA p1 al) (.tup upd_same (r1.mono al.f)) hp⟩⟩
theorem dn_dict0 : DN X true O E (.Dict [] [] pos) (eC (.dct [])) :=
  pe_to pe_dnewK fun σ H Q ⟨Z, Δ, S, F, P, R, k, hp, hx, hq⟩ => fun p np => by
    obtain ⟨k2, f1, f2, f3, f4⟩ := new_cell k np (.dK [])
    exact hq (.ref p) (.dct []) S F _ k2 (Ex.refl _) (fun _ => ⟨rfl, ⟨Ex.refl _, Ex.new np, k2.fH, fun _ _ q => .inl q⟩⟩) ⟨p, _, rfl, upd_same, .dct .nil, f1, f2, f3, f4⟩ (fun z q hq => by cases hq; exact np) hp

/-! ### subscripts, slices -/
theorem de_ix {f : D → D → Option D} {r : R2} (ho : IxR X r) (hr : OpS X.K f r) (ha : DB X b O E a wa) (hb : DB X b O E c wb) (hs : PlainIx c) : DE X b O E (.Subscript a c pos) (eBin f wa wb) :=
  pe_to (pe_ix ho ha hb hs) (rd_bin hr)
theorem do_none : DO X true O E none oNone := po_to po_none fun σ H Q ⟨Z, Δ, S, F, P, R, k, hw, hx, hq⟩ => hq none S F H k (Ex.refl _) (fun _ => ⟨rfl, Al.refl k.fH⟩) hw
theorem do_some (ha : DE X b O E e w) : DO X b O E (some e) (oSome w) := po_to (po_some ha) fun σ H Q ⟨Z, Δ, S, F, P, R, k, hw, hx, hq⟩ => ⟨Z, Δ, S, F, _, R, k, hw, hx, fun v d S1 F1 H1 k1 e1 p1 r1 ⟨i, hd, h⟩ => by
    subst hd
    cases r1
    exact ⟨i, rfl, hq _ S1 F1 H1 k1 e1 p1 h⟩⟩
theorem do_eff {o : Option Expr} {w : Env → W (Option Int)} (h : DO X true O E o w) : DO X false O E o w := po_to h fun σ H Q ⟨Z, Δ, S, F, P, R, k, hw, hx, hq⟩ =>
  ⟨Z, Δ, S, F, P, R, k, hw, hx, fun v S' F' H' k' e' _ p => hq v S' F' H' k' e' (fun z => nomatch z) p⟩
/-- a slice of a list or a text -/
def rSlA (K : PySem.W.Frag) : V → Option Int → Option Int → Hp → VK → Prop := fun x lo hi H Q => rSlL K x lo hi H Q ∨ rSlS x lo hi H Q
theorem sl_any : SlR X (rSlA X.K) := sl_list.or sl_str
theorem sl_see {K : PySem.W.Frag} {F H : Hp} {v : V} {d z : D} {lo hi : Option Int} {Q : VK} (ex : Ex F H) (r : VRep K F H v d) (h : dSl d lo hi = some z) (hq : ∀ v F' H', Al F H F' H' → Rep K F' v z → Q v H') : rSlA K v lo hi H Q := by
  cases d with
  | lst xs =>
    obtain ⟨p, vs, rfl, hp, rr⟩ := r.lst ex
    cases h
    refine .inl ⟨p, vs, rfl, .inl (.inl hp), fun q nq => ?_⟩
    have al := Al.new (o := .lst (cutV vs lo hi)) ex nq
    exact hq _ _ _ al (.lst upd_same ((rr.cut lo hi).mono al.f))
  | scr ns =>
    obtain ⟨p, rfl, hp⟩ := r.scr ex
    cases h
    refine .inl ⟨p, _, rfl, hp, fun q nq => ?_⟩
    have al := Al.new (o := .lst (cutV (ns.map V.int) lo hi)) ex nq
    refine hq _ _ _ al (.lst upd_same ?_)
    have e1 : cutV (ns.map V.int) lo hi = (cutD ns lo hi).map V.int := by
      unfold cutV cutD
      rw [List.length_map, List.map_take, List.map_drop]
    rw [e1]
    exact Reps.ints
  | str x =>
    cases r.str
    have h' : (if x.length ≤ LINE then some (D.str (L2.cutS x lo hi)) else none) = some z := h
    by_cases hl : x.length ≤ LINE
    · rw [if_pos hl] at h'; cases h'
      exact .inr ⟨x, rfl, LINE_le hl, hq _ F H (Al.refl ex) (.str _)⟩
    · rw [if_neg hl] at h'; cases h'
  | _ => cases h
theorem de_sl {lo hi : Option Expr} {wl wh : Env → W (Option Int)} {p2 : Pos} (ha : DB X b O E e w) (hl : DO X b O E lo wl) (hh : DO X b O E hi wh) : DE X b O E (.Subscript e (.Slice lo hi none p2) pos) (eSl w wl wh) :=
  pe_to (pe_slice sl_any ha hl hh) fun σ H Q ⟨Z, Δ, S, F, P, R, k, hw, hx, hq⟩ => ⟨Z, Δ, S, F, _, R, k, hw, hx, fun v d S1 F1 H1 k1 e1 p1 r1 h1 => ⟨Z, Δ, S1, F1, _, R, k1, h1, hx.mono e1, fun lo S2 F2 H2 k2 e2 p2 h2 =>
    ⟨Z, Δ, S2, F2, _, R, k2, h2, hx.mono (e1.trans e2), fun hi S3 F3 H3 k3 e3 p3 ⟨z, hz, hp⟩ => sl_see k3.fH ((r1.mono (e2.trans e3)).see k3) hz fun v' F4 H4 al r4 =>
      hq v' z S3 F4 H4 (k3.al al) ((e1.trans (e2.trans e3)).trans al.f) (pureA (pure2 (pure2 p1 p2) p3) al) r4 hp⟩⟩⟩
/-- a slice of a list is a new list -/
theorem dn_sl {lo hi : Option Expr} {wl wh : Env → W (Option Int)} {p2 : Pos} (ha : DB X b O E e w) (hl : DO X b O E lo wl) (hh : DO X b O E hi wh) : DN X b O E (.Subscript e (.Slice lo hi none p2) pos) (fun Δ S P R => eSl w wl wh Δ S (fun d S1 => (∃ xs, d = .lst xs) ∧ P d S1) R) :=
  pe_to (pe_slice sl_list ha hl hh) fun σ H Q ⟨Z, Δ, S, F, P, R, k, hw, hx, hq⟩ => ⟨Z, Δ, S, F, _, R, k, hw, hx, fun v d S1 F1 H1 k1 e1 p1 r1 h1 => ⟨Z, Δ, S1, F1, _, R, k1, h1, hx.mono e1, fun lo S2 F2 H2 k2 e2 p2 h2 =>
    ⟨Z, Δ, S2, F2, _, R, k2, h2, hx.mono (e1.trans e2), fun hi S3 F3 H3 k3 e3 p3 ⟨z, hz, ⟨xs, hxs⟩, hp⟩ => by
      have rv := (r1.mono (e2.trans e3)).see k3
      have pp := pure2 (pure2 p1 p2) p3
      have ee := e1.trans (e2.trans e3)
      have fin : ∀ (p : Addr) (vs : List V) (ds : List D), H3 p = none → Reps X.K F3 vs ds → z = .lst ds → Q (.ref p) (L2.upd H3 p (.lst vs)) := fun p vs ds np rr hz' => by
        obtain ⟨k4, f1, f2, f3, f4⟩ := new_cell k3 np (.lst vs)
        subst hz'
        exact hq (.ref p) (.lst ds) S3 F3 _ k4 ee (pureA pp ⟨Ex.refl _, Ex.new np, k4.fH, fun _ _ q => .inl q⟩) ⟨p, _, rfl, upd_same, .lst rr, f1, f2, f3, f4⟩ (fun z q hq => by cases hq; exact (pp z).2.h.none np) hp
      cases d with
      | lst ys =>
        obtain ⟨p, vs, rfl, hp', rr⟩ := rv.lst k3.fH
        cases hz
        exact ⟨p, vs, rfl, .inl (.inl hp'), fun q nq => fin q _ _ nq (rr.cut lo hi) rfl⟩
      | scr ns =>
        obtain ⟨p, rfl, hp'⟩ := rv.scr k3.fH
        cases hz
        refine ⟨p, _, rfl, hp', fun q nq => fin q _ _ nq ?_ rfl⟩
        have e1 : cutV (ns.map V.int) lo hi = (cutD ns lo hi).map V.int := by
          unfold cutV cutD
          rw [List.length_map, List.map_take, List.map_drop]
        rw [e1]
        exact Reps.ints
      | str x =>
        subst hxs
        have h' : (if x.length ≤ LINE then some (D.str (L2.cutS x lo hi)) else none) = some (D.lst xs) := hz
        by_cases hl : x.length ≤ LINE
        · rw [if_pos hl] at h'; cases h'
        · rw [if_neg hl] at h'; cases h'
      | _ => cases hz⟩⟩⟩

/-! ### built-in functions -/
theorem rd_fn {f : List D → Option D} {r : List V → Hp → VK → Prop} {w : WA} (hr : FnS X.K f r) : ∀ σ H Q, rdE X.K X.mg b O E (eFn f w) σ H Q → tCB r (rdAB X.K X.mg b O E w) σ H Q :=
  fun σ H Q ⟨Z, Δ, S, F, P, R, k, hw, hx, hq⟩ => ⟨Z, Δ, S, F, _, R, k, hw, hx, fun vs ds S1 F1 H1 k1 e1 p1 r1 ⟨z, hz, hp⟩ =>
    hr F1 H1 vs ds z Q k1.fH (r1.see k1) hz fun v' F3 H3 al r3 => hq v' z S1 F3 H3 (k1.al al) (e1.trans al.f) (pureA p1 al) r3 hp⟩
theorem de_blt {id : String} {f : List D → Option D} {r : List V → Hp → VK → Prop} {w : WA} {x : Str} {p : Pos} (hc : CallR X (.builtin id) r) (hr : FnS X.K f r) (hg : Gl X x) (hm : X.mg x = none) (hv : bootBuiltins x = some (.builtin id)) (ha : DAB X b O E (e :: es) w)
    (hn : x ≠ "__name__" := by decide) (hdb : (x == ("__debug__" : Str)) = false := by decide) (he : starEach (e :: es) X.env = (false, eval e X.env) :: starEach es X.env := by rfl) (hpl : (backTo pos (starEach es X.env)).any (·.1) = false := by rfl) :
    DE X b O E (.Call (.Name x p) (e :: es) [] pos) (eFn f w) := pe_to (pe_callB hc hg hm hv ha hn hdb he hpl) (rd_fn hr)
theorem de_ty {T : String} {f : List D → Option D} {r : List V → Hp → VK → Prop} {w : WA} {x : Str} {p : Pos} (hc : CallR X (.type T) r) (hr : FnS X.K f r) (hg : Gl X x) (hm : X.mg x = none) (hv : bootBuiltins x = some (.type T)) (ha : DAB X b O E (e :: es) w)
    (hn : x ≠ "__name__" := by decide) (hdb : (x == ("__debug__" : Str)) = false := by decide) (he : starEach (e :: es) X.env = (false, eval e X.env) :: starEach es X.env := by rfl) (hpl : (backTo pos (starEach es X.env)).any (·.1) = false := by rfl) :
    DE X b O E (.Call (.Name x p) (e :: es) [] pos) (eFn f w) := pe_to (pe_callTy hc hg hm hv ha hn hdb he hpl) (rd_fn hr)
/-- a type's call that makes a new list -/
def FnN (K : PySem.W.Frag) (f : List D → Option D) (r : List V → Hp → VK → Prop) : Prop := ∀ (F H : Hp) (xs : List V) (ds : List D) (z : D) (Q : VK), Ex F H → VReps K F H xs ds → f ds = some z →
  (∀ p o, H p = none → OwnO K F o z → Q (.ref p) (L2.upd H p o)) → r xs H Q
theorem FnN.s {K : PySem.W.Frag} {f : List D → Option D} {r : List V → Hp → VK → Prop} (h : FnN K f r) : FnS K f r := fun F H xs ds z Q ex rr hz hq =>
  h F H xs ds z Q ex rr hz fun p o np ro => hq _ _ _ (Al.new ex np) ((ro.mono (Ex.new (ex.none np))).rep upd_same)
theorem dn_ty {T : String} {f : List D → Option D} {r : List V → Hp → VK → Prop} {w : WA} {x : Str} {p : Pos} (hc : CallR X (.type T) r) (hr : FnN X.K f r) (hg : Gl X x) (hm : X.mg x = none) (hv : bootBuiltins x = some (.type T)) (ha : DAB X b O E (e :: es) w)
    (hn : x ≠ "__name__" := by decide) (hdb : (x == ("__debug__" : Str)) = false := by decide) (he : starEach (e :: es) X.env = (false, eval e X.env) :: starEach es X.env := by rfl) (hpl : (backTo pos (starEach es X.env)).any (·.1) = false := by rfl) :
    DN X b O E (.Call (.Name x p) (e :: es) [] pos) (eFn f w) := pe_to (pe_callTy hc hg hm hv ha hn hdb he hpl) fun σ H Q ⟨Z, Δ, S, F, P, R, k, hw, hx, hq⟩ => ⟨Z, Δ, S, F, _, R, k, hw, hx, fun vs ds S1 F1 H1 k1 e1 p1 r1 ⟨z, hz, hp⟩ =>
    hr F1 H1 vs ds z Q k1.fH (r1.see k1) hz fun p o np ro => by
      obtain ⟨k2, f1, f2, f3, f4⟩ := new_cell k1 np o
      exact hq (.ref p) z S1 F1 _ k2 e1 (pureA p1 ⟨Ex.refl _, Ex.new np, k2.fH, fun _ _ q => .inl q⟩) ⟨p, _, rfl, upd_same, ro, f1, f2, f3, f4⟩ (fun y q hq => by cases hq; exact (p1 y).2.h.none np) hp⟩
theorem dn_blt {id : String} {f : List D → Option D} {r : List V → Hp → VK → Prop} {w : WA} {x : Str} {p : Pos} (hc : CallR X (.builtin id) r) (hr : FnN X.K f r) (hg : Gl X x) (hm : X.mg x = none) (hv : bootBuiltins x = some (.builtin id)) (ha : DAB X b O E (e :: es) w)
    (hn : x ≠ "__name__" := by decide) (hdb : (x == ("__debug__" : Str)) = false := by decide) (he : starEach (e :: es) X.env = (false, eval e X.env) :: starEach es X.env := by rfl) (hpl : (backTo pos (starEach es X.env)).any (·.1) = false := by rfl) :
    DN X b O E (.Call (.Name x p) (e :: es) [] pos) (eFn f w) := pe_to (pe_callB hc hg hm hv ha hn hdb he hpl) fun σ H Q ⟨Z, Δ, S, F, P, R, k, hw, hx, hq⟩ => ⟨Z, Δ, S, F, _, R, k, hw, hx, fun vs ds S1 F1 H1 k1 e1 p1 r1 ⟨z, hz, hp⟩ =>
    hr F1 H1 vs ds z Q k1.fH (r1.see k1) hz fun p o np ro => by
      obtain ⟨k2, f1, f2, f3, f4⟩ := new_cell k1 np o
      exact hq (.ref p) z S1 F1 _ k2 e1 (pureA p1 ⟨Ex.refl _, Ex.new np, k2.fH, fun _ _ q => .inl q⟩) ⟨p, _, rfl, upd_same, ro, f1, f2, f3, f4⟩ (fun y q hq => by cases hq; exact (p1 y).2.h.none np) hp⟩
end
end DL

/-! DR3: the operators, functions and methods of Python serve the operators on trees. -/
namespace DL
open PySem L2
section
variable {K : PySem.W.Frag} {F H : Hp}

/-! ### arithmetic -/
def r2Add : R2 := fun x y H Q => (∃ i j, x = .int i ∧ y = .int j ∧ Q (.int (i + j)) H) ∨ ((∃ i j, x = .str i ∧ y = .str j ∧ i.length + j.length ≤ sizeLine ∧ Q (.str (i ++ j)) H) ∨ rCat x y H Q)
theorem op_addA {X : Cx} : OpR X (binaryOp .Add) r2Add := op_add.or (op_add_str.or op_cat)
theorem ite_some {α : Type} {c : Prop} [Decidable c] {x z : α} (h : (if c then some x else none) = some z) : c ∧ x = z := by
  by_cases hc : c
  · rw [if_pos hc] at h; exact ⟨hc, Option.some.inj h⟩
  · rw [if_neg hc] at h; cases h
theorem s_add : OpS K dAdd r2Add := fun F H x y d1 d2 z Q ex r1 r2 hz hq => by
  cases d1 with
  | int a =>
    cases d2 with
    | int c => cases r1.int; cases r2.int; cases hz; exact .inl ⟨a, c, rfl, rfl, hq _ F H (Al.refl ex) (.int _)⟩
    | _ => cases hz
  | str a =>
    cases d2 with
    | str c =>
      cases r1.str; cases r2.str
      obtain ⟨hl, rfl⟩ := ite_some (show (if a.length + c.length ≤ LINE then some (D.str (a ++ c)) else none) = some z from hz)
      exact .inr (.inl ⟨a, c, rfl, rfl, LINE_le hl, hq _ F H (Al.refl ex) (.str _)⟩)
    | _ => cases hz
  | lst a =>
    cases d2 with
    | lst c =>
      obtain ⟨p, vs, rfl, hp, rv⟩ := r1.lst ex
      obtain ⟨q, us, rfl, hq', ru⟩ := r2.lst ex
      obtain ⟨hl, rfl⟩ := ite_some (show (if a.length + c.length ≤ LINE then some (D.lst (a ++ c)) else none) = some z from hz)
      refine .inr (.inr ⟨p, q, vs, us, rfl, rfl, hp, hq', LINE_le (by rw [rv.len, ru.len]; exact hl), fun t nt => ?_⟩)
      have al := Al.new (o := .lst (vs ++ us)) ex nt
      exact hq _ _ _ al (.lst upd_same ((rv.app ru).mono al.f))
    | _ => cases hz
  | _ => cases hz
theorem s_I0 {f : D → D → Option D} {g : Int → Int → V} {gd : Int → Int → D} (hf : ∀ d1 d2 z, f d1 d2 = some z → ∃ i j, d1 = .int i ∧ d2 = .int j ∧ z = gd i j) (hg : ∀ F i j, Rep K F (g i j) (gd i j)) : OpS K f (rI0 g) := fun F H x y d1 d2 z Q ex r1 r2 hz hq => by
  obtain ⟨i, j, rfl, rfl, rfl⟩ := hf d1 d2 z hz
  cases r1.int; cases r2.int
  exact ⟨i, j, rfl, rfl, hq _ F H (Al.refl ex) (hg F i j)⟩
theorem s_I {f : D → D → Option D} {C : Int → Int → Prop} {g : Int → Int → V} {gd : Int → Int → D} (hf : ∀ d1 d2 z, f d1 d2 = some z → ∃ i j, d1 = .int i ∧ d2 = .int j ∧ C i j ∧ z = gd i j) (hg : ∀ F i j, Rep K F (g i j) (gd i j)) : OpS K f (rI C g) := fun F H x y d1 d2 z Q ex r1 r2 hz hq => by
  obtain ⟨i, j, rfl, rfl, hc, rfl⟩ := hf d1 d2 z hz
  cases r1.int; cases r2.int
  exact ⟨i, j, rfl, rfl, hc, hq _ F H (Al.refl ex) (hg F i j)⟩
theorem s_sub : OpS K dSub (rI0 fun i j => .int (i - j)) := s_I0 (gd := fun i j => .int (i - j)) (fun d1 d2 z h => by
  cases d1 <;> cases d2 <;> first | (cases h; exact ⟨_, _, rfl, rfl, rfl⟩) | cases h) fun _ _ _ => .int _
theorem s_cmp (p : Int → Int → Bool) : OpS K (dCmp p) (rI0 fun i j => .bl (p i j)) := s_I0 (gd := fun i j => .bl (p i j)) (fun d1 d2 z h => by
  cases d1 <;> cases d2 <;> first | (cases h; exact ⟨_, _, rfl, rfl, rfl⟩) | cases h) fun _ _ _ => .bl _
theorem s_div : OpS K dDiv (rI CDiv fun i j => .int (i / j)) := s_I (gd := fun i j => .int (i / j)) (fun d1 d2 z h => by
  cases d1 <;> cases d2 <;> first | (rename_i a c; obtain ⟨hc, rfl⟩ := ite_some (show (if 0 < c ∧ c < 1073741824 then some (D.int (a / c)) else none) = some z from h); exact ⟨_, _, rfl, rfl, hc, rfl⟩) | cases h) fun _ _ _ => .int _
theorem s_mod : OpS K dMod (rI (fun _ j => 0 < j) fun i j => .int (i % j)) := s_I (gd := fun i j => .int (i % j)) (fun d1 d2 z h => by
  cases d1 <;> cases d2 <;> first | (rename_i a c; obtain ⟨hc, rfl⟩ := ite_some (show (if 0 < c then some (D.int (a % c)) else none) = some z from h); exact ⟨_, _, rfl, rfl, hc, rfl⟩) | cases h) fun _ _ _ => .int _
theorem s_pow : OpS K dPow (rI CPow fun i j => .int (i ^ j.toNat)) := s_I (gd := fun i j => .int (i ^ j.toNat)) (fun d1 d2 z h => by
  cases d1 <;> cases d2 <;> first | (rename_i a c; obtain ⟨hc, rfl⟩ := ite_some (show (if 0 ≤ c ∧ c ≤ 1000000 ∧ a.natAbs < 2 ^ 64 then some (D.int (a ^ c.toNat)) else none) = some z from h); exact ⟨_, _, rfl, rfl, hc, rfl⟩) | cases h) fun _ _ _ => .int _
def r2Mul : R2 := fun x y H Q => rI CMul (fun i j => .int (i * j)) x y H Q ∨ rI CMulW (fun i j => .int (i * j)) x y H Q ∨ rRep x y H Q
theorem op_mulA {X : Cx} : OpR X (binaryOp .Mult) r2Mul := op_mul.or (op_mulW.or op_rep)
theorem s_mul : OpS K dMul r2Mul := fun F H x y d1 d2 z Q ex r1 r2 hz hq => by
  cases d1 with
  | int a =>
    cases d2 with
    | int c =>
      cases r1.int; cases r2.int
      obtain ⟨hl, rfl⟩ := ite_some (show (if ((-(2 ^ 64) < a ∧ a < 2 ^ 64) ∨ (-(2 ^ 64) < c ∧ c < 2 ^ 64)) ∨ a.natAbs.log2 + c.natAbs.log2 < 1000000 then some (D.int (a * c)) else none) = some z from hz)
      rcases hl with hl | hl
      · exact .inl ⟨a, c, rfl, rfl, hl, hq _ F H (Al.refl ex) (.int _)⟩
      · exact .inr (.inl ⟨a, c, rfl, rfl, hl, hq _ F H (Al.refl ex) (.int _)⟩)
    | _ => cases hz
  | lst a =>
    cases d2 with
    | int c =>
      obtain ⟨p, vs, rfl, hp, rv⟩ := r1.lst ex
      cases r2.int
      obtain ⟨⟨h1, h2, h3⟩, rfl⟩ := ite_some (show (if -(2 ^ 63) ≤ c ∧ c < 2 ^ 63 ∧ a.length * c.toNat ≤ LINE then some (D.lst (List.replicate c.toNat a).flatten) else none) = some z from hz)
      refine .inr (.inr ⟨p, c, vs, rfl, rfl, hp, h1, h2, LINE_le (by rw [rv.len]; exact h3), fun t nt => ?_⟩)
      have al := Al.new (o := .lst (List.replicate c.toNat vs).flatten) ex nt
      exact hq _ _ _ al (.lst upd_same ((rv.rep _).mono al.f))
    | _ => cases hz
  | _ => cases hz
theorem s_neg : UnS K dNeg (rU fun i => .int (-i)) := fun F H x d1 z Q ex r1 hz hq => by
  cases d1 with
  | int a => cases r1.int; cases hz; exact ⟨a, rfl, hq _ F H (Al.refl ex) (.int _)⟩
  | _ => cases hz

/-! ### == -/
theorem dp_ints (ex : Ex F H) : ∀ ns : List Int, DpAll K H (ns.map V.int) (ns.map PyData.int)
  | [] => .nil
  | n :: ns => .cons (.int n) (dp_ints ex ns)
mutual
theorem Rep.dp (ex : Ex F H) : ∀ {v : V} {d : D}, Rep K F v d → (toPy d).canLay0 = true → Dp K H v (toPy d)
  | _, _, .non, _ => .non
  | _, _, .bl b, _ => .bl b
  | _, _, .int i, _ => .int i
  | _, _, .str x, _ => .str x
  | _, _, .lst h r, c => .lst (.inl (.inl (ex _ _ h))) (Reps.dp ex r (by simpa [toPy, PyData.canLay0] using c))
  | _, _, .tup h r, c => .tup (.inl (.inl (ex _ _ h))) (Reps.dp ex r (by simpa [toPy, PyData.canLay0] using c))
  | _, _, .dct _ _, c => by simp [toPy, PyData.canLay0] at c
  | _, _, .dcT _ _, c => by simp [toPy, PyData.canLay0] at c
  | _, _, .obj _, c => by simp [toPy, PyData.canLay0] at c
  | _, _, .scr h, _ => .lst (ex.sl h) (dp_ints ex _)
theorem Reps.dp (ex : Ex F H) : ∀ {vs : List V} {ds : List D}, Reps K F vs ds → PyData.canLayAll0 (toPyAll ds) = true → DpAll K H vs (toPyAll ds)
  | _, _, .nil, _ => .nil
  | _, _, .cons h r, c => by
    rw [toPyAll, PyData.canLayAll0, Bool.and_eq_true] at c
    rw [toPyAll]
    exact .cons (Rep.dp ex h c.1) (Reps.dp ex r c.2)
end
theorem VRep.dp (ex : Ex F H) {v : V} {d : D} (r : VRep K F H v d) (h : shD d = true) : Dp K H v (toPy d) := by
  have c : (toPy d).canLay0 = true := SeqAt.canLay_of_shaped h
  cases r with
  | rep r => exact r.dp ex c
  | own hp o =>
    cases o with
    | lst r => exact .lst (.inl (.inl hp)) (r.dp ex (by simpa [toPy, PyData.canLay0] using c))
    | dct r => simp [toPy, PyData.canLay0] at c
    | dcT r => simp [toPy, PyData.canLay0] at c
def r2Eq (K : PySem.W.Frag) : R2 := fun x y H Q => rEq x y H Q ∨ rEqD K x y H Q
def r2Ne (K : PySem.W.Frag) : R2 := fun x y H Q => rNe x y H Q ∨ rNeD K x y H Q
theorem op_eqA {X : Cx} (hu : X.A.units + 64 < cLine) : OpR X (compareOp .Eq) (r2Eq X.K) := op_eq.or (op_eqD hu)
theorem op_neA {X : Cx} (hu : X.A.units + 64 < cLine) : OpR X (compareOp .NotEq) (r2Ne X.K) := op_ne.or (op_neD hu)
theorem dEqB_cases {d1 d2 : D} {k : Bool} (h : dEqB d1 d2 = some k) : (∃ x y, d1 = .str x ∧ d2 = .str y ∧ k = decide (x = y)) ∨ (shD d1 = true ∧ shD d2 = true ∧ k = PyData.eqv (toPy d1) (toPy d2)) := by
  unfold dEqB at h
  split at h
  · exact .inl ⟨_, _, rfl, rfl, (Option.some.inj h).symm⟩
  · obtain ⟨⟨h1, h2⟩, rfl⟩ := ite_some h
    exact .inr ⟨h1, h2, rfl⟩
theorem s_eq : OpS K dEq (r2Eq K) := fun F H x y d1 d2 z Q ex r1 r2 hz hq => by
  obtain ⟨k, hk, rfl⟩ := Option.map_eq_some_iff.mp hz
  rcases dEqB_cases hk with ⟨a, c, rfl, rfl, rfl⟩ | ⟨h1, h2, rfl⟩
  · cases r1.str; cases r2.str
    refine .inl ⟨rfl, ?_⟩
    have e : decide (V.str a = V.str c) = decide (a = c) := by rw [decide_eq_decide]; exact ⟨fun z => V.str.inj z, fun z => by rw [z]⟩
    rw [e]
    exact hq _ F H (Al.refl ex) (.bl _)
  · exact .inr ⟨_, _, r1.dp ex h1, r2.dp ex h2, h1, h2, hq _ F H (Al.refl ex) (.bl _)⟩
theorem s_ne : OpS K dNe (r2Ne K) := fun F H x y d1 d2 z Q ex r1 r2 hz hq => by
  obtain ⟨k, hk, rfl⟩ := Option.map_eq_some_iff.mp hz
  rcases dEqB_cases hk with ⟨a, c, rfl, rfl, rfl⟩ | ⟨h1, h2, rfl⟩
  · cases r1.str; cases r2.str
    refine .inl ⟨rfl, ?_⟩
    have e : decide (V.str a = V.str c) = decide (a = c) := by rw [decide_eq_decide]; exact ⟨fun z => V.str.inj z, fun z => by rw [z]⟩
    rw [e]
    exact hq _ F H (Al.refl ex) (.bl _)
  · exact .inr ⟨_, _, r1.dp ex h1, r2.dp ex h2, h1, h2, hq _ F H (Al.refl ex) (.bl _)⟩
def r2Is : R2 := fun x y H Q => (y = .non ∧ Q (.bl (decide (x = .non))) H) ∨ rIsB x y H Q
def r2IsNot : R2 := fun x y H Q => (y = .non ∧ Q (.bl (!decide (x = .non))) H) ∨ rNotB x y H Q
theorem op_isA {X : Cx} : OpR X (compareOp .Is) r2Is := op_isN.or op_isBl
theorem op_isNotA {X : Cx} : OpR X (compareOp .IsNot) r2IsNot := op_notN.or op_notBl
theorem VRep.isNon {v : V} {d : D} (r : VRep K F H v d) : decide (v = .non) = isNonD d := by
  cases r with
  | rep r => cases r <;> simp [isNonD]
  | own hp o => cases o <;> simp [isNonD]
theorem s_is : OpS K dIs r2Is := fun F H x y d1 d2 z Q ex r1 r2 hz hq => by
  cases d2 with
  | non =>
    cases r2.non
    cases hz
    refine .inl ⟨rfl, ?_⟩
    rw [r1.isNon]
    exact hq _ F H (Al.refl ex) (.bl _)
  | bl c =>
    cases d1 with
    | bl a =>
      cases r1.bl; cases r2.bl
      cases hz
      refine .inr ⟨a, c, rfl, rfl, ?_⟩
      have e : decide (a = c) = (a == c) := by cases a <;> cases c <;> rfl
      rw [e]
      exact hq _ F H (Al.refl ex) (.bl _)
    | _ => cases hz
  | _ => cases d1 <;> cases hz
theorem s_isNot : OpS K dIsNot r2IsNot := fun F H x y d1 d2 z Q ex r1 r2 hz hq => by
  cases d2 with
  | non =>
    cases r2.non
    cases hz
    refine .inl ⟨rfl, ?_⟩
    rw [r1.isNon]
    exact hq _ F H (Al.refl ex) (.bl _)
  | bl c =>
    cases d1 with
    | bl a =>
      cases r1.bl; cases r2.bl
      cases hz
      refine .inr ⟨a, c, rfl, rfl, ?_⟩
      have e : decide (a = c) = (a == c) := by cases a <;> cases c <;> rfl
      rw [e]
      exact hq _ F H (Al.refl ex) (.bl _)
    | _ => cases hz
  | _ => cases d1 <;> cases hz

/-! ### items -/
theorem atI_reps {vs : List V} {ds : List D} {i : Int} {z : D} (r : Reps K F vs ds) (h : atI ds i = some z) : ∃ v, atI vs i = some v ∧ Rep K F v z := by
  unfold atI at h ⊢
  rw [r.len]
  cases e : ixN ds.length i with
  | none => rw [e] at h; cases h
  | some j =>
    rw [e] at h
    exact r.get h
theorem atI_map {α β : Type} (f : α → β) (xs : List α) (i : Int) : atI (xs.map f) i = (atI xs i).map f := by
  unfold atI
  rw [List.length_map]
  cases ixN xs.length i with
  | none => rfl
  | some j => exact List.getElem?_map ..
theorem s_ix : OpS K dIx (rIx K) := fun F H x y d1 d2 z Q ex r1 r2 hz hq => by
  cases d1 with
  | lst xs =>
    cases d2 with
    | int i =>
      obtain ⟨p, vs, rfl, hp, rv⟩ := r1.lst ex
      cases r2.int
      obtain ⟨v, h1, h2⟩ := atI_reps rv (show atI xs i = some z from hz)
      exact .inl ⟨p, vs, i, v, rfl, rfl, .inl (.inl hp), h1, hq v F H (Al.refl ex) h2⟩
    | _ => cases hz
  | tup xs =>
    cases d2 with
    | int i =>
      obtain ⟨p, vs, rfl, hp, rv⟩ := r1.tup ex
      cases r2.int
      obtain ⟨v, h1, h2⟩ := atI_reps rv (show atI xs i = some z from hz)
      exact .inr (.inl ⟨p, vs, i, v, rfl, rfl, hp, h1, hq v F H (Al.refl ex) h2⟩)
    | _ => cases hz
  | scr xs =>
    cases d2 with
    | int i =>
      obtain ⟨p, rfl, hp⟩ := r1.scr ex
      cases r2.int
      obtain ⟨n, h1, rfl⟩ := Option.map_eq_some_iff.mp (show (atI xs i).map D.int = some z from hz)
      exact .inl ⟨p, _, i, .int n, rfl, rfl, hp, by rw [atI_map, h1]; rfl, hq _ F H (Al.refl ex) (.int n)⟩
    | _ => cases hz
  | str x =>
    cases d2 with
    | int i =>
      cases r1.str; cases r2.int
      have h' : (if x.length ≤ LINE then (atI x.cps.toList i).map fun c => D.str ⟨#[c]⟩ else none) = some z := hz
      by_cases hl : x.length ≤ LINE
      · rw [if_pos hl] at h'
        obtain ⟨c, h1, rfl⟩ := Option.map_eq_some_iff.mp h'
        exact .inr (.inr ⟨x, i, c, rfl, rfl, LINE_le hl, h1, hq _ F H (Al.refl ex) (.str _)⟩)
      · rw [if_neg hl] at h'; cases h'
    | _ => cases hz
  | _ => cases hz
end
end DL

/-! DR4: built-in functions, isinstance, methods of built-in classes. -/
namespace DL
open PySem PySem.Spec PyProof.Rows L2
section
variable {K : PySem.W.Frag} {F H : Hp}
theorem VReps.one {xs : List V} {d : D} (r : VReps K F H xs [d]) : ∃ x, xs = [x] ∧ VRep K F H x d := by
  cases r with
  | cons h t => cases t; exact ⟨_, rfl, h⟩
theorem VReps.two {xs : List V} {d e : D} (r : VReps K F H xs [d, e]) : ∃ x y, xs = [x, y] ∧ VRep K F H x d ∧ VRep K F H y e := by
  cases r with
  | cons h t =>
    obtain ⟨y, rfl, h2⟩ := t.one
    exact ⟨_, y, rfl, h, h2⟩
theorem bools_see : ∀ {vs : List V} {ds : List D} {bs : List Bool}, Reps K F vs ds → boolsOf ds = some bs → vs = bs.map V.bl
  | _, _, _, .nil, h => by cases h; rfl
  | _, _, _, .cons (d := d) h r, e => by
    cases h with
    | bl b =>
      obtain ⟨cs, h1, rfl⟩ := Option.map_eq_some_iff.mp (show (boolsOf _).map (b :: ·) = some _ from e)
      rw [bools_see r h1]; rfl
    | _ => cases e
theorem ints_see : ∀ {vs : List V} {ds : List D} {bs : List Int}, Reps K F vs ds → intsOf ds = some bs → vs = bs.map V.int
  | _, _, _, .nil, h => by cases h; rfl
  | _, _, _, .cons (d := d) h r, e => by
    cases h with
    | int b =>
      obtain ⟨cs, h1, rfl⟩ := Option.map_eq_some_iff.mp (show (intsOf _).map (b :: ·) = some _ from e)
      rw [ints_see r h1]; rfl
    | _ => cases e
theorem strs_see : ∀ {vs : List V} {ds : List D} {bs : List Str}, Reps K F vs ds → strsOf ds = some bs → vs = bs.map V.str
  | _, _, _, .nil, h => by cases h; rfl
  | _, _, _, .cons (d := d) h r, e => by
    cases h with
    | str b =>
      obtain ⟨cs, h1, rfl⟩ := Option.map_eq_some_iff.mp (show (strsOf _).map (b :: ·) = some _ from e)
      rw [strs_see r h1]; rfl
    | _ => cases e
theorem Reps.strs : ∀ {ns : List Str}, Reps K F (ns.map V.str) (ns.map D.str)
  | [] => .nil
  | n :: ns => .cons (.str n) Reps.strs
/-! ### len -/
def rLenA (K : PySem.W.Frag) : List V → Hp → VK → Prop := fun xs H Q => (∃ x n, xs = [x] ∧ LenV K x H n ∧ Q (.int n) H) ∨ (∃ a kvs, xs = [V.ref a] ∧ H a = some (.dK kvs) ∧ Q (.int kvs.length) H)
theorem call_lenA {X : Cx} : CallR X (.builtin "len") (rLenA X.K) := call_len.or call_lenD
theorem s_len : FnS K fLen (rLenA K) := fun F H xs ds z Q ex r hz hq => by
  unfold fLen at hz
  split at hz
  · rename_i d
    obtain ⟨x, rfl, rx⟩ := r.one
    cases d with
    | lst ys =>
      obtain ⟨p, vs, rfl, hp, rv⟩ := rx.lst ex
      cases hz
      refine .inl ⟨_, vs.length, rfl, .inl ⟨vs, .inl (.inl hp), rfl⟩, ?_⟩
      rw [rv.len]; exact hq _ F H (Al.refl ex) (.int _)
    | tup ys =>
      obtain ⟨p, vs, rfl, hp, rv⟩ := rx.tup ex
      cases hz
      refine .inl ⟨_, vs.length, rfl, .inr ⟨vs, hp, rfl⟩, ?_⟩
      rw [rv.len]; exact hq _ F H (Al.refl ex) (.int _)
    | scr ys =>
      obtain ⟨p, rfl, hp⟩ := rx.scr ex
      cases hz
      refine .inl ⟨_, _, rfl, .inl ⟨_, hp, rfl⟩, ?_⟩
      rw [List.length_map]; exact hq _ F H (Al.refl ex) (.int _)
    | str y =>
      cases rx.str
      obtain ⟨hl, rfl⟩ := ite_some (show (if y.length ≤ LINE then some (D.int (y.length : Int)) else none) = some z from hz)
      exact .inl ⟨_, _, rfl, ⟨LINE_le hl, rfl⟩, hq _ F H (Al.refl ex) (.int _)⟩
    | dct ys =>
      obtain ⟨p, vs, rfl, hp, rv⟩ := rx.dct ex
      cases hz
      refine .inr ⟨p, vs, rfl, hp, ?_⟩
      rw [rv.len]; exact hq _ F H (Al.refl ex) (.int _)
    | _ => cases hz
  · cases hz
theorem s_all : FnS K fAll (rAll K) := fun F H xs ds z Q ex r hz hq => by
  unfold fAll at hz
  split at hz
  · obtain ⟨x, rfl, rx⟩ := r.one
    obtain ⟨bs, h1, rfl⟩ := Option.map_eq_some_iff.mp hz
    obtain ⟨p, vs, rfl, hp, rv⟩ := rx.lst ex
    cases bools_see rv h1
    exact ⟨p, bs, rfl, .inl (.inl hp), hq _ F H (Al.refl ex) (.bl _)⟩
  · cases hz
theorem s_any : FnS K fAny (rAny K) := fun F H xs ds z Q ex r hz hq => by
  unfold fAny at hz
  split at hz
  · obtain ⟨x, rfl, rx⟩ := r.one
    obtain ⟨bs, h1, rfl⟩ := Option.map_eq_some_iff.mp hz
    obtain ⟨p, vs, rfl, hp, rv⟩ := rx.lst ex
    cases bools_see rv h1
    exact ⟨p, bs, rfl, .inl (.inl hp), hq _ F H (Al.refl ex) (.bl _)⟩
  · cases hz
theorem s_sum : FnS K fSum (rSum K) := fun F H xs ds z Q ex r hz hq => by
  unfold fSum at hz
  split at hz
  · obtain ⟨x, rfl, rx⟩ := r.one
    obtain ⟨bs, h1, rfl⟩ := Option.map_eq_some_iff.mp hz
    obtain ⟨p, vs, rfl, hp, rv⟩ := rx.lst ex
    cases ints_see rv h1
    exact ⟨p, bs, rfl, .inl (.inl hp), hq _ F H (Al.refl ex) (.int _)⟩
  · cases hz
theorem s_abs : FnS K fAbs (fun xs H Q => ∃ i, xs = [.int i] ∧ Q (.int (if i < 0 then -i else i)) H) := fun F H xs ds z Q ex r hz hq => by
  unfold fAbs at hz
  split at hz
  · obtain ⟨x, rfl, rx⟩ := r.one
    cases rx.int; cases hz
    exact ⟨_, rfl, hq _ F H (Al.refl ex) (.int _)⟩
  · cases hz
theorem s_max : FnS K fMax (fun xs H Q => ∃ i j, xs = [.int i, .int j] ∧ Q (.int (if j > i then j else i)) H) := fun F H xs ds z Q ex r hz hq => by
  unfold fMax at hz
  split at hz
  · obtain ⟨x, y, rfl, rx, ry⟩ := r.two
    cases rx.int; cases ry.int; cases hz
    exact ⟨_, _, rfl, hq _ F H (Al.refl ex) (.int _)⟩
  · cases hz
theorem s_min : FnS K fMin (fun xs H Q => ∃ i j, xs = [.int i, .int j] ∧ Q (.int (if j < i then j else i)) H) := fun F H xs ds z Q ex r hz hq => by
  unfold fMin at hz
  split at hz
  · obtain ⟨x, y, rfl, rx, ry⟩ := r.two
    cases rx.int; cases ry.int; cases hz
    exact ⟨_, _, rfl, hq _ F H (Al.refl ex) (.int _)⟩
  · cases hz
def rIntA : List V → Hp → VK → Prop := fun xs H Q => ((∃ i, xs = [.int i] ∧ Q (.int i) H) ∨ ∃ k, xs = [.bl k] ∧ Q (.int (if k then 1 else 0)) H) ∨ (∃ a n, xs = [.str a] ∧ PySem.intText? a = some n ∧ a.length ≤ 640 ∧ Q (.int n) H)
theorem call_intA {X : Cx} : CallR X (.type "int") rIntA := call_int1.or call_int_str
theorem s_int : FnS K fInt rIntA := fun F H xs ds z Q ex r hz hq => by
  unfold fInt at hz
  split at hz
  · obtain ⟨x, rfl, rx⟩ := r.one
    cases rx.int; cases hz
    exact .inl (.inl ⟨_, rfl, hq _ F H (Al.refl ex) (.int _)⟩)
  · obtain ⟨x, rfl, rx⟩ := r.one
    cases rx.bl; cases hz
    exact .inl (.inr ⟨_, rfl, hq _ F H (Al.refl ex) (.int _)⟩)
  · rename_i a
    obtain ⟨x, rfl, rx⟩ := r.one
    cases rx.str
    by_cases hl : a.length ≤ 640
    · rw [if_pos hl] at hz
      obtain ⟨n, h1, rfl⟩ := Option.map_eq_some_iff.mp hz
      exact .inr ⟨a, n, rfl, h1, hl, hq _ F H (Al.refl ex) (.int _)⟩
    · rw [if_neg hl] at hz; cases hz
  · cases hz
def rStrA : List V → Hp → VK → Prop := fun xs H Q => (∃ i, xs = [.int i] ∧ i.natAbs.log2 < 1920 ∧ Q (.str (toString i)) H) ∨ ∃ a, xs = [.str a] ∧ Q (.str a) H
theorem s_str : FnS K fStr rStrA := fun F H xs ds z Q ex r hz hq => by
  unfold fStr at hz
  split at hz
  · obtain ⟨x, rfl, rx⟩ := r.one
    cases rx.int
    obtain ⟨hl, rfl⟩ := ite_some hz
    exact .inl ⟨_, rfl, hl, hq _ F H (Al.refl ex) (.str _)⟩
  · obtain ⟨x, rfl, rx⟩ := r.one
    cases rx.str; cases hz
    exact .inr ⟨_, rfl, hq _ F H (Al.refl ex) (.str _)⟩
  · cases hz
theorem n_list : FnN K fList (fun xs H Q => ∃ p ys, xs = [.ref p] ∧ (SqL K H p ys ∨ SqT K H p ys) ∧ ∀ l, H l = none → Q (.ref l) (L2.upd H l (.lst ys))) := fun F H xs ds z Q ex r hz hq => by
  unfold fList at hz
  split at hz
  · obtain ⟨x, rfl, rx⟩ := r.one
    obtain ⟨p, vs, rfl, hp, rv⟩ := rx.lst ex
    cases hz
    exact ⟨p, vs, rfl, .inl (.inl (.inl hp)), fun l nl => hq l _ nl (.lst rv)⟩
  · obtain ⟨x, rfl, rx⟩ := r.one
    obtain ⟨p, vs, rfl, hp, rv⟩ := rx.tup ex
    cases hz
    exact ⟨p, vs, rfl, .inr hp, fun l nl => hq l _ nl (.lst rv)⟩
  · obtain ⟨x, rfl, rx⟩ := r.one
    obtain ⟨p, rfl, hp⟩ := rx.scr ex
    cases hz
    exact ⟨p, _, rfl, .inl hp, fun l nl => hq l _ nl (.lst Reps.ints)⟩
  · cases hz
theorem s_tup : FnS K fTup (fun xs H Q => ∃ p ys, xs = [.ref p] ∧ ((SqL K H p ys ∧ ∀ l, H l = none → Q (.ref l) (L2.upd H l (.tup ys))) ∨ (SqT K H p ys ∧ Q (.ref p) H))) := fun F H xs ds z Q ex r hz hq => by
  unfold fTup at hz
  split at hz
  · obtain ⟨x, rfl, rx⟩ := r.one
    obtain ⟨p, vs, rfl, hp, rv⟩ := rx.lst ex
    cases hz
    refine ⟨p, vs, rfl, .inl ⟨.inl (.inl hp), fun l nl => ?_⟩⟩
    have al := Al.new (o := .tup vs) ex nl
    exact hq _ _ _ al (.tup upd_same (rv.mono al.f))
  · obtain ⟨x, rfl, rx⟩ := r.one
    cases hz
    cases rx with
    | rep rr =>
      cases rr with
      | tup h rv => exact ⟨_, _, rfl, .inr ⟨.inl (.inl (ex _ _ h)), hq _ F H (Al.refl ex) (.tup h rv)⟩⟩
    | own h o => cases o
  · cases hz

/-! ### isinstance -/
theorem tyx_see (ex : Ex F H) {v : V} {d : D} {T : Ty5} {b : Bool} (r : VRep K F H v d) (h : dIsI d T = some b) : ∃ t : String, TyX K H v (.type t) ∧ kitB t T.nm = some b := by
  cases d with
  | non => cases r.non; exact ⟨"NoneType", .base .non, by cases T <;> cases h <;> decide +kernel⟩
  | bl k => cases r.bl; exact ⟨"bool", .base (.bl k), by cases T <;> cases h <;> decide +kernel⟩
  | int i => cases r.int; exact ⟨"int", .base (.int i), by cases T <;> cases h <;> decide +kernel⟩
  | str i => cases r.str; exact ⟨"str", .base (.str i), by cases T <;> cases h <;> decide +kernel⟩
  | lst xs =>
    obtain ⟨p, vs, rfl, hp, rv⟩ := r.lst ex
    exact ⟨"list", .base (.lst hp), by cases T <;> cases h <;> decide +kernel⟩
  | tup xs =>
    obtain ⟨p, vs, rfl, hp, rv⟩ := r.tup ex
    refine ⟨"tuple", ?_, by cases T <;> cases h <;> decide +kernel⟩
    rcases hp with (hp | ⟨o, hp⟩) | ⟨o, its, n, h1, h2, _⟩
    · exact .base (.tup hp)
    · exact .fTuple hp
    · exact .kTuple h1 h2
  | scr xs =>
    obtain ⟨p, rfl, hp⟩ := r.scr ex
    refine ⟨"list", ?_, by cases T <;> cases h <;> decide +kernel⟩
    rcases hp with (hp | ⟨o, hp⟩) | ⟨o, its, n, h1, h2, _⟩
    · exact .base (.lst hp)
    · exact .base (.frz hp)
    · exact .kList h1 h2
  | dct xs =>
    obtain ⟨p, vs, rfl, hp, rv⟩ := r.dct ex
    exact ⟨"dict", .base (.dK hp), by cases T <;> cases h <;> decide +kernel⟩
  | _ => cases T <;> cases h
theorem tyx_fun {v : V} (ex : Ex F H) {d : D} (r : VRep K F H v d) : (∃ t : String, TyX K H v (.type t) ∧ ∀ (T : Ty5) (b : Bool), dIsI d T = some b → kitB t T.nm = some b) ∨ ∀ T : Ty5, dIsI d T = none := by
  cases d with
  | non => exact .inl ⟨"NoneType", by cases r.non; exact .base .non, fun T b h => by cases T <;> cases h <;> decide +kernel⟩
  | bl k => exact .inl ⟨"bool", by cases r.bl; exact .base (.bl k), fun T b h => by cases T <;> cases h <;> decide +kernel⟩
  | int i => exact .inl ⟨"int", by cases r.int; exact .base (.int i), fun T b h => by cases T <;> cases h <;> decide +kernel⟩
  | str i => exact .inl ⟨"str", by cases r.str; exact .base (.str i), fun T b h => by cases T <;> cases h <;> decide +kernel⟩
  | lst xs =>
    obtain ⟨p, vs, rfl, hp, rv⟩ := r.lst ex
    exact .inl ⟨"list", .base (.lst hp), fun T b h => by cases T <;> cases h <;> decide +kernel⟩
  | tup xs =>
    obtain ⟨p, vs, rfl, hp, rv⟩ := r.tup ex
    refine .inl ⟨"tuple", ?_, fun T b h => by cases T <;> cases h <;> decide +kernel⟩
    rcases hp with (hp | ⟨o, hp⟩) | ⟨o, its, n, h1, h2, _⟩
    · exact .base (.tup hp)
    · exact .fTuple hp
    · exact .kTuple h1 h2
  | scr xs =>
    obtain ⟨p, rfl, hp⟩ := r.scr ex
    refine .inl ⟨"list", ?_, fun T b h => by cases T <;> cases h <;> decide +kernel⟩
    rcases hp with (hp | ⟨o, hp⟩) | ⟨o, its, n, h1, h2, _⟩
    · exact .base (.lst hp)
    · exact .base (.frz hp)
    · exact .kList h1 h2
  | dct xs =>
    obtain ⟨p, vs, rfl, hp, rv⟩ := r.dct ex
    exact .inl ⟨"dict", .base (.dK hp), fun T b h => by cases T <;> cases h <;> decide +kernel⟩
  | _ => exact .inr fun T => by cases T <;> rfl
theorem kitAny_see {t : String} {d : D} (ht : ∀ (T : Ty5) (b : Bool), dIsI d T = some b → kitB t T.nm = some b) : ∀ {Ts : List Ty5} {k : Bool}, dIsAny d Ts = some k → PySem.W.kitAny K (.type t) (Ts.map fun T => Value.type T.nm) = some k
  | [], k, h => by cases h; exact kitAny_nil
  | T :: Ts, k, h => by
    obtain ⟨b, h1, h2⟩ := Option.bind_eq_some_iff.mp (show (dIsI d T).bind (fun b => if b = true then some true else dIsAny d Ts) = some k from h)
    cases b with
    | true => cases h2; exact kitAny_cons (kit_ty (ht T true h1)) (fun z => nomatch z) fun _ => rfl
    | false => exact kitAny_cons (kit_ty (ht T false h1)) (fun _ => kitAny_see ht h2) fun z => nomatch z
end
section
variable {X : Cx} {b : Bool} {O : List Nat} {E : XK} {e a c : Expr} {es : List Expr} {w wa wb wc : WE} {pos : Pos}
theorem boot_isi : bootBuiltins "isinstance" = some (.builtin "isinstance") := by decide +kernel
theorem clsv (T : Ty5) : ClsV (.ty T.nm) (.type T.nm) := by cases T <;> constructor
theorem clsvs : ∀ Ts : List Ty5, Paired ClsV (Ts.map fun T => V.ty T.nm) (Ts.map fun T => Value.type T.nm)
  | [] => .nil
  | T :: Ts => .cons (clsv T) (clsvs Ts)
theorem de_isi {T : Ty5} {p q : Pos} {x : Str} (hg : Gl X "isinstance") (hm : X.mg "isinstance" = none) (ha : DB X b O E a w) (ht : PE X (.Name x q) (tC (.ty T.nm)))
    (he : starEach [a, .Name x q] X.env = (false, eval a X.env) :: starEach [.Name x q] X.env := by rfl) (he2 : starEach [.Name x q] X.env = (false, eval (.Name x q) X.env) :: starEach [] X.env := by rfl) (hpl : (backTo pos (starEach [.Name x q] X.env)).any (·.1) = false := by rfl) :
    DE X b O E (.Call (.Name "isinstance" p) [a, .Name x q] [] pos) (eIsI [T] w) :=
  pe_to (pe_callB call_isi hg hm boot_isi (pa_cons ha (pa_cons ht pa_nil he2) he) (he := he) (hpl := hpl)) fun σ H Q ⟨Z, Δ, S, F, P, R, k, hw, hx, hq⟩ => ⟨Z, Δ, S, F, _, R, k, hw, hx, fun v d S1 F1 H1 k1 e1 p1 r1 ⟨q, hd, h⟩ => by
    obtain ⟨b', h1, h2⟩ := Option.bind_eq_some_iff.mp (show (dIsI d T).bind (fun b => if b = true then some true else some false) = some q from hd)
    obtain ⟨t, ty, hk⟩ := tyx_see k1.fH (r1.see k1) h1
    have e2 : b' = q := by cases b' <;> (cases h2; rfl)
    subst e2
    exact ⟨v, .ty T.nm, .type t, .type T.nm, b', rfl, clsv T, ty, kit_ty hk, hq _ _ S1 F1 H1 k1 e1 p1 (.bl _) h⟩⟩
theorem de_isiT {Ts : List Ty5} {p q : Pos} {k0 : Nat} {ts : List Expr} (hg : Gl X "isinstance") (hm : X.mg "isinstance" = none) (ha : DB X b O E a w) (ht : PA X ts (fun _ H Q => Q (Ts.map fun T => V.ty T.nm) H)) (hl : Ts.length ≤ 10) (hne : Ts ≠ [])
    (he : starEach [a, .Tuple ts k0 q] X.env = (false, eval a X.env) :: starEach [.Tuple ts k0 q] X.env := by rfl) (he2 : starEach [.Tuple ts k0 q] X.env = (false, eval (.Tuple ts k0 q) X.env) :: starEach [] X.env := by rfl) (hpl : (backTo pos (starEach [.Tuple ts k0 q] X.env)).any (·.1) = false := by rfl) :
    DE X b O E (.Call (.Name "isinstance" p) [a, .Tuple ts k0 q] [] pos) (eIsI Ts w) :=
  pe_to (pe_callB call_isiT hg hm boot_isi (pa_cons ha (pa_cons (pe_tup ht) pa_nil he2) he) (he := he) (hpl := hpl)) fun σ H Q ⟨Z, Δ, S, F, P, R, k, hw, hx, hq⟩ => ⟨Z, Δ, S, F, _, R, k, hw, hx, fun v d S1 F1 H1 k1 e1 p1 r1 ⟨q, hd, h⟩ => ⟨by
      rw [List.length_map]; exact LINE_le (Nat.le_trans hl (by decide)), fun tp ntp => by
    have al := Al.new (o := .tup (Ts.map fun T => V.ty T.nm)) k1.fH ntp
    have k2 := k1.al al
    rcases tyx_fun k2.fH ((r1.mono al.f).see k2) with ⟨t, ty, hk⟩ | no
    · exact ⟨v, tp, _, .type t, _, q, rfl, upd_same, clsvs Ts, ty, kitAny_see hk hd, hq _ _ S1 _ _ k2 (e1.trans al.f) (pureA p1 al) (.bl _) h⟩
    · cases Ts with
      | nil => exact absurd rfl hne
      | cons T Ts =>
        have z : (dIsI d T).bind (fun b => if b = true then some true else dIsAny d Ts) = some q := hd
        rw [no T] at z; cases z⟩⟩

/-! ### methods of built-in classes -/
/-- a method's rule serves f; ok tells the class's trees -/
def MtS (K : PySem.W.Frag) (f : D → List D → Option D) (r : V → List V → Hp → VK → Prop) : Prop := ∀ (F H : Hp) (x : V) (xs : List V) (d : D) (ds : List D) (z : D) (Q : VK), Ex F H → VRep K F H x d → VReps K F H xs ds → f d ds = some z →
  (∀ v F' H', Al F H F' H' → Rep K F' v z → Q v H') → r x xs H Q
def TyS (K : PySem.W.Frag) (T : String) (ok : D → Bool) : Prop := ∀ (F H : Hp) (x : V) (d : D), Ex F H → VRep K F H x d → ok d = true → tyV K T x H
theorem ty_str {K : PySem.W.Frag} : TyS K "str" isStr := fun F H x d ex r h => by
  cases d with
  | str y => cases r.str; exact rfl
  | _ => cases h
theorem ty_lst {K : PySem.W.Frag} : TyS K "list" isLst := fun F H x d ex r h => by
  cases d with
  | lst y => obtain ⟨p, vs, rfl, hp, _⟩ := r.lst ex; exact .inl ⟨rfl, _, .inl (.inl hp)⟩
  | _ => cases h
theorem de_mt {T id : String} {name : Str} {f : D → List D → Option D} {ok : D → Bool} {r : V → List V → Hp → VK → Prop} {wo : WE} {wA : WA} {o : Expr} {apos : Pos} (pa : PlainAttrs T) (slot : Slot T name id) (hty : typeOf (.builtin id) = pure (.type "method_descriptor"))
    (hm : MtR X id r) (hr : MtS X.K f r) (ht : TyS X.K T ok) (ho : DB X b O E o wo) (ha : DAB X b O E (e :: es) wA) (hp : ∀ {t}, PA X (e :: es) t → ∀ {to}, PE X o to → PE X (.Call (.Attribute o name apos) (e :: es) [] pos) (tBM X.K T r to t)) :
    DE X b O E (.Call (.Attribute o name apos) (e :: es) [] pos) (eMt ok f wo wA) :=
  pe_to (hp ha ho) fun σ H Q ⟨Z, Δ, S, F, P, R, k, hw, hx, hq⟩ => ⟨Z, Δ, S, F, _, R, k, hw, hx, fun v d S1 F1 H1 k1 e1 p1 r1 ⟨h1, h2⟩ => ⟨ht F1 H1 v d k1.fH (r1.see k1) h1, Z, Δ, S1, F1, _, R, k1, h2, hx.mono e1, fun vs ds S2 F2 H2 k2 e2 p2 r2 ⟨z, hz, hp⟩ =>
    hr F2 H2 v vs d ds z Q k2.fH ((r1.mono e2).see k2) (r2.see k2) hz fun v' F3 H3 al r3 => hq v' z S2 F3 H3 (k2.al al) ((e1.trans e2).trans al.f) (pureA (pure2 p1 p2) al) r3 hp⟩⟩
theorem s_join {K : PySem.W.Frag} : MtS K mJoin (fun x xs H Q => ∃ a p, ∃ ys : List Str, x = .str a ∧ xs = [.ref p] ∧ (SqL K H p (ys.map V.str) ∨ SqT K H p (ys.map V.str)) ∧ (ys.map (·.length)).sum + ys.length * a.length ≤ 16777216 ∧ Q (.str (Txt.join a ys)) H) := fun F H x xs d ds z Q ex r rs hz hq => by
  unfold mJoin at hz
  split at hz
  · cases r.str
    obtain ⟨y, rfl, ry⟩ := rs.one
    obtain ⟨ys, h1, h2⟩ := Option.bind_eq_some_iff.mp hz
    obtain ⟨p, vs, rfl, hp, rv⟩ := ry.lst ex
    cases strs_see rv h1
    obtain ⟨hl, rfl⟩ := ite_some h2
    exact ⟨_, p, ys, rfl, rfl, .inl (.inl (.inl hp)), hl, hq _ F H (Al.refl ex) (.str _)⟩
  · cases hz
theorem s_split {K : PySem.W.Frag} : MtS K mSplit (fun x xs H Q => ∃ a b, x = .str a ∧ xs = [.str b] ∧ (b.length == 0) = false ∧ a.length + 2 ≤ sizeLine ∧ rNewStrs (Txt.split a b) H Q) := fun F H x xs d ds z Q ex r rs hz hq => by
  unfold mSplit at hz
  split at hz
  · rename_i A B
    cases r.str
    obtain ⟨y, rfl, ry⟩ := rs.one
    cases ry.str
    obtain ⟨⟨h1, h2⟩, rfl⟩ := ite_some hz
    refine ⟨_, _, rfl, rfl, h1, LINE_le h2, fun p np => ?_⟩
    have al := Al.new (o := .lst ((Txt.split A B).map V.str)) ex np
    exact hq _ _ _ al (.lst upd_same Reps.strs)
  · cases hz
theorem s_count {K : PySem.W.Frag} : MtS K mCount (rCntI K) := fun F H x xs d ds z Q ex r rs hz hq => by
  unfold mCount at hz
  split at hz
  · obtain ⟨y, rfl, ry⟩ := rs.one
    cases ry.int
    obtain ⟨ns, h1, rfl⟩ := Option.map_eq_some_iff.mp hz
    obtain ⟨p, vs, rfl, hp, rv⟩ := r.lst ex
    cases ints_see rv h1
    exact ⟨p, ns, _, rfl, rfl, .inl (.inl hp), hq _ F H (Al.refl ex) (.int _)⟩
  · cases hz

/-! ### len(set(x)) -/
theorem firstMet_dedup (ns : List Int) : PyProof.Rows.firstMet (fun i => ns.getD i 0) ns.length = dedup ns := by
  unfold PyProof.Rows.firstMet dedup
  have e : (List.range ns.length).map (fun i => ns.getD i 0) = ns := by
    apply List.ext_getElem
    · simp
    · intro i h1 h2
      simp at h1
      simp [h1]
  rw [e]
  rfl
def tLenSet (K : PySem.W.Frag) (ta : TE) : TE := fun σ H Q => ta σ H fun x H1 => ∃ (l : Addr) (ns : List Int), x = .ref l ∧ SqL K H1 l (ns.map V.int) ∧ ns.length + 1 < 4096 ∧ Q (.int ((dedup ns).length : Nat)) H1
theorem pe_lenSet {ta : TE} {p p2 q : Pos} (hg : Gl X "len") (hm : X.mg "len" = none) (hg2 : Gl X "set") (hm2 : X.mg "set" = none) (hc : X.calm = true) (ha : PE X a ta) (na : starEach [a] X.env = (false, eval a X.env) :: starEach [] X.env := by rfl) :
    PE X (.Call (.Name "len" p) [.Call (.Name "set" p2) [a] [] q] [] pos) (tLenSet X.K ta) := by
  refine ⟨fun pins s σ H Q I h => Call_ (ld_blt I hg hm boot_len (callWith_builtin1 (args_cons ?_ rfl) rfl rfl))⟩
  refine Call_ (ld_blt I hg2 hm2 boot_set (callWith_type1 (args_cons (thn (ha.run pins s σ H _ I h) fun v s1 hh => args_nil ?_) na) na rfl))
  obtain ⟨x, H1, I1, r1, l, ns, rfl, hq, hl, q1⟩ := hh
  cases r1
  obtain ⟨its, r, pl, hz⟩ := I1.list hq
  have hlen : its.toArray.size = ns.length := by rw [List.size_toArray, ← r.length, List.length_map]
  refine PySem.call_set_list (I1.ok.hd hc) pl.isList (by simpa using RZ.intsAre_vals r) (by rw [hlen]; unfold scanBound; omega) fun h' tk hS hk => PyProof.Rows.args_nil ?_
  rw [hlen, firstMet_dedup ns] at hS
  obtain ⟨o, es, ep, t, ho, hex, hd, _, _, _, hf, hn⟩ := hS
  have I2 : Inv X pins σ H1 { s1 with heap := h', toks := tk } := I1.kept fun b o e => hk b o (Heap.lt_size e) e
  have hle : (dedup ns).length ≤ ns.length := by
    rw [← firstMet_dedup]; exact PyProof.Rows.firstMet_length_le _ _
  exact call_len_set ho hex hd hf (by rw [hn] <;> omega) ⟨.int (dedup ns).length, H1, I2.tok _, ⟨_, by rw [hn]⟩, q1⟩
theorem de_lenSet {p p2 q : Pos} (hg : Gl X "len") (hm : X.mg "len" = none) (hg2 : Gl X "set") (hm2 : X.mg "set" = none) (hc : X.calm = true) (ha : DB X b O E a w) (na : starEach [a] X.env = (false, eval a X.env) :: starEach [] X.env := by rfl) :
    DE X b O E (.Call (.Name "len" p) [.Call (.Name "set" p2) [a] [] q] [] pos) (eUn dLenSet w) :=
  pe_to (pe_lenSet hg hm hg2 hm2 hc ha na) fun σ H Q ⟨Z, Δ, S, F, P, R, k, hw, hx, hq⟩ => ⟨Z, Δ, S, F, _, R, k, hw, hx, fun v d S1 F1 H1 k1 e1 p1 r1 ⟨z, hd, h⟩ => by
    unfold dLenSet at hd
    split at hd
    · obtain ⟨l, vs, rfl, hp, rv⟩ := (r1.see k1).lst k1.fH
      obtain ⟨ns, h1, h2⟩ := Option.bind_eq_some_iff.mp hd
      obtain ⟨hl, rfl⟩ := ite_some h2
      cases ints_see rv h1
      exact ⟨l, ns, rfl, .inl (.inl hp), hl, hq _ _ S1 F1 H1 k1 e1 p1 (.int _) h⟩
    · cases hd⟩
end
end DL

/-! DR5: repr; defs and their calls, where no repr is under way. -/
namespace DL
open PySem PySem.Spec PyProof.Rows L2

/-! ### repr -/
section
variable {X : Cx}
def rRepr (K : PySem.W.Frag) : List V → Hp → VK → Prop := fun xs H Q => ∃ x d, xs = [x] ∧ Dp K H x d ∧ d.showable = true ∧ d.hasDict = false ∧ d.depth ≤ 64 ∧ d.shown.length + 64 ≤ sizeLine ∧ Q (.str d.shown) H
theorem call_reprA (hg : X.A.guards = some []) (hu : X.A.units + 70 < cLine) : CallR X (.builtin "repr") (rRepr X.K) := by
  intro pins s σ H xs us Q I r h
  obtain ⟨x, d, rfl, hd, hs, hn, hp, hz, q⟩ := h
  cases r with
  | cons rx rt =>
    rename_i u ut
    cases rt
    obtain ⟨as, rr⟩ := Dp.reads I d x u hd rx
    cases hd with
    | non => cases rx; exact PySem.P.repr_of_none ⟨.str _, H, I.tok _, ⟨_, rfl⟩, q⟩
    | bl b => cases rx; exact PySem.P.repr_of_bool ⟨.str _, H, I.tok _, ⟨_, rfl⟩, q⟩
    | int i =>
      obtain ⟨t, rfl⟩ := rx
      exact PySem.P.repr_of_int (by simpa [PyData.showable] using hs) ⟨.str _, H, I.tok _, ⟨_, rfl⟩, q⟩
    | str x =>
      obtain ⟨t, rfl⟩ := rx
      exact PySem.P.repr_of_str ⟨.str _, H, I.tok _, ⟨_, rfl⟩, q⟩ (Nat.le_trans (Nat.le_add_right _ 64) hz)
    | lst h1 h2 =>
      cases rx
      exact repr_of_reads' rr hs (PyData.noDict_hsm hn) hg (by omega) (fun _ _ e => e) (fun h' u tk hk => ⟨.str _, H, I.kept hk, ⟨_, rfl⟩, q⟩) (Nat.le_trans (Nat.le_add_right _ 64) hz)
    | tup h1 h2 =>
      cases rx
      exact repr_of_reads' rr hs (PyData.noDict_hsm hn) hg (by omega) (fun _ _ e => e) (fun h' u tk hk => ⟨.str _, H, I.kept hk, ⟨_, rfl⟩, q⟩) (Nat.le_trans (Nat.le_add_right _ 64) hz)
def fRepr : List D → Option D
  | [x] => dRepr x
  | _ => none
theorem s_repr {K : PySem.W.Frag} : FnS K fRepr (rRepr K) := fun F H xs ds z Q ex r hz hq => by
  unfold fRepr at hz
  split at hz
  · rename_i d
    obtain ⟨x, rfl, rx⟩ := r.one
    unfold dRepr at hz
    obtain ⟨⟨h1, h2, h3, h4⟩, rfl⟩ := ite_some hz
    have dp : Dp K H x (toPy d) := by
      cases rx with
      | rep rr => exact rr.dp ex h1
      | own hp o =>
        cases o with
        | lst rr => exact .lst (.inl (.inl hp)) (rr.dp ex (by simpa [toPy, PyData.canLay0] using h1))
        | dct rr => simp [toPy, PyData.canLay0] at h1
        | dcT rr => simp [toPy, PyData.canLay0] at h1
    exact ⟨x, _, rfl, dp, h2, PyData.hasDict_of_canLay _ h1, h3, LINE_le h4, hq _ F H (Al.refl ex) (.str _)⟩
  · cases hz
end

/-! ### a def, called where no repr is under way -/
structure FnG (P : Program) (w : World) (K : PySem.W.Frag) (mg : Str → Option Value) (base : Heap) (CX : CXT) (k : Nat) (f : Addr) (fd : FuncData) (ps : List Str) (sp : Sp) : Prop where
  len : ∀ vs H Q E, sp vs H Q E → vs.length = ps.length
  run : ∀ (A : Around) (outer : List PySem.Env) (s : Shared) (H : Hp) (args : Args) (us : List Value) (vs : List V) (Q : VK) (E : XK), A.guards = some [] → Room k A → Env0 P w K mg base A outer s H →
    BindsTo s fd args (ps.zip us) → Vals vs us → sp vs H Q E → codeAny (model P w) A (.call (.ref f) args) (CR CX outer P w H s Q E) s
theorem FnG.up {P : Program} {w : World} {K : PySem.W.Frag} {mg : Str → Option Value} {base : Heap} {CX : CXT} {j k : Nat} {f : Addr} {fd : FuncData} {ps : List Str} {sp : Sp} (F : FnG P w K mg base CX j f fd ps sp) (h : j ≤ k) : FnG P w K mg base CX k f fd ps sp :=
  ⟨F.len, fun A outer s H args us vs Q E g hr => F.run A outer s H args us vs Q E g (hr.mono h)⟩
theorem FnG.imp {P : Program} {w : World} {K : PySem.W.Frag} {mg : Str → Option Value} {base : Heap} {CX : CXT} {k : Nat} {f : Addr} {fd : FuncData} {ps : List Str} {sp sp' : Sp} (F : FnG P w K mg base CX k f fd ps sp) (h : ∀ vs H Q E, sp' vs H Q E → sp vs H Q E) :
    FnG P w K mg base CX k f fd ps sp' := ⟨fun vs H Q E q => F.len vs H Q E (h _ _ _ _ q), fun A outer s H args us vs Q E g hr e0 hb r q => F.run A outer s H args us vs Q E g hr e0 hb r (h _ _ _ _ q)⟩
section
variable {X : Cx} {CX : CXT} {k : Nat} {f C : Addr} {fd : FuncData} {ps : List Str} {sp : Sp} {dvs : List V} {ds : List Value} {E : XK} {x m : Str} {p pos apos : Pos} {e o : Expr} {es : List Expr} {ta : TE} {t : TA}
theorem run_fnG {pins : List (Addr × Obj)} {σ : L2.St} {H : Hp} {s : Shared} {Q : VK} {us : List Value} {vs : List V} (F : FnG X.prog X.w X.K X.mg X.base CX k f fd ps sp) (hgu : X.A.guards = some []) (hr : Room k X.A) (hb : Binds X.K fd ps ds)
    (hd : Vals dvs ds) (hx : Passes CX X E) (I : L2.Inv X pins σ H s) (r : Vals vs us) (h : sp (vs ++ dvs) H Q E) : wpAny (model X.prog X.w) X.A (PySem.call (.ref f) us) (EP X pins σ Q) X.xe s := by
  have rr : Vals (vs ++ dvs) (us ++ ds) := r.append hd
  have hl : (us ++ ds).length = ps.length := rr.length.symm.trans (F.len _ _ _ _ h)
  refine wpAny_call (codeAny_mono (F.run X.A X.stack s H ⟨us, []⟩ _ _ Q E hgu hr I.env0 (hb s us I.kIn hl) rr h) fun res s' q => ?_)
  rcases res with e | fl
  · exact hx pins σ H s e s' I q
  · cases fl with
    | ret u => exact I.after q
    | next => exact q.elim
    | brk => exact q.elim
    | cont => exact q.elim
theorem pe_callG (F : FnG X.prog X.w X.K X.mg X.base CX k f fd ps sp) (hgu : X.A.guards = some []) (hr : Room k X.A) (hg : Gl X x) (hm : X.mg x = some (.ref f)) (hk : PySem.W.keepIn X.K (.ref f) = true) (hb : Binds X.K fd ps ds) (hd : Vals dvs ds) (hx : Passes CX X E)
    (ha : PA X (e :: es) t) (hdb : (x == ("__debug__" : Str)) = false := by decide) (he : starEach (e :: es) X.env = (false, eval e X.env) :: starEach es X.env := by rfl) (hpl : (backTo pos (starEach es X.env)).any (·.1) = false := by rfl) :
    PE X (.Call (.Name x p) (e :: es) [] pos) (tCall sp dvs E t) :=
  ⟨fun pins s σ H Q I h => wpAny_Call_Name_kw (ld_glob I hg hm (PySem.W.callWith_K (h₀ := X.base) I.ok.mod.kin hk (thn (ha.run pos pins s σ H _ I h) fun us s1 ⟨vs, H1, I1, r, q⟩ => ⟨I1.kIn, run_fnG F hgu hr hb hd hx I1 r q⟩) he hpl) hdb)⟩
end

/-- a def of the text holds its promise, by its body -/
theorem fnG_of {CX : CXT} {P : Program} {w : World} {K : PySem.W.Frag} {mg : Str → Option Value} {base : Heap} {k : Nat} {f : Addr} {name qual : Str} {params : Arguments} {body : List Stmt} {scope : Scope} {dV kV doc pm cdv ct oc : Value} {an od : Option Addr}
    {osl : Array (Option Value)} {N ps : List Str} {sp : Sp} (lk : K.lookup f = some ⟨oc, od, .func (PySem.W.fnOf name qual params body scope dV kV doc pm an cdv ct), osl⟩) (hcd : PySem.W.codeIn K cdv qual = true) (S : FnScope N ps scope)
    (len : ∀ vs H Q E, sp vs H Q E → vs.length = ps.length)
    (hbody : ∀ (A : Around) (outer : List PySem.Env) (s : Shared) (H : Hp) (vs : List V) (Q : VK) (E : XK), A.guards = some [] → Room k (A.deeper (envOfC qual scope s.heap.objs.size f cdv)) → sp vs H Q E →
      ∃ t, PSs (cxOf CX P w K mg base N qual scope f cdv A outer s H E) body t ∧ t { nx := fun _ H' => Q .non H', rt := Q } (start N vs) H) :
    FnG P w K mg base CX (k + 1) f (PySem.W.fnOf name qual params body scope dV kV doc pm an cdv ct) ps sp := by
  refine ⟨len, ?_⟩
  intro A outer s H args us vs Q E hgu hr e0 hb r hsp
  have KX : K.In s.heap := e0.mod.kin.keeps fun b o e => (e0.bs b o e).1
  have lim := e0.mod.nolimit.keeps fun b o e => (e0.bs b o e).1
  have hkind : ∀ y ∈ ps.zip us, scope.names.lookup y.1 = some .local ∨ (scope.names.lookup y.1 = some .cell ∧ ((cellsFrom (s.heap.objs.size + 1) scope.names []).lookup y.1).isSome = true) := by
    rintro ⟨n, v⟩ hy
    exact (S.par n (List.of_mem_zip hy).1).imp (fun q => q) fun q => ⟨q, PySem.W.cellsFrom_some _ _ _ (.inl q)⟩
  refine codeAny_call_function hr.depth (KX _ _ lk) rfl S.co S.gen rfl (PySem.W.codeRec_of KX hcd) (hb _ _ _ _ (wpAny_newFunctionEnv_cells S.kind hkind fun env he s1 x => ?_))
  subst he
  obtain ⟨t, ht, hq⟩ := hbody A outer s H vs Q E hgu (hr.deeper _) hsp
  have I := inv_start (CX := CX) (E := E) S hr.hd e0 (len _ _ _ _ hsp) r x
  refine ⟨lim.keeps x.toInCall.keep, codeAny_func (wpAny_mono (ht.run [] s1 (start N vs) H _ I hq) (fun fl s' hs => ?_) fun e s' hs => hs)⟩
  cases fl with
  | ret u =>
    obtain ⟨v, σ', H', J, rv, q⟩ := hs
    exact ⟨v, H', J.os, J.bare, J.base, J.hok, rv, q⟩
  | next =>
    obtain ⟨σ', H', J, q⟩ := hs
    exact ⟨.non, H', J.os, J.bare, J.base, J.hok, rfl, q⟩
  | brk => obtain ⟨_, _, _, q⟩ := hs; exact q.elim
  | cont => obtain ⟨_, _, _, q⟩ := hs; exact q.elim

/-! ### a def by what it means -/
/-- what a def hands back: something shared, or a new cell -/
def RetR (K : PySem.W.Frag) (own : Bool) (Z : Hp) (S : Sto) (F H : Hp) (v : V) (d : D) : Prop := if own = true then NRep K [] [] [] Z S F H v d else Rep K F v d
def spW (K : PySem.W.Frag) (mg : Str → Option Value) (own : Bool) (f : Fn) : Sp := fun vs H Q E => ∃ Z ds S F P R, Wd K [] Z (vs.map some) (ds.map some) S F H ∧ f ds S P R ∧ XQ K mg E Z F R ∧
  ∀ v d S' F' H', Wd K [] Z [] [] S' F' H' → Ex F F' → RetR K own Z S' F' H' v d → P d S' → Q v H'
section
variable {K : PySem.W.Frag} {mg : Str → Option Value} {O : List Nat} {Z : Hp} {σ : L2.St} {Δ : Env} {S : Sto} {F H : Hp}
theorem zo_le (k : Wd K O Z σ Δ S F H) : Ex Z (zo O σ Δ Z H) := fun b o q => by
  by_cases h : ∃ i ∈ O, ∃ d, Δ[i]? = some (some d) ∧ σ[i]? = some (some (.ref b))
  · rw [zo_yes h]; exact k.zH b o q
  · rw [zo_no h]; exact q
theorem wd_args {vs : List V} {ds : List D} (k : Wd K O Z σ Δ S F H) (r : Reps K F vs ds) : Wd K [] (zo O σ Δ Z H) (vs.map some) (ds.map some) S F H where
  fH := k.fH
  zH := fun b o q => by
    by_cases h : ∃ i ∈ O, ∃ d, Δ[i]? = some (some d) ∧ σ[i]? = some (some (.ref b))
    · rw [zo_yes h] at q; exact q
    · rw [zo_no h] at q; exact k.zH b o q
  fz := fun b o q => by
    by_cases h : ∃ i ∈ O, ∃ d, Δ[i]? = some (some d) ∧ σ[i]? = some (some (.ref b))
    · obtain ⟨i, hi, d, h1, h2⟩ := h
      obtain ⟨p, o', a1, a2, a3, a4, _⟩ := k.ow i d hi h1
      rw [h2] at a1; cases a1
      rw [q] at a4; cases a4
    · rw [zo_no h]; exact k.fz b o q
  st := fun a ob q => by
    obtain ⟨h1, h2, h3⟩ := k.st a ob q
    refine ⟨h1, ?_, h3⟩
    by_cases h : ∃ i ∈ O, ∃ d, Δ[i]? = some (some d) ∧ σ[i]? = some (some (.ref a))
    · obtain ⟨i, hi, d, y1, y2⟩ := h
      obtain ⟨p, o', a1, a2, a3, a4, a5, a6⟩ := k.ow i d hi y1
      rw [y2] at a1; cases a1
      rw [q] at a6; cases a6
    · rw [zo_no h]; exact h2
  fr := fun i d _ q => by
    rw [List.getElem?_map] at q
    cases e : ds[i]? with
    | none => rw [e] at q; cases q
    | some d' =>
      rw [e] at q
      cases q
      obtain ⟨v, h1, h2⟩ := r.get e
      exact ⟨v, by rw [List.getElem?_map, h1]; rfl, h2⟩
  ow := fun i d hi => absurd hi (by simp)
  sep := fun i j d e p hi => absurd hi (by simp)
  len := by rw [List.length_map, List.length_map, r.len]
/-- behind a call -/
theorem wd_back {S' : Sto} {F' H' : Hp} (k : Wd K O Z σ Δ S F H) (c : Wd K [] (zo O σ Δ Z H) [] [] S' F' H') (e : Ex F F') : Wd K O Z σ Δ S' F' H' where
  fH := c.fH
  zH := (zo_le k).trans c.zH
  fz := fun b o q => (zo_le k).none (c.fz b o q)
  st := fun a ob q => by
    obtain ⟨h1, h2, h3⟩ := c.st a ob q
    exact ⟨h1, (zo_le k).none h2, h3⟩
  fr := fun i d ni q => by
    obtain ⟨v, h1, h2⟩ := k.fr i d ni q
    exact ⟨v, h1, h2.mono e⟩
  ow := fun i d ni q => by
    obtain ⟨p, o, a1, a2, a3, a4, a5, a6⟩ := k.ow i d ni q
    have hz : zo O σ Δ Z H p = some o := by rw [zo_yes ⟨i, ni, d, q, a1⟩]; exact a2
    refine ⟨p, o, a1, c.zH p o hz, a3.mono e, ?_, a5, ?_⟩
    · cases y : F' p with
      | none => rfl
      | some u => rw [c.fz p u y] at hz; cases hz
    · cases y : S' p with
      | none => rfl
      | some u => rw [(c.st p u y).2.1] at hz; cases hz
  sep := k.sep
  len := k.len
theorem wd_less {Z' : Hp} (c : Wd K [] Z' [] [] S F H) (h : Ex Z Z') : Wd K [] Z [] [] S F H := ⟨c.fH, h.trans c.zH, fun b o q => h.none (c.fz b o q), fun a ob q => ⟨(c.st a ob q).1, h.none (c.st a ob q).2.1, (c.st a ob q).2.2⟩, c.fr, fun i d hi => absurd hi (by simp), c.sep, c.len⟩
theorem XQ.less {E : XK} {R : RX} {Z' : Hp} (x : XQ K mg E Z F R) (h : Ex Z Z') : XQ K mg E Z' F R := fun a b c d f g w e r q => x a b c d f g (wd_less w h) e r q
/-- the frame of a pure call: all but what is shared -/
noncomputable def zp (F H : Hp) : Hp := by
  classical
  exact fun b => if F b = none then H b else none
theorem wd_argsP {vs : List V} {ds : List D} (k : Wd K O Z σ Δ S F H) (r : Reps K F vs ds) : Wd K [] (zp F H) (vs.map some) (ds.map some) noS F H where
  fH := k.fH
  zH := fun b o q => by
    unfold zp at q
    by_cases h : F b = none
    · rw [if_pos h] at q; exact q
    · rw [if_neg h] at q; cases q
  fz := fun b o q => by
    unfold zp
    rw [if_neg (by rw [q]; simp)]
  st := fun a ob q => by cases q
  fr := (wd_args k r).fr
  ow := fun i d hi => absurd hi (by simp)
  sep := fun i j d e p hi => absurd hi (by simp)
  len := by rw [List.length_map, List.length_map, r.len]
theorem al_back {S' : Sto} {F' H' : Hp} (k : Wd K O Z σ Δ S F H) (c : Wd K [] (zp F H) [] [] S' F' H') (e : Ex F F') : Al F H F' H' := by
  refine ⟨e, fun b o q => ?_, c.fH, fun b o q => ?_⟩
  · cases y : F b with
    | some u =>
      have z := k.fH b u y
      rw [q] at z; cases z
      exact c.fH b _ (e b _ y)
    | none => exact c.zH b o (by unfold zp; rw [if_pos y]; exact q)
  · cases y : F b with
    | some u => rw [e b u y] at q; cases q; exact .inl rfl
    | none =>
      have z := c.fz b o q
      unfold zp at z
      rw [if_pos y] at z
      exact .inr z
end
section
variable {X : Cx} {CX : CXT} {k : Nat} {f : Addr} {fd : FuncData} {ps : List Str} {ds : List Value} {dvs : List V} {dd : List D} {b own : Bool} {O : List Nat} {E : XK} {fn : Fn} {x : Str} {p pos : Pos} {e : Expr} {es : List Expr} {w : WA}
theorem reps_def {K : PySem.W.Frag} {F : Hp} {vs dvs : List V} {ds dd : List D} (r : Reps K F vs ds) (hd : Reps K F dvs dd) : Reps K F (vs ++ dvs) (ds ++ dd) := r.app hd
theorem rd_call (hd : ∀ F, Reps X.K F dvs dd) (σ : L2.St) (H : Hp) (Q : VK) (h : rdE X.K X.mg false O E (eCall fn (aDef w dd)) σ H Q) : tCall (spW X.K X.mg false fn) dvs E (rdA X.K X.mg false O E w) σ H Q := by
  obtain ⟨Z, Δ, S, F, P, R, k, hw, hx, hq⟩ := h
  refine ⟨Z, Δ, S, F, _, R, k, hw, hx, fun vs ds S1 F1 H1 k1 e1 p1 r1 h1 => ?_⟩
  refine ⟨zo O σ Δ Z H1, ds ++ dd, S1, F1, P, R, wd_args k1 (r1.app (hd F1)), h1, (hx.mono e1).less (zo_le k1), fun v d S' F' H' c e r hp => ?_⟩
  exact hq v d S' F' H' (wd_back k1 c e) (e1.trans e) (fun z => nomatch z) r hp
theorem rd_callN (hd : ∀ F, Reps X.K F dvs dd) (σ : L2.St) (H : Hp) (Q : VK) (h : rdN X.K X.mg false O E (eCall fn (aDef w dd)) σ H Q) : tCall (spW X.K X.mg true fn) dvs E (rdA X.K X.mg false O E w) σ H Q := by
  obtain ⟨Z, Δ, S, F, P, R, k, hw, hx, hq⟩ := h
  refine ⟨Z, Δ, S, F, _, R, k, hw, hx, fun vs ds S1 F1 H1 k1 e1 p1 r1 h1 => ?_⟩
  refine ⟨zo O σ Δ Z H1, ds ++ dd, S1, F1, P, R, wd_args k1 (r1.app (hd F1)), h1, (hx.mono e1).less (zo_le k1), fun v d S' F' H' c e r hp => ?_⟩
  have k2 := wd_back k1 c e
  obtain ⟨p, o, rfl, h2, h3, h4, h5, h6, _⟩ := (show NRep X.K [] [] [] (zo O σ Δ Z H1) S' F' H' v d from r)
  refine hq _ d S' F' H' k2 (e1.trans e) (fun z => nomatch z) ⟨p, o, rfl, h2, h3, h4, (zo_le k1).none h5, h6, fun j e hj hd' hs => ?_⟩ (fun z => nomatch z) hp
  obtain ⟨p', o', a1, a2, _⟩ := k1.ow j e hj hd'
  rw [hs] at a1; cases a1
  rw [zo_yes ⟨j, hj, e, hd', hs⟩, a2] at h5; cases h5
theorem rd_callP (hd : ∀ F, Reps X.K F dvs dd) (σ : L2.St) (H : Hp) (Q : VK) (h : rdE X.K X.mg b O E (eCallP fn (aDef w dd)) σ H Q) : tCall (spW X.K X.mg false fn) dvs E (rdA X.K X.mg b O E w) σ H Q := by
  obtain ⟨Z, Δ, S, F, P, R, k, hw, hx, hq⟩ := h
  refine ⟨Z, Δ, S, F, _, R, k, hw, hx, fun vs ds S1 F1 H1 k1 e1 p1 r1 h1 => ?_⟩
  refine ⟨zp F1 H1, ds ++ dd, noS, F1, _, _, wd_argsP k1 (r1.app (hd F1)), h1, fun x cls dd' S' F' H' c e hr hR => ?_, fun v d S' F' H' c e r hp => ?_⟩
  · have al := al_back k1 c e
    have k2 := k1.al al
    exact hx x cls dd' S1 F' H' ⟨k2.fH, k2.zH, k2.fz, k2.st, fun i d _ q => by simp at q, fun i d hi => absurd hi (by simp), fun i j d e p hi => absurd hi (by simp), rfl⟩ (e1.trans e) hr hR
  · have al := al_back k1 c e
    exact hq v d S1 F' H' (k1.al al) (e1.trans e) (pureA p1 al) r hp
theorem rd_callPN (hd : ∀ F, Reps X.K F dvs dd) (σ : L2.St) (H : Hp) (Q : VK) (h : rdN X.K X.mg b O E (eCallP fn (aDef w dd)) σ H Q) : tCall (spW X.K X.mg true fn) dvs E (rdA X.K X.mg b O E w) σ H Q := by
  obtain ⟨Z, Δ, S, F, P, R, k, hw, hx, hq⟩ := h
  refine ⟨Z, Δ, S, F, _, R, k, hw, hx, fun vs ds S1 F1 H1 k1 e1 p1 r1 h1 => ?_⟩
  refine ⟨zp F1 H1, ds ++ dd, noS, F1, _, _, wd_argsP k1 (r1.app (hd F1)), h1, fun x cls dd' S' F' H' c e hr hR => ?_, fun v d S' F' H' c e r hp => ?_⟩
  · have al := al_back k1 c e
    have k2 := k1.al al
    exact hx x cls dd' S1 F' H' ⟨k2.fH, k2.zH, k2.fz, k2.st, fun i d _ q => by simp at q, fun i d hi => absurd hi (by simp), fun i j d e p hi => absurd hi (by simp), rfl⟩ (e1.trans e) hr hR
  · have al := al_back k1 c e
    have k2 := k1.al al
    obtain ⟨p, o, rfl, h2, h3, h4, h5, h6, _⟩ := (show NRep X.K [] [] [] (zp F1 H1) S' F' H' v d from r)
    have hF : F1 p = none := e.none h4
    have hH : H1 p = none := by
      unfold zp at h5
      rw [if_pos hF] at h5
      exact h5
    obtain ⟨_, _, g2, g3, g4⟩ := new_cell k1 hH o
    exact hq _ d S1 F' H' k2 (e1.trans e) (pureA p1 al) ⟨p, o, rfl, h2, h3, h4, g2, g3, g4⟩ (fun z q hq => by cases hq; exact (p1 z).2.h.none hH) hp
theorem de_call (hd : ∀ F, Reps X.K F dvs dd) (h : PE X e (tCall (spW X.K X.mg false fn) dvs E (rdA X.K X.mg false O E w))) : DE X false O E e (eCall fn (aDef w dd)) := pe_to h (rd_call hd)
theorem dn_call (hd : ∀ F, Reps X.K F dvs dd) (h : PE X e (tCall (spW X.K X.mg true fn) dvs E (rdA X.K X.mg false O E w))) : DN X false O E e (eCall fn (aDef w dd)) := pe_to h (rd_callN hd)
theorem de_callP (hd : ∀ F, Reps X.K F dvs dd) (h : PE X e (tCall (spW X.K X.mg false fn) dvs E (rdA X.K X.mg b O E w))) : DE X b O E e (eCallP fn (aDef w dd)) := pe_to h (rd_callP hd)
theorem dn_callP (hd : ∀ F, Reps X.K F dvs dd) (h : PE X e (tCall (spW X.K X.mg true fn) dvs E (rdA X.K X.mg b O E w))) : DN X b O E e (eCallP fn (aDef w dd)) := pe_to h (rd_callPN hd)
end
end DL

/-! DR6: statements, targets, walks, loops, comprehensions. -/
namespace DL
open PySem PySem.Spec PyProof.Rows L2

/-! ### statements -/
section
variable (K : PySem.W.Frag) (mg : Str → Option Value)
/-- what is wanted behind, told twice -/
structure EndsR (On L : List Nat) (E : XK) (own : Bool) (Z F : Hp) (B : EndsD) (R : RX) (D : Ends) : Prop where
  nx : ∀ σ' Δ' S' F' H', Wd K On Z σ' Δ' S' F' H' → Ex F F' → B.nx Δ' S' → D.nx σ' H'
  rt : ∀ v d S' F' H', Wd K [] Z [] [] S' F' H' → Ex F F' → RetR K own Z S' F' H' v d → B.rt d S' → D.rt v H'
  bk : ∀ σ' Δ' S' F' H', Wd K L Z σ' Δ' S' F' H' → Ex F F' → B.bk Δ' S' → D.bk σ' H'
  ct : ∀ σ' Δ' S' F' H', Wd K L Z σ' Δ' S' F' H' → Ex F F' → B.ct Δ' S' → D.ct σ' H'
  ex : XQ K mg E Z F R
def rdS (O On L : List Nat) (E : XK) (own : Bool) (g : WS) : TS := fun D σ H => ∃ Z Δ S F B R, Wd K O Z σ Δ S F H ∧ g Δ S B R ∧ EndsR K mg On L E own Z F B R D
/-- a target -/
def rdG (O : List Nat) (g : WG) : TG := fun v σ H Q => ∃ Z Δ S F d Kn, Wd K O Z σ Δ S F H ∧ Rep K F v d ∧ g d Δ Kn ∧ ∀ σ' Δ', Wd K O Z σ' Δ' S F H → Kn Δ' → Q σ' H
def rdGs (O : List Nat) (g : WGs) : TGs := fun vs σ H Q => ∃ Z Δ S F ds Kn, Wd K O Z σ Δ S F H ∧ Reps K F vs ds ∧ g ds Δ Kn ∧ ∀ σ' Δ', Wd K O Z σ' Δ' S F H → Kn Δ' → Q σ' H
/-- what a loop walks: J gives the trees, one a turn -/
structure Gives (F0 : Hp) (J : It) (items : List D) : Prop where
  w : ∃ G Y, Walk J items.length G Y ∧ (∀ Hx, Ex F0 Hx → G Hx) ∧
    ∀ i F H x H', Ex F0 F → Ex F H → Y i H x H' → ∃ d F2, items[i]? = some d ∧ Al F H F2 H' ∧ Rep K F2 x d
def rdI (b : Bool) (O : List Nat) (E : XK) (w : WI) : TI := fun σ H Q => ∃ Z Δ S F P R, Wd K O Z σ Δ S F H ∧ w Δ S P R ∧ XQ K mg E Z F R ∧
  ∀ J items S' F' H', Wd K O Z σ Δ S' F' H' → Ex F F' → (b = true → S' = S ∧ Al F H F' H') → Gives K F' J items → P items S' → Q J H'
end
section
variable {X : Cx} {b : Bool} {O On O1 L : List Nat} {E : XK} {own : Bool} {K : PySem.W.Frag} {mg : Str → Option Value} {Z F F' : Hp} {B : EndsD} {R : RX} {D0 : Ends}
theorem EndsR.mono (r : EndsR K mg On L E own Z F B R D0) (e : Ex F F') : EndsR K mg On L E own Z F' B R D0 :=
  ⟨fun a b c d f w e' => r.nx a b c d f w (e.trans e'), fun a b c d f w e' => r.rt a b c d f w (e.trans e'), fun a b c d f w e' => r.bk a b c d f w (e.trans e'), fun a b c d f w e' => r.ct a b c d f w (e.trans e'), r.ex.mono e⟩
abbrev DS (X : Cx) (O On L : List Nat) (E : XK) (own : Bool) (st : Stmt) (g : WS) : Prop := PS X st (rdS X.K X.mg O On L E own g)
abbrev DSs (X : Cx) (O On L : List Nat) (E : XK) (own : Bool) (st : List Stmt) (g : WS) : Prop := PSs X st (rdS X.K X.mg O On L E own g)
abbrev DG (X : Cx) (O : List Nat) (t : Expr) (g : WG) : Prop := PG X t (rdG X.K O g)
abbrev DGs (X : Cx) (O : List Nat) (t : List Expr) (g : WGs) : Prop := PGs X t (rdGs X.K O g)
abbrev DI (X : Cx) (b : Bool) (O : List Nat) (E : XK) (tg e : Expr) (w : WI) : Prop := PI X tg e (rdI X.K X.mg b O E w)
variable {st : Stmt} {rest body : List Stmt} {g h : WS} {e tg iter : Expr} {w : WE} {t : WT} {pos : Pos}
theorem Wd.end0 {σ : L2.St} {Δ : Env} {S : Sto} {H : Hp} (k : Wd K O Z σ Δ S F H) : Wd K [] Z [] [] S F H := ⟨k.fH, k.zH, k.fz, k.st, fun i d _ q => by simp at q, fun i d hi => absurd hi (by simp), fun i j d e p hi => absurd hi (by simp), rfl⟩
theorem dss_nil : DSs X O O L E own [] gNext := pss_to pss_nil fun D σ H ⟨Z, Δ, S, F, B, R, k, hg, er⟩ => er.nx σ Δ S F H k (Ex.refl _) hg
theorem ds_pass : DS X O O L E own (.Pass pos) gNext := ps_to ps_pass fun D σ H ⟨Z, Δ, S, F, B, R, k, hg, er⟩ => er.nx σ Δ S F H k (Ex.refl _) hg
theorem ds_break : DS X O O O E own (.Break pos) gBrk := ps_to ps_break fun D σ H ⟨Z, Δ, S, F, B, R, k, hg, er⟩ => er.bk σ Δ S F H k (Ex.refl _) hg
theorem ds_continue : DS X O O O E own (.Continue pos) gCnt := ps_to ps_continue fun D σ H ⟨Z, Δ, S, F, B, R, k, hg, er⟩ => er.ct σ Δ S F H k (Ex.refl _) hg
theorem ds_doc {x : Str} {j : Nat} {pos' : Pos} : DS X O O L E own (.Expr (.Constant (.str x) j pos) pos') gNext := ps_to ps_doc fun D σ H ⟨Z, Δ, S, F, B, R, k, hg, er⟩ => er.nx σ Δ S F H k (Ex.refl _) hg
theorem ds_never : DS X O On L E own st gNever := ps_to ps_never fun D σ H ⟨Z, Δ, S, F, B, R, k, hg, er⟩ => hg.elim
theorem dss_cons (h1 : DS X O O1 L E own st g) (h2 : DSs X O1 On L E own rest h) : DSs X O On L E own (st :: rest) (gSeq g h) :=
  pss_to (pss_cons h1 h2) fun D σ H ⟨Z, Δ, S, F, B, R, k, hg, er⟩ => ⟨Z, Δ, S, F, _, R, k, hg, ⟨fun σ' Δ' S' F' H' k' e' q => ⟨Z, Δ', S', F', B, R, k', q, er.mono e'⟩, er.rt, er.bk, er.ct, er.ex⟩⟩
theorem dss_one (h1 : DS X O On L E own st g) : DSs X O On L E own [st] g := pss_one h1
/-- a slot's cell is shared from here on -/
theorem dss_freeze (i : Nat) (h1 : DSs X (drp i O) On L E own rest g) : DSs X O On L E own rest g := pss_to h1 fun D σ H ⟨Z, Δ, S, F, B, R, k, hg, er⟩ => by
  obtain ⟨F2, e2, k2⟩ := k.freeze i
  exact ⟨Z, Δ, S, F2, B, R, k2, hg, er.mono e2⟩
/-- names are forgotten behind -/
theorem killL_mode {O1 O2 : List Nat} {is : List Nat} {σ : L2.St} {Δ : Env} {S : Sto} {H : Hp} (k : Wd K O1 Z σ Δ S F H) (hm : ∀ i, i ∉ is → (i ∈ O1 ↔ i ∈ O2)) : Wd K O2 Z σ (killL is Δ) S F H :=
  (k.kill is).mode fun i d q => hm i (killL_some is Δ q).2
theorem dss_drop {O2 : List Nat} (is : List Nat) (hm : ∀ i, i ∉ is → (i ∈ O1 ↔ i ∈ O2)) (hl : ∀ i, i ∉ is → (i ∈ L ↔ i ∈ O2)) (hb : L = O2) (h1 : DSs X O O1 L E own rest g) : DSs X O O2 L E own rest (gDrop is g) := pss_to h1 fun D σ H ⟨Z, Δ, S, F, B, R, k, hg, er⟩ =>
  ⟨Z, Δ, S, F, _, R, k, hg, ⟨fun σ' Δ' S' F' H' k' e' q => er.nx σ' _ S' F' H' (killL_mode k' hm) e' q, er.rt, er.bk, fun σ' Δ' S' F' H' k' e' q => er.ct σ' _ S' F' H' (k'.kill is) e' q, er.ex⟩⟩
theorem ds_ret (he : DE X b O E e w) : DS X O On L E false (.Return (some e) pos) (gRet w) :=
  ps_to (ps_ret he) fun D σ H ⟨Z, Δ, S, F, B, R, k, hg, er⟩ => ⟨Z, Δ, S, F, _, R, k, hg, er.ex, fun v d S' F' H' k' e' _ r p => er.rt v d S' F' H' k'.end0 e' r p⟩
theorem NRep.end0 {σ : L2.St} {Δ : Env} {S : Sto} {H : Hp} {v : V} {d : D} : NRep K O σ Δ Z S F H v d → NRep K [] [] [] Z S F H v d := fun ⟨p, o, h1, h2, h3, h4, h5, h6, _⟩ => ⟨p, o, h1, h2, h3, h4, h5, h6, fun j e hj => absurd hj (by simp)⟩
/-- a new cell is handed back -/
theorem ds_retNew (he : DN X b O E e w) : DS X O On L E true (.Return (some e) pos) (gRet w) :=
  ps_to (ps_ret he) fun D σ H ⟨Z, Δ, S, F, B, R, k, hg, er⟩ => ⟨Z, Δ, S, F, _, R, k, hg, er.ex, fun v d S' F' H' k' e' _ r _ p => er.rt v d S' F' H' k'.end0 e' r.end0 p⟩
/-- an owned cell is handed back -/
theorem ds_retOwn (i : Nat) {x : Str} {p2 : Pos} (hi : i ∈ O) (h : PE X (.Name x p2) (tVar i)) : DS X O On L E true (.Return (some (.Name x p2)) pos) (gRet (eVar i)) :=
  ps_to (ps_ret h) fun D σ H ⟨Z, Δ, S, F, B, R, k, ⟨d, hd, hp⟩, er⟩ => by
    obtain ⟨p, o, h1, h2, h3, h4, h5, h6⟩ := k.ow i d hi hd
    exact ⟨.ref p, h1, er.rt _ d S F H k.end0 (Ex.refl _) ⟨p, o, rfl, h2, h3, h4, h5, h6, fun j e hj => absurd hj (by simp)⟩ hp⟩
theorem ds_retN : DS X O On L E false (.Return none pos) gRetN := ps_to ps_retN fun D σ H ⟨Z, Δ, S, F, B, R, k, hg, er⟩ => er.rt .non .non S F H k.end0 (Ex.refl _) .non hg
theorem ds_if {c : Expr} {a b' : List Stmt} (hc : DT X b O E c t) (ha : DSs X O On L E own a g) (hb : DSs X O On L E own b' h) : DS X O On L E own (.If c a b' pos) (gIf t g h) :=
  ps_to (ps_if hc ha hb) fun D σ H ⟨Z, Δ, S, F, B, R, k, hg, er⟩ => ⟨Z, Δ, S, F, _, R, k, hg, er.ex, fun q S1 F1 H1 k1 e1 _ h1 => by
    cases q with
    | true => exact ⟨Z, Δ, S1, F1, B, R, k1, h1, er.mono e1⟩
    | false => exact ⟨Z, Δ, S1, F1, B, R, k1, h1, er.mono e1⟩⟩
theorem ds_expr (he : DB X b O E e w) (hs : swapsWith e none pos.line X.env = pure false := by rfl) : DS X O O L E own (.Expr e pos) (gExpr w) :=
  ps_to (ps_expr he hs) fun D σ H ⟨Z, Δ, S, F, B, R, k, hg, er⟩ => ⟨Z, Δ, S, F, _, R, k, hg, er.ex, fun v d S' F' H' k' e' _ r p => er.nx σ Δ S' F' H' k' e' p⟩

/-! ### targets -/
theorem pg_to {t t' : TG} (h : PG X tg t) (i : ∀ v σ H Q, t' v σ H Q → t v σ H Q) : PG X tg t' := ⟨fun pins s σ H v u Q I r q => h.run pins s σ H v u Q I r (i v σ H Q q)⟩
theorem pgs_to {ts : List Expr} {t t' : TGs} (h : PGs X ts t) (i : ∀ v σ H Q, t' v σ H Q → t v σ H Q) : PGs X ts t' := ⟨fun pins s σ H v u Q I r q => h.run pins s σ H v u Q I r (i v σ H Q q)⟩
theorem dg_name {i : Nat} {x : Str} (hi : i ∉ O) (hp : PG X (.Name x pos) (gName i)) : DG X O (.Name x pos) (gtName i) :=
  pg_to hp fun v σ H Q ⟨Z, Δ, S, F, d, Kn, k, r, hg, hq⟩ => hq _ _ (k.set hi r) hg
theorem dgs_nil : DGs X O [] gtNil := pgs_to pgs_nil fun v σ H Q ⟨Z, Δ, S, F, ds, Kn, k, r, ⟨hd, hg⟩, hq⟩ => by
  subst hd
  cases r
  exact ⟨rfl, hq _ _ k hg⟩
theorem dgs_cons {a : Expr} {as : List Expr} {g : WG} {gs : WGs} (h1 : DG X O a g) (h2 : DGs X O as gs) (hs : (assignEach (a :: as) X.env).map (·.2) = assign a X.env :: (assignEach as X.env).map (·.2) := by rfl) : DGs X O (a :: as) (gtCons g gs) :=
  pgs_to (pgs_cons h1 h2 hs) fun vs σ H Q ⟨Z, Δ, S, F, ds, Kn, k, r, ⟨d, t, hd, hg⟩, hq⟩ => by
    subst hd
    cases r with
    | cons r1 r2 => exact ⟨_, _, rfl, Z, Δ, S, F, d, _, k, r1, hg, fun σ1 Δ1 k1 h1 => ⟨Z, Δ1, S, F, t, _, k1, r2, h1, hq⟩⟩
theorem dg_tup {es : List Expr} {kk : Nat} {gs : WGs} {n : Nat} (hc : X.calm = true) (h : DGs X O es gs) (hn : (assignEach es X.env).length = n := by rfl) (hst : (assignEach es X.env).findIdx? (·.1) = none := by rfl) : DG X O (.Tuple es kk pos) (gtTup n gs) := by
  have p1 := pg_tup (k := kk) (pos := pos) hc h hn hst
  have p2 := pg_unl (k := kk) (pos := pos) hc h hn hst
  refine ⟨fun pins s σ H v u Q I r q => ?_⟩
  obtain ⟨Z, Δ, S, F, d, Kn, k, rr, ⟨ds, hd, hl, hg⟩, hq⟩ := q
  cases rr with
  | tup hp rs =>
    cases hd
    exact p1.run pins s σ H _ u Q I r ⟨_, _, rfl, (.inl (.inl (k.fH _ _ hp))), by rw [rs.len]; exact hl, Z, Δ, S, F, ds, Kn, k, rs, hg, hq⟩
  | lst hp rs =>
    cases hd
    exact p2.run pins s σ H _ u Q I r ⟨_, _, rfl, .inl (.inl (k.fH _ _ hp)), by rw [rs.len]; exact hl, Z, Δ, S, F, ds, Kn, k, rs, hg, hq⟩
  | _ => cases hd

/-! ### assignments -/
theorem ds_set {i : Nat} {x : Str} {pos' : Pos} (hi : i ∉ O) (hN : X.N.Nodup) (hx : X.N[i]? = some x) (hl : Loc X.env.scope x) (he : DE X b O E e w) (hs : swapsWith e (some (.Name x pos')) pos.line X.env = pure false := by rfl)
    (hf : X.fn x = true ∨ X.env.scope.names.lookup x = some .local := by first | exact .inl rfl | exact .inr rfl | assumption) : DS X O O L E own (.Assign [.Name x pos'] e pos) (gAsg w (gtName i)) :=
  ps_to (ps_set hN hx hl he hs hf) fun D σ H ⟨Z, Δ, S, F, B, R, k, hg, er⟩ => ⟨Z, Δ, S, F, _, R, k, hg, er.ex, fun v d S' F' H' k' e' _ r p => er.nx _ _ S' F' H' (k'.set hi r) e' p⟩
/-- a name takes a new cell -/
theorem ds_own {i : Nat} {x : Str} {pos' : Pos} (hi : i ∈ O) (hN : X.N.Nodup) (hx : X.N[i]? = some x) (hl : Loc X.env.scope x) (he : DN X b O E e w) (hs : swapsWith e (some (.Name x pos')) pos.line X.env = pure false := by rfl)
    (hf : X.fn x = true ∨ X.env.scope.names.lookup x = some .local := by first | exact .inl rfl | exact .inr rfl | assumption) : DS X O O L E own (.Assign [.Name x pos'] e pos) (gAsg w (gtName i)) :=
  ps_to (ps_set hN hx hl he hs hf) fun D σ H ⟨Z, Δ, S, F, B, R, k, hg, er⟩ => ⟨Z, Δ, S, F, _, R, k, hg, er.ex, fun v d S' F' H' k' e' _ r _ p => by
    obtain ⟨q, o, rfl, h2, h3, h4, h5, h6, h7⟩ := r
    exact er.nx _ _ S' F' H' (k'.own hi h2 h3 h4 h5 h6 h7) e' p⟩
theorem ds_asg {g : WG} (he : DE X b O E e w) (hg : DG X O tg g) (hs : swapsWithSole [tg] e pos.line X.env = pure false := by rfl) (hw : swappedStores [tg] e X.env = pure none := by rfl)
    (h1 : (assignEach [tg] X.env).map (·.2) = [assign tg X.env] := by rfl) : DS X O O L E own (.Assign [tg] e pos) (gAsg w g) :=
  ps_to (ps_asg he hg hs hw h1) fun D σ H ⟨Z, Δ, S, F, B, R, k, hg, er⟩ => ⟨Z, Δ, S, F, _, R, k, hg, er.ex, fun v d S' F' H' k' e' _ r p => ⟨Z, Δ, S', F', d, _, k', r, p, fun σ1 Δ1 k1 q => er.nx σ1 Δ1 S' F' H' k1 e' q⟩⟩
/-- a, b = e1, e2 -/
def gPar (i j : Nat) (a : WA) : WS := fun Δ S B R => a Δ S (fun ds S1 => ∃ x y, ds = [x, y] ∧ B.nx ((Δ.set i (some x)).set j (some y)) S1) R
theorem ds_par {i j : Nat} {a c : Expr} {wA : WA} (hi : i ∉ O) (hj : j ∉ O) (ha : DA X b O E [a, c] wA)
    (hp : ∀ {ta}, PA X [a, c] ta → PS X st (tPar i j ta)) : DS X O O L E own st (gPar i j wA) :=
  ps_to (hp ha) fun D σ H ⟨Z, Δ, S, F, B, R, k, hg, er⟩ => ⟨Z, Δ, S, F, _, R, k, hg, er.ex, fun vs ds S' F' H' k' e' _ r ⟨x, y, hd, p⟩ => by
    subst hd
    cases r with
    | cons r1 r2 =>
      cases r2 with
      | cons r2 r3 =>
        cases r3
        exact ⟨_, _, rfl, er.nx _ _ S' F' H' ((k'.set hi r1).set hj r2) e' p⟩⟩
theorem ds_aug {i : Nat} {x : Str} {op : Operator} {r : R2} {f : D → D → Option D} {pos' : Pos} (hi : i ∉ O) (hN : X.N.Nodup) (hx : X.N[i]? = some x) (hl : Loc X.env.scope x) (he : DB X b O E e w) (ho : PIp X op r) (hr : OpS X.K f r)
    (hf : X.fn x = true ∨ X.env.scope.names.lookup x = some .local := by first | exact .inl rfl | exact .inr rfl | assumption) : DS X O O L E own (.AugAssign (.Name x pos') op e pos) (gAug i f w) :=
  ps_to (ps_aug hN hx hl he ho hf) fun D σ H ⟨Z, Δ, S, F, B, R, k, ⟨x, hx, hg⟩, er⟩ => by
    obtain ⟨v0, a1, a2⟩ := k.fr i x hi hx
    exact ⟨v0, a1, Z, Δ, S, F, _, R, k, hg, er.ex, fun v d S' F' H' k' e' _ r1 ⟨z, hz, p⟩ => hr F' H' v0 v x d z _ k'.fH (.rep (a2.mono e')) (r1.see k') hz fun v' F3 H3 al r3 => er.nx _ _ S' F3 H3 ((k'.al al).set hi r3) (e'.trans al.f) p⟩
/-- found.append(e) and the like: the method's rule changes the owner's cell -/
def OwnS (K : PySem.W.Frag) (f : D → List D → Option (D × D)) (r : V → List V → Hp → VK → Prop) : Prop := ∀ (F H : Hp) (p : Addr) (o : HO) (d d' rd : D) (xs : List V) (ds : List D) (Q : VK), Ex F H → H p = some o → OwnO K F o d → Reps K F xs ds → f d ds = some (d', rd) →
  (∀ v o', OwnO K F o' d' → Rep K F v rd → Q v (L2.upd H p o')) → r (.ref p) xs H Q
def TyO (K : PySem.W.Frag) (T : String) (ok : D → Bool) : Prop := ∀ (F H : Hp) (p : Addr) (o : HO) (d : D), H p = some o → OwnO K F o d → ok d = true → tyV K T (.ref p) H
theorem tyo_lst {K : PySem.W.Frag} : TyO K "list" isLst := fun F H p o d hp ow h => by
  cases ow with
  | lst r => exact .inl ⟨rfl, _, .inl (.inl hp)⟩
  | dct r => cases h
  | dcT r => cases h
theorem ds_ownM {i : Nat} {T : String} {ok : D → Bool} {r : V → List V → Hp → VK → Prop} {f : D → List D → Option (D × D)} {x : Str} {p2 : Pos} {wA : WA} {es : List Expr} (hi : i ∈ O) (hr : OwnS X.K f r) (hT : TyO X.K T ok) (hv : PE X (.Name x p2) (tVar i)) (ha : DA X b O E es wA)
    (hp : ∀ {t to}, PA X es t → PE X (.Name x p2) to → PE X e (tBM X.K T r to t)) (hs : swapsWith e none pos.line X.env = pure false := by rfl) : DS X O O L E own (.Expr e pos) (gOwn i ok f wA) :=
  ps_to (ps_expr (hp ha hv) hs) fun D σ H ⟨Z, Δ, S, F, B, R, k, ⟨x, hx, hok, hg⟩, er⟩ => by
    obtain ⟨p, o, a1, a2, a3, a4, a5, a6⟩ := k.ow i x hi hx
    refine ⟨.ref p, a1, hT F H p o x a2 a3 hok, Z, Δ, S, F, _, R, k, hg, er.ex, fun vs ds S' F' H' k' e' _ rs ⟨z, rd, hf, hn⟩ => ?_⟩
    obtain ⟨p', o', b1, b2, b3, _⟩ := k'.ow i x hi hx
    rw [a1] at b1; cases b1
    exact hr F' H' p o' x z rd vs ds _ k'.fH b2 b3 rs hf fun v o2 ow rv => er.nx _ _ S' F' _ (k'.change hi hx a1 ow) e' hn
/-- the same where there is no argument -/
theorem ds_ownM0 {i : Nat} {T : String} {ok : D → Bool} {r : V → List V → Hp → VK → Prop} {f : D → List D → Option (D × D)} {x : Str} {p2 : Pos} (hi : i ∈ O) (hr : OwnS X.K f r) (hT : TyO X.K T ok) (hv : PE X (.Name x p2) (tVar i))
    (hp : ∀ {to}, PE X (.Name x p2) to → PE X e (tBM0 X.K T r to)) (hs : swapsWith e none pos.line X.env = pure false := by rfl) : DS X O O L E own (.Expr e pos) (gOwn i ok f aNil) :=
  ps_to (ps_expr (hp hv) hs) fun D σ H ⟨Z, Δ, S, F, B, R, k, ⟨x, hx, hok, z, rd, hf, hn⟩, er⟩ => by
    obtain ⟨p, o, a1, a2, a3, a4, a5, a6⟩ := k.ow i x hi hx
    exact ⟨.ref p, a1, hT F H p o x a2 a3 hok, hr F H p o x z rd [] [] _ k.fH a2 a3 .nil hf fun v o2 ow rv => er.nx _ _ S F _ (k.change hi hx a1 ow) (Ex.refl _) hn⟩
theorem Reps.one {F : Hp} {xs : List V} {d : D} (r : Reps K F xs [d]) : ∃ x, xs = [x] ∧ Rep K F x d := by
  cases r with
  | cons h t => cases t; exact ⟨_, rfl, h⟩
theorem o_append : OwnS K oAppend rAppend := fun F H p o d d' rd xs ds Q ex hp ow rs hf hq => by
  unfold oAppend at hf
  split at hf
  · obtain ⟨x, rfl, rx⟩ := rs.one
    obtain ⟨hl, he⟩ := ite_some hf
    cases he
    cases ow with
    | lst r => exact ⟨p, _, x, rfl, rfl, hp, LINE_lt (by rw [r.len]; exact hl), hq _ _ (.lst (r.app (.cons rx .nil))) .non⟩
  · cases hf
theorem o_extend : OwnS K oExtend rExtend := fun F H p o d d' rd xs ds Q ex hp ow rs hf hq => by
  unfold oExtend at hf
  split at hf
  · obtain ⟨x, rfl, rx⟩ := rs.one
    obtain ⟨hl, he⟩ := ite_some hf
    cases he
    cases rx with
    | lst hx rx =>
      cases ow with
      | lst r => exact ⟨p, _, _, _, rfl, rfl, hp, ex _ _ hx, LINE_le (by rw [r.len, rx.len]; exact hl), hq _ _ (.lst (r.app rx)) .non⟩
  · cases hf
theorem Reps.dropLast {F : Hp} : ∀ {vs : List V} {ds : List D}, Reps K F vs ds → Reps K F vs.dropLast ds.dropLast := fun {vs ds} r => by
  rw [List.dropLast_eq_take, List.dropLast_eq_take, r.len]
  exact r.take _
theorem o_pop : OwnS K oPop rPop := fun F H p o d d' rd xs ds Q ex hp ow rs hf hq => by
  unfold oPop at hf
  split at hf
  · cases rs
    obtain ⟨y, h1, he⟩ := Option.map_eq_some_iff.mp hf
    cases he
    cases ow with
    | lst r =>
      obtain ⟨v, a1, a2⟩ := r.get h1
      exact ⟨p, _, v, rfl, rfl, hp, by rw [r.len]; exact a1, hq _ _ (.lst r.dropLast) a2⟩
  · cases hf
/-- d[k] = e -/
theorem RepK.any {F : Hp} {k : Key} : ∀ {vs : List (Key × V)} {ds : List (Key × D)}, RepK K F vs ds → (vs.any fun kv => decide (kv.1 = k)) = ds.any fun kv => decide (kv.1 = k)
  | _, _, .nil => rfl
  | _, _, .cons _ r => by rw [List.any_cons, List.any_cons, RepK.any r]
theorem RepK.repl {F : Hp} {k : Key} {x : V} {y : D} (r1 : Rep K F x y) : ∀ {vs : List (Key × V)} {ds : List (Key × D)}, RepK K F vs ds → RepK K F (vs.map fun kv => if kv.1 = k then (kv.1, x) else kv) (ds.map fun kv => if kv.1 = k then (kv.1, y) else kv)
  | _, _, .nil => .nil
  | _, _, .cons (k := j) h r => by
    rw [List.map_cons, List.map_cons]
    by_cases e : j = k
    · rw [if_pos e, if_pos e]; exact .cons r1 (RepK.repl r1 r)
    · rw [if_neg e, if_neg e]; exact .cons h (RepK.repl r1 r)
theorem RepK.snoc {F : Hp} {k : Key} {x : V} {y : D} (r1 : Rep K F x y) : ∀ {vs : List (Key × V)} {ds : List (Key × D)}, RepK K F vs ds → RepK K F (vs ++ [(k, x)]) (ds ++ [(k, y)])
  | _, _, .nil => .cons r1 .nil
  | _, _, .cons h r => .cons h (RepK.snoc r1 r)
theorem RepK.put {F : Hp} {k : Key} {x : V} {y : D} (r1 : Rep K F x y) {vs : List (Key × V)} {ds : List (Key × D)} (r : RepK K F vs ds) : RepK K F (putK vs k x) (putD ds k y) := by
  unfold putK putD
  rw [r.any]
  by_cases h : (ds.any fun kv => decide (kv.1 = k)) = true
  · rw [if_pos h, if_pos h]; exact r.repl r1
  · rw [if_neg h, if_neg h]; exact r.snoc r1
theorem key_see {F H : Hp} {v : V} {d : D} {k : Key} (r : VRep K F H v d) (h : keyD d = some k) : v = kV k := by
  cases d with
  | int i => cases r.int; cases h; rfl
  | str i => cases r.str; cases h; rfl
  | _ => cases h
theorem ds_dput {i : Nat} {ix val : Expr} {x : Str} {p2 : Pos} {wv wi : WE} (hi : i ∈ O) (hv : DE X b O E val wv) (ho : PE X (.Name x p2) (tVar i)) (hx : DE X b O E ix wi) (hp : ∀ {tv td ty}, PE X val tv → PE X (.Name x p2) td → PE X ix ty → PS X st (sDPut td ty tv)) :
    DS X O O L E own st (fun Δ S B R => gPut i (fun Δ S P R => (∃ kvs, Δ[i]? = some (some (.dct kvs))) ∧ wv Δ S P R) wi Δ S B R) :=
  ps_to (hp hv ho hx) fun D σ H ⟨Z, Δ, S, F, B, R, k, ⟨⟨kvs, hk⟩, hg⟩, er⟩ => ⟨Z, Δ, S, F, _, R, k, hg, er.ex, fun v d S1 F1 H1 k1 e1 _ r1 ⟨x, hx, h1⟩ => by
    rw [hk] at hx; cases hx
    obtain ⟨p, o, a1, a2, a3, a4, a5, a6⟩ := k1.ow i _ hi hk
    refine ⟨.ref p, a1, Z, Δ, S1, F1, _, R, k1, h1, er.ex.mono e1, fun y dk S2 F2 H2 k2 e2 _ r2 ⟨z, hz, hn⟩ => ?_⟩
    obtain ⟨p', o', b1, b2, b3, _⟩ := k2.ow i _ hi hk
    rw [a1] at b1; cases b1
    have hz' : (if kvs.length < LINE then (keyD dk).map fun k => DL.D.dct (putD kvs k d) else none) = some z := hz
    by_cases hl : kvs.length < LINE
    · rw [if_pos hl] at hz'
      obtain ⟨key, hkey, rfl⟩ := Option.map_eq_some_iff.mp hz'
      cases b3 with
      | dct rk =>
        cases key_see (H := H2) (.rep r2) hkey
        exact ⟨p, _, rfl, DPut.k b2 (LINE_lt (by rw [rk.len]; exact hl)), er.nx _ _ S2 F2 _ (k2.change hi hk a1 (.dct (rk.put (r1.mono e2)))) (e1.trans e2) hn⟩
    · rw [if_neg hl] at hz'; cases hz'⟩
end

/-! ### walks -/
section
variable {X : Cx} {b : Bool} {O On O1 L : List Nat} {E : XK} {own : Bool} {K : PySem.W.Frag} {e tg a c : Expr} {w wa wb : WE} {pos : Pos}
theorem pi_to {iter : Expr} {t t' : TI} (h : PI X tg iter t) (i : ∀ σ H R, t' σ H R → t σ H R) : PI X tg iter t' := ⟨fun pins s σ H R I q => h.run pins s σ H R I (i σ H R q)⟩
theorem gives_lst {F : Hp} {p : Addr} {vs : List V} {ds : List D} (h : SqL K F p vs) (r : Reps K F vs ds) : Gives K F (Itl K p) ds :=
  ⟨⟨fun H => SqL K H p vs, YAt vs, r.len ▸ walk_list, fun H e => e.sl h, fun i F2 H x H' e1 e2 ⟨y1, y2⟩ => by
    subst y1
    obtain ⟨d, h1, h2⟩ := r.getV y2
    exact ⟨d, F2, h1, Al.refl e2, h2.mono e1⟩⟩⟩
theorem gives_tup {F : Hp} {p : Addr} {vs : List V} {ds : List D} (h : SqT K F p vs) (r : Reps K F vs ds) : Gives K F (Itt K p) ds :=
  ⟨⟨fun H => SqT K H p vs, YAt vs, r.len ▸ walk_tup, fun H e => e.st h, fun i F2 H x H' e1 e2 ⟨y1, y2⟩ => by
    subst y1
    obtain ⟨d, h1, h2⟩ := r.getV y2
    exact ⟨d, F2, h1, Al.refl e2, h2.mono e1⟩⟩⟩
theorem rngD_get {lo : Int} {n i : Nat} (h : i < n) : (rngD lo n)[i]? = some (.int (lo + (i : Nat))) := by
  unfold rngD
  rw [List.getElem?_map, List.getElem?_range h]
  rfl
theorem rngD_len (lo : Int) (n : Nat) : (rngD lo n).length = n := by unfold rngD; simp
theorem gives_rng {F : Hp} {lo : Int} {n : Nat} : Gives K F (Itr lo n) (rngD lo n) :=
  ⟨⟨fun H => True, fun i H x H' => i < n ∧ H' = H ∧ x = .int (lo + i), by
    rw [rngD_len]
    exact ⟨fun i H hi _ => hi, fun H _ => Nat.le_refl _, fun i H x H' hi _ y => ⟨hi, y⟩⟩, fun H e => trivial, fun i F2 H x H' e1 e2 ⟨hi, y1, y2⟩ => by
    subst y1 y2
    exact ⟨_, F2, rngD_get hi, Al.refl e2, .int _⟩⟩⟩
theorem Itl_go {pins : List (Addr × Obj)} {σ : L2.St} {H : Hp} {s1 : Shared} {a : Addr} {R : It → Hp → Prop} (I1 : L2.Inv X pins σ H s1) (hs : ∃ xs, SqL X.K H a xs) (q : R (Itl X.K a) H) : wpAny (model X.prog X.w) X.A (pyIter (.ref a)) (PIE X pins σ tg R) X.xe s1 := by
  obtain ⟨xs, hq⟩ := hs
  obtain ⟨its, rv, p, hz⟩ := I1.list hq
  have fp : ∀ b ∈ [s1.heap.objs.size], FpOk X pins H b := fun b hb => by
    cases List.mem_singleton.mp hb
    exact I1.fpOk (Nat.le_refl _) I1.fresh
  exact wpAny_pyIter_list p.isList ⟨_, _, _, _, H, rfl, I1.kept (t' := s1.toks) (fun b o e => Heap.get?_push_of_some _ e), turn_list a _, ⟨_, Heap.get?_push_size _ rfl, rfl, rfl⟩, fp, q⟩
theorem Itt_go {pins : List (Addr × Obj)} {σ : L2.St} {H : Hp} {s1 : Shared} {a : Addr} {R : It → Hp → Prop} (I1 : L2.Inv X pins σ H s1) (hs : ∃ xs, SqT X.K H a xs) (q : R (Itt X.K a) H) : wpAny (model X.prog X.w) X.A (pyIter (.ref a)) (PIE X pins σ tg R) X.xe s1 := by
  obtain ⟨xs, hq⟩ := hs
  obtain ⟨its, rv, p, hz⟩ := I1.tuple hq
  have fp : ∀ b ∈ [s1.heap.objs.size], FpOk X pins H b := fun b hb => by
    cases List.mem_singleton.mp hb
    exact I1.fpOk (Nat.le_refl _) I1.fresh
  exact wpAny_pyIter_tuple (show s1.heap.IsTuple a its.toArray from p) ⟨_, _, _, _, H, rfl, I1.kept (t' := s1.toks) (fun b o e => Heap.get?_push_of_some _ e), turn_tuple a _, ⟨_, Heap.get?_push_size _ rfl, rfl, rfl⟩, fp, q⟩
/-- a list or a tuple, whichever it is -/
theorem di_seq (h : DE X b O E e w) : DI X b O E tg e (iSeq w) := by
  have key : ∀ σ H R, rdI X.K X.mg b O E (iSeq w) σ H R → rdE X.K X.mg b O E w σ H fun x H1 => (∃ a, x = .ref a ∧ (∃ xs, SqL X.K H1 a xs) ∧ R (Itl X.K a) H1) ∨ (∃ a, x = .ref a ∧ (∃ xs, SqT X.K H1 a xs) ∧ R (Itt X.K a) H1) := by
    rintro σ H R ⟨Z, Δ, S, F, P, Rx, k, hw, hx, hq⟩
    refine ⟨Z, Δ, S, F, _, Rx, k, hw, hx, fun v d S1 F1 H1 k1 e1 p1 r1 ⟨xs, hd, hp⟩ => ?_⟩
    cases r1 with
    | lst h r => cases hd; exact .inl ⟨_, rfl, ⟨_, .inl (.inl (k1.fH _ _ h))⟩, hq _ _ S1 F1 H1 k1 e1 p1 (gives_lst (.inl (.inl h)) r) hp⟩
    | tup h r => cases hd; exact .inr ⟨_, rfl, ⟨_, (.inl (.inl (k1.fH _ _ h)))⟩, hq _ _ S1 F1 H1 k1 e1 p1 (gives_tup (.inl (.inl h)) r) hp⟩
    | scr h => cases hd; exact .inl ⟨_, rfl, ⟨_, k1.fH.sl h⟩, hq _ _ S1 F1 H1 k1 e1 p1 (gives_lst h Reps.ints) hp⟩
    | _ => cases hd
  refine ⟨fun pins s σ H R I q => ?_⟩
  refine thn (h.run pins s σ H _ I (key σ H R q)) fun v s1 ⟨x, H1, I1, r1, q1⟩ => ?_
  rcases q1 with ⟨a, rfl, hs, q1⟩ | ⟨a, rfl, hs, q1⟩
  · cases r1
    exact Itl_go I1 hs q1
  · cases r1
    exact Itt_go I1 hs q1
theorem di_rng1 {p : Pos} (hg : Gl X "range") (hm : X.mg "range" = none) (ha : DE X b O E a w) (hs : starEach [a] X.env = [(false, eval a X.env)] := by rfl) : DI X b O E tg (.Call (.Name "range" p) [a] [] pos) (iRng1 w) :=
  pi_to (pi_range1 hg hm (pa_cons ha pa_nil hs) hs) fun σ H R ⟨Z, Δ, S, F, P, Rx, k, hw, hx, hq⟩ => ⟨Z, Δ, S, F, _, Rx, k, hw, hx, fun v d S1 F1 H1 k1 e1 p1 r1 ⟨j, hd, q1, q2, hp⟩ => by
    subst hd
    cases r1
    exact ⟨j, rfl, q1, q2, hq _ _ S1 F1 H1 k1 e1 p1 gives_rng hp⟩⟩
theorem di_rng2 {p : Pos} (hg : Gl X "range") (hm : X.mg "range" = none) (ha : DE X b O E a wa) (hc : DE X b O E c wb) (hs : starEach [a, c] X.env = [(false, eval a X.env), (false, eval c X.env)] := by rfl) (hs2 : starEach [c] X.env = [(false, eval c X.env)] := by rfl) :
    DI X b O E tg (.Call (.Name "range" p) [a, c] [] pos) (iRng2 wa wb) :=
  pi_to (pi_range2 hg hm (pa_cons ha (pa_cons hc pa_nil hs2) (by rw [hs, hs2])) hs hs2) fun σ H R ⟨Z, Δ, S, F, P, Rx, k, hw, hx, hq⟩ => ⟨Z, Δ, S, F, _, Rx, k, hw, hx, fun v d S1 F1 H1 k1 e1 p1 r1 h1 => ⟨Z, Δ, S1, F1, _, Rx, k1, h1, hx.mono e1, fun u d2 S2 F2 H2 k2 e2 p2 r2 ⟨i, j, hd1, hd2, hb, hp⟩ => by
    subst hd1 hd2
    cases r1
    cases r2
    exact ⟨i, j, rfl, hb, hq _ _ S2 F2 H2 k2 (e1.trans e2) (pure2 p1 p2) gives_rng hp⟩⟩⟩
theorem enumD_get : ∀ (xs : List D) (n i : Nat), (enumD n xs)[i]? = (xs[i]?).map fun x => .tup [.int ((n + i : Nat) : Int), x]
  | [], _, _ => by simp [enumD]
  | x :: xs, n, 0 => by simp [enumD]
  | x :: xs, n, i + 1 => by
    have h := enumD_get xs (n + 1) i
    have e : n + 1 + i = n + (i + 1) := by omega
    rw [e] at h
    simpa [enumD] using h
theorem enumD_len : ∀ (xs : List D) (n : Nat), (enumD n xs).length = xs.length
  | [], _ => rfl
  | x :: xs, n => by simp [enumD, enumD_len xs]
theorem gives_enum {F : Hp} {p : Addr} {vs : List V} {ds : List D} (h : SqL K F p vs) (r : Reps K F vs ds) : Gives K F (Ite K p) (enumD 0 ds) := by
  refine ⟨⟨fun H => SqL K H p vs, YPair (fun i => some (.int (i : Nat))) (fun i => vs[i]?), ?_, fun H e => e.sl h, ?_⟩⟩
  · rw [enumD_len, ← r.len]; exact walk_enum
  · rintro i F2 H x H' e1 e2 ⟨T, x1, x2, rfl, hT, rfl, h1, h2⟩
    cases h1
    obtain ⟨d, h3, h4⟩ := r.getV h2
    have al := Al.new (o := .tup [.int (i : Nat), x2]) e2 hT
    refine ⟨_, _, ?_, al, .tup upd_same (.cons (.int (i : Nat)) (.cons (h4.mono (e1.trans al.f)) .nil))⟩
    rw [enumD_get, h3, Nat.zero_add]
    rfl
end
end DL

/-! DR7: enumerate over lists and tuples; for, while, comprehensions. -/
namespace DL
open PySem PySem.Spec PyProof.Rows L2

theorem meets_enum1 {v : Value} {o : Obj} {H : Heap → Prop} (B : Begins v o H) : Meets (Builtin.«enumerate.__new__» ⟨[.type "enumerate", v], []⟩) (fun _ R s => H s.heap ∧
    R (.ok (.ret (.ref (s.heap.push o).objs.size))) { s with heap := (s.heap.push o).push { cls := .type "enumerate", data := .fields #[.none, .bool false, .ref s.heap.objs.size, rawInt 0, .none, .none] } }) := by
  refine .of_wp fun prog w A R s h => ?_
  obtain ⟨hp, g, d, tk, os⟩ := s
  obtain ⟨h1, h⟩ := h
  have hsub := sub_enumerate
  have q1 : ∀ {A' : Around} {E : Value → Shared → Prop} {Q : Value → Shared → Prop}, Q (.ref hp.objs.size) ⟨hp.push o, g, d, tk, os⟩ → wpAny (model prog w) A' (pyIter v) Q E ⟨hp, g, d, tk, os⟩ := fun q => B.iter prog w _ _ ⟨hp, g, d, tk, os⟩ _ h1 q
  wp_walk using q1
  refine wpAny_stack_any fun st => wpAny_pure ?_
  split
  · rename_i c _ _ _ _ _
    cases (c == Value.type "enumerate") <;> (wp_walk using q1; exact ⟨_, rfl, h⟩)
  · wp_walk using q1
    exact ⟨_, rfl, h⟩
theorem call_enum1 {prog : Program} {w : World} {A : Around} {E : Value → Shared → Prop} {s : Shared} {v : Value} {o : Obj} {H : Heap → Prop} {Q : Value → Shared → Prop} (B : Begins v o H) (h1 : H s.heap)
    (h : ∀ h', IsEnum h' (s.heap.objs.size + 1) s.heap.objs.size 0 .none → h'.get? s.heap.objs.size = some o → (∀ b o, s.heap.get? b = some o → h'.get? b = some o) → Q (.ref (s.heap.objs.size + 1)) { s with heap := h' }) :
    wpAny (model prog w) A (PySem.call (.type "enumerate") [v]) Q E s := by
  refine callType_new F.called_enumerate (by decide) (F.typeCall_enumerate_1 _) (F.newCall_enumerate_1 _) (fun obj => F.args_object_init_2 obj _) F.entry_enumerate_new (meets_enum1 B) ⟨h1, ?_⟩
  have hz : (s.heap.push o).objs.size = s.heap.objs.size + 1 := Heap.size_push ..
  show _ ∧ _
  rw [hz]
  have he : IsEnum ((s.heap.push o).push { cls := .type "enumerate", data := .fields #[.none, .bool false, .ref s.heap.objs.size, rawInt 0, .none, .none] }) (s.heap.objs.size + 1) s.heap.objs.size 0 .none := by
    have e := Heap.get?_push_size (s.heap.push o) (o := { cls := .type "enumerate", data := .fields #[.none, .bool false, .ref s.heap.objs.size, rawInt 0, .none, .none] }) rfl
    rw [hz] at e
    exact e
  exact ⟨⟨_, he, rfl⟩, h _ he (Heap.get?_push_of_some _ (Heap.get?_push_size _ B.free)) fun b o x => Heap.get?_push_of_some _ (Heap.get?_push_of_some _ x)⟩
/-- enumerate over a tuple, turn by turn -/
def IteT (K : PySem.W.Frag) (a : Addr) : It :=
  ⟨fun i H => ∃ (xs : List V) (x : V), SqT K H a xs ∧ xs[i]? = some x, fun i H v H' => ∃ T x, v = .ref T ∧ H T = none ∧ H' = L2.upd H T (.tup [.int (i : Nat), x]) ∧ ∀ xs, SqT K H a xs → xs[i]? = some x, fun i H => ∃ xs : List V, SqT K H a xs ∧ xs.length = i⟩
theorem turn_enumT {P : Program} {w : World} {K : PySem.W.Frag} {elts : List Expr} {kk : Nat} {tpos : Pos} (a e it : Addr) (hae : a ≠ it) (hee : a ≠ e) : Turn P w K (.Tuple elts kk tpos) (IteT K a) [e, it] e (fun i h => (∃ old, IsEnum h e it ((i : Nat) : Int) old) ∧ h.IsTupleIter it a i ∧ e ≠ it) where
  mem := by simp
  obj := fun i h st b hb => by
    obtain ⟨⟨old, he⟩, ⟨o, ho, hc, hd⟩, _⟩ := st
    rcases (show b = e ∨ b = it by simpa using hb) with rfl | rfl
    · exact ⟨_, he, fun v q => nomatch q⟩
    · exact ⟨o, ho, fun v q => by rw [hd] at q; cases q⟩
  keep := fun i h h' st k => let ⟨⟨old, he⟩, hi, hne⟩ := st; ⟨⟨old, k e (by simp) _ he⟩, hi.at fun o q => k it (by simp) o q, hne⟩
  item := by
    intro X hP hw hK hc i pins s σ H E I hf st hg
    subst hP hw hK
    obtain ⟨⟨old, he⟩, hit, hne⟩ := st
    obtain ⟨xs, x, hq, hx⟩ := hg
    obtain ⟨its, rv, p, hz⟩ := I.tuple hq
    obtain ⟨u, hu, ru⟩ := rv.get hx
    have hel : e < s.heap.objs.size := Heap.lt_size he
    have hil : it < s.heap.objs.size := by obtain ⟨_, q, _⟩ := hit; exact Heap.lt_size q
    have Dr := Draws.tuple (prog := X.prog) (w := X.w) (A := X.A.in1) (I.ok.hd hc) it a hae its.toArray
    have hn : i < its.toArray.size := by rw [List.size_toArray, ← rv.length]; exact (List.getElem?_eq_some_iff.mp hx).1
    have hef : e ∉ [it, a] := by
      intro z
      rcases (show e = it ∨ e = a by simpa using z) with z | z
      · exact hne z
      · exact hee z.symm
    refine wpAny_pyNext_enum_itemD Dr he ⟨hit, p⟩ hn hne hef fun y h' tk hy ho hst' hT hsz hk => ?_
    have ey : y = u := by
      rw [show its.toArray[i]? = some u by simpa using hu] at hy
      exact (Option.some.inj hy).symm
    subst ey
    refine ⟨_, rfl, wpAny_letOwnedTupleGo_enum (s := { s with heap := h', toks := tk + 1 }) ho fun h'' he' sb => ?_⟩
    have hT2 : h''.get? s.heap.objs.size = some { cls := .type "tuple", data := .seq #[.int i tk, y] } := (sb.2 _ (Nat.ne_of_gt hel)).trans hT
    have new : ObjOk X.prog X.w (L2.upd H s.heap.objs.size (.tup [.int (i : Nat), x])) h'' s.heap.objs.size (.tup [.int (i : Nat), x]) := ⟨by show 2 ≤ sizeLine; decide, [.int i tk, y], .cons ⟨_, rfl⟩ (.cons ru .nil), ⟨_, hT2, rfl, _, rfl⟩⟩
    have I1 : L2.Inv X pins σ (L2.upd H s.heap.objs.size (.tup [.int (i : Nat), x])) { s with heap := h'', toks := tk + 1 } :=
      I.turnedNew (ch := [e, it]) (fun b ob hb q => (sb.2 b (fun z => hb (by simp [z]))).trans (hk b ob (fun z => hb (by simp [z])) (fun z => hb (by simp [z])) q)) hf (Nat.le_refl _) new
    refine ⟨.ref s.heap.objs.size, _, I1, rfl, ⟨_, x, rfl, I.fresh, rfl, fun ys hy => by rw [I.tuple_inj hy hq]; exact hx⟩, ⟨⟨y, ?_⟩, hst'.1.at fun o q => (sb.2 it (Ne.symm hne)).trans q, hne⟩, fun b hb => ?_⟩
    · have e1 : ((i + 1 : Nat) : Int) = (i : Int) + 1 := by omega
      rw [e1]; exact he'
    · have hb' : b < s.heap.objs.size := by
        rcases (show b = e ∨ b = it by simpa using hb) with rfl | rfl
        · exact hel
        · exact hil
      rw [upd_ne (Nat.ne_of_lt hb')]
      exact (hf b hb).1
  done := by
    intro X hP hw hK hc i pins s σ H E I hf st hg
    subst hP hw hK
    obtain ⟨⟨old, he⟩, hit, hne⟩ := st
    obtain ⟨xs, hq, hx⟩ := hg
    obtain ⟨its, rv, p, hz⟩ := I.tuple hq
    obtain ⟨f0, f1, f2, f3, f4, f5⟩ := hf it (by simp)
    have Dr := Draws.tuple (prog := X.prog) (w := X.w) (A := X.A.in1) (I.ok.hd hc) it a hae its.toArray
    have hn : i = its.toArray.size := by rw [List.size_toArray, ← rv.length]; exact hx.symm
    rw [hn] at hit he
    exact wpAny_pyNext_enum_endD Dr he ⟨hit, p⟩ fun h' eb => ⟨rfl, I.turned (t' := s.toks) (fun b o hb q => eb b o hb q) f0 f1 f3 f4 f5⟩
  self := fun A i s Q E st h => let ⟨⟨_, he⟩, _⟩ := st; wpAny_pyIter_enum he h

theorem walk_enumT {K : PySem.W.Frag} {a : Addr} {xs : List V} : Walk (IteT K a) xs.length (fun H => SqT K H a xs) (YPair (fun i => some (.int (i : Nat))) (fun i => xs[i]?)) :=
  ⟨fun i H hi h => ⟨xs, xs[i], h, by simp [hi]⟩, fun H h => ⟨xs, h, rfl⟩, fun i H x H' hi h ⟨T, y, e1, e2, e3, e4⟩ => ⟨T, .int (i : Nat), y, e1, e2, e3, rfl, e4 xs h⟩⟩
section
variable {X : Cx} {b : Bool} {O On O1 L : List Nat} {E : XK} {own : Bool} {K : PySem.W.Frag} {e tg a c : Expr} {w wa wb : WE} {pos : Pos}
theorem gives_enumT {F : Hp} {p : Addr} {vs : List V} {ds : List D} (h : SqT K F p vs) (r : Reps K F vs ds) : Gives K F (IteT K p) (enumD 0 ds) := by
  refine ⟨⟨fun H => SqT K H p vs, YPair (fun i => some (.int (i : Nat))) (fun i => vs[i]?), ?_, fun H e => e.st h, ?_⟩⟩
  · rw [enumD_len, ← r.len]; exact walk_enumT
  · rintro i F2 H x H' e1 e2 ⟨T, x1, x2, rfl, hT, rfl, h1, h2⟩
    cases h1
    obtain ⟨d, h3, h4⟩ := r.getV h2
    have al := Al.new (o := .tup [.int (i : Nat), x2]) e2 hT
    refine ⟨_, _, ?_, al, .tup upd_same (.cons (.int (i : Nat)) (.cons (h4.mono (e1.trans al.f)) .nil))⟩
    rw [enumD_get, h3, Nat.zero_add]
    rfl
def iEnumA (K : PySem.W.Frag) (ta : TA) : TI := fun σ H R => ta σ H fun vs H1 => ∃ a xs, vs = [.ref a] ∧ ((SqL K H1 a xs ∧ R (Ite K a) H1) ∨ (SqT K H1 a xs ∧ R (IteT K a) H1))
theorem pi_enumA {ta : TA} {p tpos : Pos} {elts : List Expr} {kk : Nat} (hg : Gl X "enumerate") (hm : X.mg "enumerate" = none) (ha : PA X [a] ta) (hs : starEach [a] X.env = [(false, eval a X.env)] := by rfl) :
    PI X (.Tuple elts kk tpos) (.Call (.Name "enumerate" p) [a] [] pos) (iEnumA X.K ta) := by
  refine ⟨fun pins s σ H R I h => Call_ (ld_blt I hg hm boot_enumerate (callWith_type1 (thn (ha.run pos pins s σ H _ I h) ?_) hs rfl))⟩
  rintro us s1 ⟨vs, H1, I1, r1, l, xs, rfl, q⟩
  cases r1 with
  | cons r rr =>
    cases rr
    cases r
    have two : ∀ b, b ∈ [s1.heap.objs.size + 1, s1.heap.objs.size] → FpOk X pins H1 b := fun b hb => by
      have hle : s1.heap.objs.size ≤ b := by
        rcases (show b = s1.heap.objs.size + 1 ∨ b = s1.heap.objs.size by simpa using hb) with z | z
        · rw [z]; exact Nat.le_succ _
        · exact Nat.le_of_eq z.symm
      exact I1.fpOk hle (I1.hok.fresh hle)
    rcases q with ⟨hq, q⟩ | ⟨hq, q⟩
    · obtain ⟨its, rv, p', hz⟩ := I1.list hq
      exact call_enumerate_list p'.isList fun h' he hit hsz hk => wpAny_pyIter_enum he ⟨_, _, _, _, H1, rfl, I1.kept (t' := s1.toks) hk, turn_enum l (s1.heap.objs.size + 1) s1.heap.objs.size, ⟨⟨.none, he⟩, hit, Nat.succ_ne_self _⟩, two, q⟩
    · obtain ⟨its, rv, p', hz⟩ := I1.tuple hq
      have hl : l < s1.heap.objs.size := p'.lt
      exact call_enum1 (begins_tuple l its.toArray) p' fun h' he hit hk => wpAny_pyIter_enum he ⟨_, _, _, _, H1, rfl, I1.kept (t' := s1.toks) hk, turn_enumT l (s1.heap.objs.size + 1) s1.heap.objs.size (Nat.ne_of_lt hl) (Nat.ne_of_lt (Nat.lt_succ_of_lt hl)), ⟨⟨.none, he⟩, ⟨_, hit, rfl, rfl⟩, Nat.succ_ne_self _⟩, two, q⟩
theorem di_enum {p tpos : Pos} {elts : List Expr} {kk : Nat} (hg : Gl X "enumerate") (hm : X.mg "enumerate" = none) (ha : DE X b O E a w) (hs : starEach [a] X.env = [(false, eval a X.env)] := by rfl) :
    DI X b O E (.Tuple elts kk tpos) (.Call (.Name "enumerate" p) [a] [] pos) (iEnum w) :=
  pi_to (pi_enumA hg hm (pa_cons ha pa_nil hs) hs) fun σ H R ⟨Z, Δ, S, F, P, Rx, k, hw, hx, hq⟩ => ⟨Z, Δ, S, F, _, Rx, k, hw, hx, fun v d S1 F1 H1 k1 e1 p1 r1 ⟨xs, hd, hp⟩ => by
    cases r1 with
    | lst h r => cases hd; exact ⟨_, _, rfl, .inl ⟨.inl (.inl (k1.fH _ _ h)), hq _ _ S1 F1 H1 k1 e1 p1 (gives_enum (.inl (.inl h)) r) hp⟩⟩
    | tup h r => cases hd; exact ⟨_, _, rfl, .inr ⟨(.inl (.inl (k1.fH _ _ h))), hq _ _ S1 F1 H1 k1 e1 p1 (gives_enumT (.inl (.inl h)) r) hp⟩⟩
    | scr h => cases hd; exact ⟨_, _, rfl, .inl ⟨k1.fH.sl h, hq _ _ S1 F1 H1 k1 e1 p1 (gives_enum h Reps.ints) hp⟩⟩
    | _ => cases hd⟩

/-! ### for, while -/
variable {st : Stmt} {rest body : List Stmt} {g h : WS} {iter : Expr} {t : WT} {gt : WG} {wi : WI}
theorem ds_for (hp : PassesOwn (model X.prog X.w) X.A X.env X.xe) (hc : X.calm = true) (hi : DI X b O E tg iter wi) (hg : DG X O tg gt) (hb : DSs X O O O E own body g) (hs : ∀ x, foldedSetIterable iter X.env x = pure x := by intro _; rfl) :
    DS X O O L E own (.For tg iter body [] pos) (gFor wi gt g) :=
  ps_to (ps_for hp hc hi hg hb hs) fun D σ H ⟨Z, Δ, S, F, B, R, k, hw, er⟩ => ⟨Z, Δ, S, F, _, R, k, hw, er.ex, fun J items S1 F1 H1 k1 e1 _ gv h1 => by
    obtain ⟨G, Y, W, hG, hY⟩ := gv.w
    refine for_it W (fun i σ' H' => ∃ Δ' S' F', Wd X.K O Z σ' Δ' S' F' H' ∧ Ex F1 F' ∧ forL gt g R B (items.drop i) Δ' S') ⟨Δ, S1, F1, k1, Ex.refl _, h1⟩ (fun i σ' H' _ ⟨Δ', S', F', k', e', _⟩ => hG H' (e'.trans k'.fH)) ?_ ?_
    · rintro i x σ' H' H2 hi ⟨Δ', S', F', k', e', hf⟩ hy
      obtain ⟨d, F2, hd, al, r2⟩ := hY i F' H' x H2 e' k'.fH hy
      have hdrop : items.drop i = d :: items.drop (i + 1) := by
        obtain ⟨hlt, rfl⟩ := List.getElem?_eq_some_iff.mp hd
        exact List.drop_eq_getElem_cons hlt
      rw [hdrop] at hf
      have e2 := e'.trans al.f
      refine ⟨Z, Δ', S', F2, d, _, k'.al al, r2, hf, fun σ3 Δ3 k3 h3 => ⟨Z, Δ3, S', F2, _, R, k3, h3, ⟨fun σ4 Δ4 S4 F4 H4 k4 e4 q => ⟨Δ4, S4, F4, k4, e2.trans e4, q⟩, fun v d S4 F4 H4 k4 e4 r q => er.rt v d S4 F4 H4 k4 ((e1.trans e2).trans e4) r q,
        fun σ4 Δ4 S4 F4 H4 k4 e4 q => er.nx σ4 Δ4 S4 F4 H4 k4 ((e1.trans e2).trans e4) q, fun σ4 Δ4 S4 F4 H4 k4 e4 q => ⟨Δ4, S4, F4, k4, e2.trans e4, q⟩, er.ex.mono (e1.trans e2)⟩⟩⟩
    · rintro σ' H' ⟨Δ', S', F', k', e', hf⟩
      rw [List.drop_length] at hf
      exact er.nx σ' Δ' S' F' H' k' (e1.trans e') hf⟩
theorem ds_while {c : Expr} (hp : PassesOwn (model X.prog X.w) X.A X.env X.xe) (hc : DT X b O E c t) (hb : DSs X O O O E own body g) : DS X O O L E own (.While c body [] pos) (gWhile t g) :=
  ps_to (ps_while hp hc hb) fun D σ H ⟨Z, Δ, S, F, B, R, k, ⟨I, ⟨m0, h0⟩, hI⟩, er⟩ => by
    refine ⟨fun m σ' H' => ∃ Δ' S' F', Wd X.K O Z σ' Δ' S' F' H' ∧ Ex F F' ∧ I m Δ' S', ⟨m0, Δ, S, F, k, Ex.refl _, h0⟩, ?_⟩
    rintro m σ1 H1 ⟨Δ1, S1, F1, k1, e1, h1⟩
    refine ⟨Z, Δ1, S1, F1, _, R, k1, hI m Δ1 S1 h1, er.ex.mono e1, fun q S2 F2 H2 k2 e2 _ h2 => ?_⟩
    cases q with
    | true =>
      refine ⟨fun σ' H' => ∃ m', m' < m ∧ ∃ Δ' S' F', Wd X.K O Z σ' Δ' S' F' H' ∧ Ex F F' ∧ I m' Δ' S', fun σ' H' q => q, Z, Δ1, S2, F2, _, R, k2, h2, ?_⟩
      exact ⟨fun σ4 Δ4 S4 F4 H4 k4 e4 ⟨m', hm, q⟩ => ⟨m', hm, Δ4, S4, F4, k4, (e1.trans e2).trans e4, q⟩, fun v d S4 F4 H4 k4 e4 r q => er.rt v d S4 F4 H4 k4 ((e1.trans e2).trans e4) r q,
        fun σ4 Δ4 S4 F4 H4 k4 e4 q => er.nx σ4 Δ4 S4 F4 H4 k4 ((e1.trans e2).trans e4) q, fun σ4 Δ4 S4 F4 H4 k4 e4 ⟨m', hm, q⟩ => ⟨m', hm, Δ4, S4, F4, k4, (e1.trans e2).trans e4, q⟩, er.ex.mono (e1.trans e2)⟩
    | false => exact er.nx σ1 Δ1 S2 F2 H2 k2 (e1.trans e2) h2
end
end DL

/-! DR8: comprehensions. -/
namespace DL
open PySem PySem.Spec PyProof.Rows L2

/-- slots and names agree but on own -/
def Kept (own : List Nat) (σ : L2.St) (Δ : Env) (σ' : L2.St) (Δ' : Env) : Prop := σ'.length = σ.length ∧ Δ'.length = Δ.length ∧ ∀ i, i ∉ own → σ'[i]? = σ[i]? ∧ Δ'[i]? = Δ[i]?
theorem Kept.refl {own : List Nat} {σ : L2.St} {Δ : Env} : Kept own σ Δ σ Δ := ⟨rfl, rfl, fun _ _ => ⟨rfl, rfl⟩⟩
theorem Kept.set {own : List Nat} {σ : L2.St} {Δ : Env} {i : Nat} {v : Option V} {d : Option D} (h : i ∈ own) : Kept own σ Δ (σ.set i v) (Δ.set i d) :=
  ⟨List.length_set, List.length_set, fun j hj => by
    have z : i ≠ j := fun e => hj (e ▸ h)
    exact ⟨List.getElem?_set_ne z, List.getElem?_set_ne z⟩⟩
theorem Kept.trans {own : List Nat} {σ σ1 σ2 : L2.St} {Δ Δ1 Δ2 : Env} (a : Kept own σ Δ σ1 Δ1) (b : Kept own σ1 Δ1 σ2 Δ2) : Kept own σ Δ σ2 Δ2 :=
  ⟨b.1.trans a.1, b.2.1.trans a.2.1, fun i h => ⟨(b.2.2 i h).1.trans (a.2.2 i h).1, (b.2.2 i h).2.trans (a.2.2 i h).2⟩⟩
theorem wipe_in {σ : L2.St} {i : Nat} : ∀ {vs : List Nat}, i ∈ vs → (wipe σ vs)[i]? = if i < σ.length then some none else none
  | v :: vs, h => by
    unfold wipe
    by_cases e : v = i
    · subst e
      rw [List.getElem?_set]
      simp [wipe_length]
    · rw [List.getElem?_set_ne e]
      rcases List.mem_cons.mp h with h | h
      · exact absurd h.symm e
      · exact wipe_in h
theorem wipe_kept {own : List Nat} {σ σ' : L2.St} (hl : σ'.length = σ.length) (h : ∀ i, i ∉ own → σ'[i]? = σ[i]?) : wipe σ' own = wipe σ own := by
  apply List.ext_getElem?
  intro i
  by_cases hi : i ∈ own
  · rw [wipe_in hi, wipe_in hi, hl]
  · rw [wipe_out hi, wipe_out hi, h i hi]
theorem wipe_wipe {own : List Nat} {σ : L2.St} : wipe (wipe σ own) own = wipe σ own := wipe_kept (wipe_length _ _) fun i hi => wipe_out hi
theorem killL_out {is : List Nat} {Δ : Env} {i : Nat} : i ∉ is → (killL is Δ)[i]? = Δ[i]? := by
  unfold killL
  induction is generalizing Δ with
  | nil => intro _; rfl
  | cons j is ih =>
    intro h
    rw [List.foldl_cons, ih fun z => h (List.mem_cons_of_mem _ z)]
    have z : j ≠ i := fun z => h (z ▸ List.mem_cons_self)
    exact List.getElem?_set_ne z
section
variable {K : PySem.W.Frag} {O own : List Nat} {Z Z' : Hp} {σ σ' : L2.St} {Δ Δ' : Env} {S S' : Sto} {F F' H H' : Hp}
theorem Wd.toZ (k : Wd K O Z σ Δ S F H) {p : Addr} {o : HO} (hp : H p = some o) (hF : F p = none) (hZ : Z p = none) (hS : S p = none) (hn : ∀ (j : Nat) (e : D), j ∈ O → Δ[j]? = some (some e) → σ[j]? ≠ some (some (.ref p))) : Wd K O (L2.upd Z p o) σ Δ S F H where
  fH := k.fH
  zH := fun b u q => by
    by_cases z : b = p
    · subst z; rw [upd_same] at q; cases q; exact hp
    · rw [upd_ne z] at q; exact k.zH b u q
  fz := fun b u q => by
    have z : b ≠ p := fun z => by rw [z, hF] at q; cases q
    rw [upd_ne z]; exact k.fz b u q
  st := fun a ob q => by
    obtain ⟨h1, h2, h3⟩ := k.st a ob q
    have z : a ≠ p := fun z => by rw [z, hS] at q; cases q
    exact ⟨h1, (upd_ne z).trans h2, h3⟩
  fr := k.fr
  ow := fun i d ni q => by
    obtain ⟨r, u, a1, a2, a3, a4, a5, a6⟩ := k.ow i d ni q
    have z : r ≠ p := fun z => hn i d ni q (z ▸ a1)
    exact ⟨r, u, a1, a2, a3, a4, (upd_ne z).trans a5, a6⟩
  sep := k.sep
  len := k.len
theorem Wd.unZ {p : Addr} {o : HO} (k : Wd K O (L2.upd Z p o) σ Δ S F H) (hZ : Z p = none) : Wd K O Z σ Δ S F H := by
  have e : Ex Z (L2.upd Z p o) := Ex.new hZ
  exact ⟨k.fH, e.trans k.zH, fun b u q => e.none (k.fz b u q), fun a ob q => ⟨(k.st a ob q).1, e.none (k.st a ob q).2.1, (k.st a ob q).2.2⟩, k.fr, fun i d ni q => by
    obtain ⟨r, u, a1, a2, a3, a4, a5, a6⟩ := k.ow i d ni q
    exact ⟨r, u, a1, a2, a3, a4, e.none a5, a6⟩, k.sep, k.len⟩
/-- the frame's own cell is changed -/
theorem Wd.setZ {p : Addr} {o o' : HO} (k : Wd K O (L2.upd Z p o) σ Δ S F H) : Wd K O (L2.upd Z p o') σ Δ S F (L2.upd H p o') := by
  have hz : (L2.upd Z p o) p = some o := upd_same
  have hF : F p = none := by
    cases q : F p with
    | none => rfl
    | some u => rw [k.fz p u q] at hz; cases hz
  have hS : S p = none := by
    cases q : S p with
    | none => rfl
    | some u => rw [(k.st p u q).2.1] at hz; cases hz
  refine ⟨k.fH.mut hF, fun b u q => ?_, fun b u q => ?_, fun a ob q => ?_, k.fr, fun i d ni q => ?_, k.sep, k.len⟩
  · by_cases z : b = p
    · subst z; rw [upd_same] at q ⊢; exact q
    · rw [upd_ne z] at q ⊢; exact k.zH b u (by rw [upd_ne z]; exact q)
  · have z : b ≠ p := fun z => by rw [z, hF] at q; cases q
    have y := k.fz b u q
    rw [upd_ne z] at y ⊢; exact y
  · obtain ⟨h1, h2, h3⟩ := k.st a ob q
    have z : a ≠ p := fun z => by rw [z, hS] at q; cases q
    rw [upd_ne z] at h2
    exact ⟨h1, (upd_ne z).trans h2, h3.mono (Ex.refl _) (upd_ne z)⟩
  · obtain ⟨r, u, a1, a2, a3, a4, a5, a6⟩ := k.ow i d ni q
    have z : r ≠ p := fun z => by rw [z, hz] at a5; cases a5
    rw [upd_ne z] at a5
    exact ⟨r, u, a1, (upd_ne z).trans a2, a3, a4, (upd_ne z).trans a5, a6⟩
/-- the block's names forgotten -/
theorem Wd.wipe (k : Wd K O Z σ Δ S F H) : Wd K O Z (L2.wipe σ own) (killL own Δ) S F H := k.weak (by rw [wipe_length, killL_len, k.len]) fun i d q => by
  obtain ⟨h1, h2⟩ := killL_some own Δ q
  exact ⟨h1, wipe_out h2⟩
/-- back from the block -/
theorem Wd.unwipe (k : Wd K O Z σ Δ S F H) (c : Wd K O Z' σ' Δ' S' F' H') (e : Ex F F') (hl : σ'.length = σ.length ∧ Δ'.length = Δ.length) (ho : ∀ i, i ∈ O → σ'[i]? = σ[i]? ∧ Δ'[i]? = Δ[i]?) : Wd K O Z' σ Δ S' F' H' where
  fH := c.fH
  zH := c.zH
  fz := c.fz
  st := c.st
  fr := fun i d ni q => by
    obtain ⟨v, h1, h2⟩ := k.fr i d ni q
    exact ⟨v, h1, h2.mono e⟩
  ow := fun i d ni q => by
    obtain ⟨h1, h2⟩ := ho i ni
    rw [← h1]
    exact c.ow i d ni (h2.trans q)
  sep := fun i j d e p hi hj hn q1 q2 q3 => by
    rw [← (ho i hi).1] at q3
    rw [← (ho j hj).1]
    exact c.sep i j d e p hi hj hn ((ho i hi).2.trans q1) ((ho j hj).2.trans q2) q3
  len := k.len
end
section
variable (K : PySem.W.Frag)
/-- a block's target: only own is set -/
def rdGc (O own : List Nat) (g : WG) : TG := fun v σ H Q => ∃ Z Δ S F d Kn, Wd K O Z σ Δ S F H ∧ Rep K F v d ∧ g d Δ Kn ∧ ∀ σ' Δ', Wd K O Z σ' Δ' S F H → Kept own σ Δ σ' Δ' → Kn Δ' → Q σ' H
def rdGcs (O own : List Nat) (g : WGs) : TGs := fun vs σ H Q => ∃ Z Δ S F ds Kn, Wd K O Z σ Δ S F H ∧ Reps K F vs ds ∧ g ds Δ Kn ∧ ∀ σ' Δ', Wd K O Z σ' Δ' S F H → Kept own σ Δ σ' Δ' → Kn Δ' → Q σ' H
end
section
variable {X : Cx} {b : Bool} {O own : List Nat} {E E1 : XK} {e tg iter elt : Expr} {w we : WE} {t : WT} {wi : WI} {gt : WG} {pos : Pos}
abbrev DGc (X : Cx) (O own : List Nat) (t : Expr) (g : WG) : Prop := PG X t (rdGc X.K O own g)
abbrev DGcs (X : Cx) (O own : List Nat) (t : List Expr) (g : WGs) : Prop := PGs X t (rdGcs X.K O own g)
abbrev DTs (X : Cx) (b : Bool) (O : List Nat) (E : XK) (ifs : List Expr) (t : WT) : Prop := PTs X ifs (rdT X.K X.mg b O E t)
theorem dgc_name {i : Nat} {x : Str} (hi : i ∉ O) (ho : i ∈ own) (hp : PG X (.Name x pos) (gName i)) : DGc X O own (.Name x pos) (gtName i) :=
  pg_to hp fun v σ H Q ⟨Z, Δ, S, F, d, Kn, k, r, hg, hq⟩ => hq _ _ (k.set hi r) (Kept.set ho) hg
theorem dgcs_nil : DGcs X O own [] gtNil := pgs_to pgs_nil fun v σ H Q ⟨Z, Δ, S, F, ds, Kn, k, r, ⟨hd, hg⟩, hq⟩ => by
  subst hd
  cases r
  exact ⟨rfl, hq _ _ k Kept.refl hg⟩
theorem dgcs_cons {a : Expr} {as : List Expr} {g : WG} {gs : WGs} (h1 : DGc X O own a g) (h2 : DGcs X O own as gs) (hs : (assignEach (a :: as) X.env).map (·.2) = assign a X.env :: (assignEach as X.env).map (·.2) := by rfl) : DGcs X O own (a :: as) (gtCons g gs) :=
  pgs_to (pgs_cons h1 h2 hs) fun vs σ H Q ⟨Z, Δ, S, F, ds, Kn, k, r, ⟨d, t, hd, hg⟩, hq⟩ => by
    subst hd
    cases r with
    | cons r1 r2 => exact ⟨_, _, rfl, Z, Δ, S, F, d, _, k, r1, hg, fun σ1 Δ1 k1 kp h1 => ⟨Z, Δ1, S, F, t, _, k1, r2, h1, fun σ2 Δ2 k2 kp2 h2 => hq σ2 Δ2 k2 (kp.trans kp2) h2⟩⟩
theorem dgc_tup {es : List Expr} {kk : Nat} {gs : WGs} {n : Nat} (hc : X.calm = true) (h : DGcs X O own es gs) (hn : (assignEach es X.env).length = n := by rfl) (hst : (assignEach es X.env).findIdx? (·.1) = none := by rfl) : DGc X O own (.Tuple es kk pos) (gtTup n gs) := by
  have p1 := pg_tup (k := kk) (pos := pos) hc h hn hst
  have p2 := pg_unl (k := kk) (pos := pos) hc h hn hst
  refine ⟨fun pins s σ H v u Q I r q => ?_⟩
  obtain ⟨Z, Δ, S, F, d, Kn, k, rr, ⟨ds, hd, hl, hg⟩, hq⟩ := q
  cases rr with
  | tup hp rs =>
    cases hd
    exact p1.run pins s σ H _ u Q I r ⟨_, _, rfl, (.inl (.inl (k.fH _ _ hp))), by rw [rs.len]; exact hl, Z, Δ, S, F, ds, Kn, k, rs, hg, hq⟩
  | lst hp rs =>
    cases hd
    exact p2.run pins s σ H _ u Q I r ⟨_, _, rfl, .inl (.inl (k.fH _ _ hp)), by rw [rs.len]; exact hl, Z, Δ, S, F, ds, Kn, k, rs, hg, hq⟩
  | _ => cases hd
theorem dts_nil : DTs X b O E [] tYes := ⟨fun pins s σ H Q I ⟨Z, Δ, S, F, P, R, k, hp, hx, hq⟩ => pts_nil.run pins s σ H Q I (hq true S F H k (Ex.refl _) (fun _ => ⟨rfl, Al.refl k.fH⟩) hp)⟩
theorem dts_one {c : Expr} (h : DT X b O E c t) : DTs X b O E [c] t := pts_one h
/-- the block's context -/
abbrev BlkC (X : Cx) (scope : Scope) (p : Cx → Prop) : Prop := ∀ (s : Shared) (H : Hp) (C : Addr) (cl : List (Str × Addr)) (fp : List Addr), p (X.blk s H scope (compEnvC scope cl C X.env) fp)
theorem rd_lc (hO : ∀ i, i ∈ own → i ∉ O) (σ : L2.St) (H : Hp) (Q : VK) (h : rdN X.K X.mg b O E (eLc wi own gt t we) σ H Q) :
    tLc (rdI X.K X.mg b O E wi) (rdGc X.K O own gt) (rdT X.K X.mg b O E1 t) (rdE X.K X.mg b O E1 we) own σ H Q := by
  obtain ⟨Z, Δ, S, F, P, R, k, hw, hx, hq⟩ := h
  refine ⟨Z, Δ, S, F, _, R, k, hw, hx, fun J items S1 F1 H1 k1 e1 p1 gv ⟨hl, h1⟩ D hD => ?_⟩
  obtain ⟨G, Y, W, hG, hY⟩ := gv.w
  obtain ⟨k2, hF, hZ, hS, hn⟩ := new_cell k1 hD (.lst [])
  have k3 := (k2.toZ upd_same hF hZ hS hn).wipe (own := own)
  refine lc_it W (fun i H' => ∃ S' F' acc accD, Wd X.K O (L2.upd Z D (.lst acc)) (L2.wipe σ own) (killL own Δ) S' F' H' ∧ Ex F1 F' ∧ (b = true → S' = S1 ∧ Al F1 H1 F' H') ∧ Reps X.K F' acc accD ∧ acc.length ≤ i ∧ lcL gt t we (killL own Δ) (items.drop i) accD S' P)
    ⟨S1, F1, [], [], k3, Ex.refl _, fun _ => ⟨rfl, Ex.refl _, Ex.new hD, k1.fH.mut hF, fun _ _ q => .inl q⟩, .nil, Nat.zero_le _, h1⟩ (fun i H' _ ⟨S', F', acc, accD, k', e', _⟩ => hG H' (e'.trans k'.fH)) ?_ ?_
  · rintro i x H' H2 hi ⟨S', F', acc, accD, k', e', pu, ra, hacc, hf⟩ hy
    obtain ⟨d, F2, hd, al, r2⟩ := hY i F' H' x H2 e' k'.fH hy
    have hdrop : items.drop i = d :: items.drop (i + 1) := by
      obtain ⟨hlt, rfl⟩ := List.getElem?_eq_some_iff.mp hd
      exact List.drop_eq_getElem_cons hlt
    rw [hdrop] at hf
    have kt := k'.al al
    refine ⟨_, killL own Δ, S', F2, d, _, kt, r2, hf, fun σ2 Δ2 kg kp ht => ⟨(wipe_kept kp.1 fun j hj => (kp.2.2 j hj).1).trans wipe_wipe, _, Δ2, S', F2, _, noR, kg, ht, XQ.never, fun q S3 F3 H3 kk3 e3 p3 h3 => ?_⟩⟩
    have hback : ∀ {Zx : Hp} {Sx : Sto} {Fx Hx : Hp}, Wd X.K O Zx σ2 Δ2 Sx Fx Hx → Ex F2 Fx → Wd X.K O Zx (L2.wipe σ own) (killL own Δ) Sx Fx Hx := fun {Zx Sx Fx Hx} c ec =>
      kt.unwipe c ec ⟨kp.1, kp.2.1⟩ fun j hj => kp.2.2 j fun z => hO j z hj
    cases q with
    | true =>
      refine ⟨_, Δ2, S3, F3, _, noR, kk3, h3, XQ.never, fun v dv S4 F4 H4 k4 e4 p4 r4 h4 => ⟨acc, k4.zH D _ upd_same, LINE_lt (by have := (List.getElem?_eq_some_iff.mp hd).1; omega), S4, F4, acc ++ [v], accD ++ [dv], ?_, ?_, ?_, ?_, ?_, h4⟩⟩
      · exact (hback k4 (e3.trans e4)).setZ
      · exact ((e'.trans al.f).trans e3).trans e4
      · intro hb
        have q1 := pu hb
        have q3 := p3 hb
        have q4 := p4 hb
        have a := ((q1.2.trans al).trans q3.2).trans q4.2
        have kz := (hback k4 (e3.trans e4)).setZ (o' := HO.lst (acc ++ [v]))
        exact ⟨(q4.1.trans q3.1).trans q1.1, a.f, a.h.mut hD, kz.fH, fun c o z => a.n c o z⟩
      · exact (ra.mono ((al.f.trans e3).trans e4)).app (.cons r4 .nil)
      · rw [List.length_append]; simp; omega
    | false =>
      exact ⟨S3, F3, acc, accD, hback kk3 e3, (e'.trans al.f).trans e3, fun hb => ⟨((p3 hb).1).trans (pu hb).1, ((pu hb).2.trans al).trans (p3 hb).2⟩, ra.mono (al.f.trans e3), by omega, h3⟩
  · rintro H' ⟨S', F', acc, accD, k', e', pu, ra, hacc, hf⟩
    rw [List.drop_length] at hf
    have hz := k'.zH D _ upd_same
    have hF' : F' D = none := by
      cases q : F' D with
      | none => rfl
      | some u => have := k'.fz D u q; rw [upd_same] at this; cases this
    have hS' : S' D = none := by
      cases q : S' D with
      | none => rfl
      | some u => have := (k'.st D u q).2.1; rw [upd_same] at this; cases this
    have hk : Wd X.K O Z σ Δ S' F' H' := (k1.unwipe k' e' ⟨wipe_length _ _, killL_len _ _⟩ fun j hj => ⟨wipe_out fun z => hO j z hj, killL_out fun z => hO j z hj⟩).unZ hZ
    refine hq _ _ S' F' H' hk (e1.trans e') (fun hb => ⟨(pu hb).1.trans (p1 hb).1, (p1 hb).2.trans (pu hb).2⟩) ⟨D, _, rfl, hz, .lst ra, hF', hZ, hS', hn⟩ (fun hb p hp => ?_) hf
    cases hp
    exact (p1 hb).2.h.none hD
theorem dn_lc {scope : Scope} {ownN : List (Str × Nat)} {ifs : List Expr} (hc : X.calm = true) (hN : X.N.Nodup) (hi : DI X b O E tg iter wi) (ok : BlkOk X.N X.env.scope scope ownN) (hown : ownN.map (·.2) = own) (hO : ∀ i, i ∈ own → i ∉ O)
    (hg : BlkC X scope fun Y => DGc Y O own tg gt) (ht : BlkC X scope fun Y => DTs Y b O E1 ifs t) (he : BlkC X scope fun Y => DE Y b O E1 elt we) (hs : ∀ x, foldedSetIterable iter X.env x = pure x := by intro _; rfl) :
    DN X b O E (.ListComp elt [⟨tg, iter, ifs, 0⟩] scope pos) (eLc wi own gt t we) := by
  subst hown
  exact pe_to (pe_lc hc hN hi ok hg ht he hs) (rd_lc hO)
/-- name = [..] on one line, the name a local: shared, owned -/
theorem ds_setLc {L : List Nat} {own' : Bool} {i : Nat} {y : Str} {py spos : Pos} {scope : Scope} {ownN : List (Str × Nat)} {ifs : List Expr} (hc : X.calm = true) (hN : X.N.Nodup) (hy : X.N[i]? = some y) (hyl : X.env.scope.names.lookup y = some .local)
    (hsw : swapsWith (.ListComp elt [⟨tg, iter, ifs, 0⟩] scope pos) (some (.Name y py)) spos.line X.env = pure true) (hi : DI X b O E tg iter wi) (ok : BlkOk X.N X.env.scope scope ownN) (hown : ownN.map (·.2) = own) (hO : ∀ i, i ∈ own → i ∉ O)
    (hg : BlkC X scope fun Y => DGc Y O own tg gt) (ht : BlkC X scope fun Y => DTs Y b O E1 ifs t) (he : BlkC X scope fun Y => DE Y b O E1 elt we) (hs : ∀ x, foldedSetIterable iter X.env x = pure x := by intro _; rfl) :
    DS X O O L E own' (.Assign [.Name y py] (.ListComp elt [⟨tg, iter, ifs, 0⟩] scope pos) spos) (gAsg (eLc wi own gt t we) (gtName i)) := by
  subst hown
  refine ps_to (ps_setLc hc hN hy hyl hsw hi ok hg ht he hs) fun D σ H ⟨Z, Δ, S, F, B, R, k, hg, er⟩ => rd_lc (E := E) hO σ H _ ⟨Z, Δ, S, F, _, R, k, hg, er.ex, fun v d S' F' H' k' e' _ r _ p => ?_⟩
  by_cases hio : i ∈ O
  · obtain ⟨q, o, rfl, h2, h3, h4, h5, h6, h7⟩ := r
    exact er.nx _ _ S' F' H' (k'.own hio h2 h3 h4 h5 h6 h7) e' p
  · obtain ⟨F2, f1, f2, f3, f4⟩ := r.share k'
    exact er.nx _ _ S' F2 H' (f2.set hio f3) (e'.trans f1) p
end
end DL

/-! DR9: a def by its body's meaning; the law's end. -/
namespace DL
open PySem PySem.Spec PyProof.Rows L2

/-- the meaning of a def that hands back a new cell -/
def fnWo (k n : Nat) (g : WS) : Fn := fun ds S P R => ds.length = k ∧ g (ds.map some ++ List.replicate (n - ds.length) none) S { nx := fun _ _ => False, rt := P } R
section
variable {K : PySem.W.Frag} {Z : Hp} {S : Sto} {F H : Hp}
theorem Wd.start {O : List Nat} {vs : List V} {ds : List D} {m : Nat} (k : Wd K [] Z (vs.map some) (ds.map some) S F H) (hO : ∀ i, i ∈ O → ds.length ≤ i) : Wd K O Z (vs.map some ++ List.replicate m none) (ds.map some ++ List.replicate m none) S F H where
  fH := k.fH
  zH := k.zH
  fz := k.fz
  st := k.st
  fr := fun i d _ q => by
    have hl : vs.length = ds.length := by simpa using k.len
    rcases Nat.lt_or_ge i ds.length with h | h
    · rw [List.getElem?_append_left (by simpa using h)] at q
      obtain ⟨v, h1, h2⟩ := k.fr i d (by simp) q
      exact ⟨v, by rw [List.getElem?_append_left (by simpa [hl] using h)]; exact h1, h2⟩
    · rw [List.getElem?_append_right (by simpa using h), List.getElem?_replicate] at q
      split at q <;> cases q
  ow := fun i d hi q => by
    rw [List.getElem?_append_right (by simpa using hO i hi), List.getElem?_replicate] at q
    split at q <;> cases q
  sep := fun i j d e p hi _ _ q => by
    rw [List.getElem?_append_right (by simpa using hO i hi), List.getElem?_replicate] at q
    split at q <;> cases q
  len := by
    have hl : vs.length = ds.length := by simpa using k.len
    simp [hl]
end
section
variable {CX : CXT} {P : Program} {w : World} {K : PySem.W.Frag} {mg : Str → Option Value} {base : Heap} {k : Nat} {f : Addr} {name qual : Str} {params : Arguments} {body : List Stmt} {scope : Scope} {dV kV doc pm cdv ct oc : Value} {an od : Option Addr}
    {osl : Array (Option Value)} {N ps : List Str} {O On L : List Nat} {g : WS}
/-- what is asked of a def's body -/
abbrev Body (CX : CXT) (P : Program) (w : World) (K : PySem.W.Frag) (mg : Str → Option Value) (base : Heap) (N : List Str) (qual : Str) (scope : Scope) (f : Addr) (cdv : Value) (k : Nat) (p : Cx → XK → Prop) : Prop :=
  ∀ (A : Around) (outer : List PySem.Env) (s : Shared) (H : Hp) (E : XK), A.guards = some [] → Room k (A.deeper (envOfC qual scope s.heap.objs.size f cdv)) → p (cxOf CX P w K mg base N qual scope f cdv A outer s H E) E
theorem body_guards {A : Around} {env : PySem.Env} (h : A.guards = some []) : (A.deeper env).guards = some [] := h
theorem fnG_w (lk : K.lookup f = some ⟨oc, od, .func (PySem.W.fnOf name qual params body scope dV kV doc pm an cdv ct), osl⟩) (hcd : PySem.W.codeIn K cdv qual = true) (S : FnScope N ps scope) (hO : ∀ i, i ∈ O → ps.length ≤ i)
    (hb : Body CX P w K mg base N qual scope f cdv k fun X E => DSs X O On L E false body g) :
    FnG P w K mg base CX (k + 1) f (PySem.W.fnOf name qual params body scope dV kV doc pm an cdv ct) ps (spW K mg false (fnW ps.length N.length g)) := by
  have len : ∀ vs H Q E, spW K mg false (fnW ps.length N.length g) vs H Q E → vs.length = ps.length := fun vs H Q E ⟨Z, ds, S, F, P, R, k, hf, _⟩ => by
    have := k.len
    simp at this
    exact this.trans hf.1
  refine fnG_of lk hcd S len fun A outer s H vs Q E hg hr h => ⟨_, hb A outer s H E hg hr, ?_⟩
  have hlv := len vs H Q E h
  obtain ⟨Z, ds, S, F, P, R, kk, ⟨hl, hf⟩, hx, hq⟩ := h
  have hls : vs.length = ds.length := hlv.trans hl.symm
  refine ⟨Z, _, S, F, _, R, ?_, hf, ⟨fun σ' Δ' S' F' H' k' e' q => hq .non .non S' F' H' k'.end0 e' .non q, fun v d S' F' H' k' e' r q => hq v d S' F' H' k' e' r q, fun _ _ _ _ _ _ _ q => q.elim, fun _ _ _ _ _ _ _ q => q.elim, hx⟩⟩
  unfold L2.start
  rw [hls]
  exact kk.start fun i hi => by rw [hl]; exact hO i hi
theorem fnG_wo (lk : K.lookup f = some ⟨oc, od, .func (PySem.W.fnOf name qual params body scope dV kV doc pm an cdv ct), osl⟩) (hcd : PySem.W.codeIn K cdv qual = true) (S : FnScope N ps scope) (hO : ∀ i, i ∈ O → ps.length ≤ i)
    (hb : Body CX P w K mg base N qual scope f cdv k fun X E => DSs X O On L E true body g) :
    FnG P w K mg base CX (k + 1) f (PySem.W.fnOf name qual params body scope dV kV doc pm an cdv ct) ps (spW K mg true (fnWo ps.length N.length g)) := by
  have len : ∀ vs H Q E, spW K mg true (fnWo ps.length N.length g) vs H Q E → vs.length = ps.length := fun vs H Q E ⟨Z, ds, S, F, P, R, k, hf, _⟩ => by
    have := k.len
    simp at this
    exact this.trans hf.1
  refine fnG_of lk hcd S len fun A outer s H vs Q E hg hr h => ⟨_, hb A outer s H E hg hr, ?_⟩
  have hlv := len vs H Q E h
  obtain ⟨Z, ds, S, F, P, R, kk, ⟨hl, hf⟩, hx, hq⟩ := h
  have hls : vs.length = ds.length := hlv.trans hl.symm
  refine ⟨Z, _, S, F, _, R, ?_, hf, ⟨fun σ' Δ' S' F' H' k' e' q => q.elim, fun v d S' F' H' k' e' r q => hq v d S' F' H' k' e' r q, fun _ _ _ _ _ _ _ q => q.elim, fun _ _ _ _ _ _ _ q => q.elim, hx⟩⟩
  unfold L2.start
  rw [hls]
  exact kk.start fun i hi => by rw [hl]; exact hO i hi
/-- what a def means may be said otherwise -/
theorem spW_imp {own : Bool} {f g : Fn} (h : ∀ ds S P R, g ds S P R → f ds S P R) : ∀ vs H Q E, spW K mg own g vs H Q E → spW K mg own f vs H Q E :=
  fun vs H Q E ⟨Z, ds, S, F, P, R, k, hf, hq⟩ => ⟨Z, ds, S, F, P, R, k, h _ _ _ _ hf, hq⟩
theorem FnG.by {fd : FuncData} {own : Bool} {f' g' : Fn} (F : FnG P w K mg base CX k f fd ps (spW K mg own f')) (h : ∀ ds S P R, g' ds S P R → f' ds S P R) : FnG P w K mg base CX k f fd ps (spW K mg own g') := F.imp (spW_imp h)
end

/-! ### the law's end -/
section
variable {P : Program} {w : World} {K : PySem.W.Frag} {mg mb : Str → Option Value} {CX : CXT} {k : Nat} {fa a : Addr} {fd : FuncData} {x : Str} {s₁ : Shared} {vs : List Value} {ns : List Int}
/-- the one object that is tracked at the law's call: the script, unless the module holds it -/
noncomputable def atScript (K : PySem.W.Frag) (a : Addr) (o : Obj) (ns : List Int) : Hp := by
  classical
  exact fun b => if b = a ∧ K.lookup a = none then some (.frz o (.lst (ns.map V.int))) else none
theorem at_yes {o : Obj} (h : K.lookup a = none) : atScript K a o ns a = some (.frz o (.lst (ns.map V.int))) := by unfold atScript; rw [if_pos ⟨rfl, h⟩]
theorem at_some {o : Obj} {b : Addr} {u : HO} (h : atScript K a o ns b = some u) : b = a ∧ K.lookup a = none ∧ u = .frz o (.lst (ns.map V.int)) := by
  unfold atScript at h
  by_cases q : b = a ∧ K.lookup a = none
  · rw [if_pos q] at h; cases h; exact ⟨q.1, q.2, rfl⟩
  · rw [if_neg q] at h; cases h
theorem law_callG {f : Fn} (KX : K.In s₁.heap) (hns : s₁.heap.Ns mainGlobals mg) (hb : s₁.heap.Ns builtinsNs mb) (hbb : ∀ x : Str, x ≠ "__name__" → mb x = bootBuiltins x) (hlim : s₁.heap.NoLimit) (hg : s₁.gens = #[])
    (ha : s₁.heap.get? a = some { cls := .type "list", data := .seq vs.toArray }) (hi : IntsAre vs ns) (hl : ns.length ≤ sizeLine) (hr : Room k callerA)
    (F : ∀ base : Heap, K.In base → base.Ns mainGlobals mg → FnG P w K mg base CX k fa fd [x] (spW K mg false f)) (hbind : ∀ (s : Shared) (u : Value), BindsTo s fd ⟨[u], []⟩ [(x, u)])
    (hf : f [.scr ns] noS (fun d _ => d = .bl true) noR) (hCX : ∀ H e s', CX [] H s₁ (fun _ _ _ => False) e s' → False) :
    codeAny (model P w) callerA (.call (.ref fa) ⟨[.ref a], []⟩) (fun r s' => r = .ok (.ret (.bool true)) ∧ OldK s₁.heap s'.heap ∧ s'.os = s₁.os ∧ AllBare s'.gens) s₁ := by
  have rv := vals_ints hi
  have lenV := hi.length
  generalize hH : atScript K a { cls := .type "list", data := .seq vs.toArray } ns = H
  have hsome : ∀ {b : Addr} {u : HO}, H b = some u → b = a ∧ K.lookup a = none ∧ u = .frz { cls := .type "list", data := .seq vs.toArray } (.lst (ns.map V.int)) := fun h => at_some (by rw [hH]; exact h)
  have hS : SqL K H a (ns.map V.int) := by
    cases hk : K.lookup a with
    | none => exact .inl (.inr ⟨_, by rw [← hH]; exact at_yes hk⟩)
    | some o =>
      have e := KX a o hk
      rw [ha] at e
      cases e
      exact .inr ⟨_, vs.toArray, _, hk, rfl, rfl, rfl, by rw [List.size_toArray, lenV]; exact hl, by simpa using rv⟩
  have ok : HOk P w H s₁.heap := fun b u q => by
    obtain ⟨rfl, _, rfl⟩ := hsome q
    exact ⟨ha, by rw [List.length_map]; exact hl, vs, _, rv, ha⟩
  -- what is not the script stands in the ground
  have kp : ∀ {b : Addr} {o : Obj}, s₁.heap.get? b = some o → (b = a → K.lookup a ≠ none) → (hidT s₁.heap H).get? b = some o := fun {b o} e n => hidT_get e (by
    cases q : H b with
    | none => rfl
    | some u =>
      obtain ⟨h1, h2, _⟩ := hsome q
      exact absurd h2 (n h1))
  have nsK : ∀ {b : Addr} {m : Str → Option Value}, s₁.heap.Ns b m → (hidT s₁.heap H).Ns b m := fun {b m} ⟨o, es, ep, e, d, r⟩ => ⟨o, es, ep, kp e (fun z => by
    subst z
    rw [ha] at e; cases e
    cases d), d, r⟩
  have hKb : K.In (hidT s₁.heap H) := fun b o e => kp (KX b o e) fun z y => by
    subst z
    rw [y] at e; cases e
  have hM : Mod K mg (hidT s₁.heap H) := ⟨hKb, nsK hns, ⟨mb, nsK hb, hbb⟩, hlim.imp fun mc h => ⟨nsK h.1, h.2⟩⟩
  have e0 : Env0 P w K mg (hidT s₁.heap H) callerA [] s₁ H := ⟨rfl, hM, fun b o e => of_hidT e, Nat.le_of_eq (hidT_size _ _), trivial, fun b hb => absurd (show b ∈ ([] : List Addr) from hb) (by simp), ok, .of_eq hg⟩
  have hsp : spW K mg false f [.ref a] H (fun v _ => v = .bl true) fun _ _ _ => False :=
    ⟨fun _ => none, [.scr ns], noS, H, _, noR, ⟨Ex.refl _, (fun _ _ q => nomatch q), (fun _ _ _ => rfl), (fun _ _ q => nomatch q), (fun i d _ q => by
      cases i with
      | zero => cases q; exact ⟨_, rfl, .scr hS⟩
      | succ i => simp at q), (fun i d hi => absurd hi (by simp)), (fun i j d e p hi => absurd hi (by simp)), rfl⟩, hf, XQ.never, fun v d S' F' H' _ _ r q => by
        subst q
        have r' : Rep K F' v (.bl true) := r
        cases r'
        rfl⟩
  refine codeAny_mono ((F _ hKb (nsK hns)).run callerA [] s₁ H ⟨[.ref a], []⟩ [.ref a] [.ref a] _ _ rfl hr e0 (hbind s₁ (.ref a)) (.cons rfl .nil) hsp) fun r s' h => ?_
  cases r with
  | error e => exact (hCX H e s' h).elim
  | ok fl =>
    cases fl with
    | next => exact False.elim h
    | brk => exact False.elim h
    | cont => exact False.elim h
    | ret u =>
      obtain ⟨v, H', os, bare, un, hok', r', q⟩ := h
      have q' : v = .bl true := q
      subst q'
      obtain rfl : u = Value.bool true := r'
      refine ⟨rfl, OldK.of_keep fun b o e => ?_, os, bare⟩
      cases q : H b with
      | none => exact un.keep b o e q (by intro z; exact absurd (show b ∈ ([] : List Addr) from z) (by simp)) (by simp)
      | some u =>
        obtain ⟨rfl, _, rfl⟩ := hsome q
        obtain ⟨e2, _⟩ := hok' b _ (un.frzs b _ _ q)
        rw [ha] at e; cases e
        exact e2
end
/-- the goal that the head leaves, from what the law's def means -/
theorem walkG {l : PySem.W.OpenLaw} {n k : Nat} {q : Program} {loose : List Str} {XP : (Str → Option Value) → Heap → Prop} {YP : World → Heap → Prop} {d : DefRec} {K : Params → PySem.W.Frag} {CX : CXT} {x : Str} {f : Fn}
    (hn : l.most = some n) (hn2 : n ≤ sizeLine) (hdf : d.params.defaults = []) (hr : Room k callerA) (hY : ∀ (w : World) (h : Heap), YP w h → (K w.params).In h)
    (F : ∀ (w : World) (mg : Str → Option Value) (fa : Addr) (h : Heap), (K w.params).In h → h.Ns mainGlobals mg → mg d.name = some (.ref fa) →
      ∃ fd : FuncData, (∀ (s : Shared) (u : Value), BindsTo s fd ⟨[u], []⟩ [(x, u)]) ∧ ∀ base : Heap, (K w.params).In base → base.Ns mainGlobals mg → FnG l.prog w (K w.params) mg base CX k fa fd [x] (spW (K w.params) mg false f))
    (hf : ∀ ns : List Int, ns.length ≤ n → f [.scr ns] noS (fun d _ => d = .bl true) noR) (hCX : ∀ (H : Hp) (s : Shared) (e : Value) (s' : Shared), CX [] H s (fun _ _ _ => False) e s' → False) :
    PySem.W.WalkO q loose XP YP l.row.toRowW d [] (fun f vs => PySem.call f vs) := by
  refine Att.attach_call hn hdf fun w s₀ s₁ mg mb fa o pm cd doc a vs ns G Y ho hd hcd hmg hobj hints hlen hg => ?_
  have KX := hY w _ Y
  obtain ⟨fd, hb, hF⟩ := F w mg fa _ KX G.T.g hmg
  exact law_callG KX G.T.g G.T.b G.T.builtins G.T.nolimit hg hobj hints (Nat.le_trans hlen hn2) hr hF hb (hf ns hlen) fun H e s' => hCX H s₁ e s'
end DL

/-! DR10: dead code, names of the module, dicts' reading, calls that borrow, texts walked. -/
namespace DL
open PySem PySem.Spec PyProof.Rows L2

section
variable {X : Cx} {b : Bool} {O : List Nat} {E : XK} {e a c o tg : Expr} {w wa wb wc wo : WE} {pos : Pos} {t : WT}
/-! ### dead code -/
def eNever : WE := fun _ _ _ _ => False
def tNever : WT := fun _ _ _ _ => False
theorem pe_never : PE X e (fun _ _ _ => False) := ⟨fun _ _ _ _ _ _ h => h.elim⟩
theorem de_never : DE X b O E e eNever := pe_to pe_never fun σ H Q ⟨Z, Δ, S, F, P, R, k, hw, _⟩ => hw
theorem dn_never : DN X b O E e eNever := pe_to pe_never fun σ H Q ⟨Z, Δ, S, F, P, R, k, hw, _⟩ => hw
theorem dn_if (ht : DT X b O E e t) (ha : DN X b O E a wa) (hb : DN X b O E c wb) : DN X b O E (.IfExp e a c pos) (eIf t wa wb) :=
  pe_to (pe_ifExp ht ha hb) fun σ H Q ⟨Z, Δ, S, F, P, R, k, hw, hx, hq⟩ => ⟨Z, Δ, S, F, _, R, k, hw, hx, fun q S1 F1 H1 k1 e1 p1 h => by
    cases q with
    | true => exact ⟨Z, Δ, S1, F1, P, R, k1, h, hx.mono e1, fun v d S2 F2 H2 k2 e2 p2 r2 n2 hp => hq v d S2 F2 H2 k2 (e1.trans e2) (pure2 p1 p2) r2 (fun z p q => (p1 z).2.h.none (n2 z p q)) hp⟩
    | false => exact ⟨Z, Δ, S1, F1, P, R, k1, h, hx.mono e1, fun v d S2 F2 H2 k2 e2 p2 r2 n2 hp => hq v d S2 F2 H2 k2 (e1.trans e2) (pure2 p1 p2) r2 (fun z p q => (p1 z).2.h.none (n2 z p q)) hp⟩⟩
theorem db_if (ht : DT X b O E e t) (ha : DB X b O E a wa) (hb : DB X b O E c wb) : DB X b O E (.IfExp e a c pos) (eIf t wa wb) :=
  pe_to (pe_ifExp ht ha hb) fun σ H Q ⟨Z, Δ, S, F, P, R, k, hw, hx, hq⟩ => ⟨Z, Δ, S, F, _, R, k, hw, hx, fun q S1 F1 H1 k1 e1 p1 h => by
    cases q with
    | true => exact ⟨Z, Δ, S1, F1, P, R, k1, h, hx.mono e1, fun v d S2 F2 H2 k2 e2 p2 r2 hp => hq v d S2 F2 H2 k2 (e1.trans e2) (pure2 p1 p2) r2 hp⟩
    | false => exact ⟨Z, Δ, S1, F1, P, R, k1, h, hx.mono e1, fun v d S2 F2 H2 k2 e2 p2 r2 hp => hq v d S2 F2 H2 k2 (e1.trans e2) (pure2 p1 p2) r2 hp⟩⟩

/-! ### a constant of the module -/
theorem de_glob {x : Str} {v : V} {u : Value} {d : D} (hg : Gl X x) (hm : X.mg x = some u) (r : RelV v u) (rd : ∀ F, Rep X.K F v d) (hd : (x == ("__debug__" : Str)) = false := by decide) : DE X true O E (.Name x pos) (eC d) := de_c (pe_glob hg hm r hd) rd

/-! ### a sign in a text -/
def dInS : D → D → Option D
  | .str x, .str z => if x.cps.size = 1 then some (.bl (decide (x.cps.toList.head! ∈ z.cps.toList))) else none
  | _, _ => none
def rInS : R2 := fun x y H Q => ∃ (c : Nat) (z : Str), x = .str ⟨#[c]⟩ ∧ y = .str z ∧ Q (.bl (decide (c ∈ z.cps.toList))) H
theorem str_one {x : Str} (h : x.cps.size = 1) : ∃ c, x = ⟨#[c]⟩ := by
  obtain ⟨⟨l⟩⟩ := x
  match l, h with
  | [c], _ => exact ⟨c, rfl⟩
theorem s_inS {K : PySem.W.Frag} : OpS K dInS rInS := fun F H x y d1 d2 z Q ex r1 r2 hz hq => by
  unfold dInS at hz
  split at hz
  · cases r1.str
    cases r2.str
    obtain ⟨h1, rfl⟩ := ite_some hz
    obtain ⟨c, rfl⟩ := str_one h1
    exact ⟨c, _, rfl, rfl, hq _ F H (Al.refl ex) (.bl _)⟩
  · cases hz

/-! ### dicts are read -/
theorem dget_see {K : PySem.W.Frag} {F H : Hp} {v y : V} {kvs : List (Key × D)} {dk : D} {k : Key} (ex : Ex F H) (r : VRep K F H v (.dct kvs)) (ry : VRep K F H y dk) (hk : keyD dk = some k) :
    ∃ p ov, v = .ref p ∧ DGet H p y ov ∧ ((∃ u d, ov = some u ∧ getD kvs k = some d ∧ Rep K F u d) ∨ (ov = none ∧ getD kvs k = none)) := by
  obtain ⟨p, vs, rfl, hp, rk⟩ := r.dct ex
  cases key_see ry hk
  refine ⟨p, _, rfl, DGet.k hp, ?_⟩
  rcases rk.find (k := k) with ⟨u, d, h1, h2, h3⟩ | ⟨h1, h2⟩
  · exact .inl ⟨u, d, h1, h2, h3⟩
  · exact .inr ⟨h1, h2⟩
theorem isD_see {K : PySem.W.Frag} {F H : Hp} {v : V} {kvs : List (Key × D)} (ex : Ex F H) (r : VRep K F H v (.dct kvs)) : ∃ p, v = .ref p ∧ IsD H p := by
  obtain ⟨p, vs, rfl, hp, _⟩ := r.dct ex
  exact ⟨p, rfl, .inl ⟨vs, .inl hp⟩⟩
theorem de_get2 {apos : Pos} (hu : X.A.units + 1 < cLine) (ho : DB X b O E o wo) (ha : DE X b O E a wa) (hc : DE X b O E c wc) (m : M2 X o "get" apos a c pos) : DE X b O E (.Call (.Attribute o "get" apos) [a, c] [] pos) (eGet2 wo wa wc) :=
  pe_to (pe_dget2 hu ho ha hc m) fun σ H Q ⟨Z, Δ, S, F, P, R, k, hw, hx, hq⟩ => ⟨Z, Δ, S, F, _, R, k, hw, hx, fun v d S1 F1 H1 k1 e1 p1 r1 ⟨⟨kvs, hd⟩, h1⟩ => by
    subst hd
    obtain ⟨p, rfl, hD⟩ := isD_see k1.fH (r1.see k1)
    refine ⟨p, rfl, hD, Z, Δ, S1, F1, _, R, k1, h1, hx.mono e1, fun y dy S2 F2 H2 k2 e2 p2 r2 h2 => ⟨Z, Δ, S2, F2, _, R, k2, h2, hx.mono (e1.trans e2), fun z dz S3 F3 H3 k3 e3 p3 r3 ⟨res, hg, hp⟩ => ?_⟩⟩
    obtain ⟨key, hk, rfl⟩ := Option.map_eq_some_iff.mp hg
    obtain ⟨p', ov, hpe, hget, hres⟩ := dget_see k3.fH ((r1.mono (e2.trans e3)).see k3) (.rep (r2.mono e3)) hk
    cases hpe
    refine ⟨ov, hget, hq _ _ S3 F3 H3 k3 (e1.trans (e2.trans e3)) (pure2 (pure2 p1 p2) p3) ?_ hp⟩
    rcases hres with ⟨u, d, rfl, h, r⟩ | ⟨rfl, h⟩
    · rw [h]; exact r
    · rw [h]; exact r3⟩
/-- d[k] -/
theorem de_dget (hu : X.A.units + 1 < cLine) (ho : DB X b O E o wo) (ha : DE X b O E a wa) (hs : NoSl a) : DE X b O E (.Subscript o a pos) (eBin dGet wo wa) :=
  pe_to (pe_dget hu ho ha hs) fun σ H Q ⟨Z, Δ, S, F, P, R, k, hw, hx, hq⟩ => ⟨Z, Δ, S, F, _, R, k, hw, hx, fun v d S1 F1 H1 k1 e1 p1 r1 h1 => ⟨Z, Δ, S1, F1, _, R, k1, h1, hx.mono e1, fun y dy S2 F2 H2 k2 e2 p2 r2 ⟨z, hz, hp⟩ => by
    unfold dGet at hz
    split at hz
    · obtain ⟨key, hk, hg⟩ := Option.bind_eq_some_iff.mp hz
      obtain ⟨p', ov, rfl, hget, hres⟩ := dget_see k2.fH ((r1.mono e2).see k2) (.rep r2) hk
      rcases hres with ⟨u, d, rfl, h, r⟩ | ⟨rfl, h⟩
      · rw [hg] at h; cases h
        exact ⟨p', u, rfl, hget, hq _ _ S2 F2 H2 k2 (e1.trans e2) (pure2 p1 p2) r hp⟩
      · rw [hg] at h; cases h
    · cases hz⟩⟩
theorem rd_din : ∀ σ H Q, rdE X.K X.mg b O E (eBin dInK wa wo) σ H Q → tDIn (rdE X.K X.mg b O E wa) (rdB X.K X.mg b O E wo) σ H Q :=
  fun σ H Q ⟨Z, Δ, S, F, P, R, k, hw, hx, hq⟩ => ⟨Z, Δ, S, F, _, R, k, hw, hx, fun v d S1 F1 H1 k1 e1 p1 r1 h1 => ⟨Z, Δ, S1, F1, _, R, k1, h1, hx.mono e1, fun y dy S2 F2 H2 k2 e2 p2 r2 ⟨z, hz, hp⟩ => by
    unfold dInK at hz
    split at hz
    · obtain ⟨key, hk, rfl⟩ := Option.map_eq_some_iff.mp hz
      obtain ⟨p', ov, rfl, hget, hres⟩ := dget_see k2.fH (r2.see k2) (.rep (r1.mono e2)) hk
      refine ⟨p', ov, rfl, hget, hq _ _ S2 F2 H2 k2 (e1.trans e2) (pure2 p1 p2) ?_ hp⟩
      rcases hres with ⟨u, d, rfl, h, r⟩ | ⟨rfl, h⟩
      · rw [h]; exact .bl _
      · rw [h]; exact .bl _
    · cases hz⟩⟩
theorem rd_dnotin : ∀ σ H Q, rdE X.K X.mg b O E (eBin dNotInK wa wo) σ H Q → tDNotIn (rdE X.K X.mg b O E wa) (rdB X.K X.mg b O E wo) σ H Q :=
  fun σ H Q ⟨Z, Δ, S, F, P, R, k, hw, hx, hq⟩ => ⟨Z, Δ, S, F, _, R, k, hw, hx, fun v d S1 F1 H1 k1 e1 p1 r1 h1 => ⟨Z, Δ, S1, F1, _, R, k1, h1, hx.mono e1, fun y dy S2 F2 H2 k2 e2 p2 r2 ⟨z, hz, hp⟩ => by
    unfold dNotInK at hz
    split at hz
    · obtain ⟨key, hk, rfl⟩ := Option.map_eq_some_iff.mp hz
      obtain ⟨p', ov, rfl, hget, hres⟩ := dget_see k2.fH (r2.see k2) (.rep (r1.mono e2)) hk
      refine ⟨p', ov, rfl, hget, hq _ _ S2 F2 H2 k2 (e1.trans e2) (pure2 p1 p2) ?_ hp⟩
      rcases hres with ⟨u, d, rfl, h, r⟩ | ⟨rfl, h⟩
      · rw [h]; exact .bl _
      · rw [h]; exact .bl _
    · cases hz⟩⟩
theorem de_din (hu : X.A.units + 1 < cLine) (ha : DE X b O E a wa) (ho : DB X b O E o wo) (hm : behindInMarks .In o = false := by rfl) : DE X b O E (.Compare a [.In] [o] pos) (eBin dInK wa wo) := pe_to (pe_cmp (pc_din hu ha ho) hm) rd_din
theorem de_dnotin (hu : X.A.units + 1 < cLine) (ha : DE X b O E a wa) (ho : DB X b O E o wo) (hm : behindInMarks .NotIn o = false := by rfl) : DE X b O E (.Compare a [.NotIn] [o] pos) (eBin dNotInK wa wo) := pe_to (pe_cmp (pc_dnotin hu ha ho) hm) rd_dnotin
theorem dt_din (hu : X.A.units + 1 < cLine) (ha : DE X b O E a wa) (ho : DB X b O E o wo) (hm : behindInMarks .In o = false := by rfl) : DT X b O E (.Compare a [.In] [o] pos) (tE (eBin dInK wa wo)) := pt_to (pt_cmp (pc_din hu ha ho) hm) fun σ H Q ⟨Z, Δ, S, F, P, R, k, hw, hx, hq⟩ => rd_din σ H _ ⟨Z, Δ, S, F, _, R, k, hw, hx, fun v d S1 F1 H1 k1 e1 p1 r1 ⟨q, hd, h⟩ => by
    subst hd
    cases r1
    exact ⟨q, rfl, hq q S1 F1 H1 k1 e1 p1 h⟩⟩
theorem dt_dnotin (hu : X.A.units + 1 < cLine) (ha : DE X b O E a wa) (ho : DB X b O E o wo) (hm : behindInMarks .NotIn o = false := by rfl) : DT X b O E (.Compare a [.NotIn] [o] pos) (tE (eBin dNotInK wa wo)) := pt_to (pt_cmp (pc_dnotin hu ha ho) hm) fun σ H Q ⟨Z, Δ, S, F, P, R, k, hw, hx, hq⟩ => rd_dnotin σ H _ ⟨Z, Δ, S, F, _, R, k, hw, hx, fun v d S1 F1 H1 k1 e1 p1 r1 ⟨q, hd, h⟩ => by
    subst hd
    cases r1
    exact ⟨q, rfl, hq q S1 F1 H1 k1 e1 p1 h⟩⟩

/-! ### a text walked -/
theorem gives_str {K : PySem.W.Frag} {F : Hp} {z : Str} : Gives K F (Its z) (z.cps.toList.map fun c => D.str ⟨#[c]⟩) :=
  ⟨⟨fun _ => True, fun i H v H' => H' = H ∧ ∃ c, z.cps[i]? = some c ∧ v = .str ⟨#[c]⟩, by
    rw [List.length_map, Array.length_toList]
    exact walk_str, fun H e => trivial, fun i F2 H x H' e1 e2 ⟨y1, c, y2, y3⟩ => by
    subst y1 y3
    refine ⟨.str ⟨#[c]⟩, F2, ?_, Al.refl e2, .str _⟩
    rw [List.getElem?_map, Array.getElem?_toList, y2]
    rfl⟩⟩
theorem di_str (ha : DE X b O E e w) : DI X b O E tg e (iStr w) :=
  pi_to (pi_str ha) fun σ H R ⟨Z, Δ, S, F, P, Rx, k, hw, hx, hq⟩ => ⟨Z, Δ, S, F, _, Rx, k, hw, hx, fun v d S1 F1 H1 k1 e1 p1 r1 ⟨z, hd, hp⟩ => by
    subst hd
    cases r1
    exact ⟨z, rfl, hq _ _ S1 F1 H1 k1 e1 p1 gives_str hp⟩⟩

/-! ### a pure def is called with owned cells, and hands back a scalar -/
/-- the owned cells shared for the while of a call -/
noncomputable def fo (O : List Nat) (σ : L2.St) (Δ : Env) (F H : Hp) : Hp := by
  classical
  exact fun b => if ∃ i ∈ O, ∃ d, Δ[i]? = some (some d) ∧ σ[i]? = some (some (.ref b)) then H b else F b
section
variable {K : PySem.W.Frag} {mg : Str → Option Value} {O : List Nat} {Z : Hp} {σ : L2.St} {Δ : Env} {S : Sto} {F H : Hp}
theorem fo_ex (k : Wd K O Z σ Δ S F H) : Ex F (fo O σ Δ F H) ∧ Ex (fo O σ Δ F H) H := by
  refine ⟨fun b o q => ?_, fun b o q => ?_⟩
  · unfold fo
    split
    · exact k.fH b o q
    · exact q
  · unfold fo at q
    split at q
    · exact q
    · exact k.fH b o q
theorem BRep.fo (k : Wd K O Z σ Δ S F H) {v : V} {d : D} : BRep K O σ Δ F v d → Rep K (fo O σ Δ F H) v d
  | .inl r => r.mono (fo_ex k).1
  | .inr ⟨i, h1, h2, h3⟩ => by
    obtain ⟨p, o, a1, a2, a3, _⟩ := k.ow i d h1 h2
    rw [h3] at a1; cases a1
    refine (OwnO.mono (fo_ex k).1 a3).rep ?_
    unfold DL.fo
    rw [if_pos ⟨i, h1, d, h2, h3⟩]
    exact a2
theorem BReps.fo (k : Wd K O Z σ Δ S F H) : ∀ {vs : List V} {ds : List D}, BReps K O σ Δ F vs ds → Reps K (fo O σ Δ F H) vs ds
  | _, _, .nil => .nil
  | _, _, .cons h r => .cons (h.fo k) (BReps.fo k r)
theorem pure_args {F2 : Hp} {vs : List V} {ds : List D} (e : Ex F2 H) (r : Reps K F2 vs ds) : Wd K [] (zp F2 H) (vs.map some) (ds.map some) noS F2 H :=
  wd_argsP (σ := []) (Δ := []) (O := []) (Z := fun _ => none) (S := noS) ⟨e, (fun _ _ q => nomatch q), (fun _ _ _ => rfl), (fun _ _ q => nomatch q), (fun i d _ q => by simp at q), (fun i d hi => absurd hi (by simp)), (fun i j d e p hi => absurd hi (by simp)), rfl⟩ r
end
theorem isScal_rep {K : PySem.W.Frag} {F F' : Hp} {v : V} {d : D} (r : Rep K F v d) (h : isScal d = true) : Rep K F' v d := by
  cases r with
  | non => exact .non
  | bl b => exact .bl b
  | int i => exact .int i
  | str x => exact .str x
  | _ => cases h
/-- a pure call that borrows -/
def eCallB (f : Fn) (a : WA) : WE := fun Δ S P R => a Δ S (fun xs S1 => f xs noS (fun d _ => isScal d = true ∧ P d S1) noR) R
variable {fn : Fn} {dvs : List V} {dd : List D} {wA : WA}
theorem rd_callB (hd : ∀ F, Reps X.K F dvs dd) (σ : L2.St) (H : Hp) (Q : VK) (h : rdE X.K X.mg b O E (eCallB fn (aDef wA dd)) σ H Q) : tCall (spW X.K X.mg false fn) dvs E (rdAB X.K X.mg b O E wA) σ H Q := by
  obtain ⟨Z, Δ, S, F, P, R, k, hw, hx, hq⟩ := h
  refine ⟨Z, Δ, S, F, _, R, k, hw, hx, fun vs ds S1 F1 H1 k1 e1 p1 r1 h1 => ?_⟩
  obtain ⟨x1, x2⟩ := fo_ex k1
  refine ⟨zp (fo O σ Δ F1 H1) H1, ds ++ dd, noS, fo O σ Δ F1 H1, _, noR, pure_args x2 ((r1.fo k1).app (hd _)), h1, XQ.never, fun v d S' F' H' c e r hp => ?_⟩
  have hH : Ex H1 H' := fun b o q => by
    cases y : fo O σ Δ F1 H1 b with
    | some u =>
      have z := x2 b u y
      rw [q] at z; cases z
      exact c.fH b _ (e b _ y)
    | none => exact c.zH b o (by unfold zp; rw [if_pos y]; exact q)
  have al : Al F1 H1 F1 H' := ⟨Ex.refl _, hH, k1.fH.trans hH, fun _ _ q => .inl q⟩
  exact hq v d S1 F1 H' (k1.al al) e1 (pureA p1 al) (isScal_rep (show Rep X.K F' v d from r) hp.1) hp.2
theorem de_callB (hd : ∀ F, Reps X.K F dvs dd) (h : PE X e (tCall (spW X.K X.mg false fn) dvs E (rdAB X.K X.mg b O E wA))) : DE X b O E e (eCallB fn (aDef wA dd)) := pe_to h (rd_callB hd)
end
end DL

/-! DR11: springs; defs as the top leaves them, and their calls. -/
namespace DL
open PySem PySem.Spec PyProof.Rows L2

/-! ### an object is changed -/
theorem ObR.get {K : PySem.W.Frag} {F H : Hp} {a : Addr} {o : Ob} (h : ObR K F H a o) : H a ≠ none := by
  obtain ⟨u, hu⟩ := h.some
  rw [hu]; simp
theorem Wd.obSet {K : PySem.W.Frag} {O : List Nat} {Z : Hp} {σ : L2.St} {Δ : Env} {S : Sto} {F H : Hp} (k : Wd K O Z σ Δ S F H) {a : Addr} {ob ob' : Ob} {o : HO} (ha : S a = some ob) (hn : ObR K F (L2.upd H a o) a ob') :
    Wd K O Z σ Δ (S.upd a ob') F (L2.upd H a o) := by
  obtain ⟨f1, z1, o1⟩ := k.st a ob ha
  refine ⟨k.fH.mut f1, k.zH.mut z1, k.fz, fun b u q => ?_, k.fr, fun i d ni q => ?_, k.sep, k.len⟩
  · unfold Sto.upd at q
    by_cases z : b = a
    · subst z
      rw [if_pos rfl] at q; cases q
      exact ⟨f1, z1, hn⟩
    · rw [if_neg z] at q
      obtain ⟨h1, h2, h3⟩ := k.st b u q
      exact ⟨h1, h2, h3.mono (Ex.refl _) (upd_ne z)⟩
  · obtain ⟨p, u, a1, a2, a3, a4, a5, a6⟩ := k.ow i d ni q
    have z : p ≠ a := fun z => by rw [z, ha] at a6; cases a6
    refine ⟨p, u, a1, (upd_ne z).trans a2, a3, a4, a5, ?_⟩
    unfold Sto.upd
    rw [if_neg z]; exact a6
/-- a new object -/
theorem Wd.obNew {K : PySem.W.Frag} {O : List Nat} {Z : Hp} {σ : L2.St} {Δ : Env} {S : Sto} {F H : Hp} (k : Wd K O Z σ Δ S F H) {a : Addr} {ob : Ob} (hF : F a = none) (hZ : Z a = none) (hw : ∀ (j : Nat) (e : D), j ∈ O → Δ[j]? = some (some e) → σ[j]? ≠ some (some (.ref a))) (hn : ObR K F H a ob) :
    Wd K O Z σ Δ (S.upd a ob) F H := by
  refine ⟨k.fH, k.zH, k.fz, fun b u q => ?_, k.fr, fun i d ni q => ?_, k.sep, k.len⟩
  · unfold Sto.upd at q
    by_cases z : b = a
    · subst z
      rw [if_pos rfl] at q; cases q
      exact ⟨hF, hZ, hn⟩
    · rw [if_neg z] at q; exact k.st b u q
  · obtain ⟨p, u, a1, a2, a3, a4, a5, a6⟩ := k.ow i d ni q
    have z : p ≠ a := fun z => hw i d ni q (z ▸ a1)
    refine ⟨p, u, a1, a2, a3, a4, a5, ?_⟩
    unfold Sto.upd
    rw [if_neg z]; exact a6

/-! ### springs: three ints, of which only the ranges are told -/
def sprOk (i v : Int) : Prop := (i = 0 → 0 ≤ v) ∧ (i = 1 → 0 ≤ v ∧ v < 2 ^ 61)
def eSpr (o : WE) (i : Int) : WE := fun Δ S P R => o Δ S (fun x S1 => ∃ a, x = .obj a ∧ S1 a = some .spr ∧ (i = 0 ∨ i = 1 ∨ i = 2) ∧ ∀ v, sprOk i v → P (.int v) S1) R
def gSprPut (o : WE) (i : Int) (e : WE) : WS := fun Δ S B R => e Δ S (fun v S1 => ∃ n, v = .int n ∧ o Δ S1 (fun x S2 => ∃ a, x = .obj a ∧ S2 a = some .spr ∧ (i = 0 ∨ i = 1 ∨ i = 2) ∧ sprOk i n ∧ B.nx Δ S2) R) R
section
variable {X : Cx} {b : Bool} {O L : List Nat} {E : XK} {own : Bool} {o e : Expr} {wo we : WE} {pos p1 p2 : Pos} {i : Int} {j : Nat}
theorem de_spr (ho : DE X b O E o wo) (hs : PlainIx (.Constant (.int i) j p1)) : DE X b O E (.Subscript o (.Constant (.int i) j p1) pos) (eSpr wo i) :=
  pe_to (pe_ix ix_seq ho pe_int hs) fun σ H Q ⟨Z, Δ, S, F, P, R, k, hw, hx, hq⟩ => ⟨Z, Δ, S, F, _, R, k, hw, hx, fun v d S1 F1 H1 k1 e1 p1 r1 ⟨a, hd, ha, hi, h1⟩ => by
    subst hd
    cases r1
    obtain ⟨_, _, x, s, c, hl, h0, h2, h3⟩ := k1.st a _ ha
    have fin : ∀ y : Int, atI [V.int x, V.int s, V.int c] i = some (.int y) → sprOk i y → rIx X.K (.ref a) (.int i) H1 Q := fun y hy hok => .inl ⟨a, _, i, _, rfl, rfl, .inl (.inl hl), hy, hq _ _ S1 F1 H1 k1 e1 p1 (.int y) (h1 y hok)⟩
    rcases hi with rfl | rfl | rfl
    · exact fin x rfl ⟨fun _ => h0, fun z => absurd z (by decide)⟩
    · exact fin s rfl ⟨fun z => absurd z (by decide), fun _ => ⟨h2, h3⟩⟩
    · exact fin c rfl ⟨fun z => absurd z (by decide), fun z => absurd z (by decide)⟩⟩
theorem ds_sprPut (ho : DE X b O E o wo) (he : DE X b O E e we) (hp : ∀ {te to}, PE X e te → PE X o to → PS X (.Assign [.Subscript o (.Constant (.int i) j p1) p2] e pos) (tAsg te (gSub to (tC (.int i)) rSetL))) :
    DS X O O L E own (.Assign [.Subscript o (.Constant (.int i) j p1) p2] e pos) (gSprPut wo i we) :=
  ps_to (hp he ho) fun D σ H ⟨Z, Δ, S, F, B, R, k, hg, er⟩ => ⟨Z, Δ, S, F, _, R, k, hg, er.ex, fun v d S1 F1 H1 k1 e1 _ r1 ⟨n, hd, h1⟩ => by
    subst hd
    cases r1
    refine ⟨Z, Δ, S1, F1, _, R, k1, h1, er.ex.mono e1, fun y dy S2 F2 H2 k2 e2 _ r2 ⟨a, hy, ha, hi, hok, hn⟩ => ?_⟩
    subst hy
    cases r2
    obtain ⟨_, _, x, s, c, hl, h0, h2, h3⟩ := k2.st a _ ha
    have fin : ∀ (m : Nat) (x' s' c' : Int), ixN 3 i = some m → [V.int x, V.int s, V.int c].set m (.int n) = [V.int x', V.int s', V.int c'] → 0 ≤ x' → 0 ≤ s' → s' < 2 ^ 61 →
        rSetL (.ref a) (.int i) (.int n) H2 (fun H3 => D.nx σ H3) := fun m x' s' c' hm hset g0 g1 g2 => ⟨a, _, i, m, rfl, rfl, hl, hm, by
      rw [hset]
      have hS : S2.upd a .spr = S2 := by
        funext b
        unfold Sto.upd
        by_cases z : b = a
        · rw [if_pos z, z, ha]
        · rw [if_neg z]
      have kk := k2.obSet (ob' := .spr) ha ⟨x', s', c', upd_same, g0, g1, g2⟩
      rw [hS] at kk
      exact er.nx σ Δ S2 F2 _ kk (e1.trans e2) hn⟩
    rcases hi with rfl | rfl | rfl
    · exact fin 0 n s c rfl rfl (hok.1 rfl) h2 h3
    · exact fin 1 x n c rfl rfl h0 (hok.2 rfl).1 (hok.2 rfl).2
    · exact fin 2 x s n rfl rfl h0 h2 h3⟩
end
/-- a new list of three ints as a spring -/
def sprBox (f : Fn) : Fn := fun ds S P R => f ds S (fun d S1 => ∃ x s c : Int, d = .lst [.int x, .int s, .int c] ∧ 0 ≤ x ∧ 0 ≤ s ∧ s < 2 ^ 61 ∧ ∀ a, S1 a = none → P (.obj a) (S1.upd a .spr)) R
theorem spW_spr {K : PySem.W.Frag} {mg : Str → Option Value} {f : Fn} : ∀ vs H Q E, spW K mg false (sprBox f) vs H Q E → spW K mg true f vs H Q E :=
  fun vs H Q E ⟨Z, ds, S, F, P, R, k, hf, hx, hq⟩ => ⟨Z, ds, S, F, _, R, k, hf, hx, fun v d S' F' H' k' e' r ⟨x, s, c, hd, h0, h1, h2, hp⟩ => by
    subst hd
    obtain ⟨p, o, rfl, a2, a3, a4, a5, a6, _⟩ := (show NRep K [] [] [] Z S' F' H' v _ from r)
    refine hq (.ref p) (.obj p) _ F' H' (k'.obNew a4 a5 (fun j e hj => absurd hj (by simp)) (ob := .spr) ?_) e' (.obj p) (hp p a6)
    cases a3 with
    | lst rr =>
      cases rr with
      | cons r1 rr => cases rr with
        | cons r2 rr => cases rr with
          | cons r3 rr =>
            cases rr; cases r1; cases r2; cases r3
            exact ⟨x, s, c, a2, h0, h1, h2⟩⟩

/-! ### defs as the top leaves them -/
/-- a def of the top by its promise -/
structure FnT (P : Program) (w : World) (K : PySem.W.Frag) (mg : Str → Option Value) (base : Heap) (CX : CXT) (k : Nat) (n x : Str) (st : Stmt) (dvs : List V) (ps : List Str) (sp : Sp) : Prop where
  ex : ∃ f fd, FnG P w K mg base CX k f fd ps sp ∧ FunD K x x (defArgs st) (defBody st) (defScope st) dvs [] f fd ∧ mg n = some (.ref f)
/-- what the top says of a def -/
structure DefT (K : PySem.W.Frag) (mg : Str → Option Value) (n x : Str) (st : Stmt) (dvs : List V) : Prop where
  ex : ∃ f fd, FunD K x x (defArgs st) (defBody st) (defScope st) dvs [] f fd ∧ mg n = some (.ref f)
section
variable {P : Program} {w : World} {K : PySem.W.Frag} {mg : Str → Option Value} {base : Heap} {CX : CXT} {k : Nat} {nm x : Str} {st : Stmt} {dvs : List V} {N ps : List Str} {O On L : List Nat} {g : WS}
theorem FnT.imp {sp sp' : Sp} (F : FnT P w K mg base CX k nm x st dvs ps sp) (h : ∀ vs H Q E, sp' vs H Q E → sp vs H Q E) : FnT P w K mg base CX k nm x st dvs ps sp' := by
  obtain ⟨f, fd, h1, h2⟩ := F.ex
  exact ⟨f, fd, h1.imp h, h2⟩
theorem FnT.by {own : Bool} {f' g' : Fn} (F : FnT P w K mg base CX k nm x st dvs ps (spW K mg own f')) (h : ∀ ds S P R, g' ds S P R → f' ds S P R) : FnT P w K mg base CX k nm x st dvs ps (spW K mg own g') := F.imp (spW_imp h)
theorem FnT.up {j : Nat} {sp : Sp} (F : FnT P w K mg base CX j nm x st dvs ps sp) (h : j ≤ k) : FnT P w K mg base CX k nm x st dvs ps sp := by
  obtain ⟨f, fd, h1, h2⟩ := F.ex
  exact ⟨f, fd, h1.up h, h2⟩
theorem DefT.fn (T : DefT K mg nm x st dvs) (S : FnScope N ps (defScope st)) (hO : ∀ i, i ∈ O → ps.length ≤ i) (hb : ∀ f cdv, Body CX P w K mg base N x (defScope st) f cdv k fun X E => DSs X O On L E false (defBody st) g) :
    FnT P w K mg base CX (k + 1) nm x st dvs ps (spW K mg false (fnW ps.length N.length g)) := by
  obtain ⟨f, fd, F, hm⟩ := T.ex
  obtain ⟨oc, od, dV, kV, doc, pm, an, cdv, ct, osl, rfl, lk, hcd, _, _⟩ := id F.ex
  exact ⟨f, _, fnG_w lk hcd S hO (hb f cdv), F, hm⟩
theorem DefT.fno (T : DefT K mg nm x st dvs) (S : FnScope N ps (defScope st)) (hO : ∀ i, i ∈ O → ps.length ≤ i) (hb : ∀ f cdv, Body CX P w K mg base N x (defScope st) f cdv k fun X E => DSs X O On L E true (defBody st) g) :
    FnT P w K mg base CX (k + 1) nm x st dvs ps (spW K mg true (fnWo ps.length N.length g)) := by
  obtain ⟨f, fd, F, hm⟩ := T.ex
  obtain ⟨oc, od, dV, kV, doc, pm, an, cdv, ct, osl, rfl, lk, hcd, _, _⟩ := id F.ex
  exact ⟨f, _, fnG_wo lk hcd S hO (hb f cdv), F, hm⟩
/-- a def as it is called with some of its arguments, the others by default -/
structure CalG (P : Program) (w : World) (K : PySem.W.Frag) (mg : Str → Option Value) (base : Heap) (CX : CXT) (k : Nat) (x : Str) (sp : Sp) (dvs : List V) (dd : List D) : Prop where
  ex : ∃ f fd ps ds, FnG P w K mg base CX k f fd ps sp ∧ mg x = some (.ref f) ∧ PySem.W.keepIn K (.ref f) = true ∧ Binds K fd ps ds ∧ Vals dvs ds
  rep : ∀ F, Reps K F dvs dd
theorem FnT.call {sp : Sp} (F : FnT P w K mg base CX k nm x st [] ps sp)
    (h : ∀ (kV doc pm : Value) (an : Option Addr) (cdv ct : Value) (us : List Value), us.length = ps.length → bindArgs (PySem.W.fnOf x x (defArgs st) (defBody st) (defScope st) .none kV doc pm an cdv ct) ⟨us, []⟩ = pure (ps.zip us)) : CalG P w K mg base CX k nm sp [] [] := by
  obtain ⟨f, fd, h1, h2, h3⟩ := F.ex
  obtain ⟨oc, od, dV, kV, doc, pm, an, cdv, ct, osl, rfl, lk, hcd, hD, _⟩ := id h2.ex
  refine ⟨⟨f, _, ps, [], h1, h3, h2.kp, ?_, .nil⟩, fun _ => .nil⟩
  rcases hD with ⟨_, rfl⟩ | ⟨e, _⟩
  · exact .all (h kV doc pm an cdv ct)
  · exact absurd rfl e
theorem FnT.callD {sp : Sp} {dd : List D} (F : FnT P w K mg base CX k nm x st dvs ps sp) (n j : Nat) (hd : dvs ≠ []) (hn : n + (dvs.length - j) = ps.length)
    (h : ∀ (T : Addr) (kV doc pm : Value) (an : Option Addr) (cdv ct : Value) (us its : List Value), us.length = n → its.length = dvs.length →
      ∃ k, bindArgs (PySem.W.fnOf x x (defArgs st) (defBody st) (defScope st) (.ref T) kV doc pm an cdv ct) ⟨us, []⟩ = seqItems? (.ref T) >>= k ∧ k (some its.toArray) = pure (ps.zip (us ++ its.drop j)))
    (hr : ∀ F, Reps K F (dvs.drop j) dd) : CalG P w K mg base CX k nm sp (dvs.drop j) dd := by
  obtain ⟨f, fd, h1, h2, h3⟩ := F.ex
  obtain ⟨ds, hv, hb⟩ := h2.binds1 n j hd hn h
  exact ⟨⟨f, fd, ps, ds, h1, h3, h2.kp, hb, hv⟩, hr⟩
end
section
variable {X : Cx} {CX : CXT} {k : Nat} {x : Str} {own b : Bool} {fn : Fn} {dvs : List V} {dd : List D} {E : XK} {O : List Nat} {e : Expr} {es : List Expr} {p pos : Pos} {wA : WA} {sp : Sp} {t : TA}
theorem pe_cal (C : CalG X.prog X.w X.K X.mg X.base CX k x sp dvs dd) (hgu : X.A.guards = some []) (hr : Room k X.A) (hg : Gl X x) (hx : Passes CX X E) (ha : PA X (e :: es) t)
    (hdb : (x == ("__debug__" : Str)) = false := by decide) (he : starEach (e :: es) X.env = (false, eval e X.env) :: starEach es X.env := by rfl) (hpl : (backTo pos (starEach es X.env)).any (·.1) = false := by rfl) :
    PE X (.Call (.Name x p) (e :: es) [] pos) (tCall sp dvs E t) := by
  obtain ⟨f, fd, ps, ds, h1, h2, h3, h4, h5⟩ := C.ex
  exact pe_callG h1 hgu hr hg h2 h3 h4 h5 hx ha hdb he hpl
theorem ce_call (C : CalG X.prog X.w X.K X.mg X.base CX k x (spW X.K X.mg false fn) dvs dd) (hgu : X.A.guards = some []) (hr : Room k X.A) (hg : Gl X x) (hx : Passes CX X E) (ha : DA X false O E (e :: es) wA)
    (hdb : (x == ("__debug__" : Str)) = false := by decide) (he : starEach (e :: es) X.env = (false, eval e X.env) :: starEach es X.env := by rfl) (hpl : (backTo pos (starEach es X.env)).any (·.1) = false := by rfl) :
    DE X false O E (.Call (.Name x p) (e :: es) [] pos) (eCall fn (aDef wA dd)) := de_call C.rep (pe_cal C hgu hr hg hx ha hdb he hpl)
theorem cn_call (C : CalG X.prog X.w X.K X.mg X.base CX k x (spW X.K X.mg true fn) dvs dd) (hgu : X.A.guards = some []) (hr : Room k X.A) (hg : Gl X x) (hx : Passes CX X E) (ha : DA X false O E (e :: es) wA)
    (hdb : (x == ("__debug__" : Str)) = false := by decide) (he : starEach (e :: es) X.env = (false, eval e X.env) :: starEach es X.env := by rfl) (hpl : (backTo pos (starEach es X.env)).any (·.1) = false := by rfl) :
    DN X false O E (.Call (.Name x p) (e :: es) [] pos) (eCall fn (aDef wA dd)) := dn_call C.rep (pe_cal C hgu hr hg hx ha hdb he hpl)
theorem ce_callP (C : CalG X.prog X.w X.K X.mg X.base CX k x (spW X.K X.mg false fn) dvs dd) (hgu : X.A.guards = some []) (hr : Room k X.A) (hg : Gl X x) (hx : Passes CX X E) (ha : DA X b O E (e :: es) wA)
    (hdb : (x == ("__debug__" : Str)) = false := by decide) (he : starEach (e :: es) X.env = (false, eval e X.env) :: starEach es X.env := by rfl) (hpl : (backTo pos (starEach es X.env)).any (·.1) = false := by rfl) :
    DE X b O E (.Call (.Name x p) (e :: es) [] pos) (eCallP fn (aDef wA dd)) := de_callP C.rep (pe_cal C hgu hr hg hx ha hdb he hpl)
theorem cn_callP (C : CalG X.prog X.w X.K X.mg X.base CX k x (spW X.K X.mg true fn) dvs dd) (hgu : X.A.guards = some []) (hr : Room k X.A) (hg : Gl X x) (hx : Passes CX X E) (ha : DA X b O E (e :: es) wA)
    (hdb : (x == ("__debug__" : Str)) = false := by decide) (he : starEach (e :: es) X.env = (false, eval e X.env) :: starEach es X.env := by rfl) (hpl : (backTo pos (starEach es X.env)).any (·.1) = false := by rfl) :
    DN X b O E (.Call (.Name x p) (e :: es) [] pos) (eCallP fn (aDef wA dd)) := dn_callP C.rep (pe_cal C hgu hr hg hx ha hdb he hpl)
theorem ce_callB (C : CalG X.prog X.w X.K X.mg X.base CX k x (spW X.K X.mg false fn) dvs dd) (hgu : X.A.guards = some []) (hr : Room k X.A) (hg : Gl X x) (hx : Passes CX X E) (ha : DAB X b O E (e :: es) wA)
    (hdb : (x == ("__debug__" : Str)) = false := by decide) (he : starEach (e :: es) X.env = (false, eval e X.env) :: starEach es X.env := by rfl) (hpl : (backTo pos (starEach es X.env)).any (·.1) = false := by rfl) :
    DE X b O E (.Call (.Name x p) (e :: es) [] pos) (eCallB fn (aDef wA dd)) := de_callB C.rep (pe_cal C hgu hr hg hx ha hdb he hpl)
theorem passN {X : Cx} {E : XK} : Passes CX0 X E := fun _ _ _ _ _ _ _ h => h.elim
/-- nothing leaves where nothing is wished -/
theorem passC {X : Cx} : Passes (L2.CX X.prog X.w) X E0 := fun _ _ _ _ _ _ _ ⟨_, _, _, _, _, _, _, _, _, _, _, _, h⟩ => h.elim
end
end DL

/-! DR12: small words for the printed walks. -/
namespace DL
open PySem PySem.Spec PyProof.Rows L2
theorem _root_.L2.Room.u70 {k : Nat} {A : Around} (r : Room k A) : A.units + 70 < cLine := by have := r.un; omega
/-- a constant of the module -/
def GlobT (K : PySem.W.Frag) (mg : Str → Option Value) (x : Str) (d : D) : Prop := ∃ v u, mg x = some u ∧ RelV v u ∧ ∀ F, Rep K F v d
theorem de_globT {X : Cx} {O : List Nat} {E : XK} {x : Str} {pos : Pos} {d : D} (hg : Gl X x) (h : GlobT X.K X.mg x d) (hd : (x == ("__debug__" : Str)) = false := by decide) : DE X true O E (.Name x pos) (eC d) := by
  obtain ⟨v, u, h1, h2, h3⟩ := h
  exact de_glob hg h1 h2 h3 hd
def gDPut (i : Nat) (e ix : WE) : WS := fun Δ S B R => gPut i (fun Δ S P R => (∃ kvs, Δ[i]? = some (some (.dct kvs))) ∧ e Δ S P R) ix Δ S B R
def eSlN (a : WE) (l h : Env → W (Option Int)) : WE := fun Δ S P R => eSl a l h Δ S (fun d S1 => (∃ xs, d = .lst xs) ∧ P d S1) R
theorem DefT.never {P : Program} {w : World} {K : PySem.W.Frag} {mg : Str → Option Value} {base : Heap} {CX : CXT} {k : Nat} {nm x : Str} {st : Stmt} {dvs : List V} {ps : List Str} {own : Bool} (T : DefT K mg nm x st dvs) :
    FnT P w K mg base CX k nm x st dvs ps (spW K mg own fun _ _ _ _ => False) := by
  obtain ⟨f, fd, F, hm⟩ := T.ex
  exact ⟨f, fd, ⟨fun vs H Q E ⟨_, _, _, _, _, _, _, h, _⟩ => h.elim, fun A outer s H args us vs Q E _ _ _ _ _ ⟨_, _, _, _, _, _, _, h, _⟩ => h.elim⟩, F, hm⟩
end DL
namespace DL
open PySem PySem.Spec PyProof.Rows L2
/-- the law's def, its function object told once -/
theorem law_fin {l : PySem.W.OpenLaw} {w : World} {K : PySem.W.Frag} {mg : Str → Option Value} {CX : CXT} {k : Nat} {st : Stmt} {x : Str} {sp : Sp} {fa : Addr} (T : DefT K mg "law" "law" st []) (hfa : mg "law" = some (.ref fa))
    (hb : ∀ (kV doc pm : Value) (an : Option Addr) (cdv ct u : Value), bindArgs (PySem.W.fnOf "law" "law" (defArgs st) (defBody st) (defScope st) .none kV doc pm an cdv ct) ⟨[u], []⟩ = pure [(x, u)])
    (h : ∀ base : Heap, FnT l.prog w K mg base CX k "law" "law" st [] [x] sp) :
    ∃ fd : FuncData, (∀ (s : Shared) (u : Value), BindsTo s fd ⟨[u], []⟩ [(x, u)]) ∧ ∀ base : Heap, K.In base → base.Ns mainGlobals mg → FnG l.prog w K mg base CX k fa fd [x] sp := by
  obtain ⟨f, fd, F, hm⟩ := T.ex
  rw [hfa] at hm
  cases hm
  obtain ⟨oc, od, dV, kV, doc, pm, an, cdv, ct, osl, rfl, lk, hcd, hD, _⟩ := F.ex
  rcases hD with ⟨_, rfl⟩ | ⟨e, _⟩
  · refine ⟨_, fun s u => .of_eq (hb kV doc pm an cdv ct u), fun base _ _ => ?_⟩
    obtain ⟨f2, fd2, G2, F2, hm2⟩ := (h base).ex
    rw [hfa] at hm2
    cases hm2
    obtain ⟨_, _, _, _, _, _, _, _, _, _, e2, lk2, _⟩ := F2.ex
    rw [lk] at lk2
    cases lk2
    exact G2
  · exact absurd rfl e
end DL

/-! DR13: in, index, reversal; lists that are objects; bags. -/
namespace DL
open PySem PySem.Spec PyProof.Rows L2

/-! ### x in a list or tuple of scalars -/
def scEq : D → D → Bool
  | .non, .non => true
  | .bl a, .bl b => a == b
  | .bl a, .int b => (if a then 1 else 0) == b
  | .int a, .bl b => a == (if b then 1 else 0)
  | .int a, .int b => a == b
  | .str a, .str b => a == b
  | _, _ => false
def seqB : D → Option (List D)
  | .lst xs => some xs
  | .tup xs => some xs
  | _ => none
def dInL (x y : D) : Option D := (seqB y).bind fun xs => if isScal x = true ∧ xs.all isScal = true then some (.bl (xs.any fun z => scEq z x)) else none
def dNotInL (x y : D) : Option D := (seqB y).bind fun xs => if isScal x = true ∧ xs.all isScal = true then some (.bl (!xs.any fun z => scEq z x)) else none
theorem rep_flat {K : PySem.W.Frag} {F : Hp} {v : V} {d : D} (r : Rep K F v d) (h : isScal d = true) : flatV v = true := by
  cases r with
  | non => rfl
  | bl b => rfl
  | int i => rfl
  | str x => rfl
  | _ => cases h
theorem rep_eq {K : PySem.W.Frag} {F : Hp} {v u : V} {d e : D} (r : Rep K F v d) (s : Rep K F u e) (h : isScal d = true) (h2 : isScal e = true) : eqV v u = scEq d e := by
  cases r <;> first | (cases h; done) | (cases s <;> first | rfl | (cases h2; done))
theorem reps_flat {K : PySem.W.Frag} {F : Hp} : ∀ {vs : List V} {ds : List D}, Reps K F vs ds → ds.all isScal = true → vs.all flatV = true
  | _, _, .nil, _ => rfl
  | _, _, .cons r t, h => by
    rw [List.all_cons, Bool.and_eq_true] at h
    rw [List.all_cons, rep_flat r h.1, reps_flat t h.2]
    rfl
theorem reps_any {K : PySem.W.Frag} {F : Hp} {u : V} {e : D} (s : Rep K F u e) (h2 : isScal e = true) : ∀ {vs : List V} {ds : List D}, Reps K F vs ds → ds.all isScal = true → (vs.any fun y => eqV y u) = ds.any fun z => scEq z e
  | _, _, .nil, _ => rfl
  | _, _, .cons r t, h => by
    rw [List.all_cons, Bool.and_eq_true] at h
    rw [List.any_cons, List.any_cons, rep_eq r s h.1 h2, reps_any s h2 t h.2]
theorem scal_see {K : PySem.W.Frag} {F H : Hp} {v : V} {d : D} (r : VRep K F H v d) (h : isScal d = true) : Rep K F v d := by
  cases r with
  | rep r => exact r
  | own _ o => cases o <;> cases h
theorem seq_see {K : PySem.W.Frag} {F H : Hp} {v : V} {d : D} {xs : List D} (ex : Ex F H) (r : VRep K F H v d) (h : seqB d = some xs) : ∃ p vs, v = .ref p ∧ (SqL K H p vs ∨ SqT K H p vs) ∧ Reps K F vs xs := by
  cases d with
  | lst ys => cases h; obtain ⟨p, vs, rfl, hp, rr⟩ := r.lst ex; exact ⟨p, vs, rfl, .inl (.inl (.inl hp)), rr⟩
  | tup ys => cases h; obtain ⟨p, vs, rfl, hp, rr⟩ := r.tup ex; exact ⟨p, vs, rfl, .inr hp, rr⟩
  | _ => cases h
theorem s_inL {K : PySem.W.Frag} : OpS K dInL (rIn K false) := fun F H x y d1 d2 z Q ex r1 r2 hz hq => by
  obtain ⟨xs, hs, h⟩ := Option.bind_eq_some_iff.mp hz
  obtain ⟨⟨hx, ha⟩, rfl⟩ := ite_some h
  obtain ⟨p, vs, rfl, hv, rr⟩ := seq_see ex r2 hs
  have rx := scal_see r1 hx
  refine ⟨p, vs, rfl, hv, rep_flat rx hx, reps_flat rr ha, ?_⟩
  have e : inV x vs = xs.any fun z => scEq z d1 := reps_any rx hx rr ha
  simp only [Bool.false_eq_true, if_false, e]
  exact hq _ F H (Al.refl ex) (.bl _)
theorem s_notInL {K : PySem.W.Frag} : OpS K dNotInL (rIn K true) := fun F H x y d1 d2 z Q ex r1 r2 hz hq => by
  obtain ⟨xs, hs, h⟩ := Option.bind_eq_some_iff.mp hz
  obtain ⟨⟨hx, ha⟩, rfl⟩ := ite_some h
  obtain ⟨p, vs, rfl, hv, rr⟩ := seq_see ex r2 hs
  have rx := scal_see r1 hx
  refine ⟨p, vs, rfl, hv, rep_flat rx hx, reps_flat rr ha, ?_⟩
  have e : inV x vs = xs.any fun z => scEq z d1 := reps_any rx hx rr ha
  simp only [if_true, e]
  exact hq _ F H (Al.refl ex) (.bl _)
/-- xs.index(y) -/
def mIndex : D → List D → Option D
  | .lst xs, [y] => if isScal y = true ∧ xs.all isScal = true ∧ (xs.any fun z => scEq z y) = true then some (.int (xs.findIdx fun z => scEq z y : Nat)) else none
  | _, _ => none
theorem s_index {K : PySem.W.Frag} : MtS K mIndex (rIndex K) := fun F H x xs d ds z Q ex r rs hz hq => by
  unfold mIndex at hz
  split at hz
  · rename_i ys y
    obtain ⟨⟨hy, ha, hany⟩, rfl⟩ := ite_some hz
    obtain ⟨p, vs, rfl, hp, rr⟩ := r.lst ex
    obtain ⟨v, rfl, rv⟩ := rs.one
    have ry := scal_see rv hy
    have hlt : (ys.findIdx fun z => scEq z y) < ys.length := List.findIdx_lt_length.mpr (List.any_eq_true.mp hany)
    obtain ⟨u, hu, ru⟩ := rr.get (List.getElem?_eq_getElem hlt)
    have hflat := List.all_eq_true.mp ha
    refine ⟨p, vs, v, _, u, rfl, rfl, .inl (.inl hp), rep_flat ry hy, reps_flat rr ha, hu, ?_, fun m z' hm hz' => ?_, hq _ F H (Al.refl ex) (.int _)⟩
    · rw [rep_eq ru ry (hflat _ (List.getElem_mem hlt)) hy]
      exact List.findIdx_getElem (w := hlt)
    · obtain ⟨d', hd', rd'⟩ := rr.getV hz'
      rw [rep_eq rd' ry (hflat _ (List.mem_of_getElem? hd')) hy]
      have := List.not_of_lt_findIdx hm
      obtain ⟨hl2, rfl⟩ := List.getElem?_eq_some_iff.mp hd'
      simpa using this
  · cases hz
section
variable {X : Cx} {b : Bool} {O On L : List Nat} {E : XK} {own : Bool} {o e c : Expr} {wo we wi : WE} {pos : Pos}
/-- xs[::-1] -/
def eRev (a : WE) : WE := fun Δ S P R => a Δ S (fun x S1 => ∃ xs, x = .lst xs ∧ P (.lst xs.reverse) S1) R
theorem Reps.rev {K : PySem.W.Frag} {F : Hp} : ∀ {vs : List V} {ds : List D}, Reps K F vs ds → Reps K F vs.reverse ds.reverse
  | _, _, .nil => .nil
  | _, _, .cons r t => by
    rw [List.reverse_cons, List.reverse_cons]
    exact (Reps.rev t).app (.cons r .nil)
theorem dn_rev {k : Nat} {p1 p2 p3 : Pos} (ho : DB X b O E o wo) : DN X b O E (.Subscript o (.Slice none none (some (.UnaryOp .USub (.Constant (.int 1) k p1) p2)) p3) pos) (eRev wo) :=
  pe_to (pe_revL ho) fun σ H Q ⟨Z, Δ, S, F, P, R, k, hw, hx, hq⟩ => ⟨Z, Δ, S, F, _, R, k, hw, hx, fun v d S1 F1 H1 k1 e1 p1 r1 ⟨xs, hd, hp⟩ => by
    subst hd
    obtain ⟨p, vs, rfl, hv, rr⟩ := (r1.see k1).lst k1.fH
    refine ⟨p, vs, rfl, .inl (.inl hv), fun q nq => ?_⟩
    obtain ⟨k2, f1, f2, f3, f4⟩ := new_cell k1 nq (.lst vs.reverse)
    exact hq (.ref q) (.lst xs.reverse) S1 F1 _ k2 e1 (pureA p1 ⟨Ex.refl _, Ex.new nq, k2.fH, fun _ _ q => .inl q⟩) ⟨q, _, rfl, upd_same, .lst (Reps.rev rr), f1, f2, f3, f4⟩ (fun y q hq => by cases hq; exact (p1 y).2.h.none nq) hp⟩

/-! ### lists that are objects -/
def eObj (wo wi : WE) : WE := fun Δ S P R => wo Δ S (fun x S1 => wi Δ S1 (fun y S2 => ∃ a ds k z, x = .obj a ∧ S2 a = some (.lst ds) ∧ y = .int k ∧ L2.atI ds k = some z ∧ P z S2) R) R
def gObjPut (wo wi we : WE) : WS := fun Δ S B R => we Δ S (fun v S1 => wo Δ S1 (fun x S2 => wi Δ S2 (fun y S3 => ∃ a ds k j, x = .obj a ∧ S3 a = some (.lst ds) ∧ y = .int k ∧ L2.ixN ds.length k = some j ∧ B.nx Δ (S3.upd a (.lst (ds.set j v)))) R) R) R
theorem de_obj (ho : DE X b O E o wo) (hi : DE X b O E c wi) (hs : PlainIx c) : DE X b O E (.Subscript o c pos) (eObj wo wi) :=
  pe_to (pe_ix ix_seq ho hi hs) fun σ H Q ⟨Z, Δ, S, F, P, R, k, hw, hx, hq⟩ => ⟨Z, Δ, S, F, _, R, k, hw, hx, fun v d S1 F1 H1 k1 e1 p1 r1 h1 => ⟨Z, Δ, S1, F1, _, R, k1, h1, hx.mono e1, fun u e S2 F2 H2 k2 e2 p2 r2 ⟨a, ds, i, z, hd, ha, he, hz, hp⟩ => by
    subst hd he
    cases r1
    cases r2
    obtain ⟨_, _, vs, hv, rr⟩ := k2.st a _ ha
    obtain ⟨y, hy, ry⟩ := atI_reps rr hz
    exact .inl ⟨a, vs, i, y, rfl, rfl, .inl (.inl hv), hy, hq y z S2 F2 H2 k2 (e1.trans e2) (pure2 p1 p2) ry hp⟩⟩⟩
theorem ds_objPut {p2 : Pos} (ho : DE X b O E o wo) (hi : DE X b O E c wi) (he : DE X b O E e we) (hp : ∀ {te to ti}, PE X e te → PE X o to → PE X c ti → PS X (.Assign [.Subscript o c p2] e pos) (tAsg te (gSub to ti rSetL))) :
    DS X O O L E own (.Assign [.Subscript o c p2] e pos) (gObjPut wo wi we) :=
  ps_to (hp he ho hi) fun D σ H ⟨Z, Δ, S, F, B, R, k, hg, er⟩ => ⟨Z, Δ, S, F, _, R, k, hg, er.ex, fun v d S1 F1 H1 k1 e1 _ r1 h1 => ⟨Z, Δ, S1, F1, _, R, k1, h1, er.ex.mono e1, fun x dx S2 F2 H2 k2 e2 _ r2 h2 => ⟨Z, Δ, S2, F2, _, R, k2, h2, er.ex.mono (e1.trans e2), fun y dy S3 F3 H3 k3 e3 _ r3 ⟨a, ds, i, j, hx, ha, hy, hj, hn⟩ => by
    subst hx hy
    cases r2
    cases r3
    obtain ⟨_, _, vs, hv, rr⟩ := k3.st a _ ha
    refine ⟨a, vs, i, j, rfl, rfl, hv, by rw [rr.len]; exact hj, ?_⟩
    exact er.nx σ Δ _ F3 _ (k3.obSet (ob' := .lst (ds.set j d)) ha ⟨_, upd_same, rr.set j (r1.mono (e2.trans e3))⟩) (e1.trans (e2.trans e3)) hn⟩⟩⟩
end
/-! ### bags -/
theorem Wd.obTell {K : PySem.W.Frag} {O : List Nat} {Z : Hp} {σ : L2.St} {Δ : Env} {S : Sto} {F H : Hp} (k : Wd K O Z σ Δ S F H) {a : Addr} {ob ob' : Ob} (ha : S a = some ob) (hn : ObR K F H a ob') : Wd K O Z σ Δ (S.upd a ob') F H := by
  obtain ⟨f1, z1, o1⟩ := k.st a ob ha
  refine ⟨k.fH, k.zH, k.fz, fun b u q => ?_, k.fr, fun i d ni q => ?_, k.sep, k.len⟩
  · unfold Sto.upd at q
    by_cases z : b = a
    · subst z
      rw [if_pos rfl] at q; cases q
      exact ⟨f1, z1, hn⟩
    · rw [if_neg z] at q; exact k.st b u q
  · obtain ⟨p, u, a1, a2, a3, a4, a5, a6⟩ := k.ow i d ni q
    have z : p ≠ a := fun z => by rw [z, ha] at a6; cases a6
    refine ⟨p, u, a1, a2, a3, a4, a5, ?_⟩
    unfold Sto.upd
    rw [if_neg z]; exact a6
/-- a new list of a bag's shape as a bag -/
def bagBox (f : Fn) : Fn := fun ds S P R => f ds S (fun d S1 => ∃ c, d = .lst c ∧ BagOk 0 c ∧ ∀ a, S1 a = none → P (.obj a) (S1.upd a (.bag 0))) R
theorem spW_bag {K : PySem.W.Frag} {mg : Str → Option Value} {f : Fn} : ∀ vs H Q E, spW K mg false (bagBox f) vs H Q E → spW K mg true f vs H Q E :=
  fun vs H Q E ⟨Z, ds, S, F, P, R, k, hf, hx, hq⟩ => ⟨Z, ds, S, F, _, R, k, hf, hx, fun v d S' F' H' k' e' r ⟨c, hd, hok, hp⟩ => by
    subst hd
    obtain ⟨p, o, rfl, a2, a3, a4, a5, a6, _⟩ := (show NRep K [] [] [] Z S' F' H' v _ from r)
    refine hq (.ref p) (.obj p) _ F' H' (k'.obNew a4 a5 (fun j e hj => absurd hj (by simp)) (ob := .bag 0) ?_) e' (.obj p) (hp p a6)
    cases a3 with
    | lst rr => exact ⟨c, _, hok, a2, rr⟩⟩
/-- a bag is opened for the while of a call; m counts its draws -/
def bagUse (f : Fn) : Fn := fun ds S P R => ∃ a m, S a = some (.bag m) ∧ ∀ c, BagOk m c → f ds (S.upd a (.lst c)) (fun d S1 => ∃ c', BagOk (m + 1) c' ∧ S1 a = some (.lst c') ∧ P d (S1.upd a (.bag (m + 1)))) noR
theorem spW_bagUse {K : PySem.W.Frag} {mg : Str → Option Value} {f : Fn} : ∀ vs H Q E, spW K mg false (bagUse f) vs H Q E → spW K mg false f vs H Q E :=
  fun vs H Q E ⟨Z, ds, S, F, P, R, k, ⟨a, m, ha, hf⟩, hx, hq⟩ => by
    obtain ⟨_, _, c, us, hok, hu, ru⟩ := k.st a _ ha
    refine ⟨Z, ds, _, F, _, noR, k.obTell (ob' := .lst c) ha ⟨us, hu, ru⟩, hf c hok, XQ.never, fun v d S' F' H' k' e' r ⟨c', hok', hc', hp⟩ => ?_⟩
    obtain ⟨_, _, us', hu', ru'⟩ := k'.st a _ hc'
    exact hq v d _ F' H' (k'.obTell (ob' := .bag (m + 1)) hc' ⟨c', us', hok', hu', ru'⟩) e' r hp
theorem Sto.upd_same (S : Sto) (a : Nat) (o : Ob) : S.upd a o a = some o := if_pos rfl
theorem Sto.upd_upd (S : Sto) (a : Nat) (o o' : Ob) : (S.upd a o).upd a o' = S.upd a o' := by
  funext b
  unfold Sto.upd
  by_cases z : b = a
  · rw [if_pos z, if_pos z]
  · rw [if_neg z, if_neg z, if_neg z]
theorem obj_rd {a : Nat} {k : Int} {S : Sto} {c : List D} {z : D} {p : D → Prop} (hs : S a = some (.lst c)) (hz : L2.atI c k = some z) (hp : p z) : ∃ a' ds k' z', D.obj a = .obj a' ∧ S a' = some (.lst ds) ∧ D.int k = .int k' ∧ L2.atI ds k' = some z' ∧ p z' := ⟨a, c, k, z, rfl, hs, rfl, hz, hp⟩
theorem obj_wr {a : Nat} {k : Int} {S : Sto} {c : List D} {v : D} {j : Nat} {p : Sto → Prop} (hs : S a = some (.lst c)) (hj : L2.ixN c.length k = some j) (hp : p (S.upd a (.lst (c.set j v)))) :
    ∃ a' ds k' j', D.obj a = .obj a' ∧ S a' = some (.lst ds) ∧ D.int k = .int k' ∧ L2.ixN ds.length k' = some j' ∧ p (S.upd a' (.lst (ds.set j' v))) := ⟨a, c, k, j, rfl, hs, rfl, hj, hp⟩
/-! ### n += k -/
def dAddI : D → D → Option D
  | .int a, .int b => some (.int (a + b))
  | _, _ => none
def dSubI : D → D → Option D
  | .int a, .int b => some (.int (a - b))
  | _, _ => none
theorem s_addI {K : PySem.W.Frag} : OpS K dAddI (ipI fun i j => i + j) := fun F H x y d1 d2 z Q ex r1 r2 hz hq => by
  unfold dAddI at hz
  split at hz
  · cases r1.int; cases r2.int; cases hz
    exact ⟨_, _, rfl, rfl, hq _ F H (Al.refl ex) (.int _)⟩
  · cases hz
theorem s_subI {K : PySem.W.Frag} : OpS K dSubI (ipI fun i j => i - j) := fun F H x y d1 d2 z Q ex r1 r2 hz hq => by
  unfold dSubI at hz
  split at hz
  · cases r1.int; cases r2.int; cases hz
    exact ⟨_, _, rfl, rfl, hq _ F H (Al.refl ex) (.int _)⟩
  · cases hz
end DL

namespace DL
open PySem PySem.SeqAt PySem.Spec PyProof.Rows
theorem dict_eq_declines_str (l : Addr) (es : Array DictEntry) (n : Nat) (dd : Option Addr) (sl : Array (Option Value)) (b : Str) (u : Tok) :
    Meets (Builtin.«dict.__eq__» ⟨[.ref l, .str b u], []⟩) (fun _ R s => s.heap.get? l = some { cls := .type "dict", dict := dd, data := .dict es n, slots := sl } ∧ R (.ok (.ret .notImplemented)) s) :=
  .of_wp fun prog w A R s h => by obtain ⟨hp, g, d, tk, os⟩ := s; obtain ⟨hl, h⟩ := h; have f1 := F.sub_str_dict; wp_walk using wpAny_loadPart' hl; exact ⟨_, rfl, h⟩
theorem str_eq_declines_dict (b : Str) (u : Tok) (l : Addr) (c : Value) (es : Array DictEntry) (n : Nat) (dd : Option Addr) (sl : Array (Option Value)) :
    Meets (Builtin.«str.__eq__» ⟨[.str b u, .ref l], []⟩) (fun _ R s => s.heap.get? l = some { cls := c, dict := dd, data := .dict es n, slots := sl } ∧ R (.ok (.ret .notImplemented)) s) :=
  .of_wp fun prog w A R s h => by obtain ⟨hp, g, d, tk, os⟩ := s; obtain ⟨hl, h⟩ := h; wp_walk using wpAny_loadPart' hl, wpAny_load hl; exact ⟨_, rfl, h⟩
/-- a dict of the heap, as an object -/
def IsDct (h : Heap) (l : Addr) : Prop := ∃ (es : Array DictEntry) (n : Nat) (dd : Option Addr) (sl : Array (Option Value)), h.get? l = some { cls := .type "dict", dict := dd, data := .dict es n, slots := sl }
section
variable {A : Around} {s : Shared}
theorem RcAt.dict_str {l : Addr} (b : Str) (u : Tok) (hl : IsDct s.heap l) (hu : A.units < cLine) : RcAt A s (.ref l) (.str b u) false := fun prog w E Q h => by
  obtain ⟨es, n, dd, sl, ho⟩ := hl
  exact rc_eq_decline_or (k := false) ⟨_, ho, rfl⟩ (typeIs_str s b u) (by decide) F.sub_str_dict F.slot_dict_eq F.slot_str_eq_refl
    (fun _ hq => call_meets F.slot_dict_eq ⟨_, ho, rfl⟩ F.entry_dict_eq (F.args_dict_eq_2 _ _) (dict_eq_declines_str l es n dd sl b u) ⟨ho, hq⟩)
    (fun _ hq => call_meets F.slot_str_eq_refl (typeIs_str s b u) F.entry_str_eq (F.args_str_eq_2 _ _) (str_eq_declines_dict b u l (.type "dict") es n dd sl) ⟨ho, hq⟩)
    (fun _ hq => wpAny_of_eq (rfl : isSame (.ref l) (.str b u) = pure false) hq) (.inr hu) h
theorem EqAt.dict_str {l : Addr} (b : Str) (u : Tok) (hl : IsDct s.heap l) (hu : A.units < cLine) : EqAt A s (.ref l) (.str b u) false := fun prog w E Q h => by
  unfold eqBool
  refine wpAny_holding ?_
  refine wpAny_ite_split (fun hab => absurd (eq_of_beq hab) nofun) (fun _ => ?_)
  exact wpAny_bind (RcAt.dict_str b u hl hu prog w E _ (wpAny_truthy_bool h))
end
end DL

/-! DR14: a def's own lists as objects of the store: made, popped, inserted into, forgotten at its end. -/
namespace DL
open PySem PySem.Spec PyProof.Rows L2

/-- a part of the store -/
def SubS (S2 S1 : Sto) : Prop := ∀ a o, S2 a = some o → S1 a = some o
theorem SubS.refl (S : Sto) : SubS S S := fun _ _ h => h
theorem SubS.upd {S : Sto} {a : Nat} {o : Ob} (h : S a = none) : SubS S (S.upd a o) := fun b u q => by
  unfold Sto.upd
  by_cases z : b = a
  · rw [z, h] at q; cases q
  · rw [if_neg z]; exact q
theorem Wd.sub {K : PySem.W.Frag} {O : List Nat} {Z : Hp} {σ : L2.St} {Δ : Env} {S1 S2 : Sto} {F H : Hp} (k : Wd K O Z σ Δ S1 F H) (h : SubS S2 S1) : Wd K O Z σ Δ S2 F H where
  fH := k.fH
  zH := k.zH
  fz := k.fz
  st := fun a ob q => k.st a ob (h a ob q)
  fr := k.fr
  ow := fun i d ni q => by
    obtain ⟨p, u, a1, a2, a3, a4, a5, a6⟩ := k.ow i d ni q
    refine ⟨p, u, a1, a2, a3, a4, a5, ?_⟩
    cases y : S2 p with
    | none => rfl
    | some o =>
      rw [h p o y] at a6
      cases a6
  sep := k.sep
  len := k.len
/-- objects that no one knows any more are forgotten behind a def -/
def fnSub (f : Fn) : Fn := fun ds S P R => f ds S (fun d S1 => ∃ S2, SubS S2 S1 ∧ P d S2) R
theorem spW_sub {K : PySem.W.Frag} {mg : Str → Option Value} {f : Fn} : ∀ vs H Q E, spW K mg false (fnSub f) vs H Q E → spW K mg false f vs H Q E :=
  fun vs H Q E ⟨Z, ds, S, F, P, R, k, hf, hx, hq⟩ => ⟨Z, ds, S, F, _, R, k, hf, hx, fun v d S' F' H' k' e' r ⟨S2, hs, hp⟩ => hq v d S2 F' H' (k'.sub hs) e' r hp⟩
/-- a new list, known as an object -/
def eNewObj (a : WE) : WE := fun Δ S P R => a Δ S (fun d S1 => ∃ ds, d = .lst ds ∧ ∀ p, S1 p = none → P (.obj p) (S1.upd p (.lst ds))) R
/-- o.pop(i) -/
def eObjPop (wo wi : WE) : WE := fun Δ S P R => wo Δ S (fun x S1 => ∃ a, x = .obj a ∧ (∃ ds, S1 a = some (.lst ds)) ∧ wi Δ S1 (fun y S2 => ∃ ds j z, S2 a = some (.lst ds) ∧ ds.length ≤ LINE ∧ y = .int (j : Nat) ∧ ds[j]? = some z ∧ P z (S2.upd a (.lst (ds.eraseIdx j)))) R) R
section
variable {X : Cx} {O On L : List Nat} {E : XK} {own : Bool} {o e c : Expr} {wo we wi : WE} {pos : Pos}
theorem de_newObj (h : DN X false O E e we) : DE X false O E e (eNewObj we) := pe_to h fun σ H Q ⟨Z, Δ, S, F, P, R, k, hw, hx, hq⟩ => ⟨Z, Δ, S, F, _, R, k, hw, hx, fun v d S1 F1 H1 k1 e1 p1 r1 n1 ⟨ds, hd, hp⟩ => by
  subst hd
  obtain ⟨p, u, rfl, h2, h3, h4, h5, h6, h7⟩ := r1
  cases h3 with
  | lst rr => exact hq (.ref p) (.obj p) _ F1 H1 (k1.obNew (ob := .lst ds) h4 h5 h7 ⟨_, h2, rr⟩) e1 (fun z => nomatch z) (.obj p) (hp p h6)⟩
theorem Reps.erase {K : PySem.W.Frag} {F : Hp} : ∀ {vs : List V} {ds : List D} (j : Nat), Reps K F vs ds → Reps K F (vs.eraseIdx j) (ds.eraseIdx j)
  | _, _, _, .nil => .nil
  | _, _, 0, .cons _ r => r
  | _, _, j + 1, .cons h r => .cons h (Reps.erase j r)
theorem seqIx {n j : Nat} (h : j < n) : seqIndex? (j : Int) n = some j := by
  have h1 : ¬ ((j : Int) < 0) := by omega
  have h2 : (decide ((0 : Int) ≤ (j : Int)) && decide ((j : Int) < (n : Int))) = true := by simp; omega
  unfold seqIndex?
  simp only [if_neg h1]
  rw [if_pos h2]
  rfl
theorem de_objPop (ho : DE X false O E o wo) (hi : DE X false O E c wi) (hp : ∀ {t : TA} {to : TE}, PA X [c] t → PE X o to → PE X e (tBM X.K "list" rPopAt to t)) (hs : starEach [c] X.env = (false, eval c X.env) :: starEach [] X.env := by rfl) : DE X false O E e (eObjPop wo wi) :=
  pe_to (hp (da_cons hi (da_eff da_nil) hs) ho) fun σ H Q ⟨Z, Δ, S, F, P, R, k, hw, hx, hq⟩ => ⟨Z, Δ, S, F, _, R, k, hw, hx, fun v d S1 F1 H1 k1 e1 p1 r1 ⟨a, hd, ⟨ds0, h0⟩, h1⟩ => by
    subst hd
    cases r1
    obtain ⟨_, _, vs0, hv0, _⟩ := k1.st a _ h0
    refine ⟨.inl ⟨rfl, _, .inl (.inl hv0)⟩, Z, Δ, S1, F1, fun xs S2 => (match xs with
      | [y] => ∃ ds j z, S2 a = some (.lst ds) ∧ ds.length ≤ LINE ∧ y = .int (j : Nat) ∧ ds[j]? = some z ∧ P z (S2.upd a (.lst (ds.eraseIdx j)))
      | _ => False), R, k1, h1, hx.mono e1, fun us ys S2 F2 H2 k2 e2 p2 r2 h2 => ?_⟩
    match ys, r2, h2 with
    | [y], r2, ⟨ds, j, z, ha, hll, hy, hz, hpp⟩ =>
      subst hy
      obtain ⟨u, rfl, ru⟩ := r2.one
      cases ru
      obtain ⟨f2, z2, vs, hv, rr⟩ := k2.st a _ ha
      obtain ⟨y, hy, ry⟩ := rr.get hz
      have hlt : j < vs.length := (List.getElem?_eq_some_iff.mp hy).1
      have hsz : vs.length ≤ sizeLine := LINE_le (by rw [rr.len]; exact hll)
      have hb : sizeLine < 2 ^ 63 := by rw [sizeLine_eq]; decide
      refine ⟨a, vs, (j : Int), j, y, rfl, rfl, hv, by omega, by omega, seqIx hlt, hy, ?_⟩
      exact hq y z _ F2 _ (k2.obSet (ob' := .lst (ds.eraseIdx j)) ha ⟨_, upd_same, Reps.erase j rr⟩) (e1.trans e2) (fun z => nomatch z) ry hpp⟩
/-- o.insert(i, e) -/
def rIns : V → List V → Hp → VK → Prop := fun x vs H Q => ∃ (l : Addr) (xs : List V) (i : Int) (y : V), x = .ref l ∧ vs = [.int i, y] ∧ H l = some (.lst xs) ∧ xs.length < sizeLine ∧ 0 ≤ i ∧ i < 2 ^ 63 ∧ Q .non (L2.upd H l (.lst (xs.take i.toNat ++ [y] ++ xs.drop i.toNat)))
def gObjIns (wo wi we : WE) : WS := fun Δ S B R => wo Δ S (fun x S1 => ∃ a, x = .obj a ∧ (∃ ds, S1 a = some (.lst ds)) ∧ wi Δ S1 (fun y S2 => we Δ S2 (fun z S3 => ∃ ds j, S3 a = some (.lst ds) ∧ ds.length < LINE ∧ y = .int (j : Nat) ∧ j ≤ ds.length ∧ B.nx Δ (S3.upd a (.lst (ds.take j ++ [z] ++ ds.drop j)))) R) R) R
theorem ds_objIns {c2 : Expr} (ho : DE X false O E o wo) (hi : DE X false O E c wi) (hv : DE X false O E c2 we) (hp : ∀ {t : TA} {to : TE}, PA X [c, c2] t → PE X o to → PE X e (tBM X.K "list" rIns to t))
    (hs : starEach [c, c2] X.env = (false, eval c X.env) :: starEach [c2] X.env := by rfl) (hs2 : starEach [c2] X.env = (false, eval c2 X.env) :: starEach [] X.env := by rfl) (hsw : swapsWith e none pos.line X.env = pure false := by rfl) :
    DS X O O L E own (.Expr e pos) (gObjIns wo wi we) :=
  ps_to (ps_expr (hp (da_cons hi (da_cons hv (da_eff da_nil) hs2) hs) ho) hsw) fun D σ H ⟨Z, Δ, S, F, B, R, k, hg, er⟩ => ⟨Z, Δ, S, F, _, R, k, hg, er.ex, fun v d S1 F1 H1 k1 e1 p1 r1 ⟨a, hd, ⟨ds0, h0⟩, h1⟩ => by
    subst hd
    cases r1
    obtain ⟨_, _, vs0, hv0, _⟩ := k1.st a _ h0
    refine ⟨.inl ⟨rfl, _, .inl (.inl hv0)⟩, Z, Δ, S1, F1, fun xs S3 => (match xs with
      | [y, z] => ∃ ds j, S3 a = some (.lst ds) ∧ ds.length < LINE ∧ y = .int (j : Nat) ∧ j ≤ ds.length ∧ B.nx Δ (S3.upd a (.lst (ds.take j ++ [z] ++ ds.drop j)))
      | _ => False), R, k1, h1, er.ex.mono e1, fun us ys S2 F2 H2 k2 e2 p2 r2 h2 => ?_⟩
    match ys, r2, h2 with
    | [y, z], .cons ry (.cons rz .nil), ⟨ds, j, ha, hll, hy, hj, hpp⟩ =>
      subst hy
      cases ry
      obtain ⟨f2, z2, vs, hv, rr⟩ := k2.st a _ ha
      have hb : sizeLine < 2 ^ 63 := by rw [sizeLine_eq]; decide
      have hlen := rr.len
      have hsz : vs.length < sizeLine := LINE_lt (by rw [hlen]; exact hll)
      refine ⟨a, vs, (j : Int), _, rfl, rfl, hv, hsz, by omega, by omega, ?_⟩
      rw [Int.toNat_natCast]
      exact er.nx σ Δ _ F2 _ (k2.obSet (ob' := .lst (ds.take j ++ [z] ++ ds.drop j)) ha ⟨_, upd_same, ((rr.take j).app (.cons rz .nil)).app (rr.drop j)⟩) (e1.trans e2) hpp⟩
end
end DL

/-! DR15: zip. -/
namespace DL
open PySem PySem.Spec PyProof.Rows L2
theorem zipD_get : ∀ (xs ys : List D) (i : Nat) (x y : D), xs[i]? = some x → ys[i]? = some y → (zipD xs ys)[i]? = some (.tup [x, y])
  | a :: xs, b :: ys, 0, x, y, h1, h2 => by cases h1; cases h2; rfl
  | a :: xs, b :: ys, i + 1, x, y, h1, h2 => zipD_get xs ys i x y (by simpa using h1) (by simpa using h2)
  | [], _, i, x, y, h1, _ => by simp at h1
  | _ :: _, [], i, x, y, _, h2 => by simp at h2
theorem zipD_len : ∀ (xs ys : List D), (zipD xs ys).length = min xs.length ys.length
  | a :: xs, b :: ys => by simp [zipD, zipD_len xs ys]
  | [], _ => by simp [zipD]
  | _ :: _, [] => by simp [zipD]
theorem gives_zip {K : PySem.W.Frag} {F : Hp} {p q : Addr} {vs us : List V} {ds es : List D} (h : SqL K F p vs) (h2 : SqL K F q us) (r : Reps K F vs ds) (r2 : Reps K F us es) : Gives K F (Itz K p q) (zipD ds es) := by
  refine ⟨⟨fun H => SqL K H p vs ∧ SqL K H q us, YPair (fun i => vs[i]?) (fun i => us[i]?), ?_, fun H e => ⟨e.sl h, e.sl h2⟩, ?_⟩⟩
  · exact walk_zip (by rw [zipD_len, r.len, r2.len])
  · rintro i F2 H x H' e1 e2 ⟨T, x1, x2, rfl, hT, rfl, h1, h2⟩
    obtain ⟨d, h3, h4⟩ := r.getV h1
    obtain ⟨d2, h5, h6⟩ := r2.getV h2
    have al := Al.new (o := .tup [x1, x2]) e2 hT
    exact ⟨_, _, zipD_get ds es i d d2 h3 h5, al, .tup upd_same (.cons (h4.mono (e1.trans al.f)) (.cons (h6.mono (e1.trans al.f)) .nil))⟩
section
variable {X : Cx} {b : Bool} {O : List Nat} {E : XK} {a c : Expr} {wa wb : WE}
theorem di_zip {p pos tpos : Pos} {elts : List Expr} {kk : Nat} (hg : Gl X "zip") (hm : X.mg "zip" = none) (ha : DE X b O E a wa) (hc : DE X b O E c wb) (hs : starEach [a, c] X.env = (false, eval a X.env) :: starEach [c] X.env := by rfl) (hs2 : starEach [c] X.env = (false, eval c X.env) :: starEach [] X.env := by rfl)
    (hpl : (backTo pos (starEach [c] X.env)).any (·.1) = false := by rfl) : DI X b O E (.Tuple elts kk tpos) (.Call (.Name "zip" p) [a, c] [] pos) (iZip wa wb) :=
  pi_to (pi_zip hg hm (pa_cons ha (pa_cons hc pa_nil hs2) hs) hs hpl) fun σ H R ⟨Z, Δ, S, F, P, Rx, k, hw, hx, hq⟩ => ⟨Z, Δ, S, F, _, Rx, k, hw, hx, fun v d S1 F1 H1 k1 e1 p1 r1 h1 => ⟨Z, Δ, S1, F1, _, Rx, k1, h1, hx.mono e1, fun u d2 S2 F2 H2 k2 e2 p2 r2 ⟨xs, ys, hd1, hd2, hp⟩ => by
    subst hd1 hd2
    cases r1.mono e2 with
    | lst h r => cases r2 with
      | lst h2 r2 => exact ⟨_, _, _, _, rfl, .inl (.inl (k2.fH _ _ h)), .inl (.inl (k2.fH _ _ h2)), hq _ _ S2 F2 H2 k2 (e1.trans e2) (pure2 p1 p2) (gives_zip (.inl (.inl h)) (.inl (.inl h2)) r r2) hp⟩⟩⟩
/-- xs[i] = e, the list a name's own -/
theorem ds_lput {L : List Nat} {own : Bool} {st : Stmt} {i : Nat} {ix val : Expr} {x : Str} {p2 : Pos} {wv wi : WE} (hi : i ∈ O) (hv : DE X b O E val wv) (ho : PE X (.Name x p2) (tVar i)) (hx : DE X b O E ix wi) (hp : ∀ {tv td ty}, PE X val tv → PE X (.Name x p2) td → PE X ix ty → PS X st (tAsg tv (gSub td ty rSetL))) :
    DS X O O L E own st (fun Δ S B R => gPut i (fun Δ S P R => (∃ xs, Δ[i]? = some (some (.lst xs))) ∧ wv Δ S P R) wi Δ S B R) :=
  ps_to (hp hv ho hx) fun D σ H ⟨Z, Δ, S, F, B, R, k, ⟨⟨xs, hk⟩, hg⟩, er⟩ => ⟨Z, Δ, S, F, _, R, k, hg, er.ex, fun v d S1 F1 H1 k1 e1 _ r1 ⟨x, hx, h1⟩ => by
    rw [hk] at hx; cases hx
    obtain ⟨p, o, a1, a2, a3, a4, a5, a6⟩ := k1.ow i _ hi hk
    refine ⟨.ref p, a1, Z, Δ, S1, F1, _, R, k1, h1, er.ex.mono e1, fun y dk S2 F2 H2 k2 e2 _ r2 ⟨z, hz, hn⟩ => ?_⟩
    obtain ⟨p', o', b1, b2, b3, _⟩ := k2.ow i _ hi hk
    rw [a1] at b1; cases b1
    cases dk with
    | int n =>
      obtain ⟨j, hj, rfl⟩ := Option.map_eq_some_iff.mp (show (ixN xs.length n).map (fun j => DL.D.lst (xs.set j d)) = some z from hz)
      cases r2
      cases b3 with
      | lst rr => exact ⟨p, _, n, j, rfl, rfl, b2, by rw [rr.len]; exact hj, er.nx _ _ S2 F2 _ (k2.change hi hk a1 (.lst (rr.set j (r1.mono e2)))) (e1.trans e2) hn⟩
    | _ => cases hz⟩
def gLPut (i : Nat) (e ix : WE) : WS := fun Δ S B R => gPut i (fun Δ S P R => (∃ xs, Δ[i]? = some (some (.lst xs))) ∧ e Δ S P R) ix Δ S B R
end
end DL

/-! DR16: dict of a list of pairs. -/
namespace DL
open PySem PySem.Spec PyProof.Rows L2
def pairsOf : List D → Option (List (Key × D))
  | [] => some []
  | .tup [k, v] :: r => (keyD k).bind fun k => (pairsOf r).map ((k, v) :: ·)
  | _ :: _ => none
/-- dict([(k, v), ..]) -/
def fDictP : List D → Option D
  | [.lst xs] => (pairsOf xs).map fun kvs => .dct (kvs.foldl (fun acc kv => putD acc kv.1 kv.2) [])
  | _ => none
theorem pairs_see {K : PySem.W.Frag} {F H : Hp} (ex : Ex F H) : ∀ {xs : List D} {vs : List V} {kds : List (Key × D)}, Reps K F vs xs → pairsOf xs = some kds → ∃ (ps : List Addr) (kvs : List (Key × V)), vs = ps.map V.ref ∧ Paired (fun p kv => SqT K H p [kV kv.1, kv.2]) ps kvs ∧ RepK K F kvs kds
  | [], _, _, .nil, h => by cases h; exact ⟨[], [], rfl, .nil, .nil⟩
  | x :: xs, _, _, .cons r rs, h => by
    unfold pairsOf at h
    split at h
    · rename_i hnil; cases hnil
    · rename_i k v rest heq
      cases heq
      obtain ⟨key, hk, h2⟩ := Option.bind_eq_some_iff.mp h
      obtain ⟨kds', hr, rfl⟩ := Option.map_eq_some_iff.mp h2
      obtain ⟨ps, kvs, rfl, hp, hq⟩ := pairs_see ex rs hr
      cases r with
      | tup ht rr =>
        cases rr with
        | cons rk rr => cases rr with
          | cons rv rr =>
            cases rr
            cases key_see (H := H) (.rep rk) hk
            exact ⟨_ :: ps, (key, _) :: kvs, rfl, .cons ((.inl (.inl (ex _ _ ht)))) hp, .cons rv hq⟩
    · cases h
theorem merge_rep {K : PySem.W.Frag} {F : Hp} : ∀ {kvs : List (Key × V)} {kds : List (Key × D)}, RepK K F kvs kds → ∀ {a : List (Key × V)} {b : List (Key × D)}, RepK K F a b → RepK K F (mergeK a kvs) (kds.foldl (fun acc kv => putD acc kv.1 kv.2) b)
  | _, _, .nil, _, _, h => h
  | _, _, .cons r rs, _, _, h => merge_rep rs (RepK.put r h)
theorem n_dictP {K : PySem.W.Frag} : FnN K fDictP (fun xs H Q => ∃ (a : Addr) (ps : List Addr) (kvs : List (Key × V)), xs = [.ref a] ∧ SqL K H a (ps.map V.ref) ∧ Paired (fun p kv => SqT K H p [kV kv.1, kv.2]) ps kvs ∧
    ∀ p, H p = none → Q (.ref p) (L2.upd H p (.dK (mergeK [] kvs)))) := fun F H xs ds z Q ex r hz hq => by
  unfold fDictP at hz
  split at hz
  · obtain ⟨v, rfl, rv⟩ := r.one
    obtain ⟨kds, hk, rfl⟩ := Option.map_eq_some_iff.mp hz
    obtain ⟨p, vs, rfl, hv, rr⟩ := rv.lst ex
    obtain ⟨ps, kvs, rfl, hp, hr⟩ := pairs_see ex rr hk
    exact ⟨p, ps, kvs, rfl, .inl (.inl hv), hp, fun q nq => hq q _ nq (.dct (merge_rep hr .nil))⟩
  · cases hz
end DL

/-! DR17: dicts against texts; any plain value in a tuple of texts; repr of values with empty dicts. -/
namespace DL
open PySem PySem.SeqAt PySem.Spec PyProof.Rows
theorem dict_ne_no_str (p : Addr) (ents : Array DictEntry) (m : Nat) (own : Option Addr) (slo : Array (Option Value)) (z : Str) (tk : Tok) :
    Meets (Builtin.«dict.__ne__» ⟨[.ref p, .str z tk], []⟩) (fun _ Rr st => st.heap.get? p = some { cls := .type "dict", dict := own, data := .dict ents m, slots := slo } ∧ Rr (.ok (.ret .notImplemented)) st) :=
  .of_wp fun pr w0 A0 Rr st hh => by
    obtain ⟨hp, g, d, tq, os⟩ := st
    obtain ⟨hl, hh⟩ := hh
    have f1 := F.sub_str_dict
    wp_walk using wpAny_loadPart' hl
    exact ⟨_, rfl, hh⟩
theorem str_ne_no_dict (z : Str) (tk : Tok) (p : Addr) (c : Value) (ents : Array DictEntry) (m : Nat) (own : Option Addr) (slo : Array (Option Value)) :
    Meets (Builtin.«str.__ne__» ⟨[.str z tk, .ref p], []⟩) (fun _ Rr st => st.heap.get? p = some { cls := c, dict := own, data := .dict ents m, slots := slo } ∧ Rr (.ok (.ret .notImplemented)) st) :=
  .of_wp fun pr w0 A0 Rr st hh => by
    obtain ⟨hp, g, d, tq, os⟩ := st
    obtain ⟨hl, hh⟩ := hh
    wp_walk using wpAny_loadPart' hl, wpAny_load hl
    exact ⟨_, rfl, hh⟩
section
variable {A : Around} {s : Shared}
theorem RcNeAt.dict_str {p : Addr} (z : Str) (tk : Tok) (hd : IsDct s.heap p) (hu : A.units < cLine) : RcNeAt A s (.ref p) (.str z tk) true := fun pr w0 E0 Q0 hq0 => by
  obtain ⟨ents, m, own, slo, ho⟩ := hd
  refine rc_ne_decline_or (k := false) ⟨_, ho, rfl⟩ (typeIs_str s z tk) (by decide) F.sub_str_dict F.slot_dict_ne F.slot_str_ne_refl (fun _ hq => ?_) (fun _ hq => ?_) (fun _ hq => ?_) (.inr hu) hq0
  · exact call_meets F.slot_dict_ne ⟨_, ho, rfl⟩ F.entry_dict_ne (F.args_dict_ne_2 _ _) (dict_ne_no_str p ents m own slo z tk) ⟨ho, hq⟩
  · exact call_meets F.slot_str_ne_refl (typeIs_str s z tk) F.entry_str_ne (F.args_str_ne_2 _ _) (str_ne_no_dict z tk p (.type "dict") ents m own slo) ⟨ho, hq⟩
  · exact wpAny_of_eq (rfl : isSame (.ref p) (.str z tk) = pure false) hq
theorem RcAt.str_dict {p : Addr} (z : Str) (tk : Tok) (hd : IsDct s.heap p) (hu : A.units < cLine) : RcAt A s (.str z tk) (.ref p) false := fun pr w0 E0 Q0 hq0 => by
  obtain ⟨ents, m, own, slo, ho⟩ := hd
  refine rc_eq_decline_or (k := false) (typeIs_str s z tk) ⟨_, ho, rfl⟩ (by decide) F.sub_dict_str F.slot_str_eq F.slot_dict_eq_refl (fun _ hq => ?_) (fun _ hq => ?_) (fun _ hq => ?_) (.inr hu) hq0
  · exact call_meets F.slot_str_eq (typeIs_str s z tk) F.entry_str_eq (F.args_str_eq_2 _ _) (str_eq_declines_dict z tk p (.type "dict") ents m own slo) ⟨ho, hq⟩
  · exact call_meets F.slot_dict_eq_refl ⟨_, ho, rfl⟩ F.entry_dict_eq (F.args_dict_eq_2 _ _) (dict_eq_declines_str p ents m own slo z tk) ⟨ho, hq⟩
  · exact wpAny_of_eq (rfl : isSame (.str z tk) (.ref p) = pure false) hq
theorem EqAt.str_dict {p : Addr} (z : Str) (tk : Tok) (hd : IsDct s.heap p) (hu : A.units < cLine) : EqAt A s (.str z tk) (.ref p) false := fun pr w0 E0 Q0 hq0 => by
  unfold eqBool
  refine wpAny_holding (wpAny_ite_split (fun hab => absurd (eq_of_beq hab) nofun) fun _ => ?_)
  exact wpAny_bind (RcAt.str_dict z tk hd hu pr w0 E0 _ (wpAny_truthy_bool hq0))
end
end DL
namespace DL
open PySem PySem.Spec PyProof.Rows L2
section
variable {X : Cx}
/-- a dict against a text -/
def rDS (K : PySem.W.Frag) (b : Bool) : R2 := fun x y H Q => ∃ a z, x = .ref a ∧ ((∃ xs, SqL K H a xs) ∨ (∃ xs, SqT K H a xs) ∨ ∃ kvs, H a = some (.dK kvs)) ∧ y = .str z ∧ Q (.bl b) H
theorem isDct_of {pins : List (Addr × Obj)} {σ : L2.St} {H : Hp} {s : Shared} (I : L2.Inv X pins σ H s) {a : Addr} {kvs : List (Key × V)} (h : H a = some (.dK kvs)) : IsDct s.heap a ∧ a ≠ sysModules ∧ ∃ vs, KV kvs vs ∧ s.heap.DictOf (mixKind X.prog X.w) a vs := by
  obtain ⟨_, hs, vs, kv, o, es, ep, h1, h2, h3⟩ := dk_of I.hok h
  refine ⟨?_, ne_of_beq_false hs, vs, kv, o, es, ep, h1, h2, h3⟩
  obtain ⟨c, dd, da, sl⟩ := o
  have hc := h2
  simp only at hc h3
  obtain ⟨rfl, _⟩ := id h2
  exact ⟨es, ep, dd, sl, by rw [h1]; simp_all⟩
end
section
variable {X : Cx} {K : PySem.W.Frag}
theorem op_eqDS (hu : X.A.units + 64 < cLine) : OpR X (compareOp .Eq) (rDS X.K false) := by
  intro pins s σ H x y v u Q I rx ry h
  obtain ⟨a, z, rfl, ha, rfl, q⟩ := h
  cases rx
  obtain ⟨t, rfl⟩ := ry
  rcases ha with ⟨xs, ha⟩ | ⟨xs, ha⟩ | ⟨kvs, ha⟩
  · obtain ⟨its, _, pl, _⟩ := I.list ha
    exact SeqAt.RcAt.list_str z t pl.isList (by omega) _ _ _ _ ⟨.bl _, H, I, rfl, q⟩
  · obtain ⟨its, _, pl, _⟩ := I.tuple ha
    exact SeqAt.RcAt.tuple_str z t pl (by omega) _ _ _ _ ⟨.bl _, H, I, rfl, q⟩
  · exact RcAt.dict_str z t (isDct_of I ha).1 (by omega) _ _ _ _ ⟨.bl _, H, I, rfl, q⟩
theorem op_neDS (hu : X.A.units + 64 < cLine) : OpR X (compareOp .NotEq) (rDS X.K true) := by
  intro pins s σ H x y v u Q I rx ry h
  obtain ⟨a, z, rfl, ha, rfl, q⟩ := h
  cases rx
  obtain ⟨t, rfl⟩ := ry
  rcases ha with ⟨xs, ha⟩ | ⟨xs, ha⟩ | ⟨kvs, ha⟩
  · obtain ⟨its, _, pl, _⟩ := I.list ha
    exact SeqAt.RcNeAt.list_str z t pl.isList (by omega) _ _ _ _ ⟨.bl _, H, I, rfl, q⟩
  · obtain ⟨its, _, pl, _⟩ := I.tuple ha
    exact SeqAt.RcNeAt.tuple_str z t pl (by omega) _ _ _ _ ⟨.bl _, H, I, rfl, q⟩
  · exact RcNeAt.dict_str z t (isDct_of I ha).1 (by omega) _ _ _ _ ⟨.bl _, H, I, rfl, q⟩
/-- == where the right one may be a text, the left one anything then -/
def isBox : D → Bool
  | .lst _ => true | .tup _ => true | .dct _ => true | .scr _ => true | _ => false
def dEqXB (x y : D) : Option Bool := if isBox x = true ∧ isStr y = true then some false else dEqB x y
def dEqX (x y : D) : Option D := (dEqXB x y).map D.bl
def dNeX (x y : D) : Option D := (dEqXB x y).map fun b => D.bl (!b)
def r2EqX (K : PySem.W.Frag) : R2 := fun x y H Q => r2Eq K x y H Q ∨ rDS K false x y H Q
def r2NeX (K : PySem.W.Frag) : R2 := fun x y H Q => r2Ne K x y H Q ∨ rDS K true x y H Q
theorem op_eqX (hu : X.A.units + 64 < cLine) : OpR X (compareOp .Eq) (r2EqX X.K) := (op_eqA hu).or (op_eqDS hu)
theorem op_neX (hu : X.A.units + 64 < cLine) : OpR X (compareOp .NotEq) (r2NeX X.K) := (op_neA hu).or (op_neDS hu)
theorem box_see {F H : Hp} (ex : Ex F H) {v : V} {d : D} (r : VRep K F H v d) (h : isBox d = true) : ∃ a, v = .ref a ∧ ((∃ xs, SqL K H a xs) ∨ (∃ xs, SqT K H a xs) ∨ ∃ kvs, H a = some (.dK kvs)) := by
  cases d with
  | lst xs => obtain ⟨a, us, rfl, ha, _⟩ := r.lst ex; exact ⟨a, rfl, .inl ⟨us, .inl (.inl ha)⟩⟩
  | tup xs => obtain ⟨a, us, rfl, ha, _⟩ := r.tup ex; exact ⟨a, rfl, .inr (.inl ⟨us, ha⟩)⟩
  | scr ns => obtain ⟨a, rfl, ha⟩ := r.scr ex; exact ⟨a, rfl, .inl ⟨_, ha⟩⟩
  | dct kvs => obtain ⟨a, us, rfl, ha, _⟩ := r.dct ex; exact ⟨a, rfl, .inr (.inr ⟨us, ha⟩)⟩
  | _ => cases h
theorem dEqXB_cases {x y : D} {k : Bool} (h : dEqXB x y = some k) : (isBox x = true ∧ ∃ z, y = .str z ∧ k = false) ∨ dEqB x y = some k := by
  unfold dEqXB at h
  split at h
  · rename_i c
    cases h
    obtain ⟨c1, c2⟩ := c
    cases y with
    | str z => exact .inl ⟨c1, z, rfl, rfl⟩
    | _ => cases c2
  · exact .inr h
theorem s_eqX : OpS K dEqX (r2EqX K) := fun F H x y d1 d2 z Q ex r1 r2 hz hq => by
  unfold dEqX at hz
  cases hk : dEqXB d1 d2 with
  | none => rw [hk] at hz; cases hz
  | some k =>
    rw [hk] at hz; cases hz
    rcases dEqXB_cases hk with ⟨hb, w, rfl, rfl⟩ | he
    · obtain ⟨p, rfl, hp⟩ := box_see ex r1 hb
      cases r2.str
      exact .inr ⟨p, w, rfl, hp, rfl, hq _ F H (Al.refl ex) (.bl _)⟩
    · exact .inl (s_eq F H x y d1 d2 _ Q ex r1 r2 (by unfold dEq; rw [he]; rfl) hq)
theorem s_neX : OpS K dNeX (r2NeX K) := fun F H x y d1 d2 z Q ex r1 r2 hz hq => by
  unfold dNeX at hz
  cases hk : dEqXB d1 d2 with
  | none => rw [hk] at hz; cases hz
  | some k =>
    rw [hk] at hz; cases hz
    rcases dEqXB_cases hk with ⟨hb, w, rfl, rfl⟩ | he
    · obtain ⟨p, rfl, hp⟩ := box_see ex r1 hb
      cases r2.str
      exact .inr ⟨p, w, rfl, hp, rfl, hq _ F H (Al.refl ex) (.bl _)⟩
    · exact .inl (s_ne F H x y d1 d2 _ Q ex r1 r2 (by unfold dNe; rw [he]; rfl) hq)

/-! ### any plain value in a tuple of texts -/
def isT (y : Str) : D → Bool
  | .str x => decide (y = x)
  | _ => false
def anyK : D → Bool
  | .non => true | .bl _ => true | .int _ => true | .str _ => true | .lst _ => true | .tup _ => true | .dct _ => true | .scr _ => true | _ => false
def dInT (x y : D) : Option D := match y with
  | .tup ys => (strsOf ys).bind fun zs => if anyK x = true then some (.bl (zs.any fun z => isT z x)) else none
  | _ => none
def rInT (K : PySem.W.Frag) : R2 := fun x y H Q => ∃ p, ∃ zs : List Str, y = .ref p ∧ SqT K H p (zs.map V.str) ∧
  ∃ a, x = .ref a ∧ ((∃ xs, SqL K H a xs) ∨ (∃ xs, SqT K H a xs) ∨ ∃ kvs, H a = some (.dK kvs)) ∧ Q (.bl false) H
theorem vals_str {ys : List Str} : ∀ {us : List Value}, Vals (ys.map V.str) us → ∀ w ∈ us, ∃ z t, w = .str z t := by
  induction ys with
  | nil => intro us r w hw; cases r; cases hw
  | cons y ys ih =>
    intro us r w hw
    cases r with
    | cons r1 r2 =>
      rcases List.mem_cons.mp hw with e | hw
      · obtain ⟨t, e2⟩ := r1; exact ⟨y, t, e.trans e2⟩
      · exact ih r2 w hw
theorem op_inTs (hu : X.A.units + 70 < cLine) : OpR X (compareOp .In) (rInT X.K) := by
  intro pins s σ H x y v u Q I rx ry h
  obtain ⟨p, zs, rfl, hq, a, rfl, ha, q⟩ := h
  cases ry
  cases rx
  obtain ⟨its, r, pl, hz⟩ := I.tuple hq
  have h1 : X.A.in1.units < cLine := by show X.A.units + 1 < cLine; omega
  refine SeqAt.in_tupleAt (fun _ => false) pl (fun w hw => ?_) ⟨.bl _, H, I, rfl, ?_⟩
  · obtain ⟨z, t, rfl⟩ := vals_str r w (by simpa using hw)
    rcases ha with ⟨xs, ha⟩ | ⟨xs, ha⟩ | ⟨kvs, ha⟩
    · obtain ⟨it2, _, pl2, _⟩ := I.list ha
      exact SeqAt.EqAt.str_list z t pl2.isList h1
    · obtain ⟨it2, _, pl2, _⟩ := I.tuple ha
      exact SeqAt.EqAt.str_tuple z t pl2 h1
    · exact EqAt.str_dict z t (isDct_of I ha).1 h1
  · rw [show its.toArray.any (fun _ => false) = false by simp]
    exact q
def rInA (K : PySem.W.Frag) : R2 := fun x y H Q => rIn K false x y H Q ∨ rInT K x y H Q
theorem shD_non : shD .non = true := by simp [shD, SeqAt.shaped, toPy, PyData.canLay0, PyData.depth]
theorem shD_bl {b : Bool} : shD (.bl b) = true := by simp [shD, SeqAt.shaped, toPy, PyData.canLay0, PyData.depth]
theorem shD_int {b : Int} : shD (.int b) = true := by simp [shD, SeqAt.shaped, toPy, PyData.canLay0, PyData.depth]
theorem sh_e {a : D} {w : Str} (h1 : isScal a = true) (h2 : isStr a = false) (hw : shD (.str w) = true) : dEqXB a (.str w) = some false := by
  cases a with
  | non => show (if _ then _ else if _ then _ else _) = _; rw [if_neg (by simp [isBox]), if_pos ⟨shD_non, hw⟩]; simp [toPy, PyData.eqv]
  | bl b => show (if _ then _ else if _ then _ else _) = _; rw [if_neg (by simp [isBox]), if_pos ⟨shD_bl, hw⟩]; simp [toPy, PyData.eqv]
  | int b => show (if _ then _ else if _ then _ else _) = _; rw [if_neg (by simp [isBox]), if_pos ⟨shD_int, hw⟩]; simp [toPy, PyData.eqv]
  | str x => cases h2
  | _ => cases h1
theorem sh_no {a : D} {w : Str} (h1 : isScal a = true) (h2 : isStr a = false) (hw : shD (.str w) = true) : dEqX a (.str w) = some (.bl (isT w a)) := by
  unfold dEqX
  rw [sh_e h1 h2 hw]
  cases a <;> first | rfl | (cases h1; done) | (cases h2; done)
theorem sh_no2 {a : D} {w : Str} (h1 : isScal a = true) (h2 : isStr a = false) (hw : shD (.str w) = true) : dNeX a (.str w) = some (.bl (!isT w a)) := by
  unfold dNeX
  rw [sh_e h1 h2 hw]
  cases a <;> first | rfl | (cases h1; done) | (cases h2; done)
/-- any plain value against a text -/
theorem eqX_str {a : D} (h : anyK a = true) {w : Str} (hw : shD (.str w) = true) : dEqX a (.str w) = some (.bl (isT w a)) := by
  cases a with
  | str x =>
    show (dEqXB (.str x) (.str w)).map D.bl = _
    unfold dEqXB
    rw [if_neg (by simp [isBox])]
    show some (D.bl (decide (x = w))) = some (.bl (decide (w = x)))
    congr 2
    exact decide_eq_decide.mpr eq_comm
  | non => exact sh_no rfl rfl hw
  | bl b => exact sh_no rfl rfl hw
  | int b => exact sh_no rfl rfl hw
  | _ => first | rfl | cases h
theorem neX_str {a : D} (h : anyK a = true) {w : Str} (hw : shD (.str w) = true) : dNeX a (.str w) = some (.bl (!isT w a)) := by
  cases a with
  | str x =>
    show (dEqXB (.str x) (.str w)).map (fun b => D.bl (!b)) = _
    unfold dEqXB
    rw [if_neg (by simp [isBox])]
    show some (D.bl (!decide (x = w))) = some (.bl (!decide (w = x)))
    congr 3
    exact decide_eq_decide.mpr eq_comm
  | non => exact sh_no2 rfl rfl hw
  | bl b => exact sh_no2 rfl rfl hw
  | int b => exact sh_no2 rfl rfl hw
  | _ => first | rfl | cases h
theorem op_inT (hu : X.A.units + 70 < cLine) : OpR X (compareOp .In) (rInA X.K) := op_in_seq.or (op_inTs hu)
theorem flat_strs : ∀ zs : List Str, (zs.map V.str).all flatV = true
  | [] => rfl
  | z :: zs => by rw [List.map_cons, List.all_cons, flat_strs zs]; rfl
theorem inV_strs (v : V) (d : D) (zs : List Str) (h : ∀ z, eqV (.str z) v = isT z d) : inV v (zs.map V.str) = zs.any fun z => isT z d := by
  unfold inV
  rw [List.any_map]
  congr 1
  funext z
  exact h z
theorem s_inT : OpS K dInT (rInA K) := fun F H x y d1 d2 z Q ex r1 r2 hz hq => by
  unfold dInT at hz
  split at hz
  · rename_i ys
    cases hs : strsOf ys with
    | none => rw [hs] at hz; cases hz
    | some zs =>
      rw [hs] at hz
      obtain ⟨hc, rfl⟩ := ite_some (show (if anyK d1 = true then some (D.bl (zs.any fun z => isT z d1)) else none) = some z from hz)
      obtain ⟨p, vs, rfl, hp, rr⟩ := r2.tup ex
      have hv := strs_see rr hs
      subst hv
      have hqq := hq _ F H (Al.refl ex) (.bl _)
      have no : ∀ d : D, (∀ z, isT z d = false) → (zs.any fun z => isT z d) = false := fun d h => by simp [h]
      have flat : ∀ (v : V) (d : D), flatV v = true → (∀ z, eqV (.str z) v = isT z d) → Q (.bl (zs.any fun z => isT z d)) H → rInA K v (.ref p) H Q := fun v d hf he q =>
        .inl ⟨p, _, rfl, .inr hp, hf, flat_strs zs, by rw [inV_strs v d zs he]; exact q⟩
      cases d1 with
      | non => rw [r1.non]; exact flat _ .non rfl (fun z => rfl) hqq
      | bl b => rw [r1.bl]; exact flat _ (.bl b) rfl (fun z => rfl) hqq
      | int i => rw [r1.int]; exact flat _ (.int i) rfl (fun z => rfl) hqq
      | str w =>
        rw [r1.str]
        refine flat _ (.str w) rfl (fun z => ?_) hqq
        show eqV (.str z) (.str w) = decide (z = w)
        unfold eqV
        first | rfl | simp
      | lst xs =>
        obtain ⟨a, us, rfl, ha, _⟩ := r1.lst ex
        exact .inr ⟨p, zs, rfl, hp, a, rfl, .inl ⟨us, .inl (.inl ha)⟩, by rw [← no (.lst xs) fun _ => rfl]; exact hqq⟩
      | tup xs =>
        obtain ⟨a, us, rfl, ha, _⟩ := r1.tup ex
        exact .inr ⟨p, zs, rfl, hp, a, rfl, .inr (.inl ⟨us, ha⟩), by rw [← no (.tup xs) fun _ => rfl]; exact hqq⟩
      | scr ns =>
        obtain ⟨a, rfl, ha⟩ := r1.scr ex
        exact .inr ⟨p, zs, rfl, hp, a, rfl, .inl ⟨_, ha⟩, by rw [← no (.scr ns) fun _ => rfl]; exact hqq⟩
      | dct kvs =>
        obtain ⟨a, us, rfl, ha, _⟩ := r1.dct ex
        exact .inr ⟨p, zs, rfl, hp, a, rfl, .inr (.inr ⟨us, ha⟩), by rw [← no (.dct kvs) fun _ => rfl]; exact hqq⟩
      | _ => cases hc
  · cases hz

/-! ### repr, with empty dicts -/
theorem canLay_ints' : ∀ ns : List Int, PyData.canLayAll0 (ns.map PyData.int) = true
  | [] => by simp [PyData.canLayAll0]
  | n :: ns => by simp [PyData.canLayAll0, PyData.canLay0, canLay_ints' ns]
mutual
def rpD : D → Bool
  | .non => true | .bl _ => true | .int _ => true | .str _ => true | .scr _ => true
  | .lst xs => rpDs xs | .tup xs => rpDs xs
  | .dct [] => true
  | _ => false
def rpDs : List D → Bool
  | [] => true
  | x :: xs => rpD x && rpDs xs
end
section
variable {pins : List (Addr × Obj)} {σ : L2.St} {H F : Hp} {s : Shared} {P : Program} {w : World}
theorem empty_dict (I : L2.Inv X pins σ H s) {a : Addr} (h : H a = some (.dK [])) : a ≠ sysModules ∧ ∃ o ep, s.heap.get? a = some o ∧ o.cls = .type "dict" ∧ o.data = .dict #[] ep := by
  obtain ⟨⟨_, _, _, _, _⟩, hs, vs, kv, o, es, ep, h1, h2, h3, _, h5, _⟩ := isDct_of I h
  cases kv
  obtain ⟨l⟩ := es
  have hl : l = [] := by
    cases l with
    | nil => rfl
    | cons e l => cases h5
  subst hl
  exact ⟨hs, o, ep, h1, h2.1, h3⟩
theorem dct_rp {kvs : List (Key × D)} (h : rpD (.dct kvs) = true) : kvs = [] := by
  cases kvs with
  | nil => rfl
  | cons k kvs => simp [rpD] at h
mutual
theorem Rep.rds (I : L2.Inv X pins σ H s) (ex : Ex F H) : ∀ {d : D} {v : V} {u : Value}, Rep X.K F v d → rpD d = true → RelV v u → ∃ as, Reads s.heap u (toPy d) as
  | _, _, _, .non, _, r => by cases r; exact ⟨_, by rw [toPy]; exact .none⟩
  | _, _, _, .bl b, _, r => by cases r; exact ⟨_, by rw [toPy]; exact .bool b⟩
  | _, _, _, .int i, _, r => by obtain ⟨t, rfl⟩ := r; exact ⟨_, by rw [toPy]; exact .int i t⟩
  | _, _, _, .str x, _, r => by obtain ⟨t, rfl⟩ := r; exact ⟨_, by rw [toPy]; exact .str x t⟩
  | _, _, _, .scr (ns := ns) q, _, r => by
    rw [toPy]
    exact Dp.reads I _ _ _ (.lst (ex.sl q) (dp_ints (K := X.K) (H := H) ex ns)) r
  | _, _, _, .lst q rr, h, r => by
    cases r
    obtain ⟨its, rv, ⟨o, n, ho, hc, _, hd⟩, _⟩ := I.list (.inl (.inl (ex _ _ q)))
    obtain ⟨as, ra⟩ := Reps.rdsAll I ex rr (by simpa [rpD] using h) rv
    exact ⟨_, by rw [toPy]; exact .list ho hc hd ra⟩
  | _, _, _, .tup q rr, h, r => by
    cases r
    obtain ⟨its, rv, ⟨o, ho, hc, n, hd⟩, _⟩ := I.tuple (.inl (.inl (ex _ _ q)))
    obtain ⟨as, ra⟩ := Reps.rdsAll I ex rr (by simpa [rpD] using h) rv
    exact ⟨_, by rw [toPy]; exact .tuple ho hc hd ra⟩
  | _, _, _, .dct q rr, h, r => by
    cases r
    have e := dct_rp h
    subst e
    cases rr
    obtain ⟨_, o, ep, h1, h2, h3⟩ := empty_dict I (ex _ _ q)
    exact ⟨_, by rw [toPy, toPyKv]; exact .dict h1 h2 h3 .nil .nil⟩
  | _, _, _, .obj a, h, _ => by simp [rpD] at h
  | _, _, _, .dcT _ _, h, _ => by simp [rpD] at h
theorem Reps.rdsAll (I : L2.Inv X pins σ H s) (ex : Ex F H) : ∀ {ds : List D} {vs : List V} {us : List Value}, Reps X.K F vs ds → rpDs ds = true → Vals vs us → ∃ as, ReadsAll s.heap us (toPyAll ds) as
  | _, _, _, .nil, _, r => by cases r; exact ⟨_, by rw [toPyAll]; exact .nil⟩
  | _, _, _, .cons (d := d) (ds := ds) q qs, h, r => by
    cases r with
    | cons r1 r2 =>
      have h' : rpD d = true ∧ rpDs ds = true := by simpa [rpDs] using h
      obtain ⟨as, a1⟩ := Rep.rds I ex q h'.1 r1
      obtain ⟨bs, a2⟩ := Reps.rdsAll I ex qs h'.2 r2
      exact ⟨_, by rw [toPyAll]; exact .cons a1 a2⟩
end
/-- what a value is shown as, item by item -/
def Shw (P : Program) (w : World) (h : Heap) (u : Value) (p : PyData) : Prop := ∃ bs, ReadAtMost h p.depth bs ∧ ReprK P w bs h p.depth u p.shown
def ShwAll (P : Program) (w : World) (h : Heap) (us : List Value) (ps : List PyData) : Prop := ∃ bs, ReadAtMost h (PyData.depthAll ps) bs ∧ ReprAllK P w bs h (PyData.depthAll ps) us (PyData.shownAll ps)
theorem ShwAll.cons {h : Heap} {u : Value} {p : PyData} {us : List Value} {ps : List PyData} (a : Shw P w h u p) (b : ShwAll P w h us ps) : ShwAll P w h (u :: us) (p :: ps) := by
  obtain ⟨b1, m1, k1⟩ := a
  obtain ⟨b2, m2, k2⟩ := b
  refine ⟨b1 ++ b2, ReadAtMost.append (m1.mono ?_) (m2.mono ?_), ?_⟩
  · rw [PyData.depthAll]; exact Nat.le_max_left _ _
  · rw [PyData.depthAll]; exact Nat.le_max_right _ _
  rw [PyData.depthAll, PyData.shownAll]
  exact ReprAllK.cons ((k1.more fun c hc => List.mem_append_left _ hc).level_le (Nat.le_max_left _ _)) (ReprAllK.more_le (fun c hc => List.mem_append_right _ hc) (Nat.le_max_right _ _) k2)
theorem nil_of_reads {h : Heap} {ps : List PyData} {as : List Addr} (r : ReadsAll h [] ps as) : ps = [] := by cases r; rfl
theorem shw_list {h : Heap} {a : Addr} {o : Obj} {vs : Array Value} {n : Nat} {ps : List PyData} {as : List Addr} (h1 : h.get? a = some o) (h2 : o.cls = .type "list") (h3 : o.data = .seq vs n) (h4 : ReadsAll h vs.toList ps as) (k : ShwAll P w h vs.toList ps) : Shw P w h (.ref a) (.list ps) := by
  obtain ⟨bs, m, k⟩ := k
  have rd : Reads h (.ref a) (.list ps) _ := .list h1 h2 h3 h4
  have nin : a ∉ bs := not_mem_of_deeper rd (by rw [PyData.depth]; omega) m
  refine ⟨a :: bs, ReadAtMost.cons rd (by rw [PyData.depth]; omega) m, ?_⟩
  rw [PyData.depth, PyData.shown]
  obtain ⟨lv⟩ := vs
  cases lv with
  | nil =>
    have e := nil_of_reads h4
    subst e
    rw [PyData.shownAll, listText_nil]
    exact ReprK.listEmpty h1 h2 h3
  | cons x l =>
    refine ReprK.list h1 h2 h3 nin ?_ fun i y e => k.item i y (by simpa using e)
    simpa using k.length_eq
mutual
theorem Rep.shw (I : L2.Inv X pins σ H s) (ex : Ex F H) : ∀ {d : D} {v : V} {u : Value}, Rep X.K F v d → rpD d = true → RelV v u → (toPy d).showable = true → (toPy d).shown.length ≤ sizeLine → Shw P w s.heap u (toPy d)
  | _, _, _, .non, _, r, hs, hz => by cases r; rw [toPy] at hs hz ⊢; exact ReprK.of_reads .none hs (PyData.noDict_hsm (by rw [PyData.hasDict])) hz
  | _, _, _, .bl b, _, r, hs, hz => by cases r; rw [toPy] at hs hz ⊢; exact ReprK.of_reads (.bool b) hs (PyData.noDict_hsm (by rw [PyData.hasDict])) hz
  | _, _, _, .int i, _, r, hs, hz => by obtain ⟨t, rfl⟩ := r; rw [toPy] at hs hz ⊢; exact ReprK.of_reads (.int i t) hs (PyData.noDict_hsm (by rw [PyData.hasDict])) hz
  | _, _, _, .str x, _, r, hs, hz => by obtain ⟨t, rfl⟩ := r; rw [toPy] at hs hz ⊢; exact ReprK.of_reads (.str x t) hs (PyData.noDict_hsm (by rw [PyData.hasDict])) hz
  | _, _, _, .scr (ns := ns) q, h, r, hs, hz => by
    obtain ⟨as, rd⟩ := Rep.rds I ex (.scr q) h r
    have hl : (toPy (.scr ns)).canLay0 = true := by rw [toPy, PyData.canLay0]; exact canLay_ints' ns
    exact ReprK.of_reads rd hs (PyData.noDict_hsm (PyData.hasDict_of_canLay _ hl)) hz
  | _, _, _, .lst (ds := ds) q rr, h, r, hs, hz => by
    cases r
    obtain ⟨its, rv, ⟨o, n, ho, hc, _, hd⟩, _⟩ := I.list (.inl (.inl (ex _ _ q)))
    have h' : rpDs ds = true := by simpa [rpD] using h
    obtain ⟨as, ra⟩ := Reps.rdsAll I ex rr h' rv
    rw [toPy] at hs hz ⊢
    exact shw_list ho hc hd ra (Reps.shwAll I ex rr h' rv (by simpa [PyData.showable] using hs) fun t ht => Nat.le_trans (listText_mem_le ht) (by rw [← PyData.shown]; exact hz))
  | _, _, _, .tup (ds := ds) q rr, h, r, hs, hz => by
    cases r
    obtain ⟨its, rv, ⟨o, ho, hc, n, hd⟩, _⟩ := I.tuple (.inl (.inl (ex _ _ q)))
    have h' : rpDs ds = true := by simpa [rpD] using h
    obtain ⟨as, ra⟩ := Reps.rdsAll I ex rr h' rv
    rw [toPy] at hs hz ⊢
    obtain ⟨bs, m, k⟩ : ShwAll P w s.heap its (toPyAll ds) := Reps.shwAll I ex rr h' rv (by simpa [PyData.showable] using hs) fun t ht => Nat.le_trans (tupleText_mem_le ht) (by rw [← PyData.shown]; exact hz)
    have rd : Reads s.heap (.ref _) (.tuple (toPyAll ds)) _ := .tuple ho hc hd ra
    refine ⟨_ :: bs, ReadAtMost.cons rd (by rw [PyData.depth]; omega) m, ?_⟩
    rw [PyData.depth, PyData.shown]
    exact ReprK.tuple ho hc hd (not_mem_of_deeper rd (by rw [PyData.depth]; omega) m) k
  | _, _, _, .dct q rr, h, r, hs, hz => by
    cases r
    have e := dct_rp h
    subst e
    cases rr
    obtain ⟨hn, o, ep, h1, h2, h3⟩ := empty_dict I (ex _ _ q)
    rw [toPy, toPyKv] at hs hz ⊢
    exact ReprK.of_reads (.dict h1 h2 h3 .nil .nil) hs (fun _ hm => hn (by rcases List.mem_cons.mp hm with e | hm; exact e.symm; cases hm)) hz
  | _, _, _, .obj a, h, _, _, _ => by simp [rpD] at h
  | _, _, _, .dcT _ _, h, _, _, _ => by simp [rpD] at h
theorem Reps.shwAll (I : L2.Inv X pins σ H s) (ex : Ex F H) : ∀ {ds : List D} {vs : List V} {us : List Value}, Reps X.K F vs ds → rpDs ds = true → Vals vs us → PyData.showableAll (toPyAll ds) = true → (∀ t ∈ PyData.shownAll (toPyAll ds), t.length ≤ sizeLine) → ShwAll P w s.heap us (toPyAll ds)
  | _, _, _, .nil, _, r, _, _ => by
    cases r
    rw [toPyAll]
    exact ⟨[], (fun _ hm => nomatch hm), by rw [PyData.shownAll]; exact .nil⟩
  | _, _, _, .cons (d := d) (ds := ds) q qs, h, r, hs, hz => by
    cases r with
    | cons r1 r2 =>
      have h' : rpD d = true ∧ rpDs ds = true := by simpa [rpDs] using h
      rw [toPyAll] at hs hz ⊢
      have hs' : (toPy d).showable = true ∧ PyData.showableAll (toPyAll ds) = true := by simpa [PyData.showableAll] using hs
      rw [PyData.shownAll] at hz
      exact ShwAll.cons (Rep.shw I ex q h'.1 r1 hs'.1 (hz _ (List.mem_cons_self ..))) (Reps.shwAll I ex qs h'.2 r2 hs'.2 fun t ht => hz t (List.mem_cons_of_mem _ ht))
end
end
section
/-- repr(x) of what has empty dicts within -/
def rReprX (K : PySem.W.Frag) : List V → Hp → VK → Prop := fun xs H Q => ∃ x d, xs = [x] ∧ Rep K H x d ∧ rpD d = true ∧ (toPy d).showable = true ∧ (toPy d).depth ≤ 64 ∧ (toPy d).shown.length + 64 ≤ sizeLine ∧ Q (.str (toPy d).shown) H
theorem call_reprX (hg : X.A.guards = some []) (hu : X.A.units + 70 < cLine) : CallR X (.builtin "repr") (rReprX X.K) := by
  intro pins s σ H xs us Q I r h
  obtain ⟨x, d, rfl, hr, hp, hs, hdp, hz, q⟩ := h
  cases r with
  | cons rx rt =>
    rename_i u ut
    cases rt
    have ex : Ex H H := Ex.refl H
    have fin : ∀ h' u tk, (∀ b o, s.heap.get? b = some o → h'.get? b = some o) → EP X pins σ Q (.str (toPy d).shown u) { s with heap := h', toks := tk } := fun h' u tk hk => ⟨.str _, H, I.kept hk, ⟨_, rfl⟩, q⟩
    have hz1 : (toPy d).shown.length ≤ sizeLine := Nat.le_trans (Nat.le_add_right _ 64) hz
    cases hr with
    | non => cases rx; simp only [toPy, PyData.shown] at q; exact PySem.P.repr_of_none ⟨.str _, H, I.tok _, ⟨_, rfl⟩, q⟩
    | bl b => cases rx; simp only [toPy, PyData.shown] at q; exact PySem.P.repr_of_bool ⟨.str _, H, I.tok _, ⟨_, rfl⟩, q⟩
    | int i =>
      obtain ⟨t, rfl⟩ := rx
      simp only [toPy, PyData.shown] at q
      exact PySem.P.repr_of_int (by simpa [toPy, PyData.showable] using hs) ⟨.str _, H, I.tok _, ⟨_, rfl⟩, q⟩
    | str x =>
      obtain ⟨t, rfl⟩ := rx
      simp only [toPy, PyData.shown] at q hz1
      exact PySem.P.repr_of_str ⟨.str _, H, I.tok _, ⟨_, rfl⟩, q⟩ hz1
    | scr qq =>
      rename_i ns
      have hl : (toPy (.scr ns)).canLay0 = true := by rw [toPy, PyData.canLay0]; exact canLay_ints' ns
      obtain ⟨as, rd⟩ := Rep.rds I ex (.scr qq) hp rx
      cases rx
      exact repr_of_reads' rd hs (PyData.noDict_hsm (PyData.hasDict_of_canLay _ hl)) hg (by omega) (fun _ _ e => e) fin hz1
    | dct qq rr =>
      have e := dct_rp hp
      subst e
      cases rr
      cases rx
      obtain ⟨hn, o, ep, h1, h2, h3⟩ := empty_dict I qq
      refine repr_of_reads' (h₀ := s.heap) (d := toPy (.dct [])) (by rw [toPy, toPyKv]; exact .dict h1 h2 h3 .nil .nil) hs (fun _ hm => hn (by rcases List.mem_cons.mp hm with e | hm; exact e.symm; cases hm)) hg (by omega) (fun _ _ e => e) fin hz1
    | obj a => simp [rpD] at hp
    | dcT _ _ => simp [rpD] at hp
    | lst qq rr =>
      rename_i a vs ds
      cases rx
      obtain ⟨its, rv, ⟨o, n, ho, hc, _, hd⟩, _⟩ := I.list (.inl (.inl qq))
      have h' : rpDs ds = true := by simpa [rpD] using hp
      obtain ⟨as, ra⟩ := Reps.rdsAll I ex rr h' rv
      rw [toPy] at hs hz1 hdp
      have hzl : (listText (PyData.shownAll (toPyAll ds))).length ≤ sizeLine := by rw [← PyData.shown]; exact hz1
      obtain ⟨bs, m, k⟩ : ShwAll X.prog X.w s.heap its (toPyAll ds) := Reps.shwAll I ex rr h' rv (by simpa [PyData.showable] using hs) fun t ht => Nat.le_trans (listText_mem_le ht) hzl
      have nin : a ∉ bs := not_mem_of_deeper (.list ho hc hd ra) (by rw [PyData.depth]; omega) m
      rw [PyData.depth] at hdp
      simp only [toPy, PyData.shown] at fin
      refine call_repr_slot (by omega) ⟨o, ho, hc⟩ F.slot_list_repr.toG ?_
      cases its with
      | nil =>
        have e := nil_of_reads ra
        rw [e, PyData.shownAll, listText_nil] at fin
        exact call_list_repr_empty ⟨o, ho, hc⟩ ho hd ⟨_, _, rfl, fin s.heap _ (s.toks + 1) fun _ _ e => e⟩
      | cons x l =>
        exact call_list_reprK ho hc hd nin (by simpa using k.length_eq) (fun i y e => k.item i y (by simpa using e)) hg (fun b _ => Clear.nil b) (by show X.A.units + 1 + _ < cLine; omega) (fun _ _ e => e) (fun h' u tk hk => ⟨_, _, rfl, fin h' u tk hk⟩) hzl
    | tup qq rr =>
      rename_i a vs ds
      cases rx
      obtain ⟨its, rv, ⟨o, ho, hc, n, hd⟩, _⟩ := I.tuple (.inl (.inl qq))
      have h' : rpDs ds = true := by simpa [rpD] using hp
      obtain ⟨as, ra⟩ := Reps.rdsAll I ex rr h' rv
      rw [toPy] at hs hz1 hdp
      have hzl : (tupleText (PyData.shownAll (toPyAll ds))).length ≤ sizeLine := by rw [← PyData.shown]; exact hz1
      obtain ⟨bs, m, k⟩ : ShwAll X.prog X.w s.heap its (toPyAll ds) := Reps.shwAll I ex rr h' rv (by simpa [PyData.showable] using hs) fun t ht => Nat.le_trans (tupleText_mem_le ht) hzl
      have nin : a ∉ bs := not_mem_of_deeper (.tuple ho hc hd ra) (by rw [PyData.depth]; omega) m
      rw [PyData.depth] at hdp
      simp only [toPy, PyData.shown] at fin
      refine call_repr_slot (by omega) ⟨o, ho, hc⟩ F.slot_tuple_repr ?_
      exact call_tuple_reprK ho hc hd nin k hg (fun b _ => Clear.nil b) (by show X.A.units + 1 + _ < cLine; omega) (fun _ _ e => e) (fun h' u tk hk => ⟨_, _, rfl, fin h' u tk hk⟩) hzl
/-- repr(x): some text that hangs on the tree alone -/
def fReprX : List D → Option D
  | [d] => if rpD d = true ∧ PyData.showable (toPy d) = true ∧ PyData.depth (toPy d) ≤ 64 ∧ (PyData.shown (toPy d)).length + 64 ≤ LINE then some (.str (PyData.shown (toPy d))) else none
  | _ => none
theorem VRep.toRep {F H : Hp} (ex : Ex F H) {v : V} {d : D} (r : VRep K F H v d) : Rep K H v d := by
  cases r with
  | rep r => exact r.mono ex
  | own hp o => exact (o.mono ex).rep hp
theorem s_reprX : FnS K fReprX (rReprX K) := fun F H xs ds z Q ex r hz hq => by
  unfold fReprX at hz
  split at hz
  · rename_i d
    obtain ⟨x, rfl, rx⟩ := r.one
    obtain ⟨⟨h1, h2, h3, h4⟩, rfl⟩ := ite_some hz
    exact ⟨x, d, rfl, rx.toRep ex, h1, h2, h3, LINE_le h4, hq _ F H (Al.refl ex) (.str _)⟩
  · cases hz
end
end
end DL

/-! DR18: slices of tuples. -/
namespace DL
open PySem PySem.Spec PyProof.Rows L2
def dSlX : D → Option Int → Option Int → Option D
  | .tup xs, lo, hi => if (cutD xs lo hi).length < xs.length then some (.tup (cutD xs lo hi)) else none
  | x, lo, hi => dSl x lo hi
def eSlX (a : WE) (l h : Env → W (Option Int)) : WE := fun Δ S P R => a Δ S (fun x S1 => l Δ S1 (fun lo S2 => h Δ S2 (fun hi S3 => ∃ d, dSlX x lo hi = some d ∧ P d S3) R) R) R
def rSlX (K : PySem.W.Frag) : V → Option Int → Option Int → Hp → VK → Prop := fun x lo hi H Q => rSlA K x lo hi H Q ∨ rSlT K x lo hi H Q
theorem sl_anyX {X : Cx} : SlR X (rSlX X.K) := sl_any.or sl_tup
section
variable {X : Cx} {b : Bool} {O : List Nat} {E : XK} {e : Expr} {w : WE} {pos : Pos}
theorem sl_seeX {K : PySem.W.Frag} {F H : Hp} {v : V} {d z : D} {lo hi : Option Int} {Q : VK} (ex : Ex F H) (r : VRep K F H v d) (h : dSlX d lo hi = some z) (hq : ∀ v F' H', Al F H F' H' → Rep K F' v z → Q v H') : rSlX K v lo hi H Q := by
  cases d with
  | tup xs =>
    obtain ⟨hc, rfl⟩ := ite_some (show (if (cutD xs lo hi).length < xs.length then some (D.tup (cutD xs lo hi)) else none) = some z from h)
    obtain ⟨p, vs, rfl, hp, rr⟩ := r.tup ex
    have e2 : (cutV vs lo hi).length = (cutD xs lo hi).length := (rr.cut lo hi).len
    refine .inr ⟨p, vs, rfl, hp, fun ⟨z1, z2⟩ => ?_, fun q nq => ?_⟩
    · unfold cutV at e2
      rw [z1, z2, List.drop_zero, Nat.sub_zero, List.take_of_length_le (Nat.le_refl _), rr.len] at e2
      omega
    · have al := Al.new (o := .tup (cutV vs lo hi)) ex nq
      exact hq _ _ _ al (.tup upd_same ((rr.cut lo hi).mono al.f))
  | _ => exact .inl (sl_see ex r h hq)
theorem de_slX {lo hi : Option Expr} {wl wh : Env → W (Option Int)} {p2 : Pos} (ha : DB X b O E e w) (hl : DO X b O E lo wl) (hh : DO X b O E hi wh) : DE X b O E (.Subscript e (.Slice lo hi none p2) pos) (eSlX w wl wh) :=
  pe_to (pe_slice sl_anyX ha hl hh) fun σ H Q ⟨Z, Δ, S, F, P, R, k, hw, hx, hq⟩ => ⟨Z, Δ, S, F, _, R, k, hw, hx, fun v d S1 F1 H1 k1 e1 p1 r1 h1 => ⟨Z, Δ, S1, F1, _, R, k1, h1, hx.mono e1, fun lo S2 F2 H2 k2 e2 p2 h2 =>
    ⟨Z, Δ, S2, F2, _, R, k2, h2, hx.mono (e1.trans e2), fun hi S3 F3 H3 k3 e3 p3 ⟨z, hz, hp⟩ => sl_seeX k3.fH ((r1.mono (e2.trans e3)).see k3) hz fun v' F4 H4 al r4 =>
      hq v' z S3 F4 H4 (k3.al al) ((e1.trans (e2.trans e3)).trans al.f) (pureA (pure2 (pure2 p1 p2) p3) al) r4 hp⟩⟩⟩
end

/-! ### xs == [], xs != [] -/
def dEq0 : D → D → Option D
  | .lst xs, .lst [] => some (.bl xs.isEmpty)
  | _, _ => none
def dNe0 : D → D → Option D
  | .lst xs, .lst [] => some (.bl (!xs.isEmpty))
  | _, _ => none
def rEq0 (K : PySem.W.Frag) (neg : Bool) : R2 := fun x y H Q => ∃ a b xs, x = .ref a ∧ y = .ref b ∧ SqL K H a xs ∧ SqL K H b [] ∧ Q (.bl (if neg then !xs.isEmpty else xs.isEmpty)) H
section
variable {X : Cx} {K : PySem.W.Frag}
theorem op_eq0 (hu : X.A.units + 64 < cLine) : OpR X (compareOp .Eq) (rEq0 X.K false) := by
  intro pins s σ H x y v u Q I rx ry h
  obtain ⟨a, b, xs, rfl, rfl, ha, hb, q⟩ := h
  cases rx
  cases ry
  obtain ⟨i1, r1, p1, _⟩ := I.list ha
  obtain ⟨i2, r2, p2, _⟩ := I.list hb
  cases r2
  have hl := r1.length
  cases xs with
  | nil =>
    cases r1
    exact SeqAt.eq_listAt (e := fun _ => true) p1.isList p2.isList rfl (by omega) (fun j h1 _ => absurd h1 (by simp)) ⟨.bl _, H, I, rfl, q⟩
  | cons z zs =>
    refine SeqAt.eq_list_lengthsAt p1.isList p2.isList ?_ (by omega) ⟨.bl _, H, I, rfl, q⟩
    simp only [List.size_toArray, ← hl]
    rfl
theorem op_ne0 (hu : X.A.units + 64 < cLine) : OpR X (compareOp .NotEq) (rEq0 X.K true) := by
  intro pins s σ H x y v u Q I rx ry h
  obtain ⟨a, b, xs, rfl, rfl, ha, hb, q⟩ := h
  cases rx
  cases ry
  obtain ⟨i1, r1, p1, _⟩ := I.list ha
  obtain ⟨i2, r2, p2, _⟩ := I.list hb
  cases r2
  have hl := r1.length
  cases xs with
  | nil =>
    cases r1
    exact SeqAt.RcNeAt.lists (e := fun _ => true) p1.isList p2.isList rfl (by omega) (fun j h1 _ => absurd h1 (by simp)) _ _ _ _ ⟨.bl _, H, I, rfl, q⟩
  | cons z zs =>
    refine SeqAt.RcNeAt.lists_lengths p1.isList p2.isList ?_ (by omega) _ _ _ _ ⟨.bl _, H, I, rfl, q⟩
    simp only [List.size_toArray, ← hl]
    rfl
theorem e0_see {x y z : D} {neg : Bool} (h : (match x, y with | .lst xs, .lst [] => some (D.bl (if neg then !xs.isEmpty else xs.isEmpty)) | _, _ => none) = some z) : ∃ xs, x = .lst xs ∧ y = .lst [] ∧ z = .bl (if neg then !xs.isEmpty else xs.isEmpty) := by
  split at h
  · cases h; exact ⟨_, rfl, rfl, rfl⟩
  · cases h
theorem s_e0 (neg : Bool) : OpS K (fun x y => match x, y with | .lst xs, .lst [] => some (D.bl (if neg then !xs.isEmpty else xs.isEmpty)) | _, _ => none) (rEq0 K neg) := fun F H x y d1 d2 z Q ex r1 r2 hz hq => by
  obtain ⟨xs, rfl, rfl, rfl⟩ := e0_see hz
  obtain ⟨p, vs, rfl, hp, rr⟩ := r1.lst ex
  obtain ⟨p2, vs2, rfl, hp2, rr2⟩ := r2.lst ex
  cases rr2
  refine ⟨p, p2, vs, rfl, rfl, .inl (.inl hp), .inl (.inl hp2), ?_⟩
  have e : vs.isEmpty = xs.isEmpty := by
    have := rr.len
    cases vs <;> cases xs <;> simp_all
  rw [e]
  exact hq _ F H (Al.refl ex) (.bl _)
theorem s_eq0 : OpS K dEq0 (rEq0 K false) := fun F H x y d1 d2 z Q ex r1 r2 hz hq => s_e0 false F H x y d1 d2 z Q ex r1 r2 (by unfold dEq0 at hz; split at hz <;> simp_all) hq
theorem s_ne0 : OpS K dNe0 (rEq0 K true) := fun F H x y d1 d2 z Q ex r1 r2 hz hq => s_e0 true F H x y d1 d2 z Q ex r1 r2 (by unfold dNe0 at hz; split at hz <;> simp_all) hq
end
end DL

/-! DR19: sorted of ints; dicts by tuples; data in a list of data. -/
namespace DL
open PySem PySem.Spec PyProof.Rows L2
section
variable {prog : Program} {w : World} {A : Around} {E : Value → Shared → Prop} {s : Shared}
/-- a tuple's items collected -/
theorem gather_tup {p : Addr} {us : List Value} {Q : List Value → Shared → Prop} (ht : IsTup s.heap p us.toArray) (hz : us.length ≤ sizeLine)
    (q : Q us { s with heap := (s.heap.push (seqObj "list" #[] 0)).update s.heap.objs.size (Obj.mapSeq (· ++ us.toArray)) }) : wpAny (model prog w) A (collect (.ref p)) Q E s := by
  obtain ⟨o, h1, h2, n, h3⟩ := id ht
  have h1' : (s.heap.push (seqObj "list" #[] 0)).get? p = some o := Heap.get?_push_of_some _ h1
  have new : (s.heap.push (seqObj "list" #[] 0)).get? s.heap.objs.size = some (seqObj "list" #[] 0) := Heap.get?_push_size _ rfl
  unfold collect
  refine wpAny_bind (wpAny_runValue (codeAny_builtin PyProof.Rows.entry_proto_collect' ?_))
  show wpAny _ _ (do again (.builtin "list.__iadd__" ⟨[← newList [], .ref p], []⟩)) _ _ s
  refine wpAny_bind (wpAny_newList (wpAny_pure ⟨Code.quiet_builtin _ (by decide +kernel), codeAny_builtin PyProof.Rows.entry_list_iadd' ?_⟩))
  show wpAny _ _ (Builtin.List.listExtendWith (.ref s.heap.objs.size) (.ref p) (.ref s.heap.objs.size)) _ _ { s with heap := s.heap.push (seqObj "list" #[] 0) }
  unfold Builtin.List.listExtendWith
  refine wpAny_bind (wpAny_typeOf (T := "tuple") ⟨o, h1', h2⟩ ?_)
  rw [if_pos (by simp [show (Value.type "tuple" == Value.type "tuple") = true from rfl])]
  refine wpAny_bind (listItems_at h1' h3 ?_)
  refine wpAny_bind (listItems_at (xs := #[]) (n := 0) new rfl ?_)
  rw [if_neg (by simp)]
  have hsz : (#[] ++ us.toArray).size ≤ sizeLine + 1 := by
    simp only [Array.size_append, List.size_toArray, List.length_nil]
    omega
  refine wpAny_bind (listUpdate_at (xs := #[]) (n := 0) new rfl ?_ (Nat.zero_le _) hsz)
  refine wpAny_pure ?_
  show wpAny (model prog w) A (do
    let ob ← load s.heap.objs.size
    match ob.data with
    | .seq xs _ => pure xs.toList
    | _ => unsupported "internal:collect") Q E { s with heap := (s.heap.push (seqObj "list" #[] 0)).update s.heap.objs.size (Obj.mapSeq (· ++ us.toArray)) }
  refine wpAny_bind (wpAny_load (get?_update_seq new _) ?_)
  show wpAny _ _ (pure ((#[] : Array Value) ++ us.toArray).toList) Q E _
  have e : ((#[] : Array Value) ++ us.toArray).toList = us := by simp
  rw [e]
  exact wpAny_pure q
/-- sorted(t), t a tuple -/
theorem sort_tup {p : Addr} {us : List Value} {lt : Value → Value → Bool} {Q : Value → Shared → Prop} (O : SrtO.Swo lt) (ht : IsTup s.heap p us.toArray) (hz : us.length ≤ sizeLine)
    (hS : 2 ≤ us.length → ∀ (h₁ : Heap) (a : Addr), h₁.get? a = some (seqObj "list" us.toArray 0) → (∀ b o, s.heap.get? b = some o → b ≠ a ∧ h₁.get? b = some o) → SrtO.SortableO prog w A.in1.in1 { s with heap := h₁ } a us lt)
    (q : ∀ out : List Value, SrtO.Srtd lt out → SrtO.Stb lt out us → Q (.ref (s.heap.objs.size + 1)) { s with heap := sortedAll s.heap us out.toArray }) :
    wpAny (model prog w) A (call (.builtin "sorted") [.ref p]) Q E s := by
  refine Calls.call_function_entry PyProof.Rows.kind_sorted PyProof.Rows.plain_sorted PyProof.Rows.entry_sorted (PyProof.Rows.args_sorted1 _) ?_
  unfold Builtin.«sorted»
  refine wpAny_bind (m := checkCount "sorted" 1 1 _) (wpAny_pure (wpAny_bind (gather_tup ht hz (wpAny_bind (wpAny_newList ?_ hz)))))
  have size1 : ((s.heap.push (seqObj "list" #[] 0)).update s.heap.objs.size (Obj.mapSeq (· ++ us.toArray))).objs.size = s.heap.objs.size + 1 := by rw [Heap.size_update, size_push']
  have two : (((s.heap.push (seqObj "list" #[] 0)).update s.heap.objs.size (Obj.mapSeq (· ++ us.toArray))).push (seqObj "list" us.toArray 0)).get? (s.heap.objs.size + 1) = some (seqObj "list" us.toArray 0) := by
    rw [← size1]
    exact Heap.get?_push_size _ rfl
  have old : ∀ b o, s.heap.get? b = some o → b ≠ s.heap.objs.size + 1 ∧ (((s.heap.push (seqObj "list" #[] 0)).update s.heap.objs.size (Obj.mapSeq (· ++ us.toArray))).push (seqObj "list" us.toArray 0)).get? b = some o := fun b o e => by
    have lt1 : b < s.heap.objs.size := Heap.lt_size e
    refine ⟨Nat.ne_of_lt (Nat.lt_succ_of_lt lt1), Heap.get?_push_of_some _ ?_⟩
    rw [Heap.get?_update_ne _ _ _ _ (Nat.ne_of_lt lt1)]
    exact Heap.get?_push_of_some _ e
  show wpAny _ _ _ _ _ { s with heap := ((s.heap.push (seqObj "list" #[] 0)).update s.heap.objs.size (Obj.mapSeq (· ++ us.toArray))).push (seqObj "list" us.toArray 0) }
  rw [size1]
  refine wpAny_bind (wpAny_holding (wpAny_call_entry slot_list_sort ⟨_, two, rfl⟩ entry_list_sort (SrtO.list_sort_ord O two hz (fun h2 => hS h2 _ _ two old) fun out a b => ⟨_, rfl, ?_⟩) (args_list_sort _)))
  exact wpAny_pure ⟨_, rfl, q out a b⟩
end
def rSrtT (K : PySem.W.Frag) : List V → Hp → VK → Prop := fun vs H Q => ∃ (a : Addr) (ns : List Int), vs = [V.ref a] ∧ SqT K H a (ns.map V.int) ∧
  ∀ (ns' : List Int) (p : Addr), ns'.Perm ns → ns'.Pairwise (· ≤ ·) → H p = none → Q (.ref p) (L2.upd H p (.lst (ns'.map V.int)))
section
variable {X : Cx}
theorem cr_srtT : CallR X (.builtin "sorted") (rSrtT X.K) := by
  intro pins s σ H vs us Q I r h
  obtain ⟨a, ns, rfl, hs, q⟩ := h
  obtain ⟨its, rv, pl, hz⟩ := I.tuple hs
  rw [Vals.ref1 r]
  have ii := rv.ints
  refine sort_tup SrtO.swo_int pl (by rw [← rv.length]; exact hz) (fun h2 h₁ a' _ _ => SrtO.ints_sortable ii h2) fun out s1 s2 => ?_
  obtain ⟨k1, k2, k3⟩ := SrtO.ints_out ii s1 s2
  obtain ⟨ep, at_⟩ := PyProof.Rows.sortedAll_at s.heap its out.toArray
  have long : ((out.map SrtO.iv).map V.int).length ≤ sizeLine := by
    rw [List.length_map] at hz ⊢
    rw [k2.length_eq]
    exact hz
  refine ⟨.ref _, L2.upd H (s.heap.objs.size + 1) (.lst ((out.map SrtO.iv).map V.int)), I.laid (t' := s.toks) (fun _ _ => PyProof.Rows.sortedAll_old) (Nat.le_succ _) ⟨long, out, ep, vals_of_ints k1, at_⟩, rfl, ?_⟩
  exact q _ _ k2 k3 (I.hok.fresh (Nat.le_succ _))
end

/-! ### sorted(xs), ints -/
def sIn : List D → Option (List Int)
  | [.lst xs] => intsOf xs
  | [.tup xs] => intsOf xs
  | _ => none
def eSort (a : WA) : WE := fun Δ S P R => a Δ S (fun xs S1 => ∃ ns, sIn xs = some ns ∧ ∀ ns' : List Int, ns'.Perm ns → ns'.Pairwise (· ≤ ·) → P (.lst (ns'.map D.int)) S1) R
section
variable {X : Cx} {b : Bool} {O L : List Nat} {E : XK} {own : Bool} {e a c : Expr} {es : List Expr} {w wa wb : WE} {wA : WA} {pos p : Pos} {K : PySem.W.Frag}
theorem dn_sort {x : Str} (hx : x = "sorted") (hg : Gl X x) (hm : X.mg x = none) (hv : bootBuiltins x = some (.builtin "sorted")) (ha : DAB X b O E (e :: es) wA)
    (hn : x ≠ "__name__" := by decide) (hdb : (x == ("__debug__" : Str)) = false := by decide) (he : starEach (e :: es) X.env = (false, eval e X.env) :: starEach es X.env := by rfl) (hpl : (backTo pos (starEach es X.env)).any (·.1) = false := by rfl) :
    DN X b O E (.Call (.Name x p) (e :: es) [] pos) (eSort wA) := pe_to (pe_callB (cr_sortedI.or cr_srtT) hg hm hv ha hn hdb he hpl) fun σ H Q ⟨Z, Δ, S, F, P, R, k, hw, hx, hq⟩ => ⟨Z, Δ, S, F, _, R, k, hw, hx, fun vs ds S1 F1 H1 k1 e1 p1 r1 ⟨ns, hs, hp⟩ => by
    have fin : ∀ (ns' : List Int) (q : Addr), ns'.Perm ns → ns'.Pairwise (· ≤ ·) → H1 q = none → Q (.ref q) (L2.upd H1 q (.lst (ns'.map V.int))) := fun ns' q h1 h2 nq => by
      obtain ⟨k2, f1, f2, f3, f4⟩ := new_cell k1 nq (.lst (ns'.map V.int))
      exact hq (.ref q) (.lst (ns'.map D.int)) S1 F1 _ k2 e1 (pureA p1 ⟨Ex.refl _, Ex.new nq, k2.fH, fun _ _ z => .inl z⟩) ⟨q, _, rfl, upd_same, .lst Reps.ints, f1, f2, f3, f4⟩ (fun y z hz => by cases hz; exact (p1 y).2.h.none nq) (hp ns' h1 h2)
    unfold sIn at hs
    split at hs
    · obtain ⟨v, rfl, rv⟩ := (r1.see k1).one
      obtain ⟨q, us, rfl, hq', rr⟩ := rv.lst k1.fH
      have hi := ints_see rr hs
      subst hi
      exact .inl ⟨q, ns, rfl, .inl (.inl hq'), fin⟩
    · obtain ⟨v, rfl, rv⟩ := (r1.see k1).one
      obtain ⟨q, us, rfl, hq', rr⟩ := rv.tup k1.fH
      have hi := ints_see rr hs
      subst hi
      exact .inr ⟨q, ns, rfl, hq', fin⟩
    · cases hs⟩

/-! ### data in a list of data -/
def dInD (x y : D) : Option D := match y with
  | .lst ys => if shD x = true ∧ shD (.lst ys) = true then some (.bl (ys.any fun z => PyData.eqv (toPy z) (toPy x))) else none
  | _ => none
theorem toPyAll_any (f : PyData → Bool) : ∀ ys : List D, (toPyAll ys).any f = ys.any fun z => f (toPy z)
  | [] => rfl
  | y :: ys => by rw [toPyAll, List.any_cons, List.any_cons, toPyAll_any f ys]
theorem s_inD : OpS K dInD (rInD K) := fun F H x y d1 d2 z Q ex r1 r2 hz hq => by
  unfold dInD at hz
  split at hz
  · rename_i ys
    obtain ⟨⟨h1, h2⟩, rfl⟩ := ite_some hz
    have hd := r2.dp ex h2
    rw [toPy] at hd
    refine ⟨toPy d1, toPyAll ys, r1.dp ex h1, hd, h1, by rw [← toPy]; exact h2, ?_⟩
    rw [toPyAll_any]
    exact hq _ F H (Al.refl ex) (.bl _)
  · cases hz

/-! ### dicts by tuples -/
def keysOf : List D → Option (List Key)
  | [] => some []
  | d :: ds => (keyD d).bind fun k => (keysOf ds).map (k :: ·)
def keyT : D → Option (List Key)
  | .tup ds => keysOf ds
  | _ => none
def getT (kvs : List (List Key × D)) (k : List Key) : Option D := (kvs.find? fun kv => decide (kv.1 = k)).map (·.2)
def putT (kvs : List (List Key × D)) (k : List Key) (v : D) : List (List Key × D) :=
  if (kvs.any fun kv => decide (kv.1 = k)) = true then kvs.map (fun kv => if kv.1 = k then (kv.1, v) else kv) else kvs ++ [(k, v)]
def dGetT : D → D → Option D
  | .dcT kvs, k => (keyT k).bind (getT kvs)
  | _, _ => none
def dInKT : D → D → Option D
  | k, .dcT kvs => (keyT k).map fun k => .bl (getT kvs k).isSome
  | _, _ => none
theorem VRep.dcT {F H : Hp} (e : Ex F H) {v : V} {ds : List (List Key × D)} : VRep K F H v (.dcT ds) → ∃ p vs, v = .ref p ∧ H p = some (.dT vs) ∧ RepK K F vs ds := fun h => by
  cases h with
  | rep r => cases r with | dcT h r => exact ⟨_, _, rfl, e _ _ h, r⟩
  | own h o => cases o with | dcT r => exact ⟨_, _, rfl, h, r⟩
theorem keys_see {F H : Hp} : ∀ {ds : List D} {vs : List V} {ks : List Key}, Reps K F vs ds → keysOf ds = some ks → vs = ks.map kV
  | [], _, _, .nil, h => by cases h; rfl
  | d :: ds, _, _, .cons r rs, h => by
    obtain ⟨k, hk, h2⟩ := Option.bind_eq_some_iff.mp h
    obtain ⟨ks, hks, rfl⟩ := Option.map_eq_some_iff.mp h2
    rw [key_see (H := F) (.rep r) hk, keys_see (H := H) rs hks]
    rfl
theorem keyT_see {F H : Hp} (ex : Ex F H) {v : V} {d : D} {ks : List Key} (r : VRep K F H v d) (h : keyT d = some ks) : ∃ q, v = .ref q ∧ H q = some (.tup (ks.map kV)) := by
  cases d with
  | tup ds =>
    obtain ⟨q, vs, rfl, hq, rr⟩ := r.tupH ex
    rw [keys_see (H := H) rr h] at hq
    exact ⟨q, rfl, hq⟩
  | _ => cases h
theorem dgetT_see {F H : Hp} {v y : V} {kvs : List (List Key × D)} {dk : D} {k : List Key} (ex : Ex F H) (r : VRep K F H v (.dcT kvs)) (ry : VRep K F H y dk) (hk : keyT dk = some k) :
    ∃ p ov, v = .ref p ∧ DGet H p y ov ∧ ((∃ u d, ov = some u ∧ getT kvs k = some d ∧ Rep K F u d) ∨ (ov = none ∧ getT kvs k = none)) := by
  obtain ⟨p, vs, rfl, hp, rk⟩ := r.dcT ex
  obtain ⟨q, rfl, hq⟩ := keyT_see ex ry hk
  refine ⟨p, _, rfl, DGet.t hp hq, ?_⟩
  rcases rk.find (k := k) with ⟨u, d, h1, h2, h3⟩ | ⟨h1, h2⟩
  · exact .inl ⟨u, d, h1, h2, h3⟩
  · exact .inr ⟨h1, h2⟩
theorem de_dgetT (hu : X.A.units + 1 < cLine) (ho : DB X b O E a wa) (ha : DE X b O E c wb) (hs : NoSl c) : DE X b O E (.Subscript a c pos) (eBin dGetT wa wb) :=
  pe_to (pe_dget hu ho ha hs) fun σ H Q ⟨Z, Δ, S, F, P, R, k, hw, hx, hq⟩ => ⟨Z, Δ, S, F, _, R, k, hw, hx, fun v d S1 F1 H1 k1 e1 p1 r1 h1 => ⟨Z, Δ, S1, F1, _, R, k1, h1, hx.mono e1, fun y dy S2 F2 H2 k2 e2 p2 r2 ⟨z, hz, hp⟩ => by
    unfold dGetT at hz
    split at hz
    · obtain ⟨key, hk, hg⟩ := Option.bind_eq_some_iff.mp hz
      obtain ⟨p', ov, rfl, hget, hres⟩ := dgetT_see k2.fH ((r1.mono e2).see k2) (.rep r2) hk
      rcases hres with ⟨u, d, rfl, h, r⟩ | ⟨rfl, h⟩
      · rw [hg] at h; cases h
        exact ⟨p', u, rfl, hget, hq _ _ S2 F2 H2 k2 (e1.trans e2) (pure2 p1 p2) r hp⟩
      · rw [hg] at h; cases h
    · cases hz⟩⟩
theorem rd_dinT : ∀ σ H Q, rdE X.K X.mg b O E (eBin dInKT wa wb) σ H Q → tDIn (rdE X.K X.mg b O E wa) (rdB X.K X.mg b O E wb) σ H Q :=
  fun σ H Q ⟨Z, Δ, S, F, P, R, k, hw, hx, hq⟩ => ⟨Z, Δ, S, F, _, R, k, hw, hx, fun v d S1 F1 H1 k1 e1 p1 r1 h1 => ⟨Z, Δ, S1, F1, _, R, k1, h1, hx.mono e1, fun y dy S2 F2 H2 k2 e2 p2 r2 ⟨z, hz, hp⟩ => by
    unfold dInKT at hz
    split at hz
    · obtain ⟨key, hk, rfl⟩ := Option.map_eq_some_iff.mp hz
      obtain ⟨p', ov, rfl, hget, hres⟩ := dgetT_see k2.fH (r2.see k2) (.rep (r1.mono e2)) hk
      refine ⟨p', ov, rfl, hget, hq _ _ S2 F2 H2 k2 (e1.trans e2) (pure2 p1 p2) ?_ hp⟩
      rcases hres with ⟨u, d, rfl, h, r⟩ | ⟨rfl, h⟩
      · rw [h]; exact .bl _
      · rw [h]; exact .bl _
    · cases hz⟩⟩
theorem de_dinT (hu : X.A.units + 1 < cLine) (ha : DE X b O E a wa) (ho : DB X b O E c wb) (hm : behindInMarks .In c = false := by rfl) : DE X b O E (.Compare a [.In] [c] pos) (eBin dInKT wa wb) := pe_to (pe_cmp (pc_din hu ha ho) hm) rd_dinT
theorem dt_dinT (hu : X.A.units + 1 < cLine) (ha : DE X b O E a wa) (ho : DB X b O E c wb) (hm : behindInMarks .In c = false := by rfl) : DT X b O E (.Compare a [.In] [c] pos) (tE (eBin dInKT wa wb)) := pt_to (pt_cmp (pc_din hu ha ho) hm) fun σ H Q ⟨Z, Δ, S, F, P, R, k, hw, hx, hq⟩ => rd_dinT σ H _ ⟨Z, Δ, S, F, _, R, k, hw, hx, fun v d S1 F1 H1 k1 e1 p1 r1 ⟨q, hd, h⟩ => by
    subst hd
    cases r1
    exact ⟨q, rfl, hq q S1 F1 H1 k1 e1 p1 h⟩⟩
theorem dn_dictT : DN X true O E (.Dict [] [] pos) (eC (.dcT [])) :=
  pe_to pe_dnewT fun σ H Q ⟨Z, Δ, S, F, P, R, k, hp, hx, hq⟩ => fun p np => by
    obtain ⟨k2, f1, f2, f3, f4⟩ := new_cell k np (.dT [])
    exact hq (.ref p) (.dcT []) S F _ k2 (Ex.refl _) (fun _ => ⟨rfl, ⟨Ex.refl _, Ex.new np, k2.fH, fun _ _ q => .inl q⟩⟩) ⟨p, _, rfl, upd_same, .dcT .nil, f1, f2, f3, f4⟩ (fun z q hq => by cases hq; exact np) hp
theorem anyT {F : Hp} {k : List Key} : ∀ {vs : List (List Key × V)} {ds : List (List Key × D)}, RepK K F vs ds → (vs.any fun kv => decide (kv.1 = k)) = ds.any fun kv => decide (kv.1 = k)
  | _, _, .nil => rfl
  | _, _, .cons _ r => by rw [List.any_cons, List.any_cons, anyT r]
theorem replT {F : Hp} {k : List Key} {x : V} {y : D} (r1 : Rep K F x y) : ∀ {vs : List (List Key × V)} {ds : List (List Key × D)}, RepK K F vs ds → RepK K F (vs.map fun kv => if kv.1 = k then (kv.1, x) else kv) (ds.map fun kv => if kv.1 = k then (kv.1, y) else kv)
  | _, _, .nil => .nil
  | _, _, .cons (k := j) h r => by
    rw [List.map_cons, List.map_cons]
    by_cases e : j = k
    · simp only [e, if_true]
      exact .cons r1 (replT r1 r)
    · simp only [e, if_false]
      exact .cons h (replT r1 r)
theorem snocT {F : Hp} {k : List Key} {x : V} {y : D} (r1 : Rep K F x y) : ∀ {vs : List (List Key × V)} {ds : List (List Key × D)}, RepK K F vs ds → RepK K F (vs ++ [(k, x)]) (ds ++ [(k, y)])
  | _, _, .nil => .cons r1 .nil
  | _, _, .cons h r => .cons h (snocT r1 r)
theorem put_T {F : Hp} {k : List Key} {x : V} {y : D} (r1 : Rep K F x y) {vs : List (List Key × V)} {ds : List (List Key × D)} (r : RepK K F vs ds) : RepK K F (putK vs k x) (putT ds k y) := by
  unfold putK putT
  rw [anyT r]
  split
  · exact replT r1 r
  · exact snocT r1 r
/-- d[t] = v, a dict of the name's own -/
def gTPut (i : Nat) (e ix : WE) : WS := fun Δ S B R => e Δ S (fun v S1 => ∃ kvs, Δ[i]? = some (some (.dcT kvs)) ∧ kvs.length < LINE ∧ ix Δ S1 (fun k S2 => ∃ ks, keyT k = some ks ∧ B.nx (Δ.set i (some (.dcT (putT kvs ks v)))) S2) R) R
theorem ds_tput {st : Stmt} {i : Nat} {ix val : Expr} {x : Str} {p2 : Pos} {wv wi : WE} (hi : i ∈ O) (hv : DE X b O E val wv) (ho : PE X (.Name x p2) (tVar i)) (hx : DE X b O E ix wi) (hp : ∀ {tv td ty}, PE X val tv → PE X (.Name x p2) td → PE X ix ty → PS X st (sDPut td ty tv)) :
    DS X O O L E own st (gTPut i wv wi) :=
  ps_to (hp hv ho hx) fun D σ H ⟨Z, Δ, S, F, B, R, k, hg, er⟩ => ⟨Z, Δ, S, F, _, R, k, hg, er.ex, fun v d S1 F1 H1 k1 e1 _ r1 ⟨kvs, hk, hl, h1⟩ => by
    obtain ⟨p, o, a1, a2, a3, a4, a5, a6⟩ := k1.ow i _ hi hk
    refine ⟨.ref p, a1, Z, Δ, S1, F1, _, R, k1, h1, er.ex.mono e1, fun y dk S2 F2 H2 k2 e2 _ r2 ⟨ks, hks, hn⟩ => ?_⟩
    obtain ⟨p', o', b1, b2, b3, _⟩ := k2.ow i _ hi hk
    rw [a1] at b1; cases b1
    cases b3 with
    | dcT rk =>
      obtain ⟨q, rfl, hq⟩ := keyT_see k2.fH (.rep r2) hks
      exact ⟨p, _, rfl, DPut.t b2 hq (LINE_lt (by rw [rk.len]; exact hl)), er.nx _ _ S2 F2 _ (k2.change hi hk a1 (.dcT (put_T (r1.mono e2) rk))) (e1.trans e2) hn⟩⟩
end
end DL

/-! DR20: what a name's own list hands out; lists that are objects: read, appended to, shared again. -/
namespace DL
open PySem PySem.Spec PyProof.Rows L2
/-! ### x = xs.pop(i), the list a name's own -/
def oPopAt : D → List D → Option (D × D)
  | .lst xs, [.int i] => if 0 ≤ i ∧ xs.length ≤ LINE then (xs[i.toNat]?).map fun y => (.lst (xs.eraseIdx i.toNat), y) else none
  | _, _ => none
def gOwnAsg (i : Nat) (ok : D → Bool) (f : D → List D → Option (D × D)) (a : WA) (g : WG) : WS := fun Δ S B R => ∃ x, Δ[i]? = some (some x) ∧ ok x = true ∧ a Δ S (fun ys S1 => ∃ z r, f x ys = some (z, r) ∧ g r (Δ.set i (some z)) fun Δ1 => B.nx Δ1 S1) R
section
variable {K : PySem.W.Frag}
theorem o_popAt : OwnS K oPopAt rPopAt := fun F H p o d d' rd xs ds Q ex hp ow rs hf hq => by
  unfold oPopAt at hf
  split at hf
  · rename_i ys i
    obtain ⟨u, rfl, ru⟩ := rs.one
    cases ru
    by_cases hi : 0 ≤ i ∧ ys.length ≤ LINE
    · rw [if_pos hi] at hf
      obtain ⟨y, h1, he⟩ := Option.map_eq_some_iff.mp hf
      cases he
      cases ow with
      | lst r =>
        obtain ⟨v, a1, a2⟩ := r.get h1
        rename_i vs
        have hlt : i.toNat < vs.length := (List.getElem?_eq_some_iff.mp a1).1
        have hsz : vs.length ≤ sizeLine := LINE_le (by rw [r.len]; exact hi.2)
        have hb : sizeLine < 2 ^ 63 := by rw [sizeLine_eq]; decide
        have hi2 : ((i.toNat : Nat) : Int) = i := Int.toNat_of_nonneg hi.1
        refine ⟨p, vs, i, i.toNat, v, rfl, rfl, hp, by omega, by omega, ?_, a1, hq _ _ (.lst (Reps.erase _ r)) a2⟩
        rw [← hi2]
        exact seqIx hlt
    · rw [if_neg hi] at hf; cases hf
  · cases hf
end
section
variable {X : Cx} {b : Bool} {O On L : List Nat} {E : XK} {own : Bool} {o e c tg : Expr} {wo we wi : WE} {pos : Pos}
theorem ds_ownAsg {i : Nat} {T : String} {ok : D → Bool} {r : V → List V → Hp → VK → Prop} {f : D → List D → Option (D × D)} {x : Str} {p2 : Pos} {wA : WA} {es : List Expr} {g : WG} (hi : i ∈ O) (hr : OwnS X.K f r) (hT : TyO X.K T ok) (hv : PE X (.Name x p2) (tVar i)) (ha : DA X b O E es wA) (hg : DG X O tg g)
    (hp : ∀ {t to}, PA X es t → PE X (.Name x p2) to → PE X e (tBM X.K T r to t)) (hs : swapsWithSole [tg] e pos.line X.env = pure false := by rfl) (hw : swappedStores [tg] e X.env = pure none := by rfl)
    (h1 : (assignEach [tg] X.env).map (·.2) = [assign tg X.env] := by rfl) : DS X O O L E own (.Assign [tg] e pos) (gOwnAsg i ok f wA g) :=
  ps_to (ps_asg (hp ha hv) hg hs hw h1) fun D σ H ⟨Z, Δ, S, F, B, R, k, ⟨x, hx, hok, hg⟩, er⟩ => by
    obtain ⟨p, o, a1, a2, a3, a4, a5, a6⟩ := k.ow i x hi hx
    refine ⟨.ref p, a1, hT F H p o x a2 a3 hok, Z, Δ, S, F, _, R, k, hg, er.ex, fun vs ds S' F' H' k' e' _ rs ⟨z, rd, hf, hn⟩ => ?_⟩
    obtain ⟨p', o', b1, b2, b3, _⟩ := k'.ow i x hi hx
    rw [a1] at b1; cases b1
    exact hr F' H' p o' x z rd vs ds _ k'.fH b2 b3 rs hf fun v o2 ow rv => ⟨Z, _, S', F', rd, _, k'.change hi hx a1 ow, rv, hn, fun σ1 Δ1 k1 q => er.nx σ1 Δ1 S' F' _ k1 e' q⟩

/-! ### lists that are objects -/
/-- what an object holds may be seen -/
theorem obj_see {K : PySem.W.Frag} {Z : Hp} {σ : L2.St} {Δ : Env} {S : Sto} {F H : Hp} (k : Wd K O Z σ Δ S F H) {a : Nat} {ds : List D} (h : S a = some (.lst ds)) : VRep K F H (.ref a) (.lst ds) := by
  obtain ⟨_, _, vs, hv, rr⟩ := k.st a _ h
  exact .own hv (.lst rr)
/-- f(x, what o holds) -/
def eObjR (f : D → D → Option D) (wa wo : WE) : WE := fun Δ S P R => wa Δ S (fun x S1 => wo Δ S1 (fun y S2 => ∃ a ds z, y = .obj a ∧ S2 a = some (.lst ds) ∧ f x (.lst ds) = some z ∧ P z S2) R) R
def eObjL (f : D → D → Option D) (wo wa : WE) : WE := fun Δ S P R => wo Δ S (fun x S1 => wa Δ S1 (fun y S2 => ∃ a ds z, x = .obj a ∧ S2 a = some (.lst ds) ∧ f (.lst ds) y = some z ∧ P z S2) R) R
def eObjLen (wo : WE) : WE := fun Δ S P R => wo Δ S (fun x S1 => ∃ a ds, x = .obj a ∧ S1 a = some (.lst ds) ∧ P (.int (ds.length : Int)) S1) R
theorem de_objR {op : CmpOp} {f : D → D → Option D} {r : R2} (ho : OpR X (compareOp op) r) (hr : OpS X.K f r) (ha : DB X b O E e we) (hb : DE X b O E o wo) (hm : behindInMarks op o = false) : DE X b O E (.Compare e [op] [o] pos) (eObjR f we wo) :=
  pe_to (pe_cmpR ho ha hb hm) fun σ H Q ⟨Z, Δ, S, F, P, R, k, hw, hx, hq⟩ => ⟨Z, Δ, S, F, _, R, k, hw, hx, fun v d S1 F1 H1 k1 e1 p1 r1 h1 => ⟨Z, Δ, S1, F1, _, R, k1, h1, hx.mono e1, fun u c S2 F2 H2 k2 e2 p2 r2 ⟨a, ds, z, hc, hs, hz, hp⟩ => by
    subst hc
    cases r2
    exact hr F2 H2 v _ d (.lst ds) z Q k2.fH ((r1.mono e2).see k2) (obj_see k2 hs) hz fun v' F3 H3 al r3 => hq v' z S2 F3 H3 (k2.al al) (e1.trans (e2.trans al.f)) (pureA (pure2 p1 p2) al) r3 hp⟩⟩
theorem de_objL {op : CmpOp} {f : D → D → Option D} {r : R2} (ho : OpR X (compareOp op) r) (hr : OpS X.K f r) (ha : DE X b O E o wo) (hb : DB X b O E e we) (hm : behindInMarks op e = false) : DE X b O E (.Compare o [op] [e] pos) (eObjL f wo we) :=
  pe_to (pe_cmpR ho ha hb hm) fun σ H Q ⟨Z, Δ, S, F, P, R, k, hw, hx, hq⟩ => ⟨Z, Δ, S, F, _, R, k, hw, hx, fun v d S1 F1 H1 k1 e1 p1 r1 h1 => ⟨Z, Δ, S1, F1, _, R, k1, h1, hx.mono e1, fun u c S2 F2 H2 k2 e2 p2 r2 ⟨a, ds, z, hc, hs, hz, hp⟩ => by
    subst hc
    cases r1
    exact hr F2 H2 _ u (.lst ds) c z Q k2.fH (obj_see k2 hs) (r2.see k2) hz fun v' F3 H3 al r3 => hq v' z S2 F3 H3 (k2.al al) (e1.trans (e2.trans al.f)) (pureA (pure2 p1 p2) al) r3 hp⟩⟩
theorem de_objLen {x : Str} {p : Pos} (hx : x = "len") (hg : Gl X x) (hm : X.mg x = none) (hv : bootBuiltins x = some (.builtin "len")) (ho : DE X b O E o wo) (hn : x ≠ "__name__" := by decide) (hdb : (x == ("__debug__" : Str)) = false := by decide)
    (he : starEach [o] X.env = (false, eval o X.env) :: starEach [] X.env := by rfl) (hpl : (backTo pos (starEach [] X.env)).any (·.1) = false := by rfl) : DE X b O E (.Call (.Name x p) [o] [] pos) (eObjLen wo) :=
  pe_to (pe_callB call_lenA hg hm hv (pa_cons ho pa_nil he) hn hdb he hpl) fun σ H Q ⟨Z, Δ, S, F, P, R, k, hw, hx, hq⟩ => ⟨Z, Δ, S, F, _, R, k, hw, hx, fun v d S1 F1 H1 k1 e1 p1 r1 ⟨a, ds, hc, hs, hp⟩ => by
    subst hc
    cases r1
    exact s_len F1 H1 _ [.lst ds] (.int (ds.length : Int)) Q k1.fH (.cons (obj_see k1 hs) .nil) rfl fun v' F3 H3 al r3 => hq v' _ S1 F3 H3 (k1.al al) (e1.trans al.f) (pureA p1 al) r3 hp⟩
/-- o.append(e) -/
def gObjApp (wo we : WE) : WS := fun Δ S B R => wo Δ S (fun x S1 => ∃ a, x = .obj a ∧ (∃ ds, S1 a = some (.lst ds)) ∧ we Δ S1 (fun z S2 => ∃ ds, S2 a = some (.lst ds) ∧ ds.length < LINE ∧ B.nx Δ (S2.upd a (.lst (ds ++ [z])))) R) R
theorem ds_objApp (ho : DE X false O E o wo) (hv : DE X false O E c we) (hp : ∀ {t : TA} {to : TE}, PA X [c] t → PE X o to → PE X e (tBM X.K "list" rAppend to t))
    (hs : starEach [c] X.env = (false, eval c X.env) :: starEach [] X.env := by rfl) (hsw : swapsWith e none pos.line X.env = pure false := by rfl) :
    DS X O O L E own (.Expr e pos) (gObjApp wo we) :=
  ps_to (ps_expr (hp (da_cons hv (da_eff da_nil) hs) ho) hsw) fun D σ H ⟨Z, Δ, S, F, B, R, k, hg, er⟩ => ⟨Z, Δ, S, F, _, R, k, hg, er.ex, fun v d S1 F1 H1 k1 e1 p1 r1 ⟨a, hd, ⟨ds0, h0⟩, h1⟩ => by
    subst hd
    cases r1
    obtain ⟨_, _, vs0, hv0, _⟩ := k1.st a _ h0
    refine ⟨.inl ⟨rfl, _, .inl (.inl hv0)⟩, Z, Δ, S1, F1, fun xs S2 => (match xs with
      | [z] => ∃ ds, S2 a = some (.lst ds) ∧ ds.length < LINE ∧ B.nx Δ (S2.upd a (.lst (ds ++ [z])))
      | _ => False), R, k1, h1, er.ex.mono e1, fun us ys S2 F2 H2 k2 e2 p2 r2 h2 => ?_⟩
    match ys, r2, h2 with
    | [z], .cons rz .nil, ⟨ds, ha, hll, hpp⟩ =>
      obtain ⟨f2, z2, vs, hv, rr⟩ := k2.st a _ ha
      refine ⟨a, vs, _, rfl, rfl, hv, LINE_lt (by rw [rr.len]; exact hll), ?_⟩
      exact er.nx σ Δ _ F2 _ (k2.obSet (ob' := .lst (ds ++ [z])) ha ⟨_, upd_same, rr.app (.cons rz .nil)⟩) (e1.trans e2) hpp⟩
/-- an object is let go: what it holds is shared from here on -/
def Sto.del (S : Sto) (a : Nat) : Sto := fun b => if b = a then none else S b
theorem Wd.obShare {K : PySem.W.Frag} {Z : Hp} {σ : L2.St} {Δ : Env} {S : Sto} {F H : Hp} (k : Wd K O Z σ Δ S F H) {a : Nat} {ds : List D} (ha : S a = some (.lst ds)) : ∃ F', Ex F F' ∧ Wd K O Z σ Δ (S.del a) F' H ∧ Rep K F' (.ref a) (.lst ds) ∧ ∀ b o, F' b = some o → F b = some o ∨ b = a := by
  obtain ⟨f1, z1, vs, hv, rr⟩ := k.st a _ ha
  have ef : Ex F (L2.upd F a (.lst vs)) := Ex.new f1
  refine ⟨L2.upd F a (.lst vs), ef, ⟨fun b u q => ?_, k.zH, fun b u q => ?_, fun b ob q => ?_, fun j e nj q => ?_, fun j e nj q => ?_, k.sep, k.len⟩, .lst upd_same (rr.mono ef), fun b u q => ?_⟩
  · by_cases z : b = a
    · subst z; rw [upd_same] at q; cases q; exact hv
    · rw [upd_ne z] at q; exact k.fH b u q
  · by_cases z : b = a
    · subst z; exact z1
    · rw [upd_ne z] at q; exact k.fz b u q
  · unfold Sto.del at q
    by_cases z : b = a
    · rw [if_pos z] at q; cases q
    · rw [if_neg z] at q
      obtain ⟨a1, a2, a3⟩ := k.st b ob q
      exact ⟨(upd_ne z).trans a1, a2, a3.mono ef rfl⟩
  · obtain ⟨v, b1, b2⟩ := k.fr j e nj q
    exact ⟨v, b1, b2.mono ef⟩
  · obtain ⟨r, u, a1, a2, a3, a4, a5, a6⟩ := k.ow j e nj q
    have z : r ≠ a := fun z => by rw [z, ha] at a6; cases a6
    refine ⟨r, u, a1, a2, a3.mono ef, (upd_ne z).trans a4, a5, ?_⟩
    unfold Sto.del
    rw [if_neg z]; exact a6
  · by_cases z : b = a
    · exact .inr z
    · rw [upd_ne z] at q; exact .inl q
def eObjEnd (wo : WE) : WE := fun Δ S P R => wo Δ S (fun x S1 => ∃ a ds, x = .obj a ∧ S1 a = some (.lst ds) ∧ P (.lst ds) (S1.del a)) R
theorem de_objEnd (ho : DE X false O E o wo) : DE X false O E o (eObjEnd wo) := pe_to ho fun σ H Q ⟨Z, Δ, S, F, P, R, k, hw, hx, hq⟩ => ⟨Z, Δ, S, F, _, R, k, hw, hx, fun v d S1 F1 H1 k1 e1 p1 r1 ⟨a, ds, hc, hs, hp⟩ => by
    subst hc
    cases r1
    obtain ⟨F2, f1, f2, f3, _⟩ := k1.obShare hs
    exact hq _ _ _ F2 H1 f2 (e1.trans f1) (fun z => nomatch z) f3 hp⟩
end
end DL
namespace DL
open PySem L2
theorem _root_.L2.Room.u65 {k : Nat} {A : Around} (r : Room k A) : A.units + 65 < cLine := by have := r.un; omega
end DL
namespace DL
open PySem PySem.Spec PyProof.Rows L2
/-- xs + ys, a new list -/
def dCat : D → D → Option D
  | .lst a, .lst b => if a.length + b.length ≤ LINE then some (.lst (a ++ b)) else none
  | _, _ => none
section
variable {X : Cx} {b : Bool} {O : List Nat} {E : XK} {a c : Expr} {wa wb : WE} {pos : Pos}
theorem dn_cat (ha : DB X b O E a wa) (hb : DB X b O E c wb) : DN X b O E (.BinOp a .Add c pos) (eBin dCat wa wb) :=
  pe_to (pe_op op_cat ha hb) fun σ H Q ⟨Z, Δ, S, F, P, R, k, hw, hx, hq⟩ => ⟨Z, Δ, S, F, _, R, k, hw, hx, fun v d S1 F1 H1 k1 e1 p1 r1 h1 => ⟨Z, Δ, S1, F1, _, R, k1, h1, hx.mono e1, fun u c S2 F2 H2 k2 e2 p2 r2 ⟨z, hz, hp⟩ => by
    unfold dCat at hz
    split at hz
    · obtain ⟨hl, rfl⟩ := ite_some hz
      obtain ⟨p, vs, rfl, hp', rv⟩ := ((r1.mono e2).see k2).lst k2.fH
      obtain ⟨q, us, rfl, hq', ru⟩ := (r2.see k2).lst k2.fH
      refine ⟨p, q, vs, us, rfl, rfl, hp', hq', LINE_le (by rw [rv.len, ru.len]; exact hl), fun t nt => ?_⟩
      obtain ⟨k3, f1, f2, f3, f4⟩ := new_cell k2 nt (.lst (vs ++ us))
      have pp := pure2 p1 p2
      exact hq (.ref t) _ S2 F2 _ k3 (e1.trans e2) (pureA pp ⟨Ex.refl _, Ex.new nt, k3.fH, fun _ _ q => .inl q⟩) ⟨t, _, rfl, upd_same, .lst (rv.app ru), f1, f2, f3, f4⟩ (fun y z hz => by cases hz; exact (pp y).2.h.none nt) hp
    · cases hz⟩⟩
end
end DL

/-! DR21: calls without arguments; tests on objects. -/
namespace DL
open PySem PySem.Spec PyProof.Rows L2
def dNotInD (x y : D) : Option D := match y with
  | .lst ys => if shD x = true ∧ shD (.lst ys) = true then some (.bl (!ys.any fun z => PyData.eqv (toPy z) (toPy x))) else none
  | _ => none
theorem s_notInD {K : PySem.W.Frag} : OpS K dNotInD (rNotInD K) := fun F H x y d1 d2 z Q ex r1 r2 hz hq => by
  unfold dNotInD at hz
  split at hz
  · rename_i ys
    obtain ⟨⟨h1, h2⟩, rfl⟩ := ite_some hz
    have hd := r2.dp ex h2
    rw [toPy] at hd
    refine ⟨toPy d1, toPyAll ys, r1.dp ex h1, hd, h1, by rw [← toPy]; exact h2, ?_⟩
    rw [toPyAll_any]
    exact hq _ F H (Al.refl ex) (.bl _)
  · cases hz
section
variable {X : Cx} {CX : CXT} {k : Nat} {f C : Addr} {fd : FuncData} {ps : List Str} {sp : Sp} {dvs : List V} {ds : List Value} {dd : List D} {E : XK} {x m : Str} {p pos apos : Pos} {e o : Expr} {es : List Expr} {ta : TE} {t : TA} {b own : Bool} {O : List Nat} {fn : Fn} {we wo : WE}
theorem pe_callG0 (F : FnG X.prog X.w X.K X.mg X.base CX k f fd ps sp) (hgu : X.A.guards = some []) (hr : Room k X.A) (hg : Gl X x) (hm : X.mg x = some (.ref f)) (hk : PySem.W.keepIn X.K (.ref f) = true) (hb : Binds X.K fd ps ds) (hd : Vals dvs ds) (hx : Passes CX X E)
    (hdb : (x == ("__debug__" : Str)) = false := by decide) : PE X (.Call (.Name x p) [] [] pos) (tCall sp dvs E tNil) :=
  ⟨fun pins s σ H Q I h => wpAny_Call_Name_kw (ld_glob I hg hm (PySem.W.callWith_K0 I.kIn hk (run_fnG (us := []) F hgu hr hb hd hx I .nil h)) hdb)⟩
theorem pe_cal0 (C : CalG X.prog X.w X.K X.mg X.base CX k x sp dvs dd) (hgu : X.A.guards = some []) (hr : Room k X.A) (hg : Gl X x) (hx : Passes CX X E) (hdb : (x == ("__debug__" : Str)) = false := by decide) :
    PE X (.Call (.Name x p) [] [] pos) (tCall sp dvs E (rdA X.K X.mg b O E aNil)) := by
  obtain ⟨f, fd, ps, ds, h1, h2, h3, h4, h5⟩ := C.ex
  exact pe_to (pe_callG0 h1 hgu hr hg h2 h3 h4 h5 hx hdb) fun σ H Q ⟨Z, Δ, S, F, P, R, kk, hw, hxx, hq⟩ => hq [] [] S F H kk (Ex.refl _) (fun _ => ⟨rfl, Al.refl kk.fH⟩) .nil hw
theorem ce_call0 (C : CalG X.prog X.w X.K X.mg X.base CX k x (spW X.K X.mg false fn) dvs dd) (hgu : X.A.guards = some []) (hr : Room k X.A) (hg : Gl X x) (hx : Passes CX X E) (hdb : (x == ("__debug__" : Str)) = false := by decide) :
    DE X false O E (.Call (.Name x p) [] [] pos) (eCall fn (aDef aNil dd)) := de_call C.rep (pe_cal0 C hgu hr hg hx hdb)
theorem cn_call0 (C : CalG X.prog X.w X.K X.mg X.base CX k x (spW X.K X.mg true fn) dvs dd) (hgu : X.A.guards = some []) (hr : Room k X.A) (hg : Gl X x) (hx : Passes CX X E) (hdb : (x == ("__debug__" : Str)) = false := by decide) :
    DN X false O E (.Call (.Name x p) [] [] pos) (eCall fn (aDef aNil dd)) := dn_call C.rep (pe_cal0 C hgu hr hg hx hdb)
theorem ce_callP0 (C : CalG X.prog X.w X.K X.mg X.base CX k x (spW X.K X.mg false fn) dvs dd) (hgu : X.A.guards = some []) (hr : Room k X.A) (hg : Gl X x) (hx : Passes CX X E) (hdb : (x == ("__debug__" : Str)) = false := by decide) :
    DE X b O E (.Call (.Name x p) [] [] pos) (eCallP fn (aDef aNil dd)) := de_callP C.rep (pe_cal0 C hgu hr hg hx hdb)
theorem cn_callP0 (C : CalG X.prog X.w X.K X.mg X.base CX k x (spW X.K X.mg true fn) dvs dd) (hgu : X.A.guards = some []) (hr : Room k X.A) (hg : Gl X x) (hx : Passes CX X E) (hdb : (x == ("__debug__" : Str)) = false := by decide) :
    DN X b O E (.Call (.Name x p) [] [] pos) (eCallP fn (aDef aNil dd)) := dn_callP C.rep (pe_cal0 C hgu hr hg hx hdb)
theorem dt_objR {op : CmpOp} {f : D → D → Option D} {r : R2} (ho : OpR X (compareOp op) r) (hr : OpS X.K f r) (ha : DB X b O E e we) (hb : DE X b O E o wo) (hm : behindInMarks op o = false) : DT X b O E (.Compare e [op] [o] pos) (tE (eObjR f we wo)) :=
  pt_to (pt_cmpR ho ha hb hm) fun σ H Q ⟨Z, Δ, S, F, P, R, k, hw, hx, hq⟩ => ⟨Z, Δ, S, F, _, R, k, hw, hx, fun v d S1 F1 H1 k1 e1 p1 r1 h1 => ⟨Z, Δ, S1, F1, _, R, k1, h1, hx.mono e1, fun u c S2 F2 H2 k2 e2 p2 r2 ⟨a, ds, z, hc, hs, hz, q, hzq, hp⟩ => by
    subst hc hzq
    cases r2
    refine hr F2 H2 v _ d (.lst ds) (.bl q) _ k2.fH ((r1.mono e2).see k2) (obj_see k2 hs) hz fun v' F3 H3 al r3 => ?_
    cases r3
    exact ⟨q, rfl, hq q S2 F3 H3 (k2.al al) (e1.trans (e2.trans al.f)) (pureA (pure2 p1 p2) al) hp⟩⟩⟩
theorem dt_objL {op : CmpOp} {f : D → D → Option D} {r : R2} (ho : OpR X (compareOp op) r) (hr : OpS X.K f r) (ha : DE X b O E o wo) (hb : DB X b O E e we) (hm : behindInMarks op e = false) : DT X b O E (.Compare o [op] [e] pos) (tE (eObjL f wo we)) :=
  pt_to (pt_cmpR ho ha hb hm) fun σ H Q ⟨Z, Δ, S, F, P, R, k, hw, hx, hq⟩ => ⟨Z, Δ, S, F, _, R, k, hw, hx, fun v d S1 F1 H1 k1 e1 p1 r1 h1 => ⟨Z, Δ, S1, F1, _, R, k1, h1, hx.mono e1, fun u c S2 F2 H2 k2 e2 p2 r2 ⟨a, ds, z, hc, hs, hz, q, hzq, hp⟩ => by
    subst hc hzq
    cases r1
    refine hr F2 H2 _ u (.lst ds) c (.bl q) _ k2.fH (obj_see k2 hs) (r2.see k2) hz fun v' F3 H3 al r3 => ?_
    cases r3
    exact ⟨q, rfl, hq q S2 F3 H3 (k2.al al) (e1.trans (e2.trans al.f)) (pureA (pure2 p1 p2) al) hp⟩⟩⟩
end
end DL
namespace DL
open PySem PySem.Spec PyProof.Rows L2
section
variable {X : Cx} {K : PySem.W.Frag}
def dNotInT (x y : D) : Option D := match y with
  | .tup ys => (strsOf ys).bind fun zs => if anyK x = true then some (.bl (!zs.any fun z => isT z x)) else none
  | _ => none
def rNotInT (K : PySem.W.Frag) : R2 := fun x y H Q => ∃ p, ∃ zs : List Str, y = .ref p ∧ SqT K H p (zs.map V.str) ∧
  ∃ a, x = .ref a ∧ ((∃ xs, SqL K H a xs) ∨ (∃ xs, SqT K H a xs) ∨ ∃ kvs, H a = some (.dK kvs)) ∧ Q (.bl true) H
theorem op_notInTs (hu : X.A.units + 70 < cLine) : OpR X (compareOp .NotIn) (rNotInT X.K) := by
  intro pins s σ H x y v u Q I rx ry h
  obtain ⟨p, zs, rfl, hq, a, rfl, ha, q⟩ := h
  cases ry
  cases rx
  obtain ⟨its, r, pl, hz⟩ := I.tuple hq
  have h1 : X.A.in1.units < cLine := by show X.A.units + 1 < cLine; omega
  refine SeqAt.notIn_tupleAt (fun _ => false) pl (fun w hw => ?_) ⟨.bl _, H, I, rfl, ?_⟩
  · obtain ⟨z, t, rfl⟩ := vals_str r w (by simpa using hw)
    rcases ha with ⟨xs, ha⟩ | ⟨xs, ha⟩ | ⟨kvs, ha⟩
    · obtain ⟨it2, _, pl2, _⟩ := I.list ha
      exact SeqAt.EqAt.str_list z t pl2.isList h1
    · obtain ⟨it2, _, pl2, _⟩ := I.tuple ha
      exact SeqAt.EqAt.str_tuple z t pl2 h1
    · exact EqAt.str_dict z t (isDct_of I ha).1 h1
  · rw [show its.toArray.any (fun _ => false) = false by simp]
    exact q
def rNotInA (K : PySem.W.Frag) : R2 := fun x y H Q => rIn K true x y H Q ∨ rNotInT K x y H Q
theorem op_notInT (hu : X.A.units + 70 < cLine) : OpR X (compareOp .NotIn) (rNotInA X.K) := op_notIn_seq.or (op_notInTs hu)
theorem s_notInT : OpS K dNotInT (rNotInA K) := fun F H x y d1 d2 z Q ex r1 r2 hz hq => by
  unfold dNotInT at hz
  split at hz
  · rename_i ys
    cases hs : strsOf ys with
    | none => rw [hs] at hz; cases hz
    | some zs =>
      rw [hs] at hz
      obtain ⟨hc, rfl⟩ := ite_some (show (if anyK d1 = true then some (D.bl (!zs.any fun z => isT z d1)) else none) = some z from hz)
      obtain ⟨p, vs, rfl, hp, rr⟩ := r2.tup ex
      have hv := strs_see rr hs
      subst hv
      have hqq := hq _ F H (Al.refl ex) (.bl _)
      have flat : ∀ (v : V) (d : D), flatV v = true → (∀ z, eqV (.str z) v = isT z d) → Q (.bl (!zs.any fun z => isT z d)) H → rNotInA K v (.ref p) H Q := fun v d hf he q =>
        .inl ⟨p, _, rfl, .inr hp, hf, flat_strs zs, by rw [inV_strs v d zs he]; exact q⟩
      have box : isBox d1 = true → rNotInA K x (.ref p) H Q := fun hb => by
        obtain ⟨a, rfl, ha⟩ := box_see ex r1 hb
        have e : (!zs.any fun z => isT z d1) = true := by
          have e2 : (zs.any fun z => isT z d1) = false := by
            cases d1 <;> first | (cases hb; done) | simp [isT]
          rw [e2]; rfl
        rw [e] at hqq
        exact .inr ⟨p, zs, rfl, hp, a, rfl, ha, hqq⟩
      cases d1 with
      | non => rw [r1.non]; exact flat _ .non rfl (fun z => rfl) hqq
      | bl b => rw [r1.bl]; exact flat _ (.bl b) rfl (fun z => rfl) hqq
      | int i => rw [r1.int]; exact flat _ (.int i) rfl (fun z => rfl) hqq
      | str w =>
        rw [r1.str]
        refine flat _ (.str w) rfl (fun z => ?_) hqq
        show eqV (.str z) (.str w) = decide (z = w)
        unfold eqV
        first | rfl | simp
      | lst xs => exact box rfl
      | tup xs => exact box rfl
      | scr ns => exact box rfl
      | dct kvs => exact box rfl
      | _ => cases hc
  · cases hz
end
end DL
namespace DL
open PySem PySem.Spec PyProof.Rows L2
def dNotInKT : D → D → Option D
  | k, .dcT kvs => (keyT k).map fun k => .bl (!(getT kvs k).isSome)
  | _, _ => none
section
variable {X : Cx} {b : Bool} {O : List Nat} {E : XK} {a c : Expr} {wa wb : WE} {pos : Pos}
theorem rd_dnotinT : ∀ σ H Q, rdE X.K X.mg b O E (eBin dNotInKT wa wb) σ H Q → tDNotIn (rdE X.K X.mg b O E wa) (rdB X.K X.mg b O E wb) σ H Q :=
  fun σ H Q ⟨Z, Δ, S, F, P, R, k, hw, hx, hq⟩ => ⟨Z, Δ, S, F, _, R, k, hw, hx, fun v d S1 F1 H1 k1 e1 p1 r1 h1 => ⟨Z, Δ, S1, F1, _, R, k1, h1, hx.mono e1, fun y dy S2 F2 H2 k2 e2 p2 r2 ⟨z, hz, hp⟩ => by
    unfold dNotInKT at hz
    split at hz
    · obtain ⟨key, hk, rfl⟩ := Option.map_eq_some_iff.mp hz
      obtain ⟨p', ov, rfl, hget, hres⟩ := dgetT_see k2.fH (r2.see k2) (.rep (r1.mono e2)) hk
      refine ⟨p', ov, rfl, hget, hq _ _ S2 F2 H2 k2 (e1.trans e2) (pure2 p1 p2) ?_ hp⟩
      rcases hres with ⟨u, d, rfl, h, r⟩ | ⟨rfl, h⟩
      · rw [h]; exact .bl _
      · rw [h]; exact .bl _
    · cases hz⟩⟩
theorem de_dnotinT (hu : X.A.units + 1 < cLine) (ha : DE X b O E a wa) (ho : DB X b O E c wb) (hm : behindInMarks .NotIn c = false := by rfl) : DE X b O E (.Compare a [.NotIn] [c] pos) (eBin dNotInKT wa wb) := pe_to (pe_cmp (pc_dnotin hu ha ho) hm) rd_dnotinT
theorem dt_dnotinT (hu : X.A.units + 1 < cLine) (ha : DE X b O E a wa) (ho : DB X b O E c wb) (hm : behindInMarks .NotIn c = false := by rfl) : DT X b O E (.Compare a [.NotIn] [c] pos) (tE (eBin dNotInKT wa wb)) := pt_to (pt_cmp (pc_dnotin hu ha ho) hm) fun σ H Q ⟨Z, Δ, S, F, P, R, k, hw, hx, hq⟩ => rd_dnotinT σ H _ ⟨Z, Δ, S, F, _, R, k, hw, hx, fun v d S1 F1 H1 k1 e1 p1 r1 ⟨q, hd, h⟩ => by
    subst hd
    cases r1
    exact ⟨q, rfl, hq q S1 F1 H1 k1 e1 p1 h⟩⟩
end
end DL

/-! DR22: list(range(n)). -/
namespace DL
open PySem PySem.Spec PyProof.Rows L2
def eLstRg (wa : WE) : WE := fun Δ S P R => wa Δ S (fun x S1 => ∃ j, x = .int j ∧ 0 ≤ j ∧ j ≤ 16777216 ∧ P (.lst (rngD 0 j.toNat)) S1) R
theorem reps_rg {K : PySem.W.Frag} {F : Hp} : ∀ l : List Nat, Reps K F (l.map fun i => V.int (0 + (i : Nat))) (l.map fun i => D.int (0 + (i : Nat)))
  | [] => .nil
  | i :: l => .cons (.int _) (reps_rg l)
section
variable {X : Cx} {b : Bool} {O : List Nat} {E : XK} {a : Expr} {wa : WE} {pos pos2 p p2 : Pos}
theorem dn_lstRg (hc : X.calm = true) (hgl : Gl X "list") (hml : X.mg "list" = none) (hgr : Gl X "range") (hmr : X.mg "range" = none) (ha : DE X b O E a wa) (na : starEach [a] X.env = (false, eval a X.env) :: starEach [] X.env := by rfl)
    (na2 : starEach [.Call (.Name "range" p2) [a] [] pos2] X.env = (false, eval (.Call (.Name "range" p2) [a] [] pos2) X.env) :: starEach [] X.env := by rfl) :
    DN X b O E (.Call (.Name "list" p) [.Call (.Name "range" p2) [a] [] pos2] [] pos) (eLstRg wa) :=
  pe_to (pe_listRg hc hgl hml (prg_1 hgr hmr ha na) na2) fun σ H Q ⟨Z, Δ, S, F, P, R, k, hw, hx, hq⟩ => ⟨Z, Δ, S, F, _, R, k, hw, hx, fun v d S1 F1 H1 k1 e1 p1 r1 ⟨j, hj, h0, h1, hp⟩ => by
    subst hj
    cases r1
    refine ⟨j, rfl, RgOk.of_le (by decide) h1 (by decide) h0, fun q nq => ?_⟩
    obtain ⟨k2, f1, f2, f3, f4⟩ := new_cell k1 nq (.lst (rgV 0 j))
    have e : (j - 0).toNat = j.toNat := by rw [Int.sub_zero]
    have rr : Reps X.K F1 (rgV 0 j) (rngD 0 j.toNat) := by
      unfold rgV rngD
      rw [e]
      exact reps_rg _
    exact hq (.ref q) (.lst (rngD 0 j.toNat)) S1 F1 _ k2 e1 (pureA p1 ⟨Ex.refl _, Ex.new nq, k2.fH, fun _ _ z => .inl z⟩) ⟨q, _, rfl, upd_same, .lst rr, f1, f2, f3, f4⟩ (fun y z hz => by cases hz; exact (p1 y).2.h.none nq) hp⟩
end
end DL

/-! DR23: a, b = {}, {} with both owned. -/
namespace DL
open PySem PySem.Spec PyProof.Rows L2
def gPar0 (i j : Nat) : WS := fun Δ S B R => B.nx ((Δ.set i (some (.dct []))).set j (some (.dct []))) S
section
variable {X : Cx} {O L : List Nat} {E : XK} {own : Bool} {st : Stmt} {p1 p2 : Pos}
theorem ds_par0 {i j : Nat} (hi : i ∈ O) (hj : j ∈ O) (hp : ∀ {ta}, PA X [.Dict [] [] p1, .Dict [] [] p2] ta → PS X st (tPar i j ta)) : DS X O O L E own st (gPar0 i j) :=
  ps_to (hp (pa_cons pe_dnewK (pa_cons pe_dnewK pa_nil))) fun D σ H ⟨Z, Δ, S, F, B, R, k, hg, er⟩ => fun p np => fun q nq => by
    obtain ⟨k1, f1, f2, f3, f4⟩ := new_cell k np (.dK [])
    have k1o := k1.own hi upd_same (.dct .nil) f1 f2 f3 f4
    obtain ⟨k2, g1, g2, g3, g4⟩ := new_cell k1o nq (.dK [])
    have k2o := k2.own hj upd_same (.dct .nil) g1 g2 g3 g4
    exact ⟨_, _, rfl, er.nx _ _ S F _ k2o (Ex.refl _) hg⟩
end
end DL

/-! DR24: a set filled from a list, by what each step keeps. -/
namespace DL
open PySem PySem.Spec PyProof.Rows
section
variable {pg : Program} {wd : World} {Ar : Around} {Rs : Result → Shared → Prop} {it : Addr} {used moved : List Addr} {Gs : Array GenState → Array GenState → Prop} {len : Nat} {Item : Nat → Value → Prop} {Now : Nat → Shared → Prop}
/-- J i: what the set at c holds after i items -/
structure Fills (pg : Program) (wd : World) (c : Addr) (len : Nat) (Item : Nat → Value → Prop) (J : Nat → Heap → Prop) : Prop where
  carry : ∀ {i : Nat} {h g : Heap}, (∀ o, h.get? c = some o → g.get? c = some o) → J i h → J i g
  put : ∀ {i : Nat} {v : Value} {B : Around} {E : Value → Shared → Prop} {s : Shared} {Q : Bool → Shared → Prop}, i < len → Item i v → J i s.heap →
    (∀ b g tk, s.toks ≤ tk → Heap.SameBut c s.heap g → J (i + 1) g → Q b { s with heap := g, toks := tk }) → wpAny (model pg wd) B (setAdd c v) Q E s
theorem fill_loop (Wk : WalksS pg wd Ar.in1 it used moved Gs len Item Now) {c : Addr} (out : c ∉ used) {J : Nat → Heap → Prop} (Fl : Fills pg wd c len Item J) :
    ∀ (left i : Nat) (s : Shared), len - i = left → i ≤ len → Now i s → J i s.heap → (∀ z, Moved (c :: moved) Gs s z → J len z.heap → Rs (.ok (.ret .none)) z) →
      codeAny (model pg wd) Ar (.builtin "set.update.loop" ⟨[.ref c, .ref it], []⟩) Rs s
  | left, i, s, hleft, hi, now, hold, fin => by
    have cm : c ∉ moved := fun z => out (Wk.sub _ z)
    have wider : ∀ b ∈ moved, b ∈ c :: moved := fun b q => List.mem_cons_of_mem _ q
    refine codeAny_builtin PyProof.Rows.F.entry_set_update_loop ?_
    rw [Around.under_plainId PyProof.Rows.F.plain_set_update_loop _]
    show wpAny _ Ar.in1 (pyNext (.ref it) >>= _) _ _ s
    match left, hleft with
    | 0, hleft =>
      obtain rfl : i = len := by omega
      refine wpAny_bind (Wk.done s _ _ now fun z mv => ?_)
      show wpAny _ Ar.in1 (ret Value.none) _ _ z
      exact wpAny_pure (fin z (mv.mono wider) (Fl.carry (fun o q => mv.heap c o cm q) hold))
    | left + 1, hleft =>
      have lt : i < len := by omega
      refine wpAny_bind (Wk.item i s _ _ lt now fun v z isItem nxt mv => ?_)
      show wpAny _ Ar.in1 (holding [v] (setAdd c v) >>= _) _ _ z
      refine wpAny_bind (wpAny_holding (Fl.put lt isItem (Fl.carry (fun o q => mv.heap c o cm q) hold) fun b g tk le sb held => ?_))
      refine wpAny_pure ⟨plainId_quiet PyProof.Rows.F.plain_set_update_loop _, fill_loop Wk out Fl left (i + 1) _ (by omega) lt (Wk.frame _ z _ _ nxt le fun a inu o q => ?_) held fun y mv2 all => ?_⟩
      · rw [sb.2 a fun e => out (by rw [← e]; exact inu)]; exact q
      · refine fin y (Moved.trans Wk.gtrans ((mv.mono wider).then_heap le fun a o na q => ?_) mv2) all
        rw [sb.2 a fun e => na (by rw [e]; exact List.mem_cons_self)]; exact q
end
section
variable {pg : Program} {wd : World} {Ar : Around} {E : Value → Shared → Prop} {s : Shared}
/-- the set that set.__new__ lays -/
abbrev bareSet (led : Bool) : Obj := { cls := .type "set", dict := none, data := .set #[] 0 (.fresh 0 0 led) }
theorem new_set_led (x : Value) {Q₁ : Value → Shared → Prop} (h : Q₁ (.ref s.heap.objs.size) { s with heap := s.heap.push (bareSet (!wd.params.followText "set-order")) }) :
    codeAny (model pg wd) Ar (.call (.builtin "set.__new__") ⟨[.type "set", x], []⟩) (wants Q₁ E) s := by
  refine codeAny_of_tree ?_
  show wpAny _ Ar.in1 (do checkBuiltinCall "set.__new__" ⟨[.type "set", x], []⟩; again (.builtin "set.__new__" ⟨[.type "set", x], []⟩)) _ _ s
  refine wpAny_bind (wpAny_of_eq (PySem.F.newCall_set_1 x) (wpAny_pure ⟨plainId_quiet PySem.F.plain_set_new _, codeAny_builtin PySem.F.entry_set_new ?_⟩))
  rw [Around.under_plainId PySem.F.plain_set_new _]
  unfold Builtin.«set.__new__» Builtin.Frozenset.newClass
  have self := sub_set_self
  obtain ⟨hp, gn, dr, tk, os⟩ := s
  dsimp only
  wp_walk
  refine wpAny_askSetting (wpAny_pure ?_)
  dsimp only
  simp only [newObj]
  refine wpAny_bind (wpAny_alloc (wpAny_pure ?_))
  exact wpAny_pure h
theorem call_set_fill {l : Addr} {us : Array Value} {J : Nat → Heap → Prop} {Q : Value → Shared → Prop} (calm : Ar.handled = none) (isl : s.heap.IsList l us)
    (Fl : Fills pg wd s.heap.objs.size us.size (fun i v => us[i]? = some v) J) (start : ∀ h, h.get? s.heap.objs.size = some (bareSet (!wd.params.followText "set-order")) → J 0 h)
    (q : ∀ g tk, J us.size g → (∀ b o, b < s.heap.objs.size → s.heap.get? b = some o → g.get? b = some o) → Q (.ref s.heap.objs.size) { s with heap := g, toks := tk }) :
    wpAny (model pg wd) Ar (call (.type "set") [.ref l]) Q E s := by
  have fS := PySem.F.called_set
  obtain ⟨_, _, mro⟩ := fS.mro
  have f1 := fS.made
  have f2 := fS.sub
  have f3 := fS.notType
  have f4 := fS.canCreate
  have f5 := PySem.F.typeCall_set_1 (.ref l)
  refine wpAny_call (codeAny_of_tree ?_)
  show wpAny _ _ (callAny (.type "set") _) _ _ _
  refine wpAny_pure ⟨Code.quiet_builtin _ (by decide +kernel), codeAny_builtin PySem.F.entry_type_call ?_⟩
  rw [Around.under_plain (weight_type_call_type "set" [.ref l] []) rfl]
  repeat (any_goals (first | assumption | wp_step))
  refine codeAny_mono (new_set_led (.ref l) (E := E) (Q₁ := fun x z => ∃ led, led = (!wd.params.followText "set-order") ∧ x = .ref s.heap.objs.size ∧ z = { s with heap := s.heap.push (bareSet led) }) ⟨_, rfl, rfl, rfl⟩) fun r z hr => ?_
  match r, hr with
  | .error e, hr => exact hr
  | .ok .next, hr => exact hr.elim
  | .ok .brk, hr => exact hr.elim
  | .ok .cont, hr => exact hr.elim
  | .ok (.ret x), hr =>
    obtain ⟨led, hled, rfl, rfl⟩ := hr
    have laid : (s.heap.push (bareSet led)).get? s.heap.objs.size = some (bareSet led) := Heap.get?_push_size _ rfl
    have ty : Shared.TypeIs { s with heap := s.heap.push (bareSet led) } (.ref s.heap.objs.size) "set" := ⟨_, laid, rfl⟩
    have i1 := fS.init.lookup
    have i2 := fS.init.bind (.ref s.heap.objs.size)
    repeat (any_goals (first | assumption | wp_step))
    refine codeAny_mono (codeAny_call_builtin (R := wants (fun y z => y = .none ∧ ∃ g tk, z = { s with heap := g, toks := tk } ∧ J us.size g ∧ (∀ b o, b < s.heap.objs.size → s.heap.get? b = some o → g.get? b = some o)) E)
      fS.init.plain PySem.F.entry_set_init (check_set_init_1 ty ?_)) fun r2 z2 hr2 => ?_
    · have below : l < s.heap.objs.size := by
        obtain ⟨ol, hol, _⟩ := isl
        exact Heap.lt_size hol
      obtain ⟨⟨oc, od, odat, osl⟩, hol, hc, nl, hd⟩ := isl
      simp only at hc hd
      subst hc hd
      have up : (s.heap.push (bareSet led)).get? l = some { cls := .type "list", dict := od, data := .seq us nl, slots := osl } := Heap.get?_push_of_some _ hol
      have n1 := PySem.F.sub_list_set
      have n2 := PySem.F.sub_list_frozenset
      have n3 : (Value.type "list" == Value.type "dict") = false := by decide
      have isl2 : (s.heap.push (bareSet led)).IsList l us := ⟨_, up, rfl, nl, rfl⟩
      unfold Builtin.«set.__init__» noKeywords Builtin.Frozenset.updateFrom
      generalize eI : pyIter = PI
      wp_walk
      subst eI
      refine wpAny_pyIter_list isl2 (wpAny_bind (wpAny_runValue ?_))
      have away : l ≠ (s.heap.push (bareSet led)).objs.size := by
        rw [Heap.size_push]
        exact Nat.ne_of_lt (Nat.lt_succ_of_lt below)
      have apart : s.heap.objs.size ∉ [(s.heap.push (bareSet led)).objs.size, l] := by
        rw [Heap.size_push]
        simp only [List.mem_cons, List.not_mem_nil, or_false, not_or]
        exact ⟨Nat.ne_of_lt (Nat.lt_succ_self _), Nat.ne_of_gt below⟩
      refine fill_loop ((Walks.list (by simp [calm]) _ l away us).toS) apart Fl (us.size - 0) 0 _ rfl (Nat.zero_le _) ⟨⟨_, Heap.get?_push_size _ rfl, rfl, rfl⟩, isl2.push _⟩ (start _ (by rw [← hled]; exact Heap.get?_push_of_some _ laid)) fun z mv all => ?_
      obtain ⟨g, gn, dr, tk, o⟩ := z
      obtain rfl : gn = s.gens := mv.gens
      obtain rfl : dr = s.drawn := mv.drawn
      obtain rfl : o = s.os := mv.os
      show wpAny _ _ _ _ _ _
      refine wpAny_pure ?_
      show wpAny _ _ (ret Value.none) _ _ _
      refine wpAny_pure ⟨rfl, g, tk, rfl, all, fun b u below_b e => mv.heap b u ?_ (Heap.get?_push_of_some _ (Heap.get?_push_of_some _ e))⟩
      rw [Heap.size_push]
      simp only [List.mem_cons, List.not_mem_nil, or_false, not_or]
      exact ⟨Nat.ne_of_lt below_b, Nat.ne_of_lt (Nat.lt_succ_of_lt below_b)⟩
    · match r2, hr2 with
      | .error e, hr2 => exact hr2
      | .ok .next, hr2 => exact hr2.elim
      | .ok .brk, hr2 => exact hr2.elim
      | .ok .cont, hr2 => exact hr2.elim
      | .ok (.ret y), hr2 =>
        obtain ⟨rfl, g, tk, rfl, all, keeps⟩ := hr2
        repeat (any_goals (first | assumption | wp_step))
        exact q _ _ all keeps
end
end DL

/-! DR25: len(set(xs)), xs texts. -/
namespace DL
open PySem PySem.Spec PyProof.Rows L2
def stepS (acc : List Str) (x : Str) : List Str := if acc.any (· == x) = true then acc else acc ++ [x]
def dedupS (xs : List Str) : List Str := xs.foldl stepS []
theorem stepS_any (acc : List Str) (x k : Str) : (stepS acc x).any (· == k) = (acc.any (· == k) || decide (k = x)) := by
  unfold stepS
  by_cases h : acc.any (· == x) = true
  · rw [if_pos h]
    by_cases e : k = x
    · subst e; rw [h]; simp
    · simp [e]
  · rw [if_neg h, List.any_append, Bool.eq_iff_iff]
    simp only [Bool.or_eq_true, List.any_cons, List.any_nil, Bool.or_false, beq_iff_eq, decide_eq_true_eq]
    exact ⟨fun z => z.imp id fun e => e.symm, fun z => z.imp id fun e => e.symm⟩
theorem stepS_len (acc : List Str) (x : Str) : (stepS acc x).length = if acc.any (· == x) = true then acc.length else acc.length + 1 := by
  unfold stepS
  split
  · rfl
  · rw [List.length_append]; rfl
theorem dedupS_len : ∀ (xs : List Str) (acc : List Str), (xs.foldl stepS acc).length ≤ acc.length + xs.length
  | [], acc => Nat.le_refl _
  | x :: xs, acc => by
    have h1 := dedupS_len xs (stepS acc x)
    have h2 := stepS_len acc x
    rw [List.foldl_cons, List.length_cons]
    split at h2 <;> omega
theorem dedupS_take {xs : List Str} {i : Nat} (h : i < xs.length) : dedupS (xs.take (i + 1)) = stepS (dedupS (xs.take i)) xs[i] := by
  unfold dedupS
  rw [List.take_succ, List.getElem?_eq_getElem h, List.foldl_append]
  rfl
theorem fills_str {pg : Program} {wd : World} {c : Addr} {xs : List Str} {us : Array Value} (h : StrsAre us.toList xs) (hl : xs.length = us.size) (hb : us.size + 1 < scanBound) :
    Fills pg wd c us.size (fun i v => us[i]? = some v) (fun i g => g.SetOf (PySem.strKind pg wd) c (fun k => (dedupS (xs.take i)).any (· == k)) (dedupS (xs.take i)).length) where
  carry := fun e ⟨o, es, ep, t, ho, r⟩ => ⟨o, es, ep, t, e o ho, r⟩
  put := fun {i v B E s Q} lt hv hold q => by
    obtain ⟨t, rfl⟩ := SS.strs_at h i v (by rw [Array.getElem?_toList]; exact hv)
    have lt2 : i < xs.length := by omega
    have e : xs.getD i Str.empty = xs[i] := by rw [List.getD_eq_getElem?_getD, List.getElem?_eq_getElem lt2]; rfl
    rw [e]
    have room : (dedupS (xs.take i)).length + 1 < scanBound := by
      have := dedupS_len (xs.take i) []
      rw [List.length_take] at this
      unfold dedupS
      simp at this
      omega
    unfold setAdd
    refine wpAny_holding (wpAny_bind ((PySem.strKind pg wd).pyHash (k := xs[i]) (strKind_is _ _ _ _) ?_))
    refine wpAny_setAddHashed_of (knd := PySem.strKind pg wd) (s := { s with toks := s.toks + 1 }) (strKind_is _ _ _ _) rfl hold room fun g sb got => ?_
    refine q _ g (s.toks + 1) (Nat.le_succ _) sb (SetOf_congr got (fun k => ?_) ?_)
    · rw [dedupS_take lt2, stepS_any]
    · rw [dedupS_take lt2, stepS_len]
/-- len(set(x)), ints or texts -/
def dLenSetX (d : D) : Option D := match d with
  | .lst xs => (strsOf xs).bind fun ss => if ss.length + 1 < 4096 then some (.int ((dedupS ss).length : Nat)) else none
  | _ => none
section
variable {X : Cx} {b : Bool} {O : List Nat} {E : XK} {a : Expr} {w : WE} {p p2 q pos : Pos}
def tLenSetS (K : PySem.W.Frag) (ta : TE) : TE := fun σ H Q => ta σ H fun x H1 => ∃ l, ∃ xs : List Str, x = .ref l ∧ SqL K H1 l (xs.map V.str) ∧ xs.length + 1 < 4096 ∧ Q (.int ((dedupS xs).length : Nat)) H1
theorem pe_lenSetS {ta : TE} (hg : Gl X "len") (hm : X.mg "len" = none) (hg2 : Gl X "set") (hm2 : X.mg "set" = none) (hc : X.calm = true) (ha : PE X a ta) (na : starEach [a] X.env = (false, eval a X.env) :: starEach [] X.env := by rfl) :
    PE X (.Call (.Name "len" p) [.Call (.Name "set" p2) [a] [] q] [] pos) (tLenSetS X.K ta) := by
  refine ⟨fun pins s σ H Q I h => Call_ (ld_blt I hg hm boot_len (callWith_builtin1 (args_cons ?_ rfl) rfl rfl))⟩
  refine Call_ (ld_blt I hg2 hm2 boot_set (callWith_type1 (args_cons (thn (ha.run pins s σ H _ I h) fun v s1 hh => args_nil ?_) na) na rfl))
  obtain ⟨x, H1, I1, r1, l, xs, rfl, hq, hl, q1⟩ := hh
  cases r1
  obtain ⟨its, r, pl, hz⟩ := I1.list hq
  have hlen : xs.length = its.toArray.size := by rw [List.size_toArray, ← r.length, List.length_map]
  refine call_set_fill (I1.ok.hd hc) pl.isList (fills_str (xs := xs) (by simpa using strsAre_of r) hlen (by rw [← hlen]; unfold scanBound; omega)) (fun g e => ?_) fun g tk all keeps => PyProof.Rows.args_nil ?_
  · exact PyProof.Rows.SetOf_congr ((PyProof.Rows.setObjOf_fresh (knd := PySem.strKind X.prog X.w) _).setOf e (by unfold scanBound; omega)) (fun _ => rfl) rfl
  · rw [← hlen, List.take_length] at all
    obtain ⟨o, es, ep, t, ho, hex, hd, _, _, _, hf, hn⟩ := all
    have I2 : Inv X pins σ H1 { s1 with heap := g, toks := tk } := I1.kept fun b o e => keeps b o (Heap.lt_size e) e
    have hle := dedupS_len xs []
    have hle2 : (dedupS xs).length ≤ xs.length := by unfold dedupS; simpa using hle
    exact call_len_set ho hex hd hf (by rw [hn] <;> omega) ⟨.int (dedupS xs).length, H1, I2.tok _, ⟨_, by rw [hn]⟩, q1⟩
theorem de_lenSetS (hg : Gl X "len") (hm : X.mg "len" = none) (hg2 : Gl X "set") (hm2 : X.mg "set" = none) (hc : X.calm = true) (ha : DB X b O E a w) (na : starEach [a] X.env = (false, eval a X.env) :: starEach [] X.env := by rfl) :
    DE X b O E (.Call (.Name "len" p) [.Call (.Name "set" p2) [a] [] q] [] pos) (eUn dLenSetX w) :=
  pe_to (pe_lenSetS hg hm hg2 hm2 hc ha na) fun σ H Q ⟨Z, Δ, S, F, P, R, k, hw, hx, hq⟩ => ⟨Z, Δ, S, F, _, R, k, hw, hx, fun v d S1 F1 H1 k1 e1 p1 r1 ⟨z, hd, h⟩ => by
    unfold dLenSetX at hd
    split at hd
    · obtain ⟨l, vs, rfl, hp, rv⟩ := (r1.see k1).lst k1.fH
      obtain ⟨ns, h1, h2⟩ := Option.bind_eq_some_iff.mp hd
      obtain ⟨hl, rfl⟩ := ite_some h2
      cases strs_see rv h1
      exact ⟨l, ns, rfl, .inl (.inl hp), hl, hq _ _ S1 F1 H1 k1 e1 p1 (.int _) h⟩
    · cases hd⟩
end
end DL

/-! DR26: sorted(set(xs)), xs ints. -/
namespace DL
open PySem PySem.Spec PyProof.Rows L2
theorem dedup_end (xs : List Int) (x : Int) : dedup (xs ++ [x]) = if (dedup xs).any (· == x) = true then dedup xs else dedup xs ++ [x] := by
  unfold dedup
  rw [List.foldl_append]
  rfl
theorem dedup_le : ∀ (xs acc : List Int), (xs.foldl (fun acc n => if acc.any (· == n) then acc else acc ++ [n]) acc).length ≤ acc.length + xs.length
  | [], acc => Nat.le_refl _
  | x :: xs, acc => by
    rw [List.foldl_cons, List.length_cons]
    have h := dedup_le xs (if acc.any (· == x) then acc else acc ++ [x])
    split at h
    · rename_i q; rw [if_pos q]; omega
    · rename_i q; rw [if_neg q]; rw [List.length_append, List.length_singleton] at h; omega
theorem dedup_has (xs : List Int) : ∀ k, (dedup xs).any (· == k) = decide (k ∈ xs) := by
  have key : ∀ (ys acc : List Int) (k : Int), (ys.foldl (fun acc n => if acc.any (· == n) then acc else acc ++ [n]) acc).any (· == k) = (acc.any (· == k) || decide (k ∈ ys)) := by
    intro ys
    induction ys with
    | nil => intro acc k; simp
    | cons y ys ih =>
      intro acc k
      rw [List.foldl_cons, ih]
      split
      · rename_i q
        rw [Bool.eq_iff_iff]
        simp only [Bool.or_eq_true, decide_eq_true_eq, List.mem_cons]
        constructor
        · rintro (h | h)
          · exact .inl h
          · exact .inr (.inr h)
        · rintro (h | rfl | h)
          · exact .inl h
          · exact .inl q
          · exact .inr h
      · rw [List.any_append, Bool.eq_iff_iff]
        simp only [Bool.or_eq_true, decide_eq_true_eq, List.mem_cons, List.any_cons, List.any_nil, Bool.or_false, beq_iff_eq]
        constructor
        · rintro ((h | h) | h)
          · exact .inl h
          · exact .inr (.inl h.symm)
          · exact .inr (.inr h)
        · rintro (h | h | h)
          · exact .inl (.inl h)
          · exact .inl (.inr h.symm)
          · exact .inr h
  intro k
  have := key xs [] k
  simpa [dedup] using this
theorem fills_int {pg : Program} {wd : World} {c : Addr} {ns : List Int} {us : Array Value} (h : IntsAre us.toList ns) (hl : ns.length = us.size) (hb : us.size + 1 < scanBound) :
    Fills pg wd c us.size (fun i v => us[i]? = some v) (fun i g => SetR wd g c (fun k => (dedup (ns.take i)).any (· == k)) (dedup (ns.take i)).length) where
  carry := fun e R => SetR.at R e
  put := fun {i v B E s Q} lt hv hold q => by
    obtain ⟨t, rfl⟩ := IntsAre.int_at h i v (by rw [Array.getElem?_toList]; exact hv)
    have lt2 : i < ns.length := by omega
    have e : ns.getD i 0 = ns[i] := by rw [List.getD_eq_getElem?_getD, List.getElem?_eq_getElem lt2]; rfl
    have tk1 : ns.take (i + 1) = ns.take i ++ [ns[i]] := by rw [List.take_succ, List.getElem?_eq_getElem lt2]; rfl
    rw [e]
    have room : (dedup (ns.take i)).length + 1 < scanBound := by
      have h2 : (dedup (ns.take i)).length ≤ ([] : List Int).length + (ns.take i).length := dedup_le (ns.take i) []
      rw [List.length_take, List.length_nil] at h2
      omega
    unfold setAdd
    refine wpAny_holding (wpAny_bind ((intKind pg wd).pyHash (k := ns[i]) (intKind_is _ _ _ _) ?_))
    refine setR_add_hashed (s := { s with toks := s.toks + 1 }) hold room fun g sb got => ?_
    have fin : SetR wd g c (fun k => (dedup (ns.take (i + 1))).any (· == k)) (dedup (ns.take (i + 1))).length := by
      have hlen : (dedup (ns.take (i + 1))).length = if (dedup (ns.take i)).any (· == ns[i]) = true then (dedup (ns.take i)).length else (dedup (ns.take i)).length + 1 := by
        rw [tk1, dedup_end]
        split
        · rfl
        · rw [List.length_append]; rfl
      rw [hlen]
      refine SetR.congr got fun k => ?_
      rw [dedup_has, dedup_has, tk1, Bool.eq_iff_iff]
      simp only [decide_eq_true_eq, List.mem_append, List.mem_singleton, Bool.or_eq_true]
    exact q _ g (s.toks + 1) (Nat.le_succ _) sb fin
section
variable {X : Cx} {b : Bool} {O : List Nat} {E : XK} {a : Expr} {w : WE} {p p2 q pos : Pos}
def tSortSet (X : Cx) (ta : TE) : TE := fun σ H Q => ta σ H fun x H1 => ∃ l, ∃ ns : List Int, x = .ref l ∧ SqL X.K H1 l (ns.map V.int) ∧ ns.length < 64 ∧
  ∀ (c p : Addr) (o : HO) (ms : List Int), H1 c = none → ms.Pairwise (· < ·) → (∀ k, k ∈ ms ↔ k ∈ ns) → L2.upd H1 c o p = none → Q (.ref p) (L2.upd (L2.upd H1 c o) p (.lst (ms.map V.int)))
theorem pe_sortSet {ta : TE} (hg : Gl X "sorted") (hm : X.mg "sorted" = none) (hg2 : Gl X "set") (hm2 : X.mg "set" = none) (hc : X.calm = true) (ha : PE X a ta) (na : starEach [a] X.env = (false, eval a X.env) :: starEach [] X.env := by rfl) :
    PE X (.Call (.Name "sorted" p) [.Call (.Name "set" p2) [a] [] q] [] pos) (tSortSet X ta) := by
  refine ⟨fun pins s σ H Q I h => Call_ (ld_blt I hg hm (by decide +kernel : bootBuiltins "sorted" = some (.builtin "sorted")) (callWith_builtin1 (args_cons ?_ rfl) rfl rfl))⟩
  refine Call_ (ld_blt I hg2 hm2 boot_set (callWith_type1 (args_cons (thn (ha.run pins s σ H _ I h) fun v s1 hh => args_nil ?_) na) na rfl))
  obtain ⟨x, H1, I1, r1, l, ns, rfl, hq, hl, q1⟩ := hh
  cases r1
  obtain ⟨its, r, pl, hz⟩ := I1.list hq
  have hlen : ns.length = its.toArray.size := by rw [List.size_toArray, ← r.length, List.length_map]
  refine call_set_fill (I1.ok.hd hc) pl.isList (fills_int (ns := ns) (by simpa using RZ.intsAre_vals r) hlen (by rw [← hlen]; unfold scanBound; omega)) (fun g e => ?_) fun g tk all keeps => PyProof.Rows.args_nil ?_
  · refine SetR.at (h := s1.heap.push (bareSet (!X.w.params.followText "set-order"))) (setR_fresh X.w) fun o ho => ?_
    rw [Heap.get?_push_size _ rfl] at ho
    cases ho
    exact e
  · rw [← hlen, List.take_length] at all
    have hle2 : (dedup ns).length ≤ ([] : List Int).length + ns.length := dedup_le ns []
    rw [List.length_nil] at hle2
    have fresh : H1 s1.heap.objs.size = none := I1.hok.fresh (Nat.le_refl _)
    have I2 : Inv X pins σ (L2.upd H1 s1.heap.objs.size (SetO X.w s1.heap.objs.size (fun k => (dedup ns).any (· == k)) (dedup ns).length)) { s1 with heap := g, toks := tk } :=
      I1.laid (fun b o e => keeps b o (Heap.lt_size e) e) (Nat.le_refl _) (setO_new all)
    refine cr_sortedSet hc pins _ σ _ [.ref s1.heap.objs.size] [.ref s1.heap.objs.size] Q I2 (.cons rfl .nil) ⟨_, _, _, rfl, upd_same, by omega, fun ms p hs hk hl2 np => ?_⟩
    exact q1 _ p _ ms fresh hs (fun k => by rw [hk k, dedup_has]; simp) np
/-- sorted(set(x)) -/
def eSortSet (a : WE) : WE := fun Δ S P R => a Δ S (fun x S1 => ∃ xs ns, x = .lst xs ∧ intsOf xs = some ns ∧ ns.length < 64 ∧ ∀ ms : List Int, ms.Pairwise (· < ·) → (∀ k, k ∈ ms ↔ k ∈ ns) → P (.lst (ms.map D.int)) S1) R
theorem dn_sortSet (hg : Gl X "sorted") (hm : X.mg "sorted" = none) (hg2 : Gl X "set") (hm2 : X.mg "set" = none) (hc : X.calm = true) (ha : DB X b O E a w) (na : starEach [a] X.env = (false, eval a X.env) :: starEach [] X.env := by rfl) :
    DN X b O E (.Call (.Name "sorted" p) [.Call (.Name "set" p2) [a] [] q] [] pos) (eSortSet w) :=
  pe_to (pe_sortSet hg hm hg2 hm2 hc ha na) fun σ H Q ⟨Z, Δ, S, F, P, R, k, hw, hx, hq⟩ => ⟨Z, Δ, S, F, _, R, k, hw, hx, fun v d S1 F1 H1 k1 e1 p1 r1 ⟨xs, ns, hd, hi, hl, h⟩ => by
    subst hd
    obtain ⟨l, vs, rfl, hp, rv⟩ := (r1.see k1).lst k1.fH
    cases ints_see rv hi
    refine ⟨l, ns, rfl, .inl (.inl hp), hl, fun c pp o ms nc hs hk np => ?_⟩
    obtain ⟨k2, _⟩ := new_cell k1 nc o
    obtain ⟨k3, f1, f2, f3, f4⟩ := new_cell k2 np (.lst (ms.map V.int))
    exact hq (.ref pp) (.lst (ms.map D.int)) S1 F1 _ k3 e1 (pureA p1 ⟨Ex.refl _, (Ex.new nc).trans (Ex.new np), k3.fH, fun _ _ z => .inl z⟩) ⟨pp, _, rfl, upd_same, .lst Reps.ints, f1, f2, f3, f4⟩
      (fun y z hz => by
        cases hz
        have hne : pp ≠ c := fun e => by subst e; rw [upd_same] at np; cases np
        rw [upd_ne hne] at np
        exact (p1 y).2.h.none np) (h ms hs hk)⟩
end
end DL

/-! DX1: exceptions: raise, try .. except B as e with the error kept, isinstance of it. -/
namespace DL
open PySem PySem.Spec PyProof.Rows L2

/-! ### a caught exception is tracked -/
section
variable {X : Cx} {pins : List (Addr × Obj)} {σ : L2.St} {H : Hp} {s : Shared}
/-- an object that is new since the entry, not tracked, is tracked from here on -/
theorem inv_track {a : Addr} {o : HO} {oe : Obj} {vs : Array Value} (I : Inv X pins σ H s) (he : s.heap.get? a = some oe) (hd : oe.data = .fields vs) (n0 : X.s_0.heap.get? a = none) (na : H a = none) (nL : a ≠ X.env.locals) (np : ∀ p ∈ X.pn ++ pins, p.1 ≠ a)
    (new : ObjOk X.prog X.w (L2.upd H a o) s.heap a o) : Inv X pins σ (L2.upd H a o) s := by
  have ne0 : ∀ b o', X.s_0.heap.get? b = some o' → b ≠ a := fun b o' e z => by rw [z, n0] at e; cases e
  have neC : ∀ x c, X.env.cells.lookup x = some c → c ≠ a := fun x c e z => by
    obtain ⟨v, o', h1, h2⟩ := I.cell x c e
    rw [z, he] at h1
    cases h1
    rw [hd] at h2; cases h2
  refine ⟨I.ok, I.os, I.bare, ⟨I.base.keep, I.base.slot, fun b o' e n hx => ?_, I.base.there, fun b xs e => ?_, fun b o' xs e => ?_, fun b ps e => ?_⟩, I.loc, I.cell, ?_, fun x c e => ?_, fun p hp => ?_, fun b u e => ?_, I.len⟩
  · rw [upd_ne (ne0 b o' e)]; exact I.base.free b o' e n hx
  · have q := I.base.tups b xs e
    rw [upd_ne (ne_of_none q na)]; exact q
  · have q := I.base.frzs b o' xs e
    rw [upd_ne (ne_of_none q na)]; exact q
  · obtain ⟨m, q⟩ := I.base.tbls b ps e
    exact ⟨m, by rw [upd_ne (ne_of_none q na)]; exact q⟩
  · rw [upd_ne fun z => nL z.symm]; exact I.free
  · rw [upd_ne (neC x c e)]; exact I.freeC x c e
  · obtain ⟨h1, h2, h3⟩ := I.pin p hp
    exact ⟨h1, by rw [upd_ne (np p hp)]; exact h2, h3⟩
  · by_cases hb : b = a
    · subst hb
      rw [upd_same] at e; cases e
      exact new
    · rw [upd_ne hb] at e
      exact (I.hok b u e).stay (fun c v _ q => q) (fun c q => by rw [upd_ne (ne_of_none q na)]; exact q) fun c xs q => by rw [upd_ne (ne_of_none q na)]; exact q
theorem inv_suite0 (I : Inv X pins σ H s) (a : Addr) : Inv (X.suite a (X.pn ++ pins)) [] σ H s :=
  ⟨I.ok.suite _ _, I.os, I.bare, I.base, I.loc, I.cell, I.free, I.freeC, fun p hp => I.pin p (by rw [List.append_nil] at hp; exact hp), I.hok, I.len⟩
theorem inv_unsuite0 {a : Addr} {pn' : List (Addr × Obj)} (I : Inv (X.suite a (X.pn ++ pins)) pn' σ H s) (ok : X.Ok) : Inv X pins σ H s :=
  ⟨ok, I.os, I.bare, I.base, I.loc, I.cell, I.free, I.freeC, fun p hp => I.pin p (List.mem_append_left _ hp), I.hok, I.len⟩
end
theorem exx_ok {P : Program} {w : World} {H : Hp} {h : Heap} {a : Addr} {cls : Value} {oe : Obj} {vs : Array Value} (e : h.get? a = some oe) (z : Zc cls none oe) (d : oe.data = .fields vs) : ObjOk P w H h a (ExX cls a) :=
  ⟨⟨oe, vs, e, z, d⟩, ⟨oe, e⟩, fun _ _ ⟨o, v, q, r⟩ k => ⟨o, v, k o q, r⟩⟩
/-- what the clause 'except x as n' wishes of an exception of the body -/
def wKp (K : PySem.W.Frag) (c : Value) (i : Nat) (ts : Addr → Value → TS) (Wout : WX) (D : Ends) : WX := fun cls d σ H =>
  ∃ b, PySem.W.exmOne K cls c = some b ∧ (b = true → d = none ∧ ∀ a, H a = none → ts a cls { nx := fun σ' H' => D.nx (σ'.set i none) H', rt := D.rt, bk := fun σ' H' => D.bk (σ'.set i none) H', ct := fun σ' H' => D.ct (σ'.set i none) H' } (σ.set i (some (.ref a))) (L2.upd H a (ExX cls a))) ∧
    (b = false → Wout cls d σ H)
section
variable {X : Cx} {x n : Str} {c : Value} {i : Nat} {body suite : List Stmt} {b₀ : Stmt} {np pos pos' : Pos} {tb : WX → TS} {ts : Addr → Value → TS} {Wout : WX}
theorem ps_try_kept (hs : X.stack = X.env :: X.outer) (hf : X.env.frame = some X.env.locals) (hex : X.ex = []) (hN : X.N.Nodup) (hi : X.N[i]? = some n) (hln : X.env.kindOf n = some .local) (hc : Names X x c) (tk : Takes X Wout)
    (hb : ∀ (W : WX) (pn : List (Addr × Obj)) (xe : Value → Shared → Prop), Takes (X.tr pn xe) W → PassesOwn (model X.prog X.w) X.A X.env xe → PSs (X.tr pn xe) body (tb W))
    (hsu : ∀ (a : Addr) (cls : Value) (pn : List (Addr × Obj)), PSs (X.suite a pn) (b₀ :: suite) (ts a cls)) :
    PS X (.Try body [.ExceptHandler (some (.Name x np)) (some n) (b₀ :: suite) pos'] [] [] pos) (fun D σ H => tb (wKp X.K c i ts Wout D) D σ H) := by
  refine ⟨fun pins s σ H D I h => ?_⟩
  have ok := I.ok
  have hfr : X.A.frames = some (X.env :: X.outer) := by rw [ok.frames, hs]
  have hloc : Loc X.env.scope n := .inl hln
  refine wpAny_Try_except ?_
  refine wpAny_mono ((hb (wKp X.K c i ts Wout D) (X.pn ++ pins) (fun e s₁ => wpAny (model X.prog X.w) X.A (noteFrame e X.env) (fun _ s₂ => wpAny (model X.prog X.w) X.A (setFlight e none) (fun _ s₃ =>
    wpAny (model X.prog X.w) X.A (handleBy e X.env [.ExceptHandler (some (.Name x np)) (some n) (b₀ :: suite) pos']) (SP X pins D) X.xe s₃) X.xe s₂) X.xe s₁) (fun u s' xx => ?_) PassesOwn.looking).run [] s σ H D (I.toTry _) h) (fun f s1 hsp => ?_) (fun e s1 he => he)
  · -- the catch
    obtain ⟨a, B, sI, pins', σ', H', cls, d, rfl, J', nb, up, sky, na, os, ag, b, hb1, hyes, hno⟩ := xx
    have J : Inv X pins σ' H' sI := J'.ofTry ok
    have sky' : Sky B (X.env :: X.outer) a (Zc cls d) X.env.locals s'.heap := by rw [← hs]; exact sky
    show wpAny (model X.prog X.w) X.A (noteFrame (.ref a) X.env) _ _ _
    refine Sky.land Zc.steady hfr hf sky' fun h3 fl3 up3 => ?_
    have J3 : Inv X pins σ' H' { s' with heap := h3 } := J.landed nb fl3.1 (up.trans up3) os ag
    obtain ⟨oe3, vs3, he3, hz3, hd3⟩ := fl3.there
    have notFr : ∀ {h : Heap} {o : Obj} {vs : Array Value}, h.FunFrames B (X.env :: X.outer) → h.get? a = some o → o.data = .fields vs → a ∉ frs (X.env :: X.outer) := fun {h o vs} ff e dd hm => by
      obtain ⟨_, o', e', hnf⟩ := ff.mem hm
      rw [e] at e'; cases e'
      exact hnf _ dd
    have nfr := notFr fl3.2.2.1 he3 hd3
    have nL : a ≠ X.env.locals := fun z => nfr (List.mem_filterMap.mpr ⟨X.env, List.mem_cons_self, by rw [hf, z]⟩)
    have nI : sI.heap.get? a = none := by
      cases q : sI.heap.get? a with
      | none => rfl
      | some o =>
        have z := nb a o q (by show a ∉ frs X.stack; rw [hs]; exact nfr)
        rw [fl3.2.1] at z; cases z
    have n0 : X.s_0.heap.get? a = none := by
      cases q : X.s_0.heap.get? a with
      | none => rfl
      | some o =>
        obtain ⟨o', z⟩ := J.base.there a o q (by rw [hex]; simp)
        rw [nI] at z; cases z
    have nP : ∀ p ∈ X.pn ++ pins, p.1 ≠ a := fun p hp z => by
      have q := (J.pin p hp).1
      rw [z, nI] at q; cases q
    have S3 := inv_suite0 J3 a
    refine wpAny_handleBy_cons (codeAny_handlers_test ?_) (by intro q; cases q)
    have LT : PySem.W.Looks (model X.prog X.w) h3 (typeOf (.ref a)) cls := fun A Q E s k q => wpAny_typeOf_ref (k _ _ he3) (by rw [hz3.1]; exact q)
    have LM := PySem.W.exm_one (M := model X.prog X.w) (J3.kIn) LT hb1
    have test : ∀ {Q : Value → Shared → Prop} {E : Value → Shared → Prop}, Q c { s' with heap := h3 } → wpAny (model X.prog X.w) (X.A.mark (some (.ref a))) (eval (.Name x np) X.env) Q E { s' with heap := h3 } := fun {Q E} q => by
      obtain ⟨hg, hdbg, hm | ⟨hm, hv, hnn⟩⟩ := hc
      · exact ld_glob (X := X.suite a (X.pn ++ pins)) S3 hg hm q hdbg
      · exact ld_blt (X := X.suite a (X.pn ++ pins)) S3 hg hm hv q hnn hdbg
    refine test (LM.here ?_)
    cases b with
    | true =>
      refine codeAny_handlers_suite_as ?_
      refine HandSPX.lands_againZ fl3 fun h4 fl4 up4 => ?_
      have J4 : Inv X pins σ' H' { s' with heap := h4 } := J.landed nb fl4.1 ((up.trans up3).trans up4) os ag
      obtain ⟨oe4, vs4, he4, hz4, hd4⟩ := fl4.there
      obtain ⟨rfl, hyes2⟩ := hyes rfl
      have J5 := inv_track (o := ExX cls a) J4 he4 hd4 n0 na nL nP (exx_ok he4 hz4 hd4)
      have S4 := inv_suite0 J5 a
      refine store_ok (X := X.suite a (X.pn ++ pins)) (v := .ref a) S4 hN hi hloc rfl (fun s5 S5 => ?_) (.inr hln)
      refine wpAny_mono ((hsu a cls (X.pn ++ pins)).run [] s5 _ _ _ S5 (hyes2 a na)) (fun f s6 hsp => ?_) (fun _ _ z => False.elim z)
      have end_ : ∀ {σ6 : L2.St} {H6 : Hp} {Q : Shared → Prop}, Inv (X.suite a (X.pn ++ pins)) [] σ6 H6 s6 → (∀ s7, Inv X pins (σ6.set i none) H6 s7 → Q s7) →
          wpAny (model X.prog X.w) X.A (do bindName X.env n .none; unbindBehindTheSuite X.env n pos') (fun _ s7 => Q s7) X.xe s6 := fun {σ6 H6 Q} S6 hq => gone_ok (inv_unsuite0 S6 ok) hN hi hln hq
      cases f with
      | next =>
        obtain ⟨σ6, H6, S6, q6⟩ := hsp
        exact end_ S6 fun s7 J7 => ⟨_, _, J7, q6⟩
      | brk =>
        obtain ⟨σ6, H6, S6, q6⟩ := hsp
        exact end_ S6 fun s7 J7 => ⟨_, _, J7, q6⟩
      | cont =>
        obtain ⟨σ6, H6, S6, q6⟩ := hsp
        exact end_ S6 fun s7 J7 => ⟨_, _, J7, q6⟩
      | ret u =>
        obtain ⟨v6, σ6, H6, S6, r6, q6⟩ := hsp
        exact end_ S6 fun s7 J7 => ⟨_, _, _, J7, r6, q6⟩
    | false =>
      show wpAny _ X.A (handleBy (.ref a) X.env []) _ _ _
      refine wpAny_handleBy_nil ?_
      obtain ⟨k1, k2, k3, oe, vs, T, oT, ts', he, hz, hd, h1, hr⟩ := id fl3
      unfold PySem.passOn
      refine wpAny_bind (wpAny_field he hd h1 ?_)
      rw [if_neg (show ¬ ((Value.ref T == Value.none) = true) from by simp)]
      have fin : wpAny (model X.prog X.w) X.A (setFlight (.ref a) X.env.frame) (fun _ s4 => wpAny (model X.prog X.w) X.A (throw (.ref a) : Sem Flow) (SP X pins D) X.xe s4) X.xe { s' with heap := h3 } := by
        rw [hf]
        refine HandSPX.setFlight_upZ fl3 fun h4 hh4 up4 => wpAny_throw (tk _ _ ?_)
        exact ⟨a, B, sI, pins, σ', H', cls, d, rfl, J, nb, (up.trans up3).trans up4, .inr (.inr (by rw [hs]; exact hh4)), na, os, ag, hno rfl⟩
      first
        | exact wpAny_bind (wpAny_pure (wpAny_bind fin))
        | exact wpAny_bind fin
  · cases f with
    | next =>
      obtain ⟨σ', H', J', q⟩ := hsp
      exact wpAny_execs_nil ⟨σ', H', J'.ofTry ok, q⟩
    | brk =>
      obtain ⟨σ', H', J', q⟩ := hsp
      exact ⟨σ', H', J'.ofTry ok, q⟩
    | cont =>
      obtain ⟨σ', H', J', q⟩ := hsp
      exact ⟨σ', H', J'.ofTry ok, q⟩
    | ret u =>
      obtain ⟨v, σ', H', J', r, q⟩ := hsp
      exact ⟨v, σ', H', J'.ofTry ok, r, q⟩
end

/-! ### readings whose wish of exceptions hangs on the slots -/
abbrev E1 : XK := fun _ _ _ => True
theorem xq_true {K : PySem.W.Frag} {mg : Str → Option Value} {Z F : Hp} {R : RX} : XQ K mg E1 Z F R := fun _ _ _ _ _ _ _ _ _ _ => trivial
abbrev DEv (X : Cx) (b : Bool) (O : List Nat) (Es : L2.St → XK) (e : Expr) (w : WE) : Prop := PE X e (fun σ H Q => rdE X.K X.mg b O (Es σ) w σ H Q)
abbrev DSv (X : Cx) (O On L : List Nat) (Es : L2.St → XK) (own : Bool) (st : Stmt) (g : WS) : Prop := PS X st (fun D σ H => rdS X.K X.mg O On L (Es σ) own g D σ H)
abbrev DSsv (X : Cx) (O On L : List Nat) (Es : L2.St → XK) (own : Bool) (st : List Stmt) (g : WS) : Prop := PSs X st (fun D σ H => rdS X.K X.mg O On L (Es σ) own g D σ H)
section
variable {X : Cx} {CX : CXT} {k : Nat} {x : Str} {own b : Bool} {fn : Fn} {dvs : List V} {dd : List D} {O On L : List Nat} {Es : L2.St → XK} {e a c : Expr} {es : List Expr} {p pos : Pos} {wA : WA} {w wa wb : WE} {t : WT} {g h : WS} {sp : Sp} {ta : TA}
theorem run_fnV {f : Addr} {fd : FuncData} {ps : List Str} {ds : List Value} {E : XK} {pins : List (Addr × Obj)} {σ : L2.St} {H : Hp} {s : Shared} {Q : VK} {us : List Value} {vs : List V} (F : FnG X.prog X.w X.K X.mg X.base CX k f fd ps sp) (hgu : X.A.guards = some []) (hr : Room k X.A) (hb : Binds X.K fd ps ds)
    (hd : Vals dvs ds) (hx : PassesAt CX X σ E) (I : L2.Inv X pins σ H s) (r : Vals vs us) (h : sp (vs ++ dvs) H Q E) : wpAny (model X.prog X.w) X.A (PySem.call (.ref f) us) (EP X pins σ Q) X.xe s := by
  have rr : Vals (vs ++ dvs) (us ++ ds) := r.append hd
  have hl : (us ++ ds).length = ps.length := rr.length.symm.trans (F.len _ _ _ _ h)
  refine wpAny_call (codeAny_mono (F.run X.A X.stack s H ⟨us, []⟩ _ _ Q E hgu hr I.env0 (hb s us I.kIn hl) rr h) fun res s' q => ?_)
  rcases res with e | fl
  · exact hx pins H s e s' I q
  · cases fl with
    | ret u => exact I.after q
    | next => exact q.elim
    | brk => exact q.elim
    | cont => exact q.elim
theorem pe_calV (C : CalG X.prog X.w X.K X.mg X.base CX k x sp dvs dd) (hgu : X.A.guards = some []) (hr : Room k X.A) (hg : Gl X x) (hx : ∀ σ, PassesAt CX X σ (Es σ)) (ha : PA X (e :: es) ta)
    (hdb : (x == ("__debug__" : Str)) = false := by decide) (he : starEach (e :: es) X.env = (false, eval e X.env) :: starEach es X.env := by rfl) (hpl : (backTo pos (starEach es X.env)).any (·.1) = false := by rfl) :
    PE X (.Call (.Name x p) (e :: es) [] pos) (fun σ H Q => tCall sp dvs (Es σ) ta σ H Q) := by
  obtain ⟨f, fd, ps, ds, h1, h2, h3, h4, h5⟩ := C.ex
  exact ⟨fun pins s σ H Q I h => wpAny_Call_Name_kw (ld_glob I hg h2 (PySem.W.callWith_K (h₀ := X.base) I.ok.mod.kin h3 (thn (ha.run pos pins s σ H _ I h) fun us s1 ⟨vs, H1, I1, r, q⟩ => ⟨I1.kIn, run_fnV h1 hgu hr h4 h5 (hx σ) I1 r q⟩) he hpl) hdb)⟩
theorem rd_callV {E : XK} (hd : ∀ F, Reps X.K F dvs dd) (σ : L2.St) (H : Hp) (Q : VK) (h : rdE X.K X.mg false O E (eCall fn (aDef wA dd)) σ H Q) : tCall (spW X.K X.mg false fn) dvs E (rdA X.K X.mg false O E1 wA) σ H Q := by
  obtain ⟨Z, Δ, S, F, P, R, k, hw, hx, hq⟩ := h
  refine ⟨Z, Δ, S, F, _, R, k, hw, xq_true, fun vs ds S1 F1 H1 k1 e1 p1 r1 h1 => ?_⟩
  refine ⟨zo O σ Δ Z H1, ds ++ dd, S1, F1, P, R, wd_args k1 (r1.app (hd F1)), h1, (hx.mono e1).less (zo_le k1), fun v d S' F' H' c e r hp => ?_⟩
  exact hq v d S' F' H' (wd_back k1 c e) (e1.trans e) (fun z => nomatch z) r hp
theorem rd_callPV {E : XK} (hd : ∀ F, Reps X.K F dvs dd) (σ : L2.St) (H : Hp) (Q : VK) (h : rdE X.K X.mg b O E (eCallP fn (aDef wA dd)) σ H Q) : tCall (spW X.K X.mg false fn) dvs E (rdA X.K X.mg b O E1 wA) σ H Q := by
  obtain ⟨Z, Δ, S, F, P, R, k, hw, hx, hq⟩ := h
  refine ⟨Z, Δ, S, F, _, R, k, hw, xq_true, fun vs ds S1 F1 H1 k1 e1 p1 r1 h1 => ?_⟩
  refine ⟨zp F1 H1, ds ++ dd, noS, F1, _, _, wd_argsP k1 (r1.app (hd F1)), h1, fun x cls dd' S' F' H' c e hr hR => ?_, fun v d S' F' H' c e r hp => ?_⟩
  · have al := al_back k1 c e
    have k2 := k1.al al
    exact hx x cls dd' S1 F' H' ⟨k2.fH, k2.zH, k2.fz, k2.st, fun i d _ q => by simp at q, fun i d hi => absurd hi (by simp), fun i j d e p hi => absurd hi (by simp), rfl⟩ (e1.trans e) hr hR
  · have al := al_back k1 c e
    exact hq v d S1 F' H' (k1.al al) (e1.trans e) (pureA p1 al) r hp
theorem cev_call (C : CalG X.prog X.w X.K X.mg X.base CX k x (spW X.K X.mg false fn) dvs dd) (hgu : X.A.guards = some []) (hr : Room k X.A) (hg : Gl X x) (hx : ∀ σ, PassesAt CX X σ (Es σ)) (ha : DA X false O E1 (e :: es) wA)
    (hdb : (x == ("__debug__" : Str)) = false := by decide) (he : starEach (e :: es) X.env = (false, eval e X.env) :: starEach es X.env := by rfl) (hpl : (backTo pos (starEach es X.env)).any (·.1) = false := by rfl) :
    DEv X false O Es (.Call (.Name x p) (e :: es) [] pos) (eCall fn (aDef wA dd)) := pe_to (pe_calV C hgu hr hg hx ha hdb he hpl) fun σ H Q q => rd_callV C.rep σ H Q q
theorem cev_callP (C : CalG X.prog X.w X.K X.mg X.base CX k x (spW X.K X.mg false fn) dvs dd) (hgu : X.A.guards = some []) (hr : Room k X.A) (hg : Gl X x) (hx : ∀ σ, PassesAt CX X σ (Es σ)) (ha : DA X b O E1 (e :: es) wA)
    (hdb : (x == ("__debug__" : Str)) = false := by decide) (he : starEach (e :: es) X.env = (false, eval e X.env) :: starEach es X.env := by rfl) (hpl : (backTo pos (starEach es X.env)).any (·.1) = false := by rfl) :
    DEv X b O Es (.Call (.Name x p) (e :: es) [] pos) (eCallP fn (aDef wA dd)) := pe_to (pe_calV C hgu hr hg hx ha hdb he hpl) fun σ H Q q => rd_callPV C.rep σ H Q q
theorem dev_if (ht : DT X b O E1 e t) (ha : DEv X b O Es a wa) (hb : DEv X b O Es c wb) : DEv X b O Es (.IfExp e a c pos) (eIf t wa wb) :=
  pe_to (pe_ifExp ht ha hb) fun σ H Q ⟨Z, Δ, S, F, P, R, k, hw, hx, hq⟩ => ⟨Z, Δ, S, F, _, R, k, hw, xq_true, fun q S1 F1 H1 k1 e1 p1 h => by
    cases q with
    | true => exact ⟨Z, Δ, S1, F1, P, R, k1, h, hx.mono e1, fun v d S2 F2 H2 k2 e2 p2 r2 hp => hq v d S2 F2 H2 k2 (e1.trans e2) (pure2 p1 p2) r2 hp⟩
    | false => exact ⟨Z, Δ, S1, F1, P, R, k1, h, hx.mono e1, fun v d S2 F2 H2 k2 e2 p2 r2 hp => hq v d S2 F2 H2 k2 (e1.trans e2) (pure2 p1 p2) r2 hp⟩⟩
theorem dsv_expr (he : DEv X b O Es e w) (hs : swapsWith e none pos.line X.env = pure false := by rfl) : DSv X O O L Es own (.Expr e pos) (gExpr w) :=
  ps_to (ps_expr he hs) fun D σ H ⟨Z, Δ, S, F, B, R, k, hg, er⟩ => ⟨Z, Δ, S, F, _, R, k, hg, er.ex, fun v d S' F' H' k' e' _ r p => er.nx σ Δ S' F' H' k' e' p⟩
theorem dsv_ret (he : DEv X b O Es e w) : DSv X O On L Es false (.Return (some e) pos) (gRet w) :=
  ps_to (ps_ret he) fun D σ H ⟨Z, Δ, S, F, B, R, k, hg, er⟩ => ⟨Z, Δ, S, F, _, R, k, hg, er.ex, fun v d S' F' H' k' e' _ r p => er.rt v d S' F' H' k'.end0 e' r p⟩
theorem dsv_set {i : Nat} {x : Str} {pos' : Pos} (hi : i ∉ O) (hN : X.N.Nodup) (hx : X.N[i]? = some x) (hl : Loc X.env.scope x) (he : DEv X b O Es e w) (hs : swapsWith e (some (.Name x pos')) pos.line X.env = pure false := by rfl)
    (hf : X.fn x = true ∨ X.env.scope.names.lookup x = some .local := by first | exact .inl rfl | exact .inr rfl | assumption) : DSv X O O L Es own (.Assign [.Name x pos'] e pos) (gAsg w (gtName i)) :=
  ps_to (ps_set hN hx hl he hs hf) fun D σ H ⟨Z, Δ, S, F, B, R, k, hg, er⟩ => ⟨Z, Δ, S, F, _, R, k, hg, er.ex, fun v d S' F' H' k' e' _ r p => er.nx _ _ S' F' H' (k'.set hi r) e' p⟩
theorem dsv_if {c : Expr} {a b' : List Stmt} (hc : DT X b O E1 c t) (ha : DSsv X O On L Es own a g) (hb : DSsv X O On L Es own b' h) : DSv X O On L Es own (.If c a b' pos) (gIf t g h) :=
  ps_to (ps_if hc ha hb) fun D σ H ⟨Z, Δ, S, F, B, R, k, hg, er⟩ => ⟨Z, Δ, S, F, _, R, k, hg, xq_true, fun q S1 F1 H1 k1 e1 _ h1 => by
    cases q with
    | true => exact ⟨Z, Δ, S1, F1, B, R, k1, h1, er.mono e1⟩
    | false => exact ⟨Z, Δ, S1, F1, B, R, k1, h1, er.mono e1⟩⟩
theorem dssv_one {st : Stmt} (h1 : DSv X O On L Es own st g) : DSsv X O On L Es own [st] g := pss_one h1
end

/-! ### raise -/
/-- what the top says of an own exception class without own __init__ -/
structure ExcT (K : PySem.W.Frag) (mg : Str → Option Value) (nm : Str) : Prop where
  ex : ∃ C : Addr, PySem.W.nsIn K mainGlobals nm = some (some (.ref C)) ∧ mg nm = some (.ref C) ∧ PySem.W.excIn K C HandSPX.veTail "ValueError.__new__" = true ∧ PySem.W.keepIn K (.ref C) = true ∧
    PySem.W.subIn K (.ref C) (.type "BaseException") = some true ∧ PySem.W.typeIn K (.ref C) = some (.type "type") ∧ ExcC K C
def gRaise (nm : Str) : WS := fun _ S _ R => R ⟨nm, []⟩ S
section
variable {X : Cx} {O On L : List Nat} {E : XK} {own : Bool} {nm m : Str} {j : Nat} {p p2 cpos pos : Pos}
theorem ds_raise (T : ExcT X.K X.mg nm) (hc : X.calm = true) (tk : Takes X (fun cls d _ H => E cls d H)) (hg : Gl X nm) (hdb : (nm == ("__debug__" : Str)) = false := by decide) :
    DS X O On L E own (.Raise (some (.Call (.Name nm p) [.Constant (.str m) j p2] [] cpos)) none pos) (gRaise nm) := by
  obtain ⟨C, h1, h2, h3, h4, h5, h6, h7⟩ := T.ex
  exact ps_to (ps_raise hc tk (pmk_own PySem.F.excBase_ValueError h3 h2 h4 (raises_own h5 h6) hg hdb)) fun D σ H ⟨Z, Δ, S, F, B, R, k, hg, er⟩ => er.ex ⟨nm, []⟩ (.ref C) none S F H k.end0 (Ex.refl _) ⟨h1, rfl, rfl⟩ hg
end

/-! ### try .. except B as e: .. -/
def gTry (g : WS) (i : Nat) (ca : Str → Option Bool) (h : WS) : WS := fun Δ S B R => g Δ S B (fun x S1 => ∃ b, ca x.cls = some b ∧ (if b = true then
  ∀ a cls, S1 a = none → h (Δ.set i (some (.obj a))) (S1.upd a (.exc x.cls cls)) { nx := fun Δ2 S2 => B.nx (Δ2.set i none) S2, rt := B.rt, bk := fun Δ2 S2 => B.bk (Δ2.set i none) S2, ct := fun Δ2 S2 => B.ct (Δ2.set i none) S2 } noR else R x S1))
section
variable {K : PySem.W.Frag} {O : List Nat} {Z : Hp} {σ : L2.St} {Δ : Env} {S S' : Sto} {F H F' H' : Hp}
theorem wd_exc (k : Wd K [] Z σ Δ S F H) (c : Wd K [] Z [] [] S' F' H') (e : Ex F F') : Wd K [] Z σ Δ S' F' H' :=
  ⟨c.fH, c.zH, c.fz, c.st, fun i d ni q => by
    obtain ⟨v, h1, h2⟩ := k.fr i d ni q
    exact ⟨v, h1, h2.mono e⟩, fun i d hi => absurd hi (by simp), fun i j d e p hi => absurd hi (by simp), k.len⟩
theorem wd_track (k : Wd K [] Z σ Δ S F H) {a : Addr} {nm : Str} {cls : Value} (na : H a = none) (hn : PySem.W.nsIn K mainGlobals nm = some (some cls)) : S a = none ∧ Wd K [] Z σ Δ (S.upd a (.exc nm cls)) F (L2.upd H a (ExX cls a)) := by
  have hS : S a = none := by
    cases q : S a with
    | none => rfl
    | some ob =>
      obtain ⟨u, hu⟩ := (k.st a ob q).2.2.some
      rw [na] at hu; cases hu
  refine ⟨hS, ⟨k.fH.trans (Ex.new na), k.zH.trans (Ex.new na), k.fz, fun b u q => ?_, k.fr, fun i d hi => absurd hi (by simp), fun i j d e p hi => absurd hi (by simp), k.len⟩⟩
  unfold Sto.upd at q
  by_cases z : b = a
  · subst z
    rw [if_pos rfl] at q; cases q
    exact ⟨k.fH.none na, k.zH.none na, upd_same, hn⟩
  · rw [if_neg z] at q
    obtain ⟨h1, h2, h3⟩ := k.st b u q
    exact ⟨h1, h2, h3.mono (Ex.refl _) (upd_ne z)⟩
theorem wd_forget (k : Wd K [] Z σ Δ S F H) (i : Nat) : Wd K [] Z (σ.set i none) (Δ.set i none) S F H :=
  k.weak (by rw [List.length_set, List.length_set]; exact k.len) fun j d q => by
    by_cases z : i = j
    · subst z
      by_cases hl : i < Δ.length
      · rw [List.getElem?_set_self hl] at q; cases q
      · rw [List.getElem?_eq_none (by simpa using hl)] at q; cases q
    · rw [List.getElem?_set_ne z] at q
      exact ⟨q, List.getElem?_set_ne z⟩
end
section
variable {X : Cx} {E : XK} {own : Bool} {x n : Str} {c : Value} {i : Nat} {body suite : List Stmt} {b₀ : Stmt} {np pos pos' : Pos} {g h : WS} {ca : Str → Option Bool}
theorem ds_try (hs : X.stack = X.env :: X.outer) (hf : X.env.frame = some X.env.locals) (hex : X.ex = []) (hN : X.N.Nodup) (hi : X.N[i]? = some n) (hln : X.env.kindOf n = some .local) (hc : Names X x c)
    (hca : ∀ nm b, ca nm = some b → ∀ cls, PySem.W.nsIn X.K mainGlobals nm = some (some cls) → PySem.W.exmOne X.K cls c = some b) (tk : Takes X (fun cls d _ H => E cls d H))
    (hb : ∀ (W : WX) (pn : List (Addr × Obj)) (xe : Value → Shared → Prop), Takes (X.tr pn xe) W → PassesOwn (model X.prog X.w) X.A X.env xe → DSsv (X.tr pn xe) [] [] [] (fun σ => L2.WE W σ) own body g)
    (hsu : ∀ (a : Addr) (pn : List (Addr × Obj)), DSs (X.suite a pn) [] [] [] E0 own (b₀ :: suite) h) :
    DS X [] [] [] E own (.Try body [.ExceptHandler (some (.Name x np)) (some n) (b₀ :: suite) pos'] [] [] pos) (gTry g i ca h) :=
  ps_to (ps_try_kept (c := c) (i := i) (Wout := fun cls d _ H => E cls d H) (tb := fun W D σ H => rdS X.K X.mg [] [] [] (L2.WE W σ) own g D σ H) (ts := fun _ _ => rdS X.K X.mg [] [] [] E0 own h) hs hf hex hN hi hln hc tk hb fun a cls pn => hsu a pn) fun D σ H ⟨Z, Δ, S, F, B, R, k, hg, er⟩ =>
    ⟨Z, Δ, S, F, B, _, k, hg, ⟨er.nx, er.rt, er.bk, er.ct, fun xx cls dd S' F' H' w e ⟨hn, hfs, hdd⟩ ⟨b, hcb, hif⟩ => by
      refine ⟨b, hca _ _ hcb cls hn, fun hb => ⟨hdd, fun a ha => ?_⟩, fun hb => ?_⟩
      · subst hb
        rw [if_pos rfl] at hif
        obtain ⟨hS, k2⟩ := wd_track (wd_exc k w e) ha hn
        refine ⟨Z, Δ.set i (some (.obj a)), _, F', _, noR, k2.set (by simp) (.obj a), hif a cls hS, ⟨fun σ1 Δ1 S1 F1 H1 w1 e1 q => er.nx _ _ S1 F1 H1 (wd_forget w1 i) (e.trans e1) q, fun v d S1 F1 H1 w1 e1 r q => er.rt v d S1 F1 H1 w1 (e.trans e1) r q, fun σ1 Δ1 S1 F1 H1 w1 e1 q => er.bk _ _ S1 F1 H1 (wd_forget w1 i) (e.trans e1) q, fun σ1 Δ1 S1 F1 H1 w1 e1 q => er.ct _ _ S1 F1 H1 (wd_forget w1 i) (e.trans e1) q, XQ.never⟩⟩
      · subst hb
        rw [if_neg (by decide)] at hif
        exact er.ex xx cls dd S' F' H' w e ⟨hn, hfs, hdd⟩ hif⟩⟩
end

/-! ### isinstance of it -/
section
def rIsX (K : PySem.W.Frag) : List V → Hp → VK → Prop := fun xs H Q => ∃ (a D : Addr) (c : V) (cv : Value) (b : Bool), xs = [.ref a, c] ∧ H a = some (ExX (.ref D) a) ∧ ExcC K D ∧ ClsV c cv ∧ PySem.W.kitOne K (.ref D) cv = some b ∧ Q (.bl b) H
def rIsXT (K : PySem.W.Frag) : List V → Hp → VK → Prop := fun xs H Q => ∃ (a D tp : Addr) (cs : List V) (us : List Value) (b : Bool), xs = [.ref a, .ref tp] ∧ H a = some (ExX (.ref D) a) ∧ H tp = some (.tup cs) ∧ ExcC K D ∧ Paired ClsV cs us ∧ PySem.W.kitAny K (.ref D) us = some b ∧ Q (.bl b) H
variable {X : Cx}
theorem inst_of {pins : List (Addr × Obj)} {σ : L2.St} {H : Hp} {s : Shared} {a D : Addr} (I : Inv X pins σ H s) (h : H a = some (ExX (.ref D) a)) : ∃ oe, PySem.W.InstAt s.heap a oe D none := by
  obtain ⟨⟨oe, vs, hget, ⟨h1, h2⟩, hv⟩, _, _⟩ := I.hok a _ h
  obtain ⟨oc, od, oda, osl⟩ := oe
  dsimp only at h1 h2 hv
  subst h1 h2 hv
  exact ⟨_, hget, rfl, rfl, trivial⟩
theorem call_isX : CallR X (.builtin "isinstance") (rIsX X.K) := by
  intro pins s σ H xs us Q I r h
  obtain ⟨a, D, c, cv, b, rfl, ha, C, k, e, q⟩ := h
  obtain ⟨u1, u2, rfl, r1, r2⟩ := vals2 r
  cases (show u1 = Value.ref a from r1)
  have e2 := k.eq r2
  subst e2
  obtain ⟨oe, J⟩ := inst_of I ha
  exact PySem.W.kia_one (PySem.W.handS_kitx_exc C.hg C.hk C.hs C.hd C.ha C.hn C.ht C.hm) I.kIn J e (fun z => nomatch z) fun tk => ⟨.bl b, H, I.tok tk, rfl, q⟩
theorem call_isXT : CallR X (.builtin "isinstance") (rIsXT X.K) := by
  intro pins s σ H xs us Q I r h
  obtain ⟨a, D, tp, cs, ws, b, rfl, ha, hT, C, k, e, q⟩ := h
  obtain ⟨u1, u2, rfl, r1, r2⟩ := vals2 r
  cases (show u1 = Value.ref a from r1)
  cases (show u2 = Value.ref tp from r2)
  obtain ⟨oe, J⟩ := inst_of I ha
  obtain ⟨_, its, rv, o, h1, h2, n, h3⟩ := (show ObjOk X.prog X.w H s.heap tp (.tup cs) from I.hok tp _ hT)
  have e3 := ClsV.all k rv
  subst e3
  obtain ⟨oc, od, dt, sl⟩ := o
  simp only at h2 h3
  subst h2 h3
  exact PySem.W.kia_tup (PySem.W.handS_kitx_exc C.hg C.hk C.hs C.hd C.ha C.hn C.ht C.hm) I.kIn J h1 e (fun z => nomatch z) fun tk => ⟨.bl b, H, I.tok tk, rfl, q⟩
def eIsE (q : Str → Option Bool) (o : WE) : WE := fun Δ S P R => o Δ S (fun x S1 => ∃ a nm cls b, x = .obj a ∧ S1 a = some (.exc nm cls) ∧ q nm = some b ∧ P (.bl b) S1) R
variable {b : Bool} {O : List Nat} {E : XK} {a : Expr} {w : WE} {q : Str → Option Bool} {p q1 pos : Pos} {x : Str}
/-- isinstance(e, C) -/
theorem de_isE {c : V} {cv : Value} (hg : Gl X "isinstance") (hm : X.mg "isinstance" = none) (ha : DE X b O E a w) (ht : PE X (.Name x q1) (tC c)) (hcv : ClsV c cv)
    (hq : ∀ nm bb, q nm = some bb → ∀ cls, PySem.W.nsIn X.K mainGlobals nm = some (some cls) → ∃ D, cls = .ref D ∧ ExcC X.K D ∧ PySem.W.kitOne X.K (.ref D) cv = some bb)
    (he : starEach [a, .Name x q1] X.env = (false, eval a X.env) :: starEach [.Name x q1] X.env := by rfl) (he2 : starEach [.Name x q1] X.env = (false, eval (.Name x q1) X.env) :: starEach [] X.env := by rfl) (hpl : (backTo pos (starEach [.Name x q1] X.env)).any (·.1) = false := by rfl) :
    DE X b O E (.Call (.Name "isinstance" p) [a, .Name x q1] [] pos) (eIsE q w) :=
  pe_to (pe_callB call_isX hg hm boot_isi (pa_cons ha (pa_cons ht pa_nil he2) he) (he := he) (hpl := hpl)) fun σ H Q ⟨Z, Δ, S, F, P, R, k, hw, hx, hq2⟩ => ⟨Z, Δ, S, F, _, R, k, hw, hx, fun v d S1 F1 H1 k1 e1 p1 r1 ⟨ad, nm, cls, bb, hd, hs, hqq, hp⟩ => by
    subst hd
    cases r1
    obtain ⟨_, _, ha2, hn⟩ := k1.st ad _ hs
    obtain ⟨D, rfl, hC, hk⟩ := hq nm bb hqq cls hn
    exact ⟨ad, D, c, cv, bb, rfl, ha2, hC, hcv, hk, hq2 _ _ S1 F1 H1 k1 e1 p1 (.bl _) hp⟩⟩
/-- isinstance(e, (C1, ..)) -/
theorem de_isET {cs : List V} {cvs : List Value} {k0 : Nat} {ts : List Expr} (hg : Gl X "isinstance") (hm : X.mg "isinstance" = none) (ha : DE X b O E a w) (ht : PA X ts (fun _ H Q => Q cs H)) (hl : cs.length ≤ 10) (hcv : Paired ClsV cs cvs)
    (hq : ∀ nm bb, q nm = some bb → ∀ cls, PySem.W.nsIn X.K mainGlobals nm = some (some cls) → ∃ D, cls = .ref D ∧ ExcC X.K D ∧ PySem.W.kitAny X.K (.ref D) cvs = some bb)
    (he : starEach [a, .Tuple ts k0 q1] X.env = (false, eval a X.env) :: starEach [.Tuple ts k0 q1] X.env := by rfl) (he2 : starEach [.Tuple ts k0 q1] X.env = (false, eval (.Tuple ts k0 q1) X.env) :: starEach [] X.env := by rfl) (hpl : (backTo pos (starEach [.Tuple ts k0 q1] X.env)).any (·.1) = false := by rfl) :
    DE X b O E (.Call (.Name "isinstance" p) [a, .Tuple ts k0 q1] [] pos) (eIsE q w) :=
  pe_to (pe_callB call_isXT hg hm boot_isi (pa_cons ha (pa_cons (pe_tup ht) pa_nil he2) he) (he := he) (hpl := hpl)) fun σ H Q ⟨Z, Δ, S, F, P, R, k, hw, hx, hq2⟩ => ⟨Z, Δ, S, F, _, R, k, hw, hx, fun v d S1 F1 H1 k1 e1 p1 r1 ⟨ad, nm, cls, bb, hd, hs, hqq, hp⟩ => ⟨LINE_le (Nat.le_trans hl (by decide)), fun tp ntp => by
    subst hd
    cases r1
    have al := Al.new (o := .tup cs) k1.fH ntp
    have k2 := k1.al al
    obtain ⟨_, _, ha2, hn⟩ := k2.st ad _ hs
    obtain ⟨D, rfl, hC, hk⟩ := hq nm bb hqq cls hn
    exact ⟨ad, D, tp, cs, cvs, bb, rfl, ha2, upd_same, hC, hcv, hk, hq2 _ _ S1 _ _ k2 (e1.trans al.f) (pureA p1 al) (.bl _) hp⟩⟩⟩
end
end DL

/-! DX2: f-strings; isinstance and except by tables of classes. -/
namespace DL
open PySem PySem.Spec PyProof.Rows L2

/-! ### f-strings -/
def dFmt : D → Option D
  | .str y => if y.length ≤ LINE then some (.str y) else none
  | .int i => if i.natAbs.log2 < 1920 then some (.str (toString i)) else none
  | _ => none
def eJn : List WE → Str → WE
  | [], acc => fun _ S P _ => P (.str acc) S
  | w :: ws, acc => fun Δ S P R => w Δ S (fun x S1 => ∃ y, x = .str y ∧ (acc ++ y).length ≤ LINE ∧ eJn ws (acc ++ y) Δ S1 P R) R
section
variable {X : Cx} {b : Bool} {O : List Nat} {E : XK} {e : Expr} {w : WE} {pos : Pos}
theorem de_fmt (he : DE X b O E e w) : DE X b O E (.FormattedValue e (-1) none pos) (eUn dFmt w) :=
  pe_to (pe_fmt he) fun σ H Q ⟨Z, Δ, S, F, P, R, k, hw, hx, hq⟩ => ⟨Z, Δ, S, F, _, R, k, hw, hx, fun v d S1 F1 H1 k1 e1 p1 r1 ⟨z, hz, hp⟩ => by
    cases d with
    | str y =>
      have hz' : (if y.length ≤ LINE then some (D.str y) else none) = some z := hz
      by_cases hl : y.length ≤ LINE
      · rw [if_pos hl] at hz'
        cases hz'
        cases r1
        exact .inl ⟨y, rfl, LINE_le hl, hq _ _ S1 F1 H1 k1 e1 p1 (.str y) hp⟩
      · rw [if_neg hl] at hz'
        cases hz'
    | int i =>
      have hz' : (if i.natAbs.log2 < 1920 then some (D.str (toString i)) else none) = some z := hz
      by_cases hl : i.natAbs.log2 < 1920
      · rw [if_pos hl] at hz'
        cases hz'
        cases r1
        exact .inr ⟨i, rfl, hl, hq _ _ S1 F1 H1 k1 e1 p1 (.str _) hp⟩
      · rw [if_neg hl] at hz'
        cases hz'
    | _ => cases hz⟩
inductive DJs (X : Cx) (b : Bool) (O : List Nat) (E : XK) : List Expr → List WE → Prop
  | nil : DJs X b O E [] []
  | cons {e : Expr} {w : WE} {es : List Expr} {ws : List WE} (h : DE X b O E e w) (r : DJs X b O E es ws) : DJs X b O E (e :: es) (w :: ws)
theorem DJs.pj {es : List Expr} {ws : List WE} (h : DJs X b O E es ws) : PJ X es (ws.map fun w => rdE X.K X.mg b O E w) := by
  induction h with
  | nil => exact .nil
  | cons h r ih => exact .cons h ih
theorem rd_jn : ∀ (ws : List WE) (acc : Str) (σ : L2.St) (H : Hp) (Q : VK), rdE X.K X.mg b O E (eJn ws acc) σ H Q → tJs (ws.map fun w => rdE X.K X.mg b O E w) acc σ H fun out H1 => Q (.str out) H1
  | [], acc, σ, H, Q, ⟨Z, Δ, S, F, P, R, k, hw, hx, hq⟩ => hq (.str acc) (.str acc) S F H k (Ex.refl _) (fun _ => ⟨rfl, Al.refl k.fH⟩) (.str acc) hw
  | w :: ws, acc, σ, H, Q, ⟨Z, Δ, S, F, P, R, k, hw, hx, hq⟩ => ⟨Z, Δ, S, F, _, R, k, hw, hx, fun v d S1 F1 H1 k1 e1 p1 r1 ⟨y, hd, hl, h1⟩ => by
    subst hd
    cases r1
    exact ⟨y, rfl, LINE_le hl, rd_jn ws (acc ++ y) σ H1 Q ⟨Z, Δ, S1, F1, P, R, k1, h1, hx.mono e1, fun v d S2 F2 H2 k2 e2 p2 r2 hp => hq v d S2 F2 H2 k2 (e1.trans e2) (pure2 p1 p2) r2 hp⟩⟩⟩
theorem de_joined {v1 v2 : Expr} {rest : List Expr} {ws : List WE} (h : DJs X b O E (v1 :: v2 :: rest) ws) : DE X b O E (.JoinedStr (v1 :: v2 :: rest) pos) (eJn ws Str.empty) :=
  pe_to (pe_joined h.pj) fun σ H Q q => rd_jn ws Str.empty σ H Q q
theorem de_joined1 (h : DE X b O E e w) : DE X b O E (.JoinedStr [e] pos) w := pe_joined1 h
end

/-! ### tables of classes -/
def qOf : List (Str × Bool) → Str → Option Bool
  | [], _ => none
  | (n, b) :: r, k => if k = n then some b else qOf r k
/-- a class that the top names -/
structure ClsG (K : PySem.W.Frag) (mg : Str → Option Value) (x : Str) : Prop where
  ex : ∃ C : Addr, PySem.W.nsIn K mainGlobals x = some (some (.ref C)) ∧ mg x = some (.ref C)
def IsQ (K : PySem.W.Frag) (q : Str → Option Bool) (cv : Value) : Prop := ∀ nm bb, q nm = some bb → ∀ cls, PySem.W.nsIn K mainGlobals nm = some (some cls) → ∃ D, cls = .ref D ∧ ExcC K D ∧ PySem.W.kitOne K (.ref D) cv = some bb
def IsQT (K : PySem.W.Frag) (q : Str → Option Bool) (cvs : List Value) : Prop := ∀ nm bb, q nm = some bb → ∀ cls, PySem.W.nsIn K mainGlobals nm = some (some cls) → ∃ D, cls = .ref D ∧ ExcC K D ∧ PySem.W.kitAny K (.ref D) cvs = some bb
def ExQ (K : PySem.W.Frag) (q : Str → Option Bool) (cv : Value) : Prop := ∀ nm bb, q nm = some bb → ∀ cls, PySem.W.nsIn K mainGlobals nm = some (some cls) → PySem.W.exmOne K cls cv = some bb
/-- .. of the class named x -/
structure IsN (K : PySem.W.Frag) (mg : Str → Option Value) (q : Str → Option Bool) (x : Str) : Prop where
  ex : ∃ C : Addr, mg x = some (.ref C) ∧ IsQ K q (.ref C)
structure IsNT (K : PySem.W.Frag) (mg : Str → Option Value) (q : Str → Option Bool) (xs : List Str) : Prop where
  ex : ∃ Cs : List Addr, Paired (fun x C => mg x = some (Value.ref C)) xs Cs ∧ IsQT K q (Cs.map Value.ref)
structure ExN (K : PySem.W.Frag) (mg : Str → Option Value) (q : Str → Option Bool) (x : Str) : Prop where
  ex : ∃ C : Addr, mg x = some (.ref C) ∧ ExQ K q (.ref C)
section
variable {K : PySem.W.Frag} {cv : Value} {cvs : List Value} {tab : List (Str × Bool)} {nm : Str} {D : Addr} {b : Bool}
theorem isq_nil : IsQ K (qOf []) cv := fun _ _ h => nomatch h
theorem isq_cons (a : PySem.W.nsIn K mainGlobals nm = some (some (.ref D))) (c : ExcC K D) (k : PySem.W.kitOne K (.ref D) cv = some b) (r : IsQ K (qOf tab) cv) : IsQ K (qOf ((nm, b) :: tab)) cv := fun n bb h cls hc => by
  unfold qOf at h
  split at h
  · rename_i e
    subst e
    cases h
    rw [a] at hc
    cases hc
    exact ⟨D, rfl, c, k⟩
  · exact r n bb h cls hc
theorem isqt_nil : IsQT K (qOf []) cvs := fun _ _ h => nomatch h
theorem isqt_cons (a : PySem.W.nsIn K mainGlobals nm = some (some (.ref D))) (c : ExcC K D) (k : PySem.W.kitAny K (.ref D) cvs = some b) (r : IsQT K (qOf tab) cvs) : IsQT K (qOf ((nm, b) :: tab)) cvs := fun n bb h cls hc => by
  unfold qOf at h
  split at h
  · rename_i e
    subst e
    cases h
    rw [a] at hc
    cases hc
    exact ⟨D, rfl, c, k⟩
  · exact r n bb h cls hc
theorem exq_nil : ExQ K (qOf []) cv := fun _ _ h => nomatch h
theorem exq_cons (a : PySem.W.nsIn K mainGlobals nm = some (some (.ref D))) (k : PySem.W.exmOne K (.ref D) cv = some b) (r : ExQ K (qOf tab) cv) : ExQ K (qOf ((nm, b) :: tab)) cv := fun n bb h cls hc => by
  unfold qOf at h
  split at h
  · rename_i e
    subst e
    cases h
    rw [a] at hc
    cases hc
    exact k
  · exact r n bb h cls hc
theorem kit_some (h : PySem.W.kitOne K (.ref D) cv = some b) : PySem.W.kitAny K (.ref D) [cv] = some b := by
  unfold PySem.W.kitAny
  rw [h]
  cases b <;> rfl
end
section
variable {X : Cx} {b : Bool} {O : List Nat} {E : XK} {a : Expr} {w : WE} {q : Str → Option Bool} {p q1 pos : Pos} {x : Str}
theorem pe_cls {C : Addr} (hg : Gl X x) (hm : X.mg x = some (.ref C)) (hdb : (x == ("__debug__" : Str)) = false := by decide) : PE X (.Name x q1) (tC (.ref C)) := pe_glob hg hm rfl hdb
theorem de_isEN (hg : Gl X "isinstance") (hm : X.mg "isinstance" = none) (ha : DE X b O E a w) (T : IsN X.K X.mg q x) (hgx : Gl X x) (hdb : (x == ("__debug__" : Str)) = false := by decide)
    (he : starEach [a, .Name x q1] X.env = (false, eval a X.env) :: starEach [.Name x q1] X.env := by rfl) (he2 : starEach [.Name x q1] X.env = (false, eval (.Name x q1) X.env) :: starEach [] X.env := by rfl) (hpl : (backTo pos (starEach [.Name x q1] X.env)).any (·.1) = false := by rfl) :
    DE X b O E (.Call (.Name "isinstance" p) [a, .Name x q1] [] pos) (eIsE q w) := by
  obtain ⟨C, h1, h2⟩ := T.ex
  exact de_isE hg hm ha (pe_cls hgx h1 hdb) (.own C) h2 he he2 hpl
inductive DCls (X : Cx) : List Expr → List Str → Prop
  | nil : DCls X [] []
  | cons {x : Str} {q1 : Pos} {es : List Expr} {xs : List Str} (hg : Gl X x) (hdb : (x == ("__debug__" : Str)) = false) (r : DCls X es xs) : DCls X (.Name x q1 :: es) (x :: xs)
theorem DCls.pa {es : List Expr} {xs : List Str} (h : DCls X es xs) : ∀ {Cs : List Addr}, Paired (fun x C => X.mg x = some (Value.ref C)) xs Cs → PA X es (fun _ H Q => Q (Cs.map V.ref) H) := by
  induction h with
  | nil => intro Cs P; cases P; exact pa_nil
  | cons hg hdb r ih =>
    intro Cs P
    cases P with
    | cons h1 r1 => exact pa_to (pa_cons (pe_cls hg h1 hdb) (ih r1)) fun σ H Q z => z
theorem clsv_own : ∀ Cs : List Addr, Paired ClsV (Cs.map V.ref) (Cs.map Value.ref)
  | [] => .nil
  | C :: Cs => .cons (.own C) (clsv_own Cs)
theorem paired_len {α β : Type} {r : α → β → Prop} : ∀ {xs : List α} {ys : List β}, Paired r xs ys → ys.length = xs.length
  | _, _, .nil => rfl
  | _, _, .cons _ t => by rw [List.length_cons, List.length_cons, paired_len t]
theorem de_isETN {k0 : Nat} {ts : List Expr} {xs : List Str} (hg : Gl X "isinstance") (hm : X.mg "isinstance" = none) (ha : DE X b O E a w) (T : IsNT X.K X.mg q xs) (ht : DCls X ts xs) (hl : xs.length ≤ 10)
    (he : starEach [a, .Tuple ts k0 q1] X.env = (false, eval a X.env) :: starEach [.Tuple ts k0 q1] X.env := by rfl) (he2 : starEach [.Tuple ts k0 q1] X.env = (false, eval (.Tuple ts k0 q1) X.env) :: starEach [] X.env := by rfl) (hpl : (backTo pos (starEach [.Tuple ts k0 q1] X.env)).any (·.1) = false := by rfl) :
    DE X b O E (.Call (.Name "isinstance" p) [a, .Tuple ts k0 q1] [] pos) (eIsE q w) := by
  obtain ⟨Cs, h1, h2⟩ := T.ex
  exact de_isET hg hm ha (ht.pa h1) (by rw [List.length_map, paired_len h1]; exact hl) (clsv_own Cs) h2 he he2 hpl
end
section
variable {X : Cx} {E : XK} {own : Bool} {x n : Str} {i : Nat} {body suite : List Stmt} {b₀ : Stmt} {np pos pos' : Pos} {g h : WS} {ca : Str → Option Bool}
theorem ds_tryN (hs : X.stack = X.env :: X.outer) (hf : X.env.frame = some X.env.locals) (hex : X.ex = []) (hN : X.N.Nodup) (hi : X.N[i]? = some n) (hln : X.env.kindOf n = some .local) (T : ExN X.K X.mg ca x) (hgx : Gl X x)
    (tk : Takes X (fun cls d _ H => E cls d H))
    (hb : ∀ (W : WX) (pn : List (Addr × Obj)) (xe : Value → Shared → Prop), Takes (X.tr pn xe) W → PassesOwn (model X.prog X.w) X.A X.env xe → DSsv (X.tr pn xe) [] [] [] (fun σ => L2.WE W σ) own body g)
    (hsu : ∀ (a : Addr) (pn : List (Addr × Obj)), DSs (X.suite a pn) [] [] [] E0 own (b₀ :: suite) h) (hdb : (x == ("__debug__" : Str)) = false := by decide) :
    DS X [] [] [] E own (.Try body [.ExceptHandler (some (.Name x np)) (some n) (b₀ :: suite) pos'] [] [] pos) (gTry g i ca h) := by
  obtain ⟨C, h1, h2⟩ := T.ex
  exact ds_try hs hf hex hN hi hln ⟨hgx, hdb, .inl h1⟩ h2 tk hb hsu
end
/-! ### x or y by truth -/
section
variable {X : Cx} {b : Bool} {O : List Nat} {E : XK} {a c : Expr} {wa wb : WE} {pos : Pos} {rest : List Expr}
theorem de_orT (ha : DE X b O E a wa) (hb : DE X b O E (.BoolOp .Or (c :: rest) pos) wb) : DE X b O E (.BoolOp .Or (a :: c :: rest) pos) (eOrT wa wb) :=
  pe_to (pe_orT ha hb) fun σ H Q ⟨Z, Δ, S, F, P, R, k, hw, hx, hq⟩ => ⟨Z, Δ, S, F, _, R, k, hw, hx, fun v d S1 F1 H1 k1 e1 p1 r1 ⟨q, hd, h⟩ =>
    ⟨q, tru_see k1.fH (.rep r1) hd, by
      cases q with
      | true => exact hq v d S1 F1 H1 k1 e1 p1 r1 h
      | false => exact ⟨Z, Δ, S1, F1, P, R, k1, h, hx.mono e1, fun v2 d2 S2 F2 H2 k2 e2 p2 r2 hp => hq v2 d2 S2 F2 H2 k2 (e1.trans e2) (pure2 p1 p2) r2 hp⟩⟩⟩
end
/-- the goal that the head leaves, where the exits of the calls name the world -/
theorem walkGw {l : PySem.W.OpenLaw} {n k : Nat} {q : Program} {loose : List Str} {XP : (Str → Option Value) → Heap → Prop} {YP : World → Heap → Prop} {d : DefRec} {K : Params → PySem.W.Frag} {x : Str} {f : Fn} (CX : World → CXT)
    (hn : l.most = some n) (hn2 : n ≤ sizeLine) (hdf : d.params.defaults = []) (hr : Room k callerA) (hY : ∀ (w : World) (h : Heap), YP w h → (K w.params).In h)
    (F : ∀ (w : World) (mg : Str → Option Value) (fa : Addr) (h : Heap), (K w.params).In h → h.Ns mainGlobals mg → mg d.name = some (.ref fa) →
      ∃ fd : FuncData, (∀ (s : Shared) (u : Value), BindsTo s fd ⟨[u], []⟩ [(x, u)]) ∧ ∀ base : Heap, (K w.params).In base → base.Ns mainGlobals mg → FnG l.prog w (K w.params) mg base (CX w) k fa fd [x] (spW (K w.params) mg false f))
    (hf : ∀ ns : List Int, ns.length ≤ n → f [.scr ns] noS (fun d _ => d = .bl true) noR) (hCX : ∀ (w : World) (H : Hp) (s : Shared) (e : Value) (s' : Shared), CX w [] H s (fun _ _ _ => False) e s' → False) :
    PySem.W.WalkO q loose XP YP l.row.toRowW d [] (fun f vs => PySem.call f vs) := by
  refine Att.attach_call hn hdf fun w s₀ s₁ mg mb fa o pm cd doc a vs ns G Y ho hd hcd hmg hobj hints hlen hg => ?_
  have KX := hY w _ Y
  obtain ⟨fd, hb, hF⟩ := F w mg fa _ KX G.T.g hmg
  exact law_callG KX G.T.g G.T.b G.T.builtins G.T.nolimit hg hobj hints (Nat.le_trans hlen hn2) hr hF hb (hf ns hlen) fun H e s' => hCX w H s₁ e s'
end DL

/-! DP: reading the meanings: loops, comprehensions. -/
namespace DL
open PySem L2
section
variable {g : WG} {b : WS} {R : RX} {B : EndsD} {t : WT} {e : WE} {Δ : Env} {S : Sto}
theorem forL_inv' (I : Nat → Env → Sto → Prop) : ∀ (xs : List D) (n : Nat) (Δ : Env) (S : Sto), I n Δ S →
    (∀ i x Δ S Nx, xs[i]? = some x → I (n + i) Δ S → (∀ Δ' S', I (n + i + 1) Δ' S' → Nx Δ' S') → g x Δ fun Δ1 => b Δ1 S { nx := Nx, ct := Nx, bk := B.nx, rt := B.rt } R) →
    (∀ Δ S, I (n + xs.length) Δ S → B.nx Δ S) → forL g b R B xs Δ S
  | [], n, Δ, S, h0, hs, hd => hd Δ S h0
  | x :: xs, n, Δ, S, h0, hs, hd => hs 0 x Δ S _ rfl h0 fun Δ' S' h => forL_inv' I xs (n + 1) Δ' S' h (fun i y Δ S Nx hy hI hN => by
      have e : n + 1 + i = n + (i + 1) := by omega
      rw [e] at hI hN
      exact hs (i + 1) y Δ S Nx (by simpa using hy) hI hN) (fun Δ S hI => hd Δ S (by
      have e : n + 1 + xs.length = n + (x :: xs).length := by simp; omega
      rwa [e] at hI))
/-- a for by its invariant (turns done, names, store) -/
theorem forL_inv (I : Nat → Env → Sto → Prop) {xs : List D} {Δ : Env} {S : Sto} (h0 : I 0 Δ S)
    (hs : ∀ i x Δ S Nx, xs[i]? = some x → I i Δ S → (∀ Δ' S', I (i + 1) Δ' S' → Nx Δ' S') → g x Δ fun Δ1 => b Δ1 S { nx := Nx, ct := Nx, bk := B.nx, rt := B.rt } R) (hd : ∀ Δ S, I xs.length Δ S → B.nx Δ S) : forL g b R B xs Δ S :=
  forL_inv' I xs 0 Δ S h0 (fun i x Δ S Nx hx hI hN => hs i x Δ S Nx hx (by rwa [Nat.zero_add] at hI) (by rwa [Nat.zero_add] at hN)) fun Δ S hI => hd Δ S (by rwa [Nat.zero_add] at hI)
/-- a comprehension: each element has p -/
theorem lcL_all {p : D → Prop} {P : D → Sto → Prop} : ∀ {xs acc : List D}, (∀ x ∈ xs, ∀ Q : D → Sto → Prop, (∀ d, p d → Q d S) → g x Δ fun Δ1 => e Δ1 S Q noR) →
    (∀ ds : List D, ds.length = xs.length → (∀ d ∈ ds, p d) → P (.lst (acc ++ ds)) S) → lcL g tYes e Δ xs acc S P
  | [], acc, _, hP => by
    have := hP [] rfl (by simp)
    rw [List.append_nil] at this
    exact this
  | x :: xs, acc, h, hP => by
    unfold lcL
    exact h x (List.mem_cons_self ..) _ fun d hd => lcL_all (fun y hy => h y (List.mem_cons_of_mem _ hy)) fun ds hl hp => by
      have := hP (d :: ds) (by simp [hl]) (fun z hz => by
        rcases List.mem_cons.mp hz with rfl | hz
        · exact hd
        · exact hp z hz)
      rw [List.append_assoc]
      exact this
/-- a comprehension: each element by a function -/
theorem lcL_map {f : D → D} {P : D → Sto → Prop} : ∀ {xs acc : List D}, (∀ x ∈ xs, ∀ Q : D → Sto → Prop, Q (f x) S → g x Δ fun Δ1 => e Δ1 S Q noR) → P (.lst (acc ++ xs.map f)) S → lcL g tYes e Δ xs acc S P
  | [], acc, _, hP => by
    rw [List.map_nil, List.append_nil] at hP
    exact hP
  | x :: xs, acc, h, hP => by
    unfold lcL
    refine h x (List.mem_cons_self ..) _ (lcL_map (fun y hy => h y (List.mem_cons_of_mem _ hy)) ?_)
    rw [List.append_assoc]
    exact hP
/-- with a test -/
theorem lcL_filter {f : D → D} {c : D → Bool} {P : D → Sto → Prop} : ∀ {xs acc : List D},
    (∀ x ∈ xs, ∀ (Q : D → Sto → Prop) (N : Sto → Prop), (c x = true → Q (f x) S) → (c x = false → N S) → g x Δ fun Δ1 => t Δ1 S (fun k S1 => if k = true then e Δ1 S1 Q noR else N S1) noR) →
    P (.lst (acc ++ (xs.filter c).map f)) S → lcL g t e Δ xs acc S P
  | [], acc, _, hP => by
    rw [List.filter_nil, List.map_nil, List.append_nil] at hP
    exact hP
  | x :: xs, acc, h, hP => by
    unfold lcL
    refine h x (List.mem_cons_self ..) _ _ (fun hc => ?_) fun hc => ?_
    · rw [List.filter_cons_of_pos hc, List.map_cons] at hP
      refine lcL_filter (fun y hy => h y (List.mem_cons_of_mem _ hy)) ?_
      rw [List.append_assoc]
      exact hP
    · rw [List.filter_cons_of_neg (by simp [hc])] at hP
      exact lcL_filter (fun y hy => h y (List.mem_cons_of_mem _ hy)) hP
end
/-! ### operators on known kinds -/
theorem dAdd_int {a b : Int} : dAdd (.int a) (.int b) = some (.int (a + b)) := rfl
theorem dSub_int {a b : Int} : dSub (.int a) (.int b) = some (.int (a - b)) := rfl
theorem dCmp_int {f : Int → Int → Bool} {a b : Int} : dCmp f (.int a) (.int b) = some (.bl (f a b)) := rfl
theorem dNeg_int {a : Int} : dNeg (.int a) = some (.int (-a)) := rfl
theorem dMod_int {a b : Int} (h : 0 < b) : dMod (.int a) (.int b) = some (.int (a % b)) := if_pos h
theorem dDiv_int {a b : Int} (h : 0 < b) (h2 : b < 1073741824) : dDiv (.int a) (.int b) = some (.int (a / b)) := if_pos ⟨h, h2⟩
theorem dMul_l {a b : Int} (h : -(2 ^ 64) < a) (h2 : a < 2 ^ 64) : dMul (.int a) (.int b) = some (.int (a * b)) := if_pos (.inl (.inl ⟨h, h2⟩))
theorem dMul_r {a b : Int} (h : -(2 ^ 64) < b) (h2 : b < 2 ^ 64) : dMul (.int a) (.int b) = some (.int (a * b)) := if_pos (.inl (.inr ⟨h, h2⟩))
theorem dMul_w {a b : Int} (h : a.natAbs.log2 + b.natAbs.log2 < 1000000) : dMul (.int a) (.int b) = some (.int (a * b)) := if_pos (.inr h)
theorem ex_some {α : Type} {a : α} {p : α → Prop} : (∃ d, some a = some d ∧ p d) ↔ p a := ⟨fun ⟨_, e, h⟩ => by cases e; exact h, fun h => ⟨a, rfl, h⟩⟩
theorem ex_bl {b : Bool} {p : Bool → Prop} : (∃ k, D.bl b = .bl k ∧ p k) ↔ p b := ⟨fun ⟨_, e, h⟩ => by cases e; exact h, fun h => ⟨b, rfl, h⟩⟩
theorem ex_int {b : Int} {p : Int → Prop} : (∃ k, D.int b = .int k ∧ p k) ↔ p b := ⟨fun ⟨_, e, h⟩ => by cases e; exact h, fun h => ⟨b, rfl, h⟩⟩
theorem ex_obj {b : Nat} {p : Nat → Prop} : (∃ k, D.obj b = .obj k ∧ p k) ↔ p b := ⟨fun ⟨_, e, h⟩ => by cases e; exact h, fun h => ⟨b, rfl, h⟩⟩
theorem ex_str {b : Str} {p : Str → Prop} : (∃ k, D.str b = .str k ∧ p k) ↔ p b := ⟨fun ⟨_, e, h⟩ => by cases e; exact h, fun h => ⟨b, rfl, h⟩⟩
theorem ex_lst {b : List D} {p : List D → Prop} : (∃ k, D.lst b = .lst k ∧ p k) ↔ p b := ⟨fun ⟨_, e, h⟩ => by cases e; exact h, fun h => ⟨b, rfl, h⟩⟩
theorem ex_cons {x : D} {xs : List D} {p : D → List D → Prop} : (∃ d t, x :: xs = d :: t ∧ p d t) ↔ p x xs := ⟨fun ⟨_, _, e, h⟩ => by cases e; exact h, fun h => ⟨x, xs, rfl, h⟩⟩
/-! ### ints in lists -/
theorem intsOf_map (ns : List Int) : intsOf (ns.map D.int) = some ns := by
  induction ns with
  | nil => rfl
  | cons n ns ih => simp only [List.map_cons, intsOf, ih]; rfl
theorem strsOf_map (ns : List Str) : strsOf (ns.map D.str) = some ns := by
  induction ns with
  | nil => rfl
  | cons n ns ih => simp only [List.map_cons, strsOf, ih]; rfl
theorem boolsOf_map (ns : List Bool) : boolsOf (ns.map D.bl) = some ns := by
  induction ns with
  | nil => rfl
  | cons n ns ih => simp only [List.map_cons, boolsOf, ih]; rfl

theorem intsOf_mapOf {α : Type} (f : α → Int) (ns : List α) : intsOf (ns.map fun x => D.int (f x)) = some (ns.map f) := by
  induction ns with
  | nil => rfl
  | cons n ns ih => simp only [List.map_cons, intsOf, ih]; rfl
theorem strsOf_mapOf {α : Type} (f : α → Str) (ns : List α) : strsOf (ns.map fun x => D.str (f x)) = some (ns.map f) := by
  induction ns with
  | nil => rfl
  | cons n ns ih => simp only [List.map_cons, strsOf, ih]; rfl
theorem boolsOf_mapOf {α : Type} (f : α → Bool) (ns : List α) : boolsOf (ns.map fun x => D.bl (f x)) = some (ns.map f) := by
  induction ns with
  | nil => rfl
  | cons n ns ih => simp only [List.map_cons, boolsOf, ih]; rfl
section
variable {g : WG} {b : WS} {R : RX} {B : EndsD} {t : WT} {e : WE} {Δ : Env} {S : Sto}
theorem lcL_mapOf {α : Type} (F : α → D) (f : α → D) {xs : List α} {acc : List D} {P : D → Sto → Prop} (h : ∀ x ∈ xs, ∀ Q : D → Sto → Prop, Q (f x) S → g (F x) Δ fun Δ1 => e Δ1 S Q noR) (hP : P (.lst (acc ++ xs.map f)) S) : lcL g tYes e Δ (xs.map F) acc S P := by
  induction xs generalizing acc with
  | nil =>
    rw [List.map_nil, List.append_nil] at hP
    exact hP
  | cons x xs ih =>
    rw [List.map_cons]
    unfold lcL
    refine h x (List.mem_cons_self ..) _ (ih (fun y hy => h y (List.mem_cons_of_mem _ hy)) ?_)
    rw [List.append_assoc]
    exact hP
theorem lcL_filterOf {α : Type} (F : α → D) (c : α → Bool) (f : α → D) {xs : List α} {acc : List D} {P : D → Sto → Prop}
    (h : ∀ x ∈ xs, ∀ (Q : D → Sto → Prop) (N : Sto → Prop), (c x = true → Q (f x) S) → (c x = false → N S) → g (F x) Δ fun Δ1 => t Δ1 S (fun k S1 => if k = true then e Δ1 S1 Q noR else N S1) noR)
    (hP : P (.lst (acc ++ (xs.filter c).map f)) S) : lcL g t e Δ (xs.map F) acc S P := by
  induction xs generalizing acc with
  | nil =>
    rw [List.filter_nil, List.map_nil, List.append_nil] at hP
    exact hP
  | cons x xs ih =>
    rw [List.map_cons]
    unfold lcL
    refine h x (List.mem_cons_self ..) _ _ (fun hc => ?_) fun hc => ?_
    · rw [List.filter_cons_of_pos hc, List.map_cons] at hP
      refine ih (fun y hy => h y (List.mem_cons_of_mem _ hy)) ?_
      rw [List.append_assoc]
      exact hP
    · rw [List.filter_cons_of_neg (by simp [hc])] at hP
      exact ih (fun y hy => h y (List.mem_cons_of_mem _ hy)) hP
end
/-! ### == -/
theorem dEq_int {a b : Int} : dEq (.int a) (.int b) = some (.bl (a == b)) := rfl
theorem dNe_int {a b : Int} : dNe (.int a) (.int b) = some (.bl (!(a == b))) := rfl
theorem dEq_str {a b : Str} : dEq (.str a) (.str b) = some (.bl (decide (a = b))) := rfl
theorem dNe_str {a b : Str} : dNe (.str a) (.str b) = some (.bl (!decide (a = b))) := rfl
theorem dNe_bl {a b : Bool} : dNe (.bl a) (.bl b) = some (.bl (!(a == b))) := rfl
theorem dEq_bl {a b : Bool} : dEq (.bl a) (.bl b) = some (.bl (a == b)) := rfl
theorem toPyAll_ints (ns : List Int) : toPyAll (ns.map D.int) = ns.map PyData.int := by
  induction ns with
  | nil => rfl
  | cons n ns ih => simp only [List.map_cons, toPyAll, ih, toPy]
theorem depthAll_ints (ns : List Int) : PyData.depthAll (ns.map PyData.int) = 0 := by
  induction ns with
  | nil => simp [PyData.depthAll]
  | cons n ns ih => simp [PyData.depthAll, PyData.depth, ih]
theorem canLay_ints (ns : List Int) : PyData.canLayAll0 (ns.map PyData.int) = true := by
  induction ns with
  | nil => simp [PyData.canLayAll0]
  | cons n ns ih => simp [PyData.canLayAll0, PyData.canLay0, ih]
theorem eqv_ints (ns : List Int) : PyData.eqvAll (ns.map PyData.int) (ns.map PyData.int) = true := by
  induction ns with
  | nil => simp [PyData.eqvAll]
  | cons n ns ih => simp [PyData.eqvAll, PyData.eqv, ih]
theorem shD_ints (ns : List Int) : shD (.lst (ns.map D.int)) = true := by
  unfold shD SeqAt.shaped
  simp [toPy, toPyAll_ints, PyData.canLay0, PyData.depth, canLay_ints, depthAll_ints]
/-! ### dedup -/
theorem dedup_app : ∀ (ns acc : List Int), (acc ++ ns).Nodup → ns.foldl (fun acc n => if acc.any (· == n) then acc else acc ++ [n]) acc = acc ++ ns
  | [], acc, _ => by simp
  | n :: ns, acc, h => by
    have hn : (acc.any (· == n)) = false := by
      rw [List.any_eq_false]
      intro x hx hxn
      have e : x = n := by simpa using hxn
      subst e
      have := (List.nodup_append.mp h).2.2 x hx x (by simp)
      exact this rfl
    rw [List.foldl_cons, hn]
    simp only [Bool.false_eq_true, if_false]
    rw [dedup_app ns (acc ++ [n]) (by rw [List.append_assoc]; exact h), List.append_assoc]
    rfl
theorem dedup_nodup {ns : List Int} (h : ns.Nodup) : dedup ns = ns := by
  unfold dedup
  rw [dedup_app ns [] (by simpa using h)]
  rfl
theorem dLenSet_nodup {ns : List Int} (h : ns.Nodup) (hl : ns.length < 4095) : dLenSet (.lst (ns.map D.int)) = some (.int ns.length) := by
  simp [dLenSet, intsOf_map, dedup_nodup h, show ns.length + 1 < 4096 by omega]
/-! ### slices from the front -/
theorem cutD_take {α : Type} (xs : List α) {k : Int} (h : 0 ≤ k) : cutD xs none (some k) = xs.take k.toNat := by
  obtain ⟨n, rfl⟩ := Int.eq_ofNat_of_zero_le h
  unfold cutD
  rw [HT.sIx_nat, HT.sIx_none, List.drop_zero, Nat.sub_zero, Int.toNat_natCast]
  rcases Nat.le_total n xs.length with q | q
  · rw [Nat.min_eq_left q]
  · rw [Nat.min_eq_right q, List.take_of_length_le (Nat.le_refl _), List.take_of_length_le q]
/-! ### lists of distances -/
def enumZ : Nat → List Int → List (Int × Int)
  | _, [] => []
  | i, x :: xs => ((i : Int), x) :: enumZ (i + 1) xs
theorem enumD_Z : ∀ (ns : List Int) (i : Nat), enumD i (ns.map D.int) = (enumZ i ns).map fun p => D.tup [.int p.1, .int p.2]
  | [], _ => rfl
  | n :: ns, i => by
    show _ :: enumD (i + 1) (ns.map D.int) = _
    rw [enumD_Z ns (i + 1)]
    rfl
theorem enumZ_len : ∀ (ns : List Int) (i : Nat), (enumZ i ns).length = ns.length
  | [], _ => rfl
  | n :: ns, i => by simp [enumZ, enumZ_len ns]
theorem enumZ_app : ∀ (xs ys : List Int) (i : Nat), enumZ i (xs ++ ys) = enumZ i xs ++ enumZ (i + xs.length) ys
  | [], ys, i => by simp [enumZ]
  | x :: xs, ys, i => by
    simp only [List.cons_append, enumZ, enumZ_app xs ys (i + 1), List.length_cons]
    congr 3
    omega
def tgts (ds : List Int) : List Int := ((enumZ 0 ds).filter fun p => decide (0 < p.2)).map fun p => p.1 - p.2
/-- a list of distances -/
structure VD (ds : List Int) : Prop where
  len : ds.length ≤ 400
  ok : ∀ p ∈ enumZ 0 ds, 0 ≤ p.2 ∧ p.2 ≤ p.1
  nd : (tgts ds).Nodup
theorem VD.nil : VD [] := ⟨by simp, by simp [enumZ], by simp [tgts, enumZ]⟩
theorem VD.left {xs ys : List Int} (v : VD (xs ++ ys)) : VD xs := by
  refine ⟨by have := v.len; simp at this; omega, fun p hp => v.ok p (by rw [enumZ_app]; exact List.mem_append_left _ hp), ?_⟩
  have h := v.nd
  unfold tgts at h ⊢
  rw [enumZ_app, List.filter_append, List.map_append] at h
  exact (List.nodup_append.mp h).1
theorem VD.dropLast {xs : List Int} (v : VD xs) : VD xs.dropLast := by
  rcases List.eq_nil_or_concat xs with rfl | ⟨l, x, rfl⟩
  · exact v
  · rw [List.concat_eq_append] at v ⊢
    rw [List.dropLast_concat]
    exact VD.left v
theorem line_eq : LINE = 16777216 := rfl
theorem VD.rng {ds : List Int} (v : VD ds) : ∀ n ∈ ds, 0 ≤ n ∧ n ≤ 1000 := by
  have key : ∀ (xs : List Int) (i : Nat), (∀ p ∈ enumZ i xs, 0 ≤ p.2 ∧ p.2 ≤ p.1) → ∀ n ∈ xs, 0 ≤ n ∧ n ≤ i + xs.length := by
    intro xs
    induction xs with
    | nil => intro i _ n hn; cases hn
    | cons x xs ih =>
      intro i h n hn
      rcases List.mem_cons.mp hn with rfl | hn
      · have := h (i, n) (by simp [enumZ])
        simp at this ⊢
        omega
      · have := ih (i + 1) (fun p hp => h p (by simp [enumZ, hp])) n hn
        simp at this ⊢
        omega
  intro n hn
  have := key ds 0 v.ok n hn
  have := v.len
  omega
theorem atI_nat {α : Type} {xs : List α} {n : Nat} {x : α} (h : xs[n]? = some x) : L2.atI xs (n : Int) = some x := by
  obtain ⟨hl, rfl⟩ := List.getElem?_eq_some_iff.mp h
  unfold L2.atI L2.ixN
  simp [hl]
end DL

/-! DPT: texts of numbers: written, split, read back; repr's lengths. -/
namespace DL
open PySem

/-- str(n) -/
def numS (n : Int) : Str := Str.ofString (toString n)
theorem numS_nat (n : Nat) : TL.tl (numS (n : Int)) = TL.numL n := TL.tl_num n
theorem small_log {n : Int} (h : n.natAbs ≤ 1000) : n.natAbs.log2 < 1920 := Nat.lt_of_le_of_lt (Nat.log2_le_self _) (by omega)
theorem fStr_num {n : Int} (h : n.natAbs ≤ 1000) : fStr [.int n] = some (.str (numS n)) := if_pos (small_log h)
theorem numL_hd : ∀ n : Nat, 0 < n → ∃ c r, TL.numL n = c :: r ∧ c ≠ 48 := fun n => by
  induction n using Nat.strongRecOn with
  | _ n ih =>
    intro h
    by_cases h1 : n < 10
    · exact ⟨48 + n, [], TL.numL_lt h1, by omega⟩
    · obtain ⟨c, r, e, hc⟩ := ih (n / 10) (by omega) (by omega)
      exact ⟨c, r ++ [48 + n % 10], by rw [TL.numL_step (by omega), e]; rfl, hc⟩
theorem numS_len {n : Int} (h0 : 0 ≤ n) (h : n ≤ 1000) : (numS n).length ≤ 4 := by
  obtain ⟨m, rfl⟩ := Int.eq_ofNat_of_zero_le h0
  rw [TL.len_tl, numS_nat]
  exact TL.numL_len (by decide) (by omega)
theorem numS_val {n : Int} (h0 : 0 ≤ n) (h : n ≤ 1000) : fInt [.str (numS n)] = some (.int n) := by
  have hl := numS_len h0 h
  have hv : intText? (numS n) = some n := PySem.W.KIN.num_reads h0 (by omega)
  show (if (numS n).length ≤ 640 then (PySem.intText? (numS n)).map D.int else none) = _
  rw [if_pos (by omega), hv]
  rfl
/-- a list of numbers as a text -/
def txt (ns : List Int) : Str := if ns.length = 0 then "none" else Txt.join " " (ns.map numS)
theorem sum_le {α : Type} (f : α → Nat) (k : Nat) : ∀ xs : List α, (∀ x ∈ xs, f x ≤ k) → (xs.map f).sum ≤ k * xs.length
  | [], _ => by simp
  | x :: xs, h => by
    have h1 := h x (List.mem_cons_self ..)
    have h2 := sum_le f k xs fun y hy => h y (List.mem_cons_of_mem _ hy)
    simp only [List.map_cons, List.sum_cons, List.length_cons, Nat.mul_add]
    omega
theorem mJoin_nums {ns : List Int} (h : ∀ n ∈ ns, 0 ≤ n ∧ n ≤ 1000) (hl : ns.length ≤ 1000) : mJoin (.str " ") [.lst (ns.map fun n => D.str (numS n))] = some (.str (Txt.join " " (ns.map numS))) := by
  have hs : (((ns.map numS).map (·.length))).sum ≤ 4 * ns.length := by
    rw [List.map_map]
    exact sum_le _ 4 ns fun n hn => numS_len (h n hn).1 (h n hn).2
  have e : (strsOf (ns.map fun n => D.str (numS n))) = some (ns.map numS) := strsOf_mapOf numS ns
  have e1 : (" " : Str).length = 1 := rfl
  show (strsOf (ns.map fun n => D.str (numS n))).bind _ = _
  rw [e]
  show (if _ then _ else none) = _
  rw [if_pos]
  rw [List.length_map, e1]
  have : LINE = 16777216 := rfl
  omega
theorem tl_sp : TL.tl (" " : Str) = 32 :: [] := by decide
theorem split_nums {ns : List Int} (hne : ns ≠ []) (h : ∀ n ∈ ns, 0 ≤ n) : Txt.split (Txt.join " " (ns.map numS)) " " = ns.map numS := by
  refine TL.split_join tl_sp (by decide +kernel) (by simpa using hne) fun p hp => ?_
  obtain ⟨n, hn, rfl⟩ := List.mem_map.mp hp
  obtain ⟨m, e⟩ := Int.eq_ofNat_of_zero_le (h n hn)
  rw [e, numS_nat]
  exact TL.numL_free (.inl (by decide))
/-- how long a joined text is -/
theorem joinL_len (s : Nat) (k : Nat) : ∀ ps : List (List Nat), (∀ p ∈ ps, p.length ≤ k) → (TL.joinL [s] ps).length ≤ (k + 1) * ps.length
  | [], _ => by simp [TL.joinL]
  | [p], h => by
    have := h p (by simp)
    simp only [TL.joinL, List.length_cons, List.length_nil]
    omega
  | p :: q :: r, h => by
    have h1 := h p (by simp)
    have h2 := joinL_len s k (q :: r) fun z hz => h z (List.mem_cons_of_mem _ hz)
    simp only [TL.joinL, List.length_append, List.length_cons, List.length_nil, Nat.mul_add] at h2 ⊢
    omega
theorem join_nums_len {ns : List Int} (h : ∀ n ∈ ns, 0 ≤ n ∧ n ≤ 1000) : (Txt.join " " (ns.map numS)).length ≤ 5 * ns.length := by
  rw [TL.len_tl, TL.join_eq, TL.tl_join, tl_sp]
  have := joinL_len 32 4 ((ns.map numS).map TL.tl) fun p hp => by
    obtain ⟨x, hx, rfl⟩ := List.mem_map.mp hp
    obtain ⟨n, hn, rfl⟩ := List.mem_map.mp hx
    rw [← TL.len_tl]
    exact numS_len (h n hn).1 (h n hn).2
  simpa using this
theorem mSplit_nums {ns : List Int} (hne : ns ≠ []) (h : ∀ n ∈ ns, 0 ≤ n ∧ n ≤ 1000) (hl : ns.length ≤ 1000) : mSplit (.str (Txt.join " " (ns.map numS))) [.str " "] = some (.lst (ns.map fun n => D.str (numS n))) := by
  have e1 : ((" " : Str).length == 0) = false := rfl
  have hlen := join_nums_len h
  show (if _ then _ else none) = _
  rw [if_pos ⟨e1, by have : LINE = 16777216 := rfl; omega⟩, split_nums hne fun n hn => (h n hn).1, List.map_map]
  rfl
/-- it starts with a digit -/
theorem join_nums_ne {ns : List Int} (hne : ns ≠ []) (h : ∀ n ∈ ns, 0 ≤ n) : Txt.join " " (ns.map numS) ≠ "none" := fun e => by
  have e2 := congrArg TL.tl e
  rw [TL.join_eq, TL.tl_join] at e2
  match ns, hne, h with
  | n :: r, _, h =>
    obtain ⟨m, em⟩ := Int.eq_ofNat_of_zero_le (h n (by simp))
    have hh : ∃ t, TL.joinL (TL.tl " ") (((n :: r).map numS).map TL.tl) = TL.numL m ++ t := by
      cases r with
      | nil => exact ⟨[], by simp [TL.joinL, em, numS_nat]⟩
      | cons q r => exact ⟨_, by simp only [List.map_cons, TL.joinL, em, numS_nat]; rfl⟩
    obtain ⟨t, ht⟩ := hh
    rw [ht] at e2
    have hn : TL.tl ("none" : Str) = [110, 111, 110, 101] := by decide
    rw [hn] at e2
    have hd := TL.numL_digits m
    cases hm : TL.numL m with
    | nil => exact TL.numL_ne m hm
    | cons c cs =>
      rw [hm] at e2 hd
      have hc := hd c (by simp)
      have : c = 110 := (List.cons.inj e2).1
      omega
theorem digits_tl : TL.tl ("0123456789" : Str) = [48, 49, 50, 51, 52, 53, 54, 55, 56, 57] := by decide
theorem dInS_digit {c : Nat} (h : 48 ≤ c ∧ c ≤ 57) : dInS (.str ⟨#[c]⟩) (.str "0123456789") = some (.bl true) := by
  show (if (⟨#[c]⟩ : Str).cps.size = 1 then some (D.bl (decide (c ∈ TL.tl ("0123456789" : Str)))) else none) = _
  rw [if_pos (show (⟨#[c]⟩ : Str).cps.size = 1 from rfl), digits_tl]
  have : c ∈ [48, 49, 50, 51, 52, 53, 54, 55, 56, 57] := by
    simp only [List.mem_cons, List.not_mem_nil, or_false]
    omega
  simp [this]
/-! ### repr -/
def pil (ts : List Str) : Nat := (ts.map fun t => t.length + 2).sum
theorem textFrom_le : ∀ (ts : List Str) (k : Nat) (acc : Str), (textFrom k acc ts).length ≤ acc.length + pil ts
  | [], k, acc => by show acc.length ≤ _; simp [pil]
  | t :: r, k, acc => by
    have h1 := textFrom_le r (k + 1) (acc ++ (if k > 0 then ", " else "" : String) ++ t)
    have e : (acc ++ (if k > 0 then ", " else "" : String) ++ t).length ≤ acc.length + 2 + t.length := by
      rw [Str.length_append, Str.length_append]
      have : (Str.ofString (if k > 0 then ", " else "" : String)).length ≤ 2 := by
        split
        · exact Nat.le_of_eq rfl
        · show 0 ≤ 2; omega
      omega
    show (textFrom (k + 1) (acc ++ (if k > 0 then ", " else "" : String) ++ t) r).length ≤ _
    simp only [pil, List.map_cons, List.sum_cons] at h1 ⊢
    omega
theorem listText_le (ts : List Str) : (listText ts).length ≤ pil ts + 2 := by
  unfold listText
  rw [Str.length_append]
  have := textFrom_le ts 0 "["
  have e : ("[" : Str).length = 1 := rfl
  have e2 : ("]" : Str).length = 1 := rfl
  omega
theorem pil_cons (t : Str) (ts : List Str) : pil (t :: ts) = t.length + 2 + pil ts := by simp [pil]
theorem tupleText_le (ts : List Str) : (tupleText ts).length ≤ pil ts + 4 := by
  unfold tupleText
  rw [Str.length_append, Str.length_append]
  have e : ("(" : Str).length = 1 := rfl
  have e2 : (Str.ofString (if ts.length == 1 then ",)" else ")" : String)).length ≤ 2 := by
    split
    · exact Nat.le_of_eq rfl
    · show 1 ≤ 2; omega
  have e3 : (Str.join ", " ts).length ≤ pil ts := by
    cases ts with
    | nil => simp [pil]; rfl
    | cons t ts =>
      have h := join_length_add (t :: ts) (by simp)
      have hp : piled (t :: ts) = pil (t :: ts) := rfl
      omega
  omega
theorem shownAll_ints : ∀ ns : List Int, PyData.shownAll (ns.map PyData.int) = ns.map numS
  | [] => by simp [PyData.shownAll]
  | n :: ns => by
    simp only [List.map_cons, PyData.shownAll, shownAll_ints ns, PyData.shown]
    rfl
theorem showable_ints : ∀ ns : List Int, (∀ n ∈ ns, n.natAbs ≤ 1000) → PyData.showableAll (ns.map PyData.int) = true
  | [], _ => by simp [PyData.showableAll]
  | n :: ns, h => by
    simp only [List.map_cons, PyData.showableAll, PyData.showable, showable_ints ns fun x hx => h x (List.mem_cons_of_mem _ hx), Bool.and_true, decide_eq_true_eq]
    exact small_log (h n (List.mem_cons_self ..))
theorem pil_nums {ns : List Int} (h : ∀ n ∈ ns, 0 ≤ n ∧ n ≤ 1000) : pil (ns.map numS) ≤ 6 * ns.length := by
  unfold pil
  rw [List.map_map]
  exact sum_le _ 6 ns fun n hn => by
    have := numS_len (h n hn).1 (h n hn).2
    show (numS n).length + 2 ≤ 6
    omega
theorem repr_ints {ns : List Int} {d : D} (hd : d = .lst (ns.map D.int) ∨ d = .tup (ns.map D.int)) (h : ∀ n ∈ ns, 0 ≤ n ∧ n ≤ 1000) (hl : ns.length ≤ 1000) : ∃ x, fRepr [d] = some (.str x) := by
  have hp := pil_nums h
  have hs := showable_ints ns fun n hn => by have := h n hn; omega
  have hline : LINE = 16777216 := rfl
  rcases hd with rfl | rfl
  · refine ⟨PyData.shown (toPy (.lst (ns.map D.int))), if_pos ⟨?_, ?_, ?_, ?_⟩⟩
    · simp [toPy, toPyAll_ints, PyData.canLay0, canLay_ints]
    · simp [toPy, toPyAll_ints, PyData.showable, hs]
    · simp [toPy, toPyAll_ints, PyData.depth, depthAll_ints]
    · simp only [toPy, toPyAll_ints, PyData.shown, shownAll_ints]
      have := listText_le (ns.map numS)
      omega
  · refine ⟨PyData.shown (toPy (.tup (ns.map D.int))), if_pos ⟨?_, ?_, ?_, ?_⟩⟩
    · simp [toPy, toPyAll_ints, PyData.canLay0, canLay_ints]
    · simp [toPy, toPyAll_ints, PyData.showable, hs]
    · simp [toPy, toPyAll_ints, PyData.depth, depthAll_ints]
    · simp only [toPy, toPyAll_ints, PyData.shown, shownAll_ints]
      have := tupleText_le (ns.map numS)
      omega
end DL

/-! DD: distances and ids of lists of ints, in plain words. -/
namespace DL
open PySem

/-- the distance of x behind the places r (the nearest first) -/
def dlr (r : List Int) (x : Int) : Int := if x ∈ r then (r.idxOf x : Int) + 1 else 0
def distF (r : List Int) : List Int → List Int
  | [] => []
  | x :: xs => dlr r x :: distF (x :: r) xs
def dist (xs : List Int) : List Int := distF [] xs
theorem distF_app : ∀ (xs ys r : List Int), distF r (xs ++ ys) = distF r xs ++ distF (xs.reverse ++ r) ys
  | [], ys, r => by simp [distF]
  | x :: xs, ys, r => by
    simp only [List.cons_append, distF, distF_app xs ys (x :: r), List.reverse_cons, List.append_assoc, List.nil_append]
theorem dist_app (xs ys : List Int) : dist (xs ++ ys) = dist xs ++ distF xs.reverse ys := by
  unfold dist
  rw [distF_app, List.append_nil]
theorem dist_snoc (xs : List Int) (x : Int) : dist (xs ++ [x]) = dist xs ++ [dlr xs.reverse x] := by rw [dist_app]; rfl
theorem distF_len : ∀ (xs r : List Int), (distF r xs).length = xs.length
  | [], _ => rfl
  | x :: xs, r => by simp [distF, distF_len xs]
theorem dist_len (xs : List Int) : (dist xs).length = xs.length := distF_len xs []
/-- f keeps apart what stands in xs -/
def InjOn (f : Int → Int) (xs : List Int) : Prop := ∀ x ∈ xs, ∀ y ∈ xs, f x = f y → x = y
theorem InjOn.sub {f : Int → Int} {xs ys : List Int} (h : InjOn f ys) (s : ∀ x ∈ xs, x ∈ ys) : InjOn f xs := fun x hx y hy e => h x (s x hx) y (s y hy) e
theorem idxOf_map {f : Int → Int} {x : Int} : ∀ {r : List Int}, InjOn f (x :: r) → (r.map f).idxOf (f x) = r.idxOf x
  | [], _ => rfl
  | y :: r, h => by
    have hy : y ∈ x :: y :: r := List.mem_cons_of_mem _ (List.mem_cons_self ..)
    have hx : x ∈ x :: y :: r := List.mem_cons_self ..
    have ih := idxOf_map (f := f) (x := x) (r := r) (h.sub fun a ha => by
      rcases List.mem_cons.mp ha with rfl | ha
      · exact hx
      · exact List.mem_cons_of_mem _ (List.mem_cons_of_mem _ ha))
    rw [List.map_cons, List.idxOf_cons, List.idxOf_cons, ih]
    by_cases e : y = x
    · rw [e]; simp
    · have e2 : f y ≠ f x := fun z => e (h y hy x hx z)
      rw [show (y == x) = false by simpa using e, show (f y == f x) = false by simpa using e2]
theorem dlr_map {f : Int → Int} {x : Int} {r : List Int} (h : InjOn f (x :: r)) : dlr (r.map f) (f x) = dlr r x := by
  unfold dlr
  have hm : f x ∈ r.map f ↔ x ∈ r := by
    constructor
    · intro hx
      obtain ⟨y, hy, e⟩ := List.mem_map.mp hx
      rw [← h y (by simp [hy]) x (by simp) e]
      exact hy
    · exact fun hx => List.mem_map.mpr ⟨x, hx, rfl⟩
  rw [idxOf_map h]
  by_cases hx : x ∈ r
  · rw [if_pos hx, if_pos (hm.mpr hx)]
  · rw [if_neg hx, if_neg fun z => hx (hm.mp z)]
theorem distF_map {f : Int → Int} : ∀ {xs r : List Int}, InjOn f (xs ++ r) → distF (r.map f) (xs.map f) = distF r xs
  | [], _, _ => rfl
  | x :: xs, r, h => by
    have s1 : ∀ a ∈ xs ++ (x :: r), a ∈ (x :: xs) ++ r := fun a ha => by
      rcases List.mem_append.mp ha with ha | ha
      · exact List.mem_append_left _ (List.mem_cons_of_mem _ ha)
      · rcases List.mem_cons.mp ha with rfl | ha
        · exact List.mem_append_left _ (List.mem_cons_self ..)
        · exact List.mem_append_right _ ha
    have s2 : ∀ a ∈ x :: r, a ∈ (x :: xs) ++ r := fun a ha => by
      rcases List.mem_cons.mp ha with rfl | ha
      · exact List.mem_append_left _ (List.mem_cons_self ..)
      · exact List.mem_append_right _ ha
    have ih := distF_map (f := f) (xs := xs) (r := x :: r) (h.sub s1)
    rw [List.map_cons] at ih ⊢
    show dlr (r.map f) (f x) :: distF (f x :: r.map f) (xs.map f) = dlr r x :: distF (x :: r) xs
    rw [ih, dlr_map (h.sub s2)]
/-- names do not matter -/
theorem dist_map {f : Int → Int} {xs : List Int} (h : InjOn f xs) : dist (xs.map f) = dist xs := distF_map (r := []) (by rw [List.append_nil]; exact h)

/-! ### the signs in the order of their first places -/
theorem dedup_snoc (xs : List Int) (x : Int) : dedup (xs ++ [x]) = if (dedup xs).any (· == x) then dedup xs else dedup xs ++ [x] := by
  unfold dedup
  rw [List.foldl_append]
  rfl
theorem any_eq_mem (xs : List Int) (x : Int) : (xs.any (· == x)) = decide (x ∈ xs) := by
  induction xs with
  | nil => rfl
  | cons y ys ih =>
    rw [List.any_cons, ih]
    by_cases e : y = x
    · subst e; simp
    · rw [show (y == x) = false by simpa using e, Bool.false_or]
      exact decide_eq_decide.mpr ⟨fun q => List.mem_cons_of_mem _ q, fun q => (List.mem_cons.mp q).resolve_left fun z => e z.symm⟩
theorem snoc_ind {p : List Int → Prop} (h0 : p []) (hs : ∀ xs x, p xs → p (xs ++ [x])) : ∀ xs, p xs := fun xs => by
  have : ∀ n (xs : List Int), xs.length = n → p xs := by
    intro n
    induction n with
    | zero => intro xs h; rw [List.length_eq_zero_iff.mp h]; exact h0
    | succ n ih =>
      intro xs h
      rcases List.eq_nil_or_concat xs with rfl | ⟨l, x, rfl⟩
      · simp at h
      · rw [List.concat_eq_append]
        exact hs l x (ih l (by simpa using h))
  exact this _ xs rfl
theorem mem_dedup' (xs : List Int) : ∀ x, x ∈ dedup xs ↔ x ∈ xs := by
  induction xs using snoc_ind with
  | h0 => intro x; rfl
  | hs xs y ih =>
    intro x
    rw [dedup_snoc, any_eq_mem]
    by_cases h : y ∈ dedup xs
    · rw [decide_eq_true h, if_pos rfl, ih]
      refine ⟨fun q => List.mem_append_left _ q, fun q => ?_⟩
      rcases List.mem_append.mp q with q | q
      · exact q
      · rw [List.mem_singleton.mp q]
        exact (ih y).mp h
    · rw [decide_eq_false h, if_neg (by decide), List.mem_append, List.mem_append, ih]
theorem mem_dedup {x : Int} {xs : List Int} : x ∈ dedup xs ↔ x ∈ xs := mem_dedup' xs x
theorem dedup_nd (xs : List Int) : (dedup xs).Nodup := by
  induction xs using snoc_ind with
  | h0 => exact List.nodup_nil
  | hs xs y ih =>
    rw [dedup_snoc, any_eq_mem]
    by_cases h : y ∈ dedup xs
    · rw [decide_eq_true h, if_pos rfl]; exact ih
    · rw [decide_eq_false h, if_neg (by decide)]
      exact List.nodup_append.mpr ⟨ih, (by simp), fun a ha b hb e => h (by rw [← List.mem_singleton.mp hb, ← e]; exact ha)⟩
theorem dedup_pre (xs ys : List Int) : ∃ t, dedup (xs ++ ys) = dedup xs ++ t := by
  induction ys using snoc_ind with
  | h0 => exact ⟨[], by rw [List.append_nil, List.append_nil]⟩
  | hs ys y ih =>
    obtain ⟨t, e⟩ := ih
    rw [← List.append_assoc, dedup_snoc]
    split
    · exact ⟨t, e⟩
    · exact ⟨t ++ [y], by rw [e, List.append_assoc]⟩
theorem dedup_map {f : Int → Int} (xs : List Int) (h : InjOn f xs) : dedup (xs.map f) = (dedup xs).map f := by
  induction xs using snoc_ind with
  | h0 => rfl
  | hs xs y ih =>
    have ih := ih (h.sub fun a ha => List.mem_append_left _ ha)
    rw [List.map_append, List.map_cons, List.map_nil, dedup_snoc, dedup_snoc, ih, any_eq_mem, any_eq_mem]
    have hm : f y ∈ (dedup xs).map f ↔ y ∈ dedup xs := by
      refine ⟨fun q => ?_, fun q => List.mem_map.mpr ⟨y, q, rfl⟩⟩
      obtain ⟨z, hz, e⟩ := List.mem_map.mp q
      rw [← h z (List.mem_append_left _ (mem_dedup.mp hz)) y (List.mem_append_right _ (List.mem_singleton.mpr rfl)) e]
      exact hz
    by_cases q : y ∈ dedup xs
    · rw [decide_eq_true q, decide_eq_true (hm.mpr q)]; rfl
    · rw [decide_eq_false q, decide_eq_false fun z => q (hm.mp z)]
      simp
/-- a sign's number -/
def rk (xs : List Int) (x : Int) : Int := ((dedup xs).idxOf x : Nat)
def can (xs : List Int) : List Int := xs.map (rk xs)
theorem rk_inj (xs : List Int) : InjOn (rk xs) xs := fun x hx y hy e => by
  have e2 : (dedup xs).idxOf x = (dedup xs).idxOf y := Int.ofNat_inj.mp e
  have h1 := List.idxOf_lt_length_of_mem (mem_dedup.mpr hx)
  have h2 := List.idxOf_lt_length_of_mem (mem_dedup.mpr hy)
  have := List.getElem_idxOf h1
  rw [← this]
  simp only [e2]
  exact List.getElem_idxOf h2
theorem rk_rng {xs : List Int} {x : Int} (h : x ∈ xs) : 0 ≤ rk xs x ∧ rk xs x < (dedup xs).length := ⟨Int.natCast_nonneg _, Int.ofNat_lt.mpr (List.idxOf_lt_length_of_mem (mem_dedup.mpr h))⟩
theorem rk_pre {xs ys : List Int} {x : Int} (h : x ∈ xs) : rk (xs ++ ys) x = rk xs x := by
  obtain ⟨t, e⟩ := dedup_pre xs ys
  unfold rk
  rw [e, List.idxOf_append, if_pos (mem_dedup.mpr h)]
theorem can_map {f : Int → Int} {xs : List Int} (h : InjOn f xs) : can (xs.map f) = can xs := by
  unfold can
  rw [List.map_map]
  apply List.map_congr_left
  intro x hx
  show rk (xs.map f) (f x) = rk xs x
  unfold rk
  rw [dedup_map xs h, idxOf_map (h.sub fun a ha => by
    rcases List.mem_cons.mp ha with rfl | ha
    · exact hx
    · exact mem_dedup.mp ha)]
theorem can_can (xs : List Int) : can (can xs) = can xs := can_map (rk_inj xs)
theorem dist_can (xs : List Int) : dist (can xs) = dist xs := dist_map (rk_inj xs)
theorem dedup_can (xs : List Int) : (dedup (can xs)).length = (dedup xs).length := by
  show (dedup (xs.map (rk xs))).length = _
  rw [dedup_map xs (rk_inj xs), List.length_map]

/-- distances as they grow: kvs is the dict of last places -/
structure DK (i : Nat) (found : List Int) (kvs : List (L2.Key × Int)) : Prop where
  len : found.length = i
  ok : ∀ p ∈ enumZ 0 found, 0 ≤ p.2 ∧ p.2 ≤ p.1
  nd : (tgts found).Nodup
  lt : ∀ t ∈ tgts found, t < i
  kv : ∀ p ∈ kvs, 0 ≤ p.2 ∧ p.2 < i ∧ p.2 ∉ tgts found
  kd : (kvs.map (·.2)).Nodup
  kn : (kvs.map (·.1)).Nodup
theorem tgts_snoc (found : List Int) (d : Int) : tgts (found ++ [d]) = tgts found ++ if 0 < d then [(found.length : Int) - d] else [] := by
  unfold tgts
  rw [enumZ_app, List.filter_append, List.map_append]
  congr 1
  simp only [enumZ, Nat.zero_add]
  by_cases h : 0 < d
  · simp [h]
  · simp [h]
theorem getD_map (kvs : List (L2.Key × Int)) (k : L2.Key) : DL.getD (kvs.map fun p => (p.1, D.int p.2)) k = ((kvs.find? fun p => decide (p.1 = k)).map fun p => D.int p.2) := by
  unfold DL.getD
  rw [List.find?_map, Option.map_map]
  rfl
theorem putD_map (kvs : List (L2.Key × Int)) (k : L2.Key) (v : Int) : putD (kvs.map fun p => (p.1, D.int p.2)) k (.int v) =
    (if (kvs.any fun p => decide (p.1 = k)) = true then kvs.map (fun p => if p.1 = k then (p.1, v) else p) else kvs ++ [(k, v)]).map fun p => (p.1, D.int p.2) := by
  unfold putD
  rw [List.any_map]
  have e : ((fun kv : L2.Key × D => decide (kv.1 = k)) ∘ fun p : L2.Key × Int => (p.1, D.int p.2)) = fun p => decide (p.1 = k) := rfl
  rw [e]
  split
  · rw [List.map_map, List.map_map]
    apply List.map_congr_left
    intro p _
    simp only [Function.comp]
    split <;> rfl
  · rw [List.map_append]
    rfl
theorem DK.none {i : Nat} {found : List Int} {kvs : List (L2.Key × Int)} {k : L2.Key} (I : DK i found kvs) (h : kvs.find? (fun p => decide (p.1 = k)) = none) :
    DK (i + 1) (found ++ [0]) (kvs ++ [(k, (i : Int))]) := by
  have ht : tgts (found ++ [0]) = tgts found := by rw [tgts_snoc]; simp
  refine ⟨by rw [List.length_append, I.len]; rfl, fun p hp => ?_, by rw [ht]; exact I.nd, fun t hm => by rw [ht] at hm; have := I.lt t hm; omega, fun p hp => ?_, ?_, ?_⟩
  · rw [enumZ_app] at hp
    rcases List.mem_append.mp hp with hp | hp
    · exact I.ok p hp
    · simp [enumZ] at hp
      subst hp
      exact ⟨by simp, by simp⟩
  · rw [ht]
    rcases List.mem_append.mp hp with hp | hp
    · obtain ⟨a, b, c⟩ := I.kv p hp
      exact ⟨a, by omega, c⟩
    · simp at hp
      subst hp
      exact ⟨by simp, by simp; omega, fun hm => by have := I.lt _ hm; simp at this⟩
  · rw [List.map_append]
    refine List.nodup_append.mpr ⟨I.kd, by simp, fun x hx y hy => ?_⟩
    simp at hy
    subst hy
    obtain ⟨p, hp, rfl⟩ := List.mem_map.mp hx
    have := I.kv p hp
    omega
  · rw [List.map_append]
    refine List.nodup_append.mpr ⟨I.kn, by simp, fun x hx y hy => ?_⟩
    simp at hy
    subst hy
    obtain ⟨p, hp, rfl⟩ := List.mem_map.mp hx
    have := List.find?_eq_none.mp h p hp
    simpa using this
theorem DK.some {i : Nat} {found : List Int} {kvs : List (L2.Key × Int)} {k : L2.Key} {q : L2.Key × Int} (I : DK i found kvs) (h : kvs.find? (fun p => decide (p.1 = k)) = some q) :
    DK (i + 1) (found ++ [(i : Int) - q.2]) (kvs.map fun p => if p.1 = k then (p.1, (i : Int)) else p) := by
  have hq := List.mem_of_find?_eq_some h
  have hk : q.1 = k := by simpa using List.find?_some h
  obtain ⟨q0, q1, q2⟩ := I.kv q hq
  have ht : tgts (found ++ [(i : Int) - q.2]) = tgts found ++ [q.2] := by
    rw [tgts_snoc, if_pos (by omega), I.len]
    congr 2
    omega
  -- only q has the key
  have uq : ∀ p ∈ kvs, p.1 = k → p = q := fun p hp hpk => by
    have key : ∀ l : List (L2.Key × Int), (l.map (·.1)).Nodup → p ∈ l → q ∈ l → p = q := by
      intro l
      induction l with
      | nil => intro _ h; cases h
      | cons x l ih =>
        intro nd h1 h2
        rw [List.map_cons, List.nodup_cons] at nd
        rcases List.mem_cons.mp h1 with e1 | h1 <;> rcases List.mem_cons.mp h2 with e2 | h2
        · rw [e1, e2]
        · exact absurd (List.mem_map.mpr ⟨q, h2, by rw [hk, ← hpk, e1]⟩) nd.1
        · exact absurd (List.mem_map.mpr ⟨p, h1, by rw [hpk, ← hk, e2]⟩) nd.1
        · exact ih nd.2 h1 h2
    exact key kvs I.kn hp hq
  refine ⟨by rw [List.length_append, I.len]; rfl, fun p hp => ?_, ?_, fun t hm => ?_, fun p hp => ?_, ?_, ?_⟩
  · rw [enumZ_app] at hp
    rcases List.mem_append.mp hp with hp | hp
    · exact I.ok p hp
    · simp [enumZ, I.len] at hp
      subst hp
      simp
      omega
  · rw [ht]
    refine List.nodup_append.mpr ⟨I.nd, by simp, fun x hx y hy => ?_⟩
    simp at hy
    subst hy
    exact fun e => q2 (e ▸ hx)
  · rw [ht] at hm
    rcases List.mem_append.mp hm with hm | hm
    · have := I.lt t hm; omega
    · simp at hm; omega
  · rw [ht]
    obtain ⟨p', hp', rfl⟩ := List.mem_map.mp hp
    by_cases e : p'.1 = k
    · rw [if_pos e]
      refine ⟨by simp, by simp; omega, fun hm => ?_⟩
      rcases List.mem_append.mp hm with hm | hm
      · have := I.lt _ hm; simp at this
      · simp at hm; omega
    · rw [if_neg e]
      obtain ⟨a, b, c⟩ := I.kv p' hp'
      refine ⟨a, by omega, fun hm => ?_⟩
      rcases List.mem_append.mp hm with hm | hm
      · exact c hm
      · simp at hm
        -- two pairs with one value are one
        have key : ∀ l : List (L2.Key × Int), (l.map (·.2)).Nodup → p' ∈ l → q ∈ l → p' = q := by
          intro l
          induction l with
          | nil => intro _ h; cases h
          | cons x l ih =>
            intro nd h1 h2
            rw [List.map_cons, List.nodup_cons] at nd
            rcases List.mem_cons.mp h1 with e1 | h1 <;> rcases List.mem_cons.mp h2 with e2 | h2
            · rw [e1, e2]
            · exact absurd (List.mem_map.mpr ⟨q, h2, by rw [← hm, e1]⟩) nd.1
            · exact absurd (List.mem_map.mpr ⟨p', h1, by rw [hm, e2]⟩) nd.1
            · exact ih nd.2 h1 h2
        exact e (by rw [key kvs I.kd hp' hq, hk])
  · rw [List.map_map]
    have gen : ∀ l : List (L2.Key × Int), (∀ p ∈ l, p.2 < i) → (l.map (·.1)).Nodup → (l.map (·.2)).Nodup → (l.map ((·.2) ∘ fun p => if p.1 = k then (p.1, (i : Int)) else p)).Nodup := by
      intro l
      induction l with
      | nil => intro _ _ _; simp
      | cons x l ih =>
        intro hl n1 n2
        rw [List.map_cons, List.nodup_cons] at n1 n2 ⊢
        refine ⟨fun hm => ?_, ih (fun p hp => hl p (List.mem_cons_of_mem _ hp)) n1.2 n2.2⟩
        obtain ⟨p, hp, e⟩ := List.mem_map.mp hm
        simp only [Function.comp] at e
        by_cases ex : x.1 = k
        · rw [if_pos ex] at e
          by_cases ep : p.1 = k
          · exact n1.1 (List.mem_map.mpr ⟨p, hp, by rw [ep, ex]⟩)
          · rw [if_neg ep] at e
            have := hl p (List.mem_cons_of_mem _ hp)
            simp at e
            omega
        · rw [if_neg ex] at e
          by_cases ep : p.1 = k
          · rw [if_pos ep] at e
            have := hl x (List.mem_cons_self ..)
            simp at e
            omega
          · rw [if_neg ep] at e
            exact n2.1 (List.mem_map.mpr ⟨p, hp, e⟩)
    exact gen kvs (fun p hp => (I.kv p hp).2.1) I.kn I.kd
  · rw [List.map_map]
    have e : ((fun p : L2.Key × Int => p.1) ∘ fun p => if p.1 = k then (p.1, (i : Int)) else p) = fun p => p.1 := by
      funext p
      simp only [Function.comp]
      split <;> rfl
    have := I.kn
    rw [e]
    exact this


/-! ### the loop with its dict of last places -/
/-- found, kvs as they stand behind the places r (the nearest first) -/
structure DJ (r : List Int) (found : List Int) (kvs : List (L2.Key × Int)) : Prop where
  di : DK r.length found kvs
  fd : found = dist r.reverse
  lk : ∀ s : Int, (kvs.find? fun p => decide (p.1 = (Sum.inl s : L2.Key))).map (·.2) = if s ∈ r then some ((r.length : Int) - 1 - r.idxOf s) else none
  kl : kvs.length ≤ r.length
theorem DJ.nil : DJ [] [] [] := ⟨⟨rfl, by simp [enumZ], by simp [tgts, enumZ], by simp [tgts, enumZ], by simp, by simp, by simp⟩, rfl, by simp, by simp⟩
/-- the next entry -/
def nxE (i : Nat) (kvs : List (L2.Key × Int)) (s : Int) : Int := match kvs.find? fun p => decide (p.1 = (Sum.inl s : L2.Key)) with
  | some q => (i : Int) - q.2
  | none => 0
/-- the dict behind -/
def nxK (i : Nat) (kvs : List (L2.Key × Int)) (s : Int) : List (L2.Key × Int) :=
  if (kvs.any fun p => decide (p.1 = (Sum.inl s : L2.Key))) = true then kvs.map (fun p => if p.1 = (Sum.inl s : L2.Key) then (p.1, (i : Int)) else p) else kvs ++ [((Sum.inl s : L2.Key), (i : Int))]
theorem find_put {kvs : List (L2.Key × Int)} {k k2 : L2.Key} {v : Int} : ((if (kvs.any fun p => decide (p.1 = k)) = true then kvs.map (fun p => if p.1 = k then (p.1, v) else p) else kvs ++ [(k, v)]).find? fun p => decide (p.1 = k2)).map (·.2) =
    if k2 = k then some v else (kvs.find? fun p => decide (p.1 = k2)).map (·.2) := by
  by_cases h : (kvs.any fun p => decide (p.1 = k)) = true
  · rw [if_pos h]
    have gen : ∀ l : List (L2.Key × Int), (l.map (fun p => if p.1 = k then (p.1, v) else p)).find? (fun p => decide (p.1 = k2)) = (l.find? fun p => decide (p.1 = k2)).map fun p => if p.1 = k then (p.1, v) else p := by
      intro l
      rw [List.find?_map]
      congr 1
      congr 1
      funext p
      simp only [Function.comp]
      split <;> rfl
    rw [gen]
    by_cases e : k2 = k
    · subst e
      rw [if_pos rfl]
      obtain ⟨p, hp, hpk⟩ := List.any_eq_true.mp h
      cases hf : kvs.find? (fun p => decide (p.1 = k2)) with
      | none => exact absurd hpk (List.find?_eq_none.mp hf p hp)
      | some q =>
        have hq := List.find?_some hf
        have hq2 : q.1 = k2 := by simpa using hq
        simp [hq2]
    · rw [if_neg e]
      cases hf : kvs.find? (fun p => decide (p.1 = k2)) with
      | none => rfl
      | some q =>
        have hq := List.find?_some hf
        have hq2 : q.1 = k2 := by simpa using hq
        have : q.1 ≠ k := fun z => e (hq2.symm.trans z)
        simp [this]
  · rw [if_neg h, List.find?_append]
    by_cases e : k2 = k
    · subst e
      rw [if_pos rfl]
      have hn : kvs.find? (fun p => decide (p.1 = k2)) = none := by
        rw [List.find?_eq_none]
        intro p hp hpk
        exact h (List.any_eq_true.mpr ⟨p, hp, hpk⟩)
      rw [hn]
      simp
    · rw [if_neg e]
      have : ([(k, v)] : List (L2.Key × Int)).find? (fun p => decide (p.1 = k2)) = none := by simp [Ne.symm e]
      rw [this]
      simp
theorem DJ.step {r found : List Int} {kvs : List (L2.Key × Int)} (J : DJ r found kvs) (s : Int) : DJ (s :: r) (found ++ [nxE r.length kvs s]) (nxK r.length kvs s) ∧ nxE r.length kvs s = dlr r s := by
  have hl := J.lk s
  have hrl := J.di.len
  have hE : nxE r.length kvs s = dlr r s := by
    unfold nxE dlr
    cases hf : kvs.find? (fun p => decide (p.1 = (Sum.inl s : L2.Key))) with
    | none =>
      rw [hf] at hl
      by_cases h : s ∈ r
      · rw [if_pos h] at hl; simp at hl
      · rw [if_neg h]
    | some q =>
      rw [hf] at hl
      by_cases h : s ∈ r
      · rw [if_pos h] at hl ⊢
        simp at hl
        show (r.length : Int) - q.2 = _
        omega
      · rw [if_neg h] at hl; simp at hl
  refine ⟨⟨?_, ?_, fun t => ?_, ?_⟩, hE⟩
  · unfold nxE nxK
    cases hf : kvs.find? (fun p => decide (p.1 = (Sum.inl s : L2.Key))) with
    | none =>
      have hany : (kvs.any fun p => decide (p.1 = (Sum.inl s : L2.Key))) = false := by
        rw [List.any_eq_false]
        intro p hp
        exact List.find?_eq_none.mp hf p hp
      rw [hany]
      exact J.di.none hf
    | some q =>
      have hq1 := List.find?_some hf
      have hany : (kvs.any fun p => decide (p.1 = (Sum.inl s : L2.Key))) = true := List.any_eq_true.mpr ⟨q, List.mem_of_find?_eq_some hf, hq1⟩
      rw [hany]
      exact J.di.some hf
  · rw [hE, List.reverse_cons, dist_snoc, List.reverse_reverse, ← J.fd]
  · unfold nxK
    rw [find_put]
    by_cases e : t = s
    · subst e
      simp
    · have e2 : ¬ ((Sum.inl t : L2.Key) = Sum.inl s) := fun z => e (Sum.inl.inj z)
      rw [if_neg e2, J.lk t]
      by_cases h : t ∈ r
      · rw [if_pos h, if_pos (List.mem_cons_of_mem _ h), List.idxOf_cons, show (s == t) = false by simpa using fun z => e z.symm]
        simp
        omega
      · rw [if_neg h, if_neg (by simp [e, h])]
  · unfold nxK
    have := J.kl
    split
    · rw [List.length_map, List.length_cons]; omega
    · rw [List.length_append]; simp; omega
theorem DJ.all (xs : List Int) : ∃ kvs, DJ xs.reverse (dist xs) kvs := by
  induction xs using snoc_ind with
  | h0 => exact ⟨[], DJ.nil⟩
  | hs xs x ih =>
    obtain ⟨kvs, J⟩ := ih
    obtain ⟨J2, e⟩ := J.step x
    refine ⟨nxK xs.reverse.length kvs x, ?_⟩
    rw [dist_snoc, List.reverse_append, ← e]
    exact J2
theorem VD_dist {xs : List Int} (h : xs.length ≤ 400) : VD (dist xs) := by
  obtain ⟨kvs, J⟩ := DJ.all xs
  exact ⟨by rw [dist_len]; exact h, J.di.ok, J.di.nd⟩
/-- how many zeros -/
theorem zeros_dist (xs : List Int) : ((dist xs).filter fun e => e == 0).length = (dedup xs).length := by
  induction xs using snoc_ind with
  | h0 => rfl
  | hs xs x ih =>
    rw [dist_snoc, List.filter_append, List.length_append, ih, dedup_snoc, any_eq_mem]
    unfold dlr
    by_cases h : x ∈ xs
    · rw [if_pos (List.mem_reverse.mpr h), decide_eq_true (mem_dedup.mpr h), if_pos rfl]
      have : ((xs.reverse.idxOf x : Nat) : Int) + 1 ≠ 0 := by omega
      simp [this]
    · rw [if_neg fun z => h (List.mem_reverse.mp z), decide_eq_false fun z => h (mem_dedup.mp z)]
      simp
end DL

/-! SPG: what the defs of the spring laws mean (facts, distances, draws). -/
namespace SPG
open PySem DL
abbrev g_DIFFERENT : D := .str "different"
abbrev g_EQUIVALENT : D := .str "equivalent"
abbrev g_MAX_POSITIONS : D := .int 400
abbrev g_SAME : D := .str "same"
abbrev g_WINDOW : D := .str "window"
def w__law_spring : Fn := fnWo 1 4
    (gSeq (gAsg (eC (.int 0)) (gtName 1))
    (gSeq (gAsg (eC (.int 88651)) (gtName 2))
    (gSeq (gFor (iSeq (eSl (eVar 0) oNone (oSome (eC (.int 63))))) (gtName 3) (gSeq (gIf (tE (eBin dGe (eFn fAbs (aCons (eVar 3) aNil)) (eBin dPow (eC (.int 10)) (eC (.int 18))))) (gAsg (eBin dAdd (eBin dMul (eVar 1) (eBin dPow (eC (.int 10)) (eC (.int 60)))) (eBin dMod (eFn fAbs (aCons (eVar 3) aNil)) (eBin dPow (eC (.int 10)) (eC (.int 60))))) (gtName 1)) gNext)
    (gAsg (eBin dMod (eBin dAdd (eBin dAdd (eBin dMul (eVar 2) (eC (.int 69069))) (eBin dMod (eVar 3) (eC (.int 2305843009213693921)))) (eC (.int 7))) (eC (.int 2305843009213693951))) (gtName 2))))
    (gRet (eLst (aCons (eVar 1) (aCons (eVar 2) (aCons (eC (.int 0)) aNil))))))))
def w__law_draw : Fn := fnW 2 4
    (gSeq (gIf (tE (eBin dGt (eSpr (eVar 0) 0) (eC (.int 0)))) (gSeq (gAsg (eBin dMod (eSpr (eVar 0) 0) (eVar 1)) (gtName 2))
    (gSeq (gSprPut (eVar 0) 0 (eBin dDiv (eSpr (eVar 0) 0) (eVar 1)))
    (gRet (eVar 2)))) gNext)
    (gSeq (gSprPut (eVar 0) 2 (eBin dAdd (eSpr (eVar 0) 2) (eC (.int 1))))
    (gSeq (gAsg (eBin dMod (eBin dMul (eSpr (eVar 0) 1) (eSpr (eVar 0) 1)) (eC (.int 2305843009213693951))) (gtName 3))
    (gSeq (gSprPut (eVar 0) 1 (eBin dMod (eBin dAdd (eBin dAdd (eVar 3) (eBin dMul (eBin dMul (eC (.int 7919)) (eSpr (eVar 0) 2)) (eSpr (eVar 0) 1))) (eC (.int 104729))) (eC (.int 2305843009213693951))))
    (gRet (eBin dMod (eBin dDiv (eSpr (eVar 0) 1) (eC (.int 65537))) (eVar 1)))))))
def w__law_distances : Fn := fnWo 1 5
    (gSeq (gAsg (eLst aNil) (gtName 1))
    (gSeq (gAsg (eC (.dct [])) (gtName 2))
    (gSeq (gFor (iEnum (eVar 0)) (gtTup 2 (gtCons (gtName 3) (gtCons (gtName 4) gtNil))) (gSeq (gOwn 1 isLst oAppend (aCons (eBin dSub (eVar 3) (eGet2 (eVar 2) (eVar 4) (eVar 3))) aNil))
    (gDPut 2 (eVar 3) (eVar 4))))
    (gRet (eVar 1)))))
def w__law_window : Fn := fnW 3 3
    (gRet (eCallP w__law_distances (aDef (aCons (eSl (eVar 0) (oSome (eVar 1)) (oSome (eBin dAdd (eVar 1) (eVar 2)))) aNil) [])))
def w__law_fact_w : WS :=
    (gSeq (gAsg (eBin dAdd (eC (.int 1)) (eCall w__law_draw (aDef (aCons (eVar 0) (aCons (eBin dIx (eLst (aCons (eBin dSub (eVar 2) (eVar 3)) (aCons (eFn fMin (aCons (eC (.int 5)) (aCons (eBin dSub (eVar 2) (eVar 3)) aNil))) aNil))) (eFn fMin (aCons (eC (.int 1)) (aCons (eCall w__law_draw (aDef (aCons (eVar 0) (aCons (eC (.int 3)) aNil)) [])) aNil)))) aNil)) []))) (gtName 6))
    (gRet (eTup (aCons (eC (.str "window")) (aCons (eVar 3) (aCons (eCallP w__law_window (aDef (aCons (eVar 1) (aCons (eVar 3) (aCons (eVar 6) aNil))) [])) aNil))))))
def w__law_fact : Fn := fnW 2 9
    (gSeq (gAsg (eFn fLen (aCons (eVar 1) aNil)) (gtName 2))
    (gSeq (gPar 3 4 (aCons (eCall w__law_draw (aDef (aCons (eVar 0) (aCons (eVar 2) aNil)) [])) (aCons (eCall w__law_draw (aDef (aCons (eVar 0) (aCons (eVar 2) aNil)) [])) aNil)))
    (gSeq (gAsg (eCall w__law_draw (aDef (aCons (eVar 0) (aCons (eC (.int 5)) aNil)) [])) (gtName 5))
    (gSeq (gIf (tAnd (tE (eBin dLt (eVar 5) (eC (.int 2)))) (tE (eBin dNe (eVar 3) (eVar 4)))) (gRet (eTup (aCons (eBin dIx (eLst (aCons (eC (.str "different")) (aCons (eC (.str "same")) aNil))) (eFn fInt (aCons (eBin dEq (eBin dIx (eVar 1) (eVar 3)) (eBin dIx (eVar 1) (eVar 4))) aNil))) (aCons (eVar 3) (aCons (eVar 4) aNil))))) gNext)
    (gSeq (gIf (tAnd (tE (eBin dLt (eVar 5) (eC (.int 4)))) (tE (eBin dNe (eVar 3) (eVar 4)))) (gSeq (gAsg (eC (.int 1)) (gtName 6))
    (gSeq (gAsg (eBin dSub (eVar 2) (eFn fMax (aCons (eVar 3) (aCons (eVar 4) aNil)))) (gtName 7))
    (gSeq (gFor (iRng2 (eC (.int 2)) (eBin dAdd (eVar 7) (eC (.int 1)))) (gtName 8) (gIf (tE (eBin dEq (eCallP w__law_window (aDef (aCons (eVar 1) (aCons (eVar 3) (aCons (eVar 8) aNil))) [])) (eCallP w__law_window (aDef (aCons (eVar 1) (aCons (eVar 4) (aCons (eVar 8) aNil))) [])))) (gAsg (eVar 8) (gtName 6)) gNext))
    (gSeq (gIf (tE (eBin dEq (eCall w__law_draw (aDef (aCons (eVar 0) (aCons (eC (.int 2)) aNil)) [])) (eC (.int 0)))) (gAsg (eBin dAdd (eC (.int 1)) (eCall w__law_draw (aDef (aCons (eVar 0) (aCons (eVar 6) aNil)) []))) (gtName 6)) gNext)
    (gRet (eTup (aCons (eC (.str "equivalent")) (aCons (eVar 3) (aCons (eVar 4) (aCons (eVar 6) aNil)))))))))) gNext)
    w__law_fact_w)))))
def w_is_integer_facts : Fn := fnW 3 3
    (gRet (eAnd (eIsI [.int] (eVar 0)) (eAnd (eNot (eIsI [.bool] (eVar 0))) (eChain dLe dLe (eVar 1) (eVar 0) (eVar 2)))))
def w_is_sequence_distances : Fn := fnW 1 1
    (gRet (eIsI [.list, .tuple] (eVar 0)))
def w_is_integer_distances : Fn := fnW 3 3
    (gSeq (gIf (tOr (tNot (tE (eIsI [.int] (eVar 0)))) (tE (eIsI [.bool] (eVar 0)))) (gRet (eC (.bl false))) gNext)
    (gRet (eAnd (eBin dGe (eVar 0) (eVar 1)) (eOr (eBin dIs (eVar 2) (eC .non)) (eBin dLe (eVar 0) (eVar 2))))))
def w_is_distances : Fn := fnW 1 4
    (gSeq (gIf (tOr (tNot (tE (eCallP w_is_sequence_distances (aDef (aCons (eVar 0) aNil) [])))) (tE (eBin dGt (eFn fLen (aCons (eVar 0) aNil)) (eC g_MAX_POSITIONS)))) (gRet (eC (.bl false))) gNext)
    (gSeq (gIf (tNot (tE (eFn fAll (aCons (eLc (iEnum (eVar 0)) [2, 3] (gtTup 2 (gtCons (gtName 2) (gtCons (gtName 3) gtNil))) tYes (eCallP w_is_integer_distances (aDef (aCons (eVar 3) (aCons (eC (.int 0)) (aCons (eVar 2) aNil))) []))) aNil)))) (gRet (eC (.bl false))) gNext)
    (gSeq (gAsg (eLc (iEnum (eVar 0)) [2, 3] (gtTup 2 (gtCons (gtName 2) (gtCons (gtName 3) gtNil))) (tE (eBin dGt (eVar 3) (eC (.int 0)))) (eBin dSub (eVar 2) (eVar 3))) (gtName 1))
    (gRet (eBin dEq (eUn dLenSet (eVar 1)) (eFn fLen (aCons (eVar 1) aNil)))))))
def w_is_sequence_facts : Fn := fnW 1 1
    (gRet (eIsI [.list, .tuple] (eVar 0)))
def w_are_two_positions : Fn := fnW 3 3
    (gRet (eAnd (eCallP w_is_integer_facts (aDef (aCons (eVar 1) (aCons (eC (.int 0)) (aCons (eBin dSub (eVar 0) (eC (.int 1))) aNil))) [])) (eAnd (eCallP w_is_integer_facts (aDef (aCons (eVar 2) (aCons (eC (.int 0)) (aCons (eBin dSub (eVar 0) (eC (.int 1))) aNil))) [])) (eBin dNe (eVar 1) (eVar 2)))))
def w_is_fact_of : Fn := fnW 2 2
    (gSeq (gIf (tOr (tNot (tE (eCallP w_is_sequence_facts (aDef (aCons (eVar 1) aNil) [])))) (tOr (tE (eBin dLt (eFn fLen (aCons (eVar 1) aNil)) (eC (.int 3)))) (tNot (tE (eIsI [.str] (eBin dIx (eVar 1) (eC (.int 0)))))))) (gRet (eC (.bl false))) gNext)
    (gSeq (gIf (tE (eBin dInT (eBin dIx (eVar 1) (eC (.int 0))) (eTup (aCons (eC g_SAME) (aCons (eC g_DIFFERENT) aNil))))) (gRet (eAnd (eBin dEq (eFn fLen (aCons (eVar 1) aNil)) (eC (.int 3))) (eCallP w_are_two_positions (aDef (aCons (eVar 0) (aCons (eBin dIx (eVar 1) (eC (.int 1))) (aCons (eBin dIx (eVar 1) (eC (.int 2))) aNil))) [])))) gNext)
    (gSeq (gIf (tE (eBin dEq (eBin dIx (eVar 1) (eC (.int 0))) (eC g_EQUIVALENT))) (gSeq (gIf (tOr (tE (eBin dNe (eFn fLen (aCons (eVar 1) aNil)) (eC (.int 4)))) (tNot (tE (eCallP w_are_two_positions (aDef (aCons (eVar 0) (aCons (eBin dIx (eVar 1) (eC (.int 1))) (aCons (eBin dIx (eVar 1) (eC (.int 2))) aNil))) []))))) (gRet (eC (.bl false))) gNext)
    (gRet (eCallP w_is_integer_facts (aDef (aCons (eBin dIx (eVar 1) (eC (.int 3))) (aCons (eC (.int 1)) (aCons (eBin dSub (eVar 0) (eFn fMax (aCons (eBin dIx (eVar 1) (eC (.int 1))) (aCons (eBin dIx (eVar 1) (eC (.int 2))) aNil)))) aNil))) [])))) gNext)
    (gSeq (gIf (tOr (tE (eBin dNe (eBin dIx (eVar 1) (eC (.int 0))) (eC g_WINDOW))) (tOr (tE (eBin dNe (eFn fLen (aCons (eVar 1) aNil)) (eC (.int 3)))) (tNot (tE (eCallP w_is_integer_facts (aDef (aCons (eBin dIx (eVar 1) (eC (.int 1))) (aCons (eC (.int 0)) (aCons (eBin dSub (eVar 0) (eC (.int 1))) aNil))) [])))))) (gRet (eC (.bl false))) gNext)
    (gRet (eAnd (eCallP w_is_distances (aDef (aCons (eBin dIx (eVar 1) (eC (.int 2))) aNil) [])) (eChain dLe dLe (eC (.int 1)) (eFn fLen (aCons (eBin dIx (eVar 1) (eC (.int 2))) aNil)) (eBin dSub (eVar 0) (eBin dIx (eVar 1) (eC (.int 1)))))))))))
def w__law_dressed_facts : Fn := fnW 2 5
    (gSeq (gAsg (eLst aNil) (gtName 2))
    (gSeq (gFor (iSeq (eVar 1)) (gtName 3) (gDrop [4] (gSeq (gAsg (eFn fList (aCons (eVar 3) aNil)) (gtName 4))
    (gSeq (gIf (tAnd (tE (eBin dEq (eBin dIx (eVar 3) (eC (.int 0))) (eC (.str "window")))) (tE (eBin dEq (eCall w__law_draw (aDef (aCons (eVar 0) (aCons (eC (.int 2)) aNil)) [])) (eC (.int 0))))) (gLPut 4 (eFn fTup (aCons (eBin dIx (eVar 4) (eC (.int 2))) aNil)) (eC (.int 2))) gNext)
    (gOwn 2 isLst oAppend (aCons (eIf (tE (eBin dEq (eCall w__law_draw (aDef (aCons (eVar 0) (aCons (eC (.int 2)) aNil)) [])) (eC (.int 0)))) (eVar 4) (eFn fTup (aCons (eVar 4) aNil))) aNil))))))
    (gRet (eIf (tE (eBin dEq (eCall w__law_draw (aDef (aCons (eVar 0) (aCons (eC (.int 2)) aNil)) [])) (eC (.int 0)))) (eVar 2) (eFn fTup (aCons (eVar 2) aNil))))))
def w__law_no_distances : Fn := fnW 1 2
    (gSeq (gAsg (eLst (aCons (eC .non) (aCons (eC (.int 0)) (aCons (eC (.str "0 0")) (aCons (eC (.dct [])) (aCons (eLst (aCons (eC (.int 1)) aNil)) (aCons (eLst (aCons (eC (.int 0)) (aCons (eC (.int 2)) aNil))) (aCons (eLst (aCons (eC (.int 0)) (aCons (eC (.int 0)) (aCons (eC (.int 1)) (aCons (eC (.int 2)) aNil))))) (aCons (eLst (aCons (eC (.int 0)) (aCons (eC (.int 1)) (aCons (eC (.int 2)) aNil)))) (aCons (eLst (aCons (eC (.int 0)) (aCons (eUn dNeg (eC (.int 1))) aNil))) (aCons (eLst (aCons (eC (.int 0)) (aCons (eC (.bl true)) aNil))) aNil))))))))))) (gtName 1))
    (gSeq (gAsg (eBin dAdd (eVar 1) (eLst (aCons (eLst (aCons (eC (.int 0)) (aCons (eC .non) aNil))) (aCons (eLst (aCons (eC (.int 0)) (aCons (eC (.str "1")) aNil))) (aCons (eC (.bl true)) (aCons (eLst (aCons (eLst (aCons (eC (.int 0)) aNil)) aNil)) (aCons (eTup (aCons (eC (.int 0)) (aCons (eC (.int 3)) aNil))) (aCons (eLst (aCons (eC (.bl false)) aNil)) (aCons (eLst (aCons (eC (.int 0)) (aCons (eC (.int 0)) (aCons (eC (.int 0)) (aCons (eC (.int 2)) (aCons (eC (.int 3)) aNil)))))) (aCons (eLst (aCons (eC (.str "0")) aNil)) (aCons (eBin dMul (eLst (aCons (eC (.int 0)) aNil)) (eC (.int 401))) (aCons (eTup (aCons (eC (.int 1)) aNil)) aNil)))))))))))) (gtName 1))
    (gRet (eBin dIx (eVar 1) (eCall w__law_draw (aDef (aCons (eVar 0) (aCons (eC (.int 20)) aNil)) []))))))
def ws__law_same (r : Fn) : Fn := fnW 2 3
    (gSeq (gIf (tE (eIsI [.list, .tuple] (eVar 1))) (gSeq (gIf (tOr (tE (eBin dNe (eIsI [.list] (eVar 0)) (eIsI [.list] (eVar 1)))) (tE (eBin dNe (eIsI [.tuple] (eVar 0)) (eIsI [.tuple] (eVar 1))))) (gRet (eC (.bl false))) gNext)
    (gRet (eAnd (eBin dEq (eFn fLen (aCons (eVar 0) aNil)) (eFn fLen (aCons (eVar 1) aNil))) (eFn fAll (aCons (eLc (iRng1 (eFn fLen (aCons (eVar 1) aNil))) [2] (gtName 2) tYes (eCallP r (aDef (aCons (eBin dIx (eVar 0) (eVar 2)) (aCons (eBin dIx (eVar 1) (eVar 2)) aNil)) []))) aNil))))) gNext)
    (gSeq (gIf (tOr (tE (eBin dIs (eVar 1) (eC .non))) (tE (eBin dIs (eVar 0) (eC .non)))) (gRet (eAnd (eBin dIs (eVar 1) (eC .non)) (eBin dIs (eVar 0) (eC .non)))) gNext)
    (gSeq (gIf (tOr (tE (eBin dNe (eIsI [.bool] (eVar 1)) (eIsI [.bool] (eVar 0)))) (tE (eBin dNe (eIsI [.str] (eVar 1)) (eIsI [.str] (eVar 0))))) (gRet (eC (.bl false))) gNext)
    (gRet (eBin dEq (eVar 0) (eVar 1))))))
def w__law_same : Nat → Fn
  | 0 => fun _ _ _ _ => False
  | n + 1 => ws__law_same (w__law_same n)
def w__law_is_index : Fn := fnW 2 2
    (gRet (eAnd (eIsI [.int] (eVar 0)) (eAnd (eNot (eIsI [.bool] (eVar 0))) (eChain dLe dLe (eC (.int 0)) (eVar 0) (eVar 1)))))
def w__law_is_list : Fn := fnW 2 5
    (gSeq (gIf (tOr (tNot (tE (eIsI [.list, .tuple] (eVar 0)))) (tNot (tE (eChain dLe dLe (eC (.int 1)) (eFn fLen (aCons (eVar 0) aNil)) (eVar 1))))) (gRet (eC (.bl false))) gNext)
    (gSeq (gIf (tE (eBin dNe0 (eLc (iEnum (eVar 0)) [3, 4] (gtTup 2 (gtCons (gtName 3) (gtCons (gtName 4) gtNil))) (tNot (tE (eCallP w__law_is_index (aDef (aCons (eVar 4) (aCons (eVar 3) aNil)) [])))) (eC (.int 1))) (eLst aNil))) (gRet (eC (.bl false))) gNext)
    (gSeq (gAsg (eLc (iEnum (eVar 0)) [3, 4] (gtTup 2 (gtCons (gtName 3) (gtCons (gtName 4) gtNil))) (tE (eBin dGt (eVar 4) (eC (.int 0)))) (eBin dSub (eVar 3) (eVar 4))) (gtName 2))
    (gRet (eBin dEq (eUn dLenSet (eVar 2)) (eFn fLen (aCons (eVar 2) aNil)))))))
def w__law_due : Fn := fnW 2 4
    (gSeq (gIf (tOr (tNot (tE (eIsI [.list, .tuple] (eVar 1)))) (tE (eBin dLt (eFn fLen (aCons (eVar 1) aNil)) (eC (.int 3))))) (gRet (eC (.bl false))) gNext)
    (gSeq (gAsg (eBin dIx (eVar 1) (eC (.int 0))) (gtName 2))
    (gSeq (gIf (tE (eBin dEqX (eVar 2) (eC (.str "window")))) (gSeq (gIf (tOr (tE (eBin dNe (eFn fLen (aCons (eVar 1) aNil)) (eC (.int 3)))) (tNot (tE (eCallP w__law_is_index (aDef (aCons (eBin dIx (eVar 1) (eC (.int 1))) (aCons (eBin dSub (eVar 0) (eC (.int 1))) aNil)) []))))) (gRet (eC (.bl false))) gNext)
    (gRet (eCallP w__law_is_list (aDef (aCons (eBin dIx (eVar 1) (eC (.int 2))) (aCons (eBin dSub (eVar 0) (eBin dIx (eVar 1) (eC (.int 1)))) aNil)) [])))) gNext)
    (gSeq (gIf (tOr (tE (eBin dNe0 (eLc (iSeq (eSlX (eVar 1) (oSome (eC (.int 1))) (oSome (eC (.int 3))))) [3] (gtName 3) (tNot (tE (eCallP w__law_is_index (aDef (aCons (eVar 3) (aCons (eBin dSub (eVar 0) (eC (.int 1))) aNil)) [])))) (eVar 3)) (eLst aNil))) (tE (eBin dEq (eBin dIx (eVar 1) (eC (.int 1))) (eBin dIx (eVar 1) (eC (.int 2)))))) (gRet (eC (.bl false))) gNext)
    (gSeq (gIf (tE (eBin dInT (eVar 2) (eTup (aCons (eC (.str "same")) (aCons (eC (.str "different")) aNil))))) (gRet (eBin dEq (eFn fLen (aCons (eVar 1) aNil)) (eC (.int 3)))) gNext)
    (gSeq (gIf (tOr (tE (eBin dNeX (eVar 2) (eC (.str "equivalent")))) (tOr (tE (eBin dNe (eFn fLen (aCons (eVar 1) aNil)) (eC (.int 4)))) (tNot (tE (eCallP w__law_is_index (aDef (aCons (eBin dIx (eVar 1) (eC (.int 3))) (aCons (eVar 0) aNil)) [])))))) (gRet (eC (.bl false))) gNext)
    (gRet (eChain dLe dLe (eC (.int 1)) (eBin dIx (eVar 1) (eC (.int 3))) (eBin dSub (eVar 0) (eFn fMax (aCons (eBin dIx (eVar 1) (eC (.int 1))) (aCons (eBin dIx (eVar 1) (eC (.int 2))) aNil))))))))))))

/-! ### plain values -/
mutual
def pl : D → Bool
  | .non => true | .bl _ => true | .int _ => true | .str _ => true
  | .lst xs => pls xs | .tup xs => pls xs
  | .dct [] => true
  | _ => false
def pls : List D → Bool
  | [] => true
  | x :: xs => pl x && pls xs
end
theorem pls_iff : ∀ {xs : List D}, pls xs = true ↔ ∀ x ∈ xs, pl x = true
  | [] => by simp [pls]
  | x :: xs => by simp [pls, pls_iff (xs := xs)]
mutual
theorem pl_rp : ∀ {d : D}, pl d = true → rpD d = true
  | .non, _ => rfl
  | .bl _, _ => rfl
  | .int _, _ => rfl
  | .str _, _ => rfl
  | .lst xs, h => by rw [rpD]; exact pls_rp (by simpa [pl] using h)
  | .tup xs, h => by rw [rpD]; exact pls_rp (by simpa [pl] using h)
  | .dct [], _ => rfl
  | .dct (_ :: _), h => by simp [pl] at h
  | .dcT _, h => by simp [pl] at h
  | .obj _, h => by simp [pl] at h
  | .scr _, h => by simp [pl] at h
theorem pls_rp : ∀ {ds : List D}, pls ds = true → rpDs ds = true
  | [], _ => rfl
  | x :: xs, h => by
    have h' : pl x = true ∧ pls xs = true := by simpa [pls] using h
    simp [rpDs, pl_rp h'.1, pls_rp h'.2]
end
theorem pl_any {d : D} (h : pl d = true) : anyK d = true := by cases d <;> simp_all [pl, anyK]
def isSq : D → Option (List D)
  | .lst xs => some xs
  | .tup xs => some xs
  | _ => none
section
variable {d : D} {xs : List D}
theorem sq_cases (h : isSq d = some xs) : d = .lst xs ∨ d = .tup xs := by cases d <;> simp_all [isSq]
theorem sq_pl (h : isSq d = some xs) (hp : pl d = true) : ∀ x ∈ xs, pl x = true := by
  rcases sq_cases h with rfl | rfl <;> exact pls_iff.mp (by simpa [pl] using hp)
theorem dLen_sq (h : isSq d = some xs) : dLen d = some (.int (xs.length : Int)) := by rcases sq_cases h with rfl | rfl <;> rfl
theorem items_sq (h : isSq d = some xs) : itemsOf d = some xs := by rcases sq_cases h with rfl | rfl <;> rfl
theorem dIx_sq {k : Nat} {z : D} (h : isSq d = some xs) (hz : xs[k]? = some z) : dIx d (.int (k : Int)) = some z := by rcases sq_cases h with rfl | rfl <;> exact atI_nat hz
theorem dIx0 {a : D} {r : List D} (h : isSq d = some (a :: r)) : dIx d (.int 0) = some a := dIx_sq (k := 0) h rfl
theorem dIx1 {a b : D} {r : List D} (h : isSq d = some (a :: b :: r)) : dIx d (.int 1) = some b := dIx_sq (k := 1) h rfl
theorem dIx2 {a b c : D} {r : List D} (h : isSq d = some (a :: b :: c :: r)) : dIx d (.int 2) = some c := dIx_sq (k := 2) h rfl
theorem dIx3 {a b c e : D} {r : List D} (h : isSq d = some (a :: b :: c :: e :: r)) : dIx d (.int 3) = some e := dIx_sq (k := 3) h rfl
theorem isAny_sq (h : pl d = true) : dIsAny d [.list, .tuple] = some (isSq d).isSome := by cases d <;> simp_all [pl, dIsAny, dIsI, isSq]
theorem fLen_sq (h : isSq d = some xs) : fLen [d] = some (.int (xs.length : Int)) := dLen_sq h
end
/-- an int within bounds, no bool -/
def isIx (lo hi : Int) : D → Bool
  | .int i => decide (lo ≤ i) && decide (i ≤ hi)
  | _ => false
theorem isIx_int {lo hi : Int} {v : D} (h : isIx lo hi v = true) : ∃ i, v = .int i ∧ lo ≤ i ∧ i ≤ hi := by
  cases v <;> simp_all [isIx]
section
variable {S : Sto} {P : D → Sto → Prop} {R : RX} {v d : D} {lo hi : Int}
theorem p_is_integer_facts (hv : pl v = true) (h : P (.bl (isIx lo hi v)) S) : w_is_integer_facts [v, .int lo, .int hi] S P R := by
  simp only [w_is_integer_facts, gSeq, gRet, gRetN, gExpr, gAsg, gIf, gNext, gKill, gDrop, gBrk, gCnt, gNever, gFor, gAug, gOwn, gPut, gDPut, gSprPut, gObjPut, gPar, eObj, eRev, gtName, gtTup, gtCons, gtNil, seqOf, eC, eVar, eUn, eBin, eChain, eAnd, eOr, eNot, eOrT, eIf, tE, tTru, DL.tAnd, DL.tOr, DL.tNot, DL.tYes, aNil, aCons, eLst, eTup, eCall, eCallP, eCallB, aDef, eFn, eIsI, eMt, eGet2, eSpr, oNone, oSome, eSl, eSlX, eSlN, gLPut, gTPut, gOwnAsg, gObjApp, gObjIns, eNewObj, eObjPop, eObjR, eObjL, eObjLen, eObjEnd, eSort, eSortSet, eLstRg, gPar0, sIn, eLc, iSeq, DL.iRng1, DL.iRng2, DL.iEnum, DL.iZip, DL.iStr, killL, fnW, fnWo, eIsE, gTry, gRaise, eJn, eNever, tNever, List.getElem?_cons_zero, List.getElem?_cons_succ, List.set_cons_zero, List.set_cons_succ, List.map_cons, List.map_nil, List.cons_append, List.nil_append, List.append_nil, List.replicate_succ, List.replicate_zero, List.length_cons, List.length_nil, List.foldl_cons, List.foldl_nil, Nat.zero_add, Nat.reduceAdd, Nat.reduceSub, ex_some, ex_bl, ex_int, ex_obj, ex_str, ex_lst, ex_cons, true_and, and_true, dAdd_int, dSub_int, dCmp_int, dNeg_int, Option.some.injEq, exists_eq_left', exists_eq_left]
  cases v with
  | int i => 
    simp only [dIsAny, dIsI, Option.bind_some, List.getElem?_cons_zero, List.getElem?_cons_succ, List.set_cons_zero, List.set_cons_succ, List.map_cons, List.map_nil, List.cons_append, List.nil_append, List.append_nil, List.replicate_succ, List.replicate_zero, List.length_cons, List.length_nil, List.foldl_cons, List.foldl_nil, Nat.zero_add, Nat.reduceAdd, Nat.reduceSub, ex_some, ex_bl, ex_int, ex_obj, ex_str, ex_lst, ex_cons, true_and, and_true, dAdd_int, dSub_int, dCmp_int, dNeg_int, Option.some.injEq, exists_eq_left', exists_eq_left, if_true, Bool.false_eq_true, if_false, Bool.not_false, isIx] at h ⊢
    by_cases h1 : lo ≤ i
    · simpa [h1] using h
    · simpa [h1] using h
  | _ => simp_all [dIsAny, dIsI, isIx, pl]
theorem p_is_integer_distances (hv : pl v = true) (h : P (.bl (isIx lo hi v)) S) : w_is_integer_distances [v, .int lo, .int hi] S P R := by
  simp only [w_is_integer_distances, gSeq, gRet, gRetN, gExpr, gAsg, gIf, gNext, gKill, gDrop, gBrk, gCnt, gNever, gFor, gAug, gOwn, gPut, gDPut, gSprPut, gObjPut, gPar, eObj, eRev, gtName, gtTup, gtCons, gtNil, seqOf, eC, eVar, eUn, eBin, eChain, eAnd, eOr, eNot, eOrT, eIf, tE, tTru, DL.tAnd, DL.tOr, DL.tNot, DL.tYes, aNil, aCons, eLst, eTup, eCall, eCallP, eCallB, aDef, eFn, eIsI, eMt, eGet2, eSpr, oNone, oSome, eSl, eSlX, eSlN, gLPut, gTPut, gOwnAsg, gObjApp, gObjIns, eNewObj, eObjPop, eObjR, eObjL, eObjLen, eObjEnd, eSort, eSortSet, eLstRg, gPar0, sIn, eLc, iSeq, DL.iRng1, DL.iRng2, DL.iEnum, DL.iZip, DL.iStr, killL, fnW, fnWo, eIsE, gTry, gRaise, eJn, eNever, tNever, List.getElem?_cons_zero, List.getElem?_cons_succ, List.set_cons_zero, List.set_cons_succ, List.map_cons, List.map_nil, List.cons_append, List.nil_append, List.append_nil, List.replicate_succ, List.replicate_zero, List.length_cons, List.length_nil, List.foldl_cons, List.foldl_nil, Nat.zero_add, Nat.reduceAdd, Nat.reduceSub, ex_some, ex_bl, ex_int, ex_obj, ex_str, ex_lst, ex_cons, true_and, and_true, dAdd_int, dSub_int, dCmp_int, dNeg_int, Option.some.injEq, exists_eq_left', exists_eq_left]
  cases v with
  | int i =>
    simp only [dIsAny, dIsI, Option.bind_some, dIs, isNonD, List.getElem?_cons_zero, List.getElem?_cons_succ, List.set_cons_zero, List.set_cons_succ, List.map_cons, List.map_nil, List.cons_append, List.nil_append, List.append_nil, List.replicate_succ, List.replicate_zero, List.length_cons, List.length_nil, List.foldl_cons, List.foldl_nil, Nat.zero_add, Nat.reduceAdd, Nat.reduceSub, ex_some, ex_bl, ex_int, ex_obj, ex_str, ex_lst, ex_cons, true_and, and_true, dAdd_int, dSub_int, dCmp_int, dNeg_int, Option.some.injEq, exists_eq_left', exists_eq_left, isIx] at h ⊢
    simp
    split
    · rename_i h1; simpa [h1] using h
    · rename_i h1; simpa [h1] using h
  | _ => simp_all [dIsAny, dIsI, isIx, pl]
theorem p__law_is_index (hv : pl v = true) (h : P (.bl (isIx 0 hi v)) S) : w__law_is_index [v, .int hi] S P R := by
  simp only [w__law_is_index, gSeq, gRet, gRetN, gExpr, gAsg, gIf, gNext, gKill, gDrop, gBrk, gCnt, gNever, gFor, gAug, gOwn, gPut, gDPut, gSprPut, gObjPut, gPar, eObj, eRev, gtName, gtTup, gtCons, gtNil, seqOf, eC, eVar, eUn, eBin, eChain, eAnd, eOr, eNot, eOrT, eIf, tE, tTru, DL.tAnd, DL.tOr, DL.tNot, DL.tYes, aNil, aCons, eLst, eTup, eCall, eCallP, eCallB, aDef, eFn, eIsI, eMt, eGet2, eSpr, oNone, oSome, eSl, eSlX, eSlN, gLPut, gTPut, gOwnAsg, gObjApp, gObjIns, eNewObj, eObjPop, eObjR, eObjL, eObjLen, eObjEnd, eSort, eSortSet, eLstRg, gPar0, sIn, eLc, iSeq, DL.iRng1, DL.iRng2, DL.iEnum, DL.iZip, DL.iStr, killL, fnW, fnWo, eIsE, gTry, gRaise, eJn, eNever, tNever, List.getElem?_cons_zero, List.getElem?_cons_succ, List.set_cons_zero, List.set_cons_succ, List.map_cons, List.map_nil, List.cons_append, List.nil_append, List.append_nil, List.replicate_succ, List.replicate_zero, List.length_cons, List.length_nil, List.foldl_cons, List.foldl_nil, Nat.zero_add, Nat.reduceAdd, Nat.reduceSub, ex_some, ex_bl, ex_int, ex_obj, ex_str, ex_lst, ex_cons, true_and, and_true, dAdd_int, dSub_int, dCmp_int, dNeg_int, Option.some.injEq, exists_eq_left', exists_eq_left]
  cases v with
  | int i => 
    simp only [dIsAny, dIsI, Option.bind_some, List.getElem?_cons_zero, List.getElem?_cons_succ, List.set_cons_zero, List.set_cons_succ, List.map_cons, List.map_nil, List.cons_append, List.nil_append, List.append_nil, List.replicate_succ, List.replicate_zero, List.length_cons, List.length_nil, List.foldl_cons, List.foldl_nil, Nat.zero_add, Nat.reduceAdd, Nat.reduceSub, ex_some, ex_bl, ex_int, ex_obj, ex_str, ex_lst, ex_cons, true_and, and_true, dAdd_int, dSub_int, dCmp_int, dNeg_int, Option.some.injEq, exists_eq_left', exists_eq_left, if_true, Bool.false_eq_true, if_false, Bool.not_false, isIx] at h ⊢
    by_cases h1 : 0 ≤ i
    · simpa [h1] using h
    · simpa [h1] using h
  | _ => simp_all [dIsAny, dIsI, isIx, pl]
theorem p_is_sequence_facts (hd : pl d = true) (h : P (.bl (isSq d).isSome) S) : w_is_sequence_facts [d] S P R := by
  simp only [w_is_sequence_facts, gSeq, gRet, gRetN, gExpr, gAsg, gIf, gNext, gKill, gDrop, gBrk, gCnt, gNever, gFor, gAug, gOwn, gPut, gDPut, gSprPut, gObjPut, gPar, eObj, eRev, gtName, gtTup, gtCons, gtNil, seqOf, eC, eVar, eUn, eBin, eChain, eAnd, eOr, eNot, eOrT, eIf, tE, tTru, DL.tAnd, DL.tOr, DL.tNot, DL.tYes, aNil, aCons, eLst, eTup, eCall, eCallP, eCallB, aDef, eFn, eIsI, eMt, eGet2, eSpr, oNone, oSome, eSl, eSlX, eSlN, gLPut, gTPut, gOwnAsg, gObjApp, gObjIns, eNewObj, eObjPop, eObjR, eObjL, eObjLen, eObjEnd, eSort, eSortSet, eLstRg, gPar0, sIn, eLc, iSeq, DL.iRng1, DL.iRng2, DL.iEnum, DL.iZip, DL.iStr, killL, fnW, fnWo, eIsE, gTry, gRaise, eJn, eNever, tNever, List.getElem?_cons_zero, List.getElem?_cons_succ, List.set_cons_zero, List.set_cons_succ, List.map_cons, List.map_nil, List.cons_append, List.nil_append, List.append_nil, List.replicate_succ, List.replicate_zero, List.length_cons, List.length_nil, List.foldl_cons, List.foldl_nil, Nat.zero_add, Nat.reduceAdd, Nat.reduceSub, ex_some, ex_bl, ex_int, ex_obj, ex_str, ex_lst, ex_cons, true_and, and_true, dAdd_int, dSub_int, dCmp_int, dNeg_int, Option.some.injEq, exists_eq_left', exists_eq_left]
  rw [isAny_sq hd]
  simp only [List.getElem?_cons_zero, List.getElem?_cons_succ, List.set_cons_zero, List.set_cons_succ, List.map_cons, List.map_nil, List.cons_append, List.nil_append, List.append_nil, List.replicate_succ, List.replicate_zero, List.length_cons, List.length_nil, List.foldl_cons, List.foldl_nil, Nat.zero_add, Nat.reduceAdd, Nat.reduceSub, ex_some, ex_bl, ex_int, ex_obj, ex_str, ex_lst, ex_cons, true_and, and_true, dAdd_int, dSub_int, dCmp_int, dNeg_int, Option.some.injEq, exists_eq_left', exists_eq_left]
  exact h
theorem p_is_sequence_distances (hd : pl d = true) (h : P (.bl (isSq d).isSome) S) : w_is_sequence_distances [d] S P R := p_is_sequence_facts hd h
end

/-! ### distance lists -/
def ixAll : Nat → List D → Bool
  | _, [] => true
  | i, x :: xs => isIx 0 i x && ixAll (i + 1) xs
theorem ixAll_ints : ∀ {xs : List D} {i : Nat}, ixAll i xs = true → ∃ ns : List Int, xs = ns.map D.int
  | [], _, _ => ⟨[], rfl⟩
  | x :: xs, i, h => by
    have h' : isIx 0 i x = true ∧ ixAll (i + 1) xs = true := by simpa [ixAll] using h
    obtain ⟨k, rfl, _⟩ := isIx_int h'.1
    obtain ⟨ns, rfl⟩ := ixAll_ints h'.2
    exact ⟨k :: ns, rfl⟩
def ndT (xs : List D) : Bool := match intsOf xs with
  | some ns => decide ((dedup (tgts ns)).length = (tgts ns).length)
  | none => false
def isDs (d : D) : Bool := match isSq d with
  | none => false
  | some xs => decide (xs.length ≤ 400) && (ixAll 0 xs && ndT xs)
def enumA : Nat → List D → List (D × Nat)
  | _, [] => []
  | i, x :: xs => (x, i) :: enumA (i + 1) xs
theorem enumD_A : ∀ (xs : List D) (i : Nat), enumD i xs = (enumA i xs).map fun p => D.tup [.int (p.2 : Nat), p.1]
  | [], _ => rfl
  | x :: xs, i => by rw [enumD, enumA, List.map_cons, enumD_A xs (i + 1)]
theorem enumA_mem : ∀ {xs : List D} {i : Nat} {p : D × Nat}, p ∈ enumA i xs → p.1 ∈ xs
  | x :: xs, i, p, h => by
    rcases List.mem_cons.mp h with rfl | h
    · exact List.mem_cons_self ..
    · exact List.mem_cons_of_mem _ (enumA_mem h)
theorem enumA_len : ∀ (xs : List D) (i : Nat), (enumA i xs).length = xs.length
  | [], _ => rfl
  | x :: xs, i => by rw [enumA, List.length_cons, enumA_len xs (i + 1), List.length_cons]
theorem enumA_all : ∀ (xs : List D) (i : Nat), ((enumA i xs).map fun p => isIx 0 (p.2 : Nat) p.1).all id = ixAll i xs
  | [], _ => rfl
  | x :: xs, i => by rw [enumA, List.map_cons, List.all_cons, enumA_all xs (i + 1), ixAll]; rfl
section
variable {S : Sto} {P : D → Sto → Prop} {R : RX} {d : D}
theorem p_is_distances (hd : pl d = true) (h : P (.bl (isDs d)) S) : w_is_distances [d] S P R := by
  simp only [w_is_distances, gSeq, gRet, gRetN, gExpr, gAsg, gIf, gNext, gKill, gDrop, gBrk, gCnt, gNever, gFor, gAug, gOwn, gPut, gDPut, gSprPut, gObjPut, gPar, eObj, eRev, gtName, gtTup, gtCons, gtNil, seqOf, eC, eVar, eUn, eBin, eChain, eAnd, eOr, eNot, eOrT, eIf, tE, tTru, DL.tAnd, DL.tOr, DL.tNot, DL.tYes, aNil, aCons, eLst, eTup, eCall, eCallP, eCallB, aDef, eFn, eIsI, eMt, eGet2, eSpr, oNone, oSome, eSl, eSlX, eSlN, gLPut, gTPut, gOwnAsg, gObjApp, gObjIns, eNewObj, eObjPop, eObjR, eObjL, eObjLen, eObjEnd, eSort, eSortSet, eLstRg, gPar0, sIn, eLc, iSeq, DL.iRng1, DL.iRng2, DL.iEnum, DL.iZip, DL.iStr, killL, fnW, fnWo, eIsE, gTry, gRaise, eJn, eNever, tNever, List.getElem?_cons_zero, List.getElem?_cons_succ, List.set_cons_zero, List.set_cons_succ, List.map_cons, List.map_nil, List.cons_append, List.nil_append, List.append_nil, List.replicate_succ, List.replicate_zero, List.length_cons, List.length_nil, List.foldl_cons, List.foldl_nil, Nat.zero_add, Nat.reduceAdd, Nat.reduceSub, ex_some, ex_bl, ex_int, ex_obj, ex_str, ex_lst, ex_cons, true_and, and_true, dAdd_int, dSub_int, dCmp_int, dNeg_int, Option.some.injEq, exists_eq_left', exists_eq_left]
  refine p_is_sequence_distances hd ?_
  simp only [List.getElem?_cons_zero, List.getElem?_cons_succ, List.set_cons_zero, List.set_cons_succ, List.map_cons, List.map_nil, List.cons_append, List.nil_append, List.append_nil, List.replicate_succ, List.replicate_zero, List.length_cons, List.length_nil, List.foldl_cons, List.foldl_nil, Nat.zero_add, Nat.reduceAdd, Nat.reduceSub, ex_some, ex_bl, ex_int, ex_obj, ex_str, ex_lst, ex_cons, true_and, and_true, dAdd_int, dSub_int, dCmp_int, dNeg_int, Option.some.injEq, exists_eq_left', exists_eq_left]
  cases hs : isSq d with
  | none => simpa [isDs, hs] using h
  | some xs =>
    have hl := dLen_sq hs
    have hi := items_sq hs
    simp only [fLen, hl, hi, List.getElem?_cons_zero, List.getElem?_cons_succ, List.set_cons_zero, List.set_cons_succ, List.map_cons, List.map_nil, List.cons_append, List.nil_append, List.append_nil, List.replicate_succ, List.replicate_zero, List.length_cons, List.length_nil, List.foldl_cons, List.foldl_nil, Nat.zero_add, Nat.reduceAdd, Nat.reduceSub, ex_some, ex_bl, ex_int, ex_obj, ex_str, ex_lst, ex_cons, true_and, and_true, dAdd_int, dSub_int, dCmp_int, dNeg_int, Option.some.injEq, exists_eq_left', exists_eq_left, Option.isSome_some, Bool.not_true, Bool.false_eq_true, if_false]
    by_cases hn : xs.length ≤ 400
    · have hn2 : ¬ (400 : Int) < (xs.length : Int) := by omega
      have hline := line_eq
      simp only [decide_eq_false hn2, Bool.false_eq_true, if_false]
      rw [enumD_A, List.length_map, enumA_len]
      refine ⟨by omega, ?_⟩
      refine lcL_mapOf _ (fun p => .bl (isIx 0 (p.2 : Nat) p.1)) (fun p hp Q hQ => ?_) ?_
      · simp only [gSeq, gRet, gRetN, gExpr, gAsg, gIf, gNext, gKill, gDrop, gBrk, gCnt, gNever, gFor, gAug, gOwn, gPut, gDPut, gSprPut, gObjPut, gPar, eObj, eRev, gtName, gtTup, gtCons, gtNil, seqOf, eC, eVar, eUn, eBin, eChain, eAnd, eOr, eNot, eOrT, eIf, tE, tTru, DL.tAnd, DL.tOr, DL.tNot, DL.tYes, aNil, aCons, eLst, eTup, eCall, eCallP, eCallB, aDef, eFn, eIsI, eMt, eGet2, eSpr, oNone, oSome, eSl, eSlX, eSlN, gLPut, gTPut, gOwnAsg, gObjApp, gObjIns, eNewObj, eObjPop, eObjR, eObjL, eObjLen, eObjEnd, eSort, eSortSet, eLstRg, gPar0, sIn, eLc, iSeq, DL.iRng1, DL.iRng2, DL.iEnum, DL.iZip, DL.iStr, killL, fnW, fnWo, eIsE, gTry, gRaise, eJn, eNever, tNever, List.getElem?_cons_zero, List.getElem?_cons_succ, List.set_cons_zero, List.set_cons_succ, List.map_cons, List.map_nil, List.cons_append, List.nil_append, List.append_nil, List.replicate_succ, List.replicate_zero, List.length_cons, List.length_nil, List.foldl_cons, List.foldl_nil, Nat.zero_add, Nat.reduceAdd, Nat.reduceSub, ex_some, ex_bl, ex_int, ex_obj, ex_str, ex_lst, ex_cons, true_and, and_true, dAdd_int, dSub_int, dCmp_int, dNeg_int, Option.some.injEq, exists_eq_left', exists_eq_left]
        exact p_is_integer_distances (sq_pl hs hd _ (enumA_mem hp)) hQ
      rw [List.nil_append]
      simp only [fAll, boolsOf_mapOf, Option.map_some, List.getElem?_cons_zero, List.getElem?_cons_succ, List.set_cons_zero, List.set_cons_succ, List.map_cons, List.map_nil, List.cons_append, List.nil_append, List.append_nil, List.replicate_succ, List.replicate_zero, List.length_cons, List.length_nil, List.foldl_cons, List.foldl_nil, Nat.zero_add, Nat.reduceAdd, Nat.reduceSub, ex_some, ex_bl, ex_int, ex_obj, ex_str, ex_lst, ex_cons, true_and, and_true, dAdd_int, dSub_int, dCmp_int, dNeg_int, Option.some.injEq, exists_eq_left', exists_eq_left]
      rw [enumA_all]
      cases ha : ixAll 0 xs with
      | false =>
        simp only [Bool.not_false, if_true]
        simpa [isDs, hs, hn, ha] using h
      | true =>
        simp only [Bool.not_true, Bool.false_eq_true, if_false]
        obtain ⟨ns, rfl⟩ := ixAll_ints ha
        rw [← enumD_A, enumD_Z]
        rw [List.length_map] at hn
        refine ⟨by omega, ?_⟩
        refine lcL_filterOf _ (fun p => decide (0 < p.2)) (fun p => .int (p.1 - p.2)) (fun p hp Q N h1 h2 => ?_) ?_
        · simp only [gSeq, gRet, gRetN, gExpr, gAsg, gIf, gNext, gKill, gDrop, gBrk, gCnt, gNever, gFor, gAug, gOwn, gPut, gDPut, gSprPut, gObjPut, gPar, eObj, eRev, gtName, gtTup, gtCons, gtNil, seqOf, eC, eVar, eUn, eBin, eChain, eAnd, eOr, eNot, eOrT, eIf, tE, tTru, DL.tAnd, DL.tOr, DL.tNot, DL.tYes, aNil, aCons, eLst, eTup, eCall, eCallP, eCallB, aDef, eFn, eIsI, eMt, eGet2, eSpr, oNone, oSome, eSl, eSlX, eSlN, gLPut, gTPut, gOwnAsg, gObjApp, gObjIns, eNewObj, eObjPop, eObjR, eObjL, eObjLen, eObjEnd, eSort, eSortSet, eLstRg, gPar0, sIn, eLc, iSeq, DL.iRng1, DL.iRng2, DL.iEnum, DL.iZip, DL.iStr, killL, fnW, fnWo, eIsE, gTry, gRaise, eJn, eNever, tNever, List.getElem?_cons_zero, List.getElem?_cons_succ, List.set_cons_zero, List.set_cons_succ, List.map_cons, List.map_nil, List.cons_append, List.nil_append, List.append_nil, List.replicate_succ, List.replicate_zero, List.length_cons, List.length_nil, List.foldl_cons, List.foldl_nil, Nat.zero_add, Nat.reduceAdd, Nat.reduceSub, ex_some, ex_bl, ex_int, ex_obj, ex_str, ex_lst, ex_cons, true_and, and_true, dAdd_int, dSub_int, dCmp_int, dNeg_int, Option.some.injEq, exists_eq_left', exists_eq_left]
          split
          · rename_i hh; exact h1 hh
          · rename_i hh; exact h2 (by simpa using hh)
        have ht : (List.map (fun p : Int × Int => D.int (p.1 - p.2)) ((enumZ 0 ns).filter fun p => decide (0 < p.2))) = (tgts ns).map D.int := by
          unfold tgts; rw [List.map_map]; rfl
        rw [List.nil_append, ht]
        have hlt : (tgts ns).length ≤ 400 := by
          unfold tgts
          rw [List.length_map]
          exact Nat.le_trans (List.length_filter_le _ _) (by rw [enumZ_len]; exact hn)
        have hset : dLenSet (.lst ((tgts ns).map D.int)) = some (.int ((dedup (tgts ns)).length : Nat)) := by
          simp only [dLenSet, intsOf_map, Option.bind_some]
          exact if_pos (by omega)
        rw [hset]
        simp only [dLen, List.length_map, List.getElem?_cons_zero, List.getElem?_cons_succ, List.set_cons_zero, List.set_cons_succ, List.map_cons, List.map_nil, List.cons_append, List.nil_append, List.append_nil, List.replicate_succ, List.replicate_zero, List.length_cons, List.length_nil, List.foldl_cons, List.foldl_nil, Nat.zero_add, Nat.reduceAdd, Nat.reduceSub, ex_some, ex_bl, ex_int, ex_obj, ex_str, ex_lst, ex_cons, true_and, and_true, dAdd_int, dSub_int, dCmp_int, dNeg_int, Option.some.injEq, exists_eq_left', exists_eq_left, dEq_int]
        have e : isDs d = ((((dedup (tgts ns)).length : Nat) : Int) == (((tgts ns).length : Nat) : Int)) := by
          simp only [isDs, hs, List.length_map, hn, ha, ndT, intsOf_map, decide_true, Bool.true_and]
          rw [Bool.eq_iff_iff]
          simp
          omega
        rw [← e]
        exact h
    · have hn2 : (400 : Int) < (xs.length : Int) := by omega
      simp only [decide_eq_true hn2, if_true]
      simpa [isDs, hs, hn] using h
theorem p__law_is_list {m : Int} (hd : pl d = true) (hm : m ≤ 400) (h : P (.bl (isDs d && match isSq d with | some xs => decide ((1 : Int) ≤ xs.length) && decide ((xs.length : Int) ≤ m) | none => false)) S) : w__law_is_list [d, .int m] S P R := by
  simp only [w__law_is_list, gSeq, gRet, gRetN, gExpr, gAsg, gIf, gNext, gKill, gDrop, gBrk, gCnt, gNever, gFor, gAug, gOwn, gPut, gDPut, gSprPut, gObjPut, gPar, eObj, eRev, gtName, gtTup, gtCons, gtNil, seqOf, eC, eVar, eUn, eBin, eChain, eAnd, eOr, eNot, eOrT, eIf, tE, tTru, DL.tAnd, DL.tOr, DL.tNot, DL.tYes, aNil, aCons, eLst, eTup, eCall, eCallP, eCallB, aDef, eFn, eIsI, eMt, eGet2, eSpr, oNone, oSome, eSl, eSlX, eSlN, gLPut, gTPut, gOwnAsg, gObjApp, gObjIns, eNewObj, eObjPop, eObjR, eObjL, eObjLen, eObjEnd, eSort, eSortSet, eLstRg, gPar0, sIn, eLc, iSeq, DL.iRng1, DL.iRng2, DL.iEnum, DL.iZip, DL.iStr, killL, fnW, fnWo, eIsE, gTry, gRaise, eJn, eNever, tNever, List.getElem?_cons_zero, List.getElem?_cons_succ, List.set_cons_zero, List.set_cons_succ, List.map_cons, List.map_nil, List.cons_append, List.nil_append, List.append_nil, List.replicate_succ, List.replicate_zero, List.length_cons, List.length_nil, List.foldl_cons, List.foldl_nil, Nat.zero_add, Nat.reduceAdd, Nat.reduceSub, ex_some, ex_bl, ex_int, ex_obj, ex_str, ex_lst, ex_cons, true_and, and_true, dAdd_int, dSub_int, dCmp_int, dNeg_int, Option.some.injEq, exists_eq_left', exists_eq_left]
  rw [isAny_sq hd]
  simp only [List.getElem?_cons_zero, List.getElem?_cons_succ, List.set_cons_zero, List.set_cons_succ, List.map_cons, List.map_nil, List.cons_append, List.nil_append, List.append_nil, List.replicate_succ, List.replicate_zero, List.length_cons, List.length_nil, List.foldl_cons, List.foldl_nil, Nat.zero_add, Nat.reduceAdd, Nat.reduceSub, ex_some, ex_bl, ex_int, ex_obj, ex_str, ex_lst, ex_cons, true_and, and_true, dAdd_int, dSub_int, dCmp_int, dNeg_int, Option.some.injEq, exists_eq_left', exists_eq_left]
  cases hs : isSq d with
  | none => simpa [isDs, hs] using h
  | some xs =>
    have hl := dLen_sq hs
    have hi := items_sq hs
    have hline := line_eq
    simp only [fLen, hl, hi, List.getElem?_cons_zero, List.getElem?_cons_succ, List.set_cons_zero, List.set_cons_succ, List.map_cons, List.map_nil, List.cons_append, List.nil_append, List.append_nil, List.replicate_succ, List.replicate_zero, List.length_cons, List.length_nil, List.foldl_cons, List.foldl_nil, Nat.zero_add, Nat.reduceAdd, Nat.reduceSub, ex_some, ex_bl, ex_int, ex_obj, ex_str, ex_lst, ex_cons, true_and, and_true, dAdd_int, dSub_int, dCmp_int, dNeg_int, Option.some.injEq, exists_eq_left', exists_eq_left, Option.isSome_some, Bool.not_true, Bool.false_eq_true, if_false]
    by_cases hb : (1 : Int) ≤ xs.length ∧ (xs.length : Int) ≤ m
    · have hb1 : decide ((1 : Int) ≤ xs.length) = true := decide_eq_true hb.1
      have hb2 : decide ((xs.length : Int) ≤ m) = true := decide_eq_true hb.2
      simp only [hs, hb1, hb2, Bool.true_and, Bool.and_true, if_true, Bool.not_true, Bool.false_eq_true, if_false] at h ⊢
      rw [enumD_A, List.length_map, enumA_len]
      refine ⟨by omega, ?_⟩
      refine lcL_filterOf _ (fun p => !isIx 0 (p.2 : Nat) p.1) (fun p => .int 1) (fun p hp Q N h1 h2 => ?_) ?_
      · simp only [gSeq, gRet, gRetN, gExpr, gAsg, gIf, gNext, gKill, gDrop, gBrk, gCnt, gNever, gFor, gAug, gOwn, gPut, gDPut, gSprPut, gObjPut, gPar, eObj, eRev, gtName, gtTup, gtCons, gtNil, seqOf, eC, eVar, eUn, eBin, eChain, eAnd, eOr, eNot, eOrT, eIf, tE, tTru, DL.tAnd, DL.tOr, DL.tNot, DL.tYes, aNil, aCons, eLst, eTup, eCall, eCallP, eCallB, aDef, eFn, eIsI, eMt, eGet2, eSpr, oNone, oSome, eSl, eSlX, eSlN, gLPut, gTPut, gOwnAsg, gObjApp, gObjIns, eNewObj, eObjPop, eObjR, eObjL, eObjLen, eObjEnd, eSort, eSortSet, eLstRg, gPar0, sIn, eLc, iSeq, DL.iRng1, DL.iRng2, DL.iEnum, DL.iZip, DL.iStr, killL, fnW, fnWo, eIsE, gTry, gRaise, eJn, eNever, tNever, List.getElem?_cons_zero, List.getElem?_cons_succ, List.set_cons_zero, List.set_cons_succ, List.map_cons, List.map_nil, List.cons_append, List.nil_append, List.append_nil, List.replicate_succ, List.replicate_zero, List.length_cons, List.length_nil, List.foldl_cons, List.foldl_nil, Nat.zero_add, Nat.reduceAdd, Nat.reduceSub, ex_some, ex_bl, ex_int, ex_obj, ex_str, ex_lst, ex_cons, true_and, and_true, dAdd_int, dSub_int, dCmp_int, dNeg_int, Option.some.injEq, exists_eq_left', exists_eq_left]
        refine p__law_is_index (sq_pl hs hd _ (enumA_mem hp)) ?_
        simp only [List.getElem?_cons_zero, List.getElem?_cons_succ, List.set_cons_zero, List.set_cons_succ, List.map_cons, List.map_nil, List.cons_append, List.nil_append, List.append_nil, List.replicate_succ, List.replicate_zero, List.length_cons, List.length_nil, List.foldl_cons, List.foldl_nil, Nat.zero_add, Nat.reduceAdd, Nat.reduceSub, ex_some, ex_bl, ex_int, ex_obj, ex_str, ex_lst, ex_cons, true_and, and_true, dAdd_int, dSub_int, dCmp_int, dNeg_int, Option.some.injEq, exists_eq_left', exists_eq_left]
        cases hx : isIx 0 (p.2 : Nat) p.1 with
        | true => simpa [hx] using h2
        | false => simpa [hx] using h1
      rw [List.nil_append]
      refine ⟨by omega, ?_⟩
      have hemp : ((enumA 0 xs).filter fun p => !isIx 0 (p.2 : Nat) p.1).isEmpty = ixAll 0 xs := by
        rw [← enumA_all, List.all_map, Bool.eq_iff_iff]
        simp
      simp only [dNe0, List.isEmpty_map, hemp, List.getElem?_cons_zero, List.getElem?_cons_succ, List.set_cons_zero, List.set_cons_succ, List.map_cons, List.map_nil, List.cons_append, List.nil_append, List.append_nil, List.replicate_succ, List.replicate_zero, List.length_cons, List.length_nil, List.foldl_cons, List.foldl_nil, Nat.zero_add, Nat.reduceAdd, Nat.reduceSub, ex_some, ex_bl, ex_int, ex_obj, ex_str, ex_lst, ex_cons, true_and, and_true, dAdd_int, dSub_int, dCmp_int, dNeg_int, Option.some.injEq, exists_eq_left', exists_eq_left]
      cases ha : ixAll 0 xs with
      | false =>
        simp only [Bool.not_false, if_true]
        simpa [isDs, hs, ha] using h
      | true =>
        simp only [Bool.not_true, Bool.false_eq_true, if_false]
        obtain ⟨ns, rfl⟩ := ixAll_ints ha
        rw [← enumD_A, enumD_Z]
        rw [List.length_map] at hb
        refine ⟨by rw [List.length_map]; omega, ?_⟩
        refine lcL_filterOf _ (fun p => decide (0 < p.2)) (fun p => .int (p.1 - p.2)) (fun p hp Q N h1 h2 => ?_) ?_
        · simp only [gSeq, gRet, gRetN, gExpr, gAsg, gIf, gNext, gKill, gDrop, gBrk, gCnt, gNever, gFor, gAug, gOwn, gPut, gDPut, gSprPut, gObjPut, gPar, eObj, eRev, gtName, gtTup, gtCons, gtNil, seqOf, eC, eVar, eUn, eBin, eChain, eAnd, eOr, eNot, eOrT, eIf, tE, tTru, DL.tAnd, DL.tOr, DL.tNot, DL.tYes, aNil, aCons, eLst, eTup, eCall, eCallP, eCallB, aDef, eFn, eIsI, eMt, eGet2, eSpr, oNone, oSome, eSl, eSlX, eSlN, gLPut, gTPut, gOwnAsg, gObjApp, gObjIns, eNewObj, eObjPop, eObjR, eObjL, eObjLen, eObjEnd, eSort, eSortSet, eLstRg, gPar0, sIn, eLc, iSeq, DL.iRng1, DL.iRng2, DL.iEnum, DL.iZip, DL.iStr, killL, fnW, fnWo, eIsE, gTry, gRaise, eJn, eNever, tNever, List.getElem?_cons_zero, List.getElem?_cons_succ, List.set_cons_zero, List.set_cons_succ, List.map_cons, List.map_nil, List.cons_append, List.nil_append, List.append_nil, List.replicate_succ, List.replicate_zero, List.length_cons, List.length_nil, List.foldl_cons, List.foldl_nil, Nat.zero_add, Nat.reduceAdd, Nat.reduceSub, ex_some, ex_bl, ex_int, ex_obj, ex_str, ex_lst, ex_cons, true_and, and_true, dAdd_int, dSub_int, dCmp_int, dNeg_int, Option.some.injEq, exists_eq_left', exists_eq_left]
          split
          · rename_i hh; exact h1 hh
          · rename_i hh; exact h2 (by simpa using hh)
        have ht : (List.map (fun p : Int × Int => D.int (p.1 - p.2)) ((enumZ 0 ns).filter fun p => decide (0 < p.2))) = (tgts ns).map D.int := by
          unfold tgts; rw [List.map_map]; rfl
        rw [List.nil_append, ht]
        have hlt : (tgts ns).length ≤ 400 := by
          unfold tgts
          rw [List.length_map]
          exact Nat.le_trans (List.length_filter_le _ _) (by rw [enumZ_len]; omega)
        have hset : dLenSet (.lst ((tgts ns).map D.int)) = some (.int ((dedup (tgts ns)).length : Nat)) := by
          simp only [dLenSet, intsOf_map, Option.bind_some]
          exact if_pos (by omega)
        rw [hset]
        simp only [dLen, List.length_map, List.getElem?_cons_zero, List.getElem?_cons_succ, List.set_cons_zero, List.set_cons_succ, List.map_cons, List.map_nil, List.cons_append, List.nil_append, List.append_nil, List.replicate_succ, List.replicate_zero, List.length_cons, List.length_nil, List.foldl_cons, List.foldl_nil, Nat.zero_add, Nat.reduceAdd, Nat.reduceSub, ex_some, ex_bl, ex_int, ex_obj, ex_str, ex_lst, ex_cons, true_and, and_true, dAdd_int, dSub_int, dCmp_int, dNeg_int, Option.some.injEq, exists_eq_left', exists_eq_left, dEq_int]
        have e : isDs d = ((((dedup (tgts ns)).length : Nat) : Int) == (((tgts ns).length : Nat) : Int)) := by
          have hn : ns.length ≤ 400 := by omega
          simp only [isDs, hs, List.length_map, hn, ha, ndT, intsOf_map, decide_true, Bool.true_and]
          rw [Bool.eq_iff_iff]
          simp
          omega
        rw [← e]
        exact h
    · have hf : (decide ((1 : Int) ≤ xs.length) && decide ((xs.length : Int) ≤ m)) = false := by
        rw [Bool.and_eq_false_iff]
        by_cases h1 : (1 : Int) ≤ xs.length
        · exact .inr (decide_eq_false fun h2 => hb ⟨h1, h2⟩)
        · exact .inl (decide_eq_false h1)
      simp only [hs, hf, Bool.and_false] at h
      by_cases h1 : (1 : Int) ≤ xs.length
      · have h2 : ¬ (xs.length : Int) ≤ m := fun h2 => hb ⟨h1, h2⟩
        simpa [h1, h2] using h
      · simpa [h1] using h

/-! ### facts -/
def neI : D → D → Bool
  | .int i, .int j => !(i == j)
  | _, _ => false
def two (n : Int) (a b : D) : Bool := isIx 0 (n - 1) a && (isIx 0 (n - 1) b && neI a b)
theorem p_are_two_positions {n : Int} {a b : D} (ha : pl a = true) (hb : pl b = true) (h : P (.bl (two n a b)) S) : w_are_two_positions [.int n, a, b] S P R := by
  simp only [w_are_two_positions, gSeq, gRet, gRetN, gExpr, gAsg, gIf, gNext, gKill, gDrop, gBrk, gCnt, gNever, gFor, gAug, gOwn, gPut, gDPut, gSprPut, gObjPut, gPar, eObj, eRev, gtName, gtTup, gtCons, gtNil, seqOf, eC, eVar, eUn, eBin, eChain, eAnd, eOr, eNot, eOrT, eIf, tE, tTru, DL.tAnd, DL.tOr, DL.tNot, DL.tYes, aNil, aCons, eLst, eTup, eCall, eCallP, eCallB, aDef, eFn, eIsI, eMt, eGet2, eSpr, oNone, oSome, eSl, eSlX, eSlN, gLPut, gTPut, gOwnAsg, gObjApp, gObjIns, eNewObj, eObjPop, eObjR, eObjL, eObjLen, eObjEnd, eSort, eSortSet, eLstRg, gPar0, sIn, eLc, iSeq, DL.iRng1, DL.iRng2, DL.iEnum, DL.iZip, DL.iStr, killL, fnW, fnWo, eIsE, gTry, gRaise, eJn, eNever, tNever, List.getElem?_cons_zero, List.getElem?_cons_succ, List.set_cons_zero, List.set_cons_succ, List.map_cons, List.map_nil, List.cons_append, List.nil_append, List.append_nil, List.replicate_succ, List.replicate_zero, List.length_cons, List.length_nil, List.foldl_cons, List.foldl_nil, Nat.zero_add, Nat.reduceAdd, Nat.reduceSub, ex_some, ex_bl, ex_int, ex_obj, ex_str, ex_lst, ex_cons, true_and, and_true, dAdd_int, dSub_int, dCmp_int, dNeg_int, Option.some.injEq, exists_eq_left', exists_eq_left]
  refine p_is_integer_facts ha ⟨_, rfl, ?_⟩
  cases h1 : isIx 0 (n - 1) a with
  | false => simpa [two, h1] using h
  | true =>
    simp only [if_true]
    refine p_is_integer_facts hb ⟨_, rfl, ?_⟩
    cases h2 : isIx 0 (n - 1) b with
    | false => simpa [two, h1, h2] using h
    | true =>
      obtain ⟨i, rfl, _⟩ := isIx_int h1
      obtain ⟨j, rfl, _⟩ := isIx_int h2
      simp only [if_true, dNe_int, List.getElem?_cons_zero, List.getElem?_cons_succ, List.set_cons_zero, List.set_cons_succ, List.map_cons, List.map_nil, List.cons_append, List.nil_append, List.append_nil, List.replicate_succ, List.replicate_zero, List.length_cons, List.length_nil, List.foldl_cons, List.foldl_nil, Nat.zero_add, Nat.reduceAdd, Nat.reduceSub, ex_some, ex_bl, ex_int, ex_obj, ex_str, ex_lst, ex_cons, true_and, and_true, dAdd_int, dSub_int, dCmp_int, dNeg_int, Option.some.injEq, exists_eq_left', exists_eq_left]
      simpa [two, h1, h2, neI] using h
def lenE (n : Int) (a b c : D) : Bool := match a, b with
  | .int i, .int j => isIx 1 (n - if j > i then j else i) c
  | _, _ => false
def lenW (n : Int) (a c : D) : Bool := match a, isSq c with
  | .int i, some ys => decide ((1 : Int) ≤ ys.length) && decide ((ys.length : Int) ≤ n - i)
  | _, _ => false
/-- whether a value is a fact about a list of n positions -/
def isFc (n : Int) (d : D) : Bool := match isSq d with
  | some [.str w, a, b] => if w = "same" ∨ w = "different" then two n a b else if w = "window" then isIx 0 (n - 1) a && (isDs b && lenW n a b) else false
  | some [.str w, a, b, c] => if w = "equivalent" then two n a b && lenE n a b c else false
  | _ => false
theorem two_int {n : Int} {a b : D} (h : two n a b = true) : ∃ i j, a = .int i ∧ b = .int j ∧ 0 ≤ i ∧ i ≤ n - 1 ∧ 0 ≤ j ∧ j ≤ n - 1 ∧ i ≠ j := by
  unfold two at h
  rw [Bool.and_eq_true, Bool.and_eq_true] at h
  obtain ⟨h1, h2, h3⟩ := h
  obtain ⟨i, rfl, q1, q2⟩ := isIx_int h1
  obtain ⟨j, rfl, q3, q4⟩ := isIx_int h2
  exact ⟨i, j, rfl, rfl, q1, q2, q3, q4, by simpa [neI] using h3⟩
end
section
variable {S : Sto} {P : D → Sto → Prop} {R : RX} {d : D} {n : Int}
theorem len3 {xs : List D} (h : ¬ xs.length < 3) : ∃ a b c r, xs = a :: b :: c :: r := by
  match xs, h with
  | a :: b :: c :: r, _ => exact ⟨a, b, c, r, rfl⟩
  | [_, _], h => simp at h
  | [_], h => simp at h
  | [], h => simp at h
theorem p_is_fact_of (hd : pl d = true) (hn : n ≤ 400) (h : P (.bl (isFc n d)) S) : w_is_fact_of [.int n, d] S P R := by
  simp only [w_is_fact_of, gSeq, gRet, gRetN, gExpr, gAsg, gIf, gNext, gKill, gDrop, gBrk, gCnt, gNever, gFor, gAug, gOwn, gPut, gDPut, gSprPut, gObjPut, gPar, eObj, eRev, gtName, gtTup, gtCons, gtNil, seqOf, eC, eVar, eUn, eBin, eChain, eAnd, eOr, eNot, eOrT, eIf, tE, tTru, DL.tAnd, DL.tOr, DL.tNot, DL.tYes, aNil, aCons, eLst, eTup, eCall, eCallP, eCallB, aDef, eFn, eIsI, eMt, eGet2, eSpr, oNone, oSome, eSl, eSlX, eSlN, gLPut, gTPut, gOwnAsg, gObjApp, gObjIns, eNewObj, eObjPop, eObjR, eObjL, eObjLen, eObjEnd, eSort, eSortSet, eLstRg, gPar0, sIn, eLc, iSeq, DL.iRng1, DL.iRng2, DL.iEnum, DL.iZip, DL.iStr, killL, fnW, fnWo, eIsE, gTry, gRaise, eJn, eNever, tNever, List.getElem?_cons_zero, List.getElem?_cons_succ, List.set_cons_zero, List.set_cons_succ, List.map_cons, List.map_nil, List.cons_append, List.nil_append, List.append_nil, List.replicate_succ, List.replicate_zero, List.length_cons, List.length_nil, List.foldl_cons, List.foldl_nil, Nat.zero_add, Nat.reduceAdd, Nat.reduceSub, ex_some, ex_bl, ex_int, ex_obj, ex_str, ex_lst, ex_cons, true_and, and_true, dAdd_int, dSub_int, dCmp_int, dNeg_int, Option.some.injEq, exists_eq_left', exists_eq_left]
  refine p_is_sequence_facts hd ?_
  simp only [List.getElem?_cons_zero, List.getElem?_cons_succ, List.set_cons_zero, List.set_cons_succ, List.map_cons, List.map_nil, List.cons_append, List.nil_append, List.append_nil, List.replicate_succ, List.replicate_zero, List.length_cons, List.length_nil, List.foldl_cons, List.foldl_nil, Nat.zero_add, Nat.reduceAdd, Nat.reduceSub, ex_some, ex_bl, ex_int, ex_obj, ex_str, ex_lst, ex_cons, true_and, and_true, dAdd_int, dSub_int, dCmp_int, dNeg_int, Option.some.injEq, exists_eq_left', exists_eq_left]
  cases hs : isSq d with
  | none => simpa [isFc, hs] using h
  | some xs =>
    have hline := line_eq
    simp only [fLen_sq hs, List.getElem?_cons_zero, List.getElem?_cons_succ, List.set_cons_zero, List.set_cons_succ, List.map_cons, List.map_nil, List.cons_append, List.nil_append, List.append_nil, List.replicate_succ, List.replicate_zero, List.length_cons, List.length_nil, List.foldl_cons, List.foldl_nil, Nat.zero_add, Nat.reduceAdd, Nat.reduceSub, ex_some, ex_bl, ex_int, ex_obj, ex_str, ex_lst, ex_cons, true_and, and_true, dAdd_int, dSub_int, dCmp_int, dNeg_int, Option.some.injEq, exists_eq_left', exists_eq_left, Option.isSome_some, Bool.not_true, Bool.false_eq_true, if_false]
    by_cases h3 : xs.length < 3
    · have h3' : ((xs.length : Nat) : Int) < 3 := by omega
      simp only [decide_eq_true h3', if_true]
      have e : isFc n d = false := by
        unfold isFc
        rw [hs]
        match xs, h3 with
        | [], _ => rfl
        | [_], _ => simp
        | [_, _], _ => simp
      rw [← e]; exact h
    · obtain ⟨a, b, c, r, rfl⟩ := len3 h3
      have hpl := sq_pl hs hd
      have pa := hpl a (by simp)
      have pb := hpl b (by simp)
      have pc := hpl c (by simp)
      have h3' : ¬ (((a :: b :: c :: r).length : Nat) : Int) < 3 := by simp; omega
      simp only [decide_eq_false h3', Bool.false_eq_true, if_false, dIx0 hs, dIx1 hs, dIx2 hs, List.getElem?_cons_zero, List.getElem?_cons_succ, List.set_cons_zero, List.set_cons_succ, List.map_cons, List.map_nil, List.cons_append, List.nil_append, List.append_nil, List.replicate_succ, List.replicate_zero, List.length_cons, List.length_nil, List.foldl_cons, List.foldl_nil, Nat.zero_add, Nat.reduceAdd, Nat.reduceSub, ex_some, ex_bl, ex_int, ex_obj, ex_str, ex_lst, ex_cons, true_and, and_true, dAdd_int, dSub_int, dCmp_int, dNeg_int, Option.some.injEq, exists_eq_left', exists_eq_left]
      cases a with
      | str w =>
        simp only [dIsAny, dIsI, Option.bind_some, if_true, List.getElem?_cons_zero, List.getElem?_cons_succ, List.set_cons_zero, List.set_cons_succ, List.map_cons, List.map_nil, List.cons_append, List.nil_append, List.append_nil, List.replicate_succ, List.replicate_zero, List.length_cons, List.length_nil, List.foldl_cons, List.foldl_nil, Nat.zero_add, Nat.reduceAdd, Nat.reduceSub, ex_some, ex_bl, ex_int, ex_obj, ex_str, ex_lst, ex_cons, true_and, and_true, dAdd_int, dSub_int, dCmp_int, dNeg_int, Option.some.injEq, exists_eq_left', exists_eq_left, Bool.not_true, Bool.false_eq_true, if_false, g_SAME, g_DIFFERENT, g_EQUIVALENT, g_WINDOW, dInT, strsOf, Option.map_some, anyK, isT, List.any_cons, List.any_nil, Bool.or_false]
        refine ⟨by simp [hline], ?_⟩
        by_cases hw : w = "same" ∨ w = "different"
        · have hw2 : (decide (("same" : Str) = w) || decide (("different" : Str) = w)) = true := by
            rcases hw with rfl | rfl <;> decide +kernel
          simp only [hw2, if_true, dEq_int, List.getElem?_cons_zero, List.getElem?_cons_succ, List.set_cons_zero, List.set_cons_succ, List.map_cons, List.map_nil, List.cons_append, List.nil_append, List.append_nil, List.replicate_succ, List.replicate_zero, List.length_cons, List.length_nil, List.foldl_cons, List.foldl_nil, Nat.zero_add, Nat.reduceAdd, Nat.reduceSub, ex_some, ex_bl, ex_int, ex_obj, ex_str, ex_lst, ex_cons, true_and, and_true, dAdd_int, dSub_int, dCmp_int, dNeg_int, Option.some.injEq, exists_eq_left', exists_eq_left]
          match r, hs with
          | [], hs =>
            have e : isFc n d = two n b c := by unfold isFc; rw [hs]; exact if_pos hw
            rw [e] at h
            simp only [List.length_nil]
            exact p_are_two_positions pb pc h
          | [x], hs =>
            have hne : ¬ w = "equivalent" := by rintro rfl; rcases hw with h | h <;> exact absurd h (by decide +kernel)
            have e : isFc n d = false := by unfold isFc; rw [hs]; exact if_neg hne
            rw [e] at h
            exact h
          | x :: y :: r, hs =>
            have e : isFc n d = false := by unfold isFc; rw [hs]
            rw [e] at h
            have hl : ((((x :: y :: r).length + 1 + 1 + 1 : Nat) : Int) == 3) = false := by rw [beq_eq_false_iff_ne]; simp; omega
            rw [hl]
            exact h
        · have hw2 : (decide (("same" : Str) = w) || decide (("different" : Str) = w)) = false := by
            rw [Bool.or_eq_false_iff]
            exact ⟨decide_eq_false fun e => hw (.inl e.symm), decide_eq_false fun e => hw (.inr e.symm)⟩
          simp only [hw2, Bool.false_eq_true, if_false, dEq_str, dNe_str, dNe_int, dEq_int, List.getElem?_cons_zero, List.getElem?_cons_succ, List.set_cons_zero, List.set_cons_succ, List.map_cons, List.map_nil, List.cons_append, List.nil_append, List.append_nil, List.replicate_succ, List.replicate_zero, List.length_cons, List.length_nil, List.foldl_cons, List.foldl_nil, Nat.zero_add, Nat.reduceAdd, Nat.reduceSub, ex_some, ex_bl, ex_int, ex_obj, ex_str, ex_lst, ex_cons, true_and, and_true, dAdd_int, dSub_int, dCmp_int, dNeg_int, Option.some.injEq, exists_eq_left', exists_eq_left]
          by_cases he : w = "equivalent"
          · simp only [decide_eq_true he, if_true]
            match r, hs with
            | [], hs =>
              have hwin : ¬ w = "window" := by rintro rfl; exact absurd he (by decide +kernel)
              have e : isFc n d = false := by unfold isFc; rw [hs]; exact (if_neg hw).trans (if_neg hwin)
              rw [e] at h
              exact h
            | [x], hs =>
              have e : isFc n d = (two n b c && lenE n b c x) := by unfold isFc; rw [hs]; exact if_pos he
              have px : pl x = true := hpl x (by simp)
              refine p_are_two_positions pb pc ⟨_, rfl, ?_⟩
              cases ht : two n b c with
              | false => rw [e, ht] at h; exact h
              | true =>
                obtain ⟨i, j, rfl, rfl, _⟩ := two_int ht
                rw [e, ht] at h
                simp only [Bool.not_true, Bool.false_eq_true, if_false, dIx3 hs, fMax, List.getElem?_cons_zero, List.getElem?_cons_succ, List.set_cons_zero, List.set_cons_succ, List.map_cons, List.map_nil, List.cons_append, List.nil_append, List.append_nil, List.replicate_succ, List.replicate_zero, List.length_cons, List.length_nil, List.foldl_cons, List.foldl_nil, Nat.zero_add, Nat.reduceAdd, Nat.reduceSub, ex_some, ex_bl, ex_int, ex_obj, ex_str, ex_lst, ex_cons, true_and, and_true, dAdd_int, dSub_int, dCmp_int, dNeg_int, Option.some.injEq, exists_eq_left', exists_eq_left]
                exact p_is_integer_facts px h
            | x :: y :: r, hs =>
              have e : isFc n d = false := by unfold isFc; rw [hs]
              rw [e] at h
              have hl : ((((x :: y :: r).length + 1 + 1 + 1 : Nat) : Int) == 4) = false := by rw [beq_eq_false_iff_ne]; simp; omega
              rw [hl]
              exact h
          · simp only [decide_eq_false he, Bool.false_eq_true, if_false]
            by_cases hwin : w = "window"
            · simp only [decide_eq_true hwin, Bool.not_true, Bool.false_eq_true, if_false]
              match r, hs with
              | [], hs =>
                have e : isFc n d = (isIx 0 (n - 1) b && (isDs c && lenW n b c)) := by unfold isFc; rw [hs]; exact (if_neg hw).trans (if_pos hwin)
                rw [e] at h
                refine p_is_integer_facts pb ⟨_, rfl, ?_⟩
                cases h1 : isIx 0 (n - 1) b with
                | false => rw [h1] at h; exact h
                | true =>
                  obtain ⟨i, rfl, _⟩ := isIx_int h1
                  rw [h1] at h
                  simp only [Bool.not_true, Bool.false_eq_true, if_false]
                  refine p_is_distances pc ⟨_, rfl, ?_⟩
                  cases h2 : isDs c with
                  | false => rw [h2] at h; exact h
                  | true =>
                    rw [h2] at h
                    cases hc : isSq c with
                    | none => simp [isDs, hc] at h2
                    | some ys =>
                      simp only [lenW, hc, if_true, fLen_sq hc, List.getElem?_cons_zero, List.getElem?_cons_succ, List.set_cons_zero, List.set_cons_succ, List.map_cons, List.map_nil, List.cons_append, List.nil_append, List.append_nil, List.replicate_succ, List.replicate_zero, List.length_cons, List.length_nil, List.foldl_cons, List.foldl_nil, Nat.zero_add, Nat.reduceAdd, Nat.reduceSub, ex_some, ex_bl, ex_int, ex_obj, ex_str, ex_lst, ex_cons, true_and, and_true, dAdd_int, dSub_int, dCmp_int, dNeg_int, Option.some.injEq, exists_eq_left', exists_eq_left, Bool.true_and] at h ⊢
                      by_cases h5 : (1 : Int) ≤ ys.length
                      · simpa [h5] using h
                      · simpa [h5] using h
              | [x], hs =>
                have e : isFc n d = false := by unfold isFc; rw [hs]; exact if_neg he
                rw [e] at h
                exact h
              | x :: y :: r, hs =>
                have e : isFc n d = false := by unfold isFc; rw [hs]
                rw [e] at h
                have hl : ((((x :: y :: r).length + 1 + 1 + 1 : Nat) : Int) == 3) = false := by rw [beq_eq_false_iff_ne]; simp; omega
                rw [hl]
                exact h
            · simp only [decide_eq_false hwin, Bool.not_false, if_true]
              have e : isFc n d = false := by
                unfold isFc
                rw [hs]
                match r with
                | [] => exact (if_neg hw).trans (if_neg hwin)
                | [x] => exact if_neg he
                | x :: y :: r => rfl
              rw [e] at h
              exact h
      | _ =>
        simp only [dIsAny, dIsI, Option.bind_some, if_true, List.getElem?_cons_zero, List.getElem?_cons_succ, List.set_cons_zero, List.set_cons_succ, List.map_cons, List.map_nil, List.cons_append, List.nil_append, List.append_nil, List.replicate_succ, List.replicate_zero, List.length_cons, List.length_nil, List.foldl_cons, List.foldl_nil, Nat.zero_add, Nat.reduceAdd, Nat.reduceSub, ex_some, ex_bl, ex_int, ex_obj, ex_str, ex_lst, ex_cons, true_and, and_true, dAdd_int, dSub_int, dCmp_int, dNeg_int, Option.some.injEq, exists_eq_left', exists_eq_left, Bool.not_false, Bool.false_eq_true, if_false]
        first
          | (simp [isFc, hs] at h ⊢; exact h)
          | (simp [pl] at pa)
theorem slX_parts {a b c : D} {r : List D} (hs : isSq d = some (a :: b :: c :: r)) : ∃ z, dSlX d (some 1) (some 3) = some z ∧ itemsOf z = some [b, c] := by
  have e : cutD (a :: b :: c :: r) (some 1) (some 3) = [b, c] := by
    have h1 : HT.sIx (a :: b :: c :: r).length 0 (some 1) = 1 := by
      have := HT.sIx_nat (a :: b :: c :: r).length 0 1
      rw [show (some 1 : Option Int) = some ((1 : Nat) : Int) from rfl, this]
      simp
    have h2 : HT.sIx (a :: b :: c :: r).length (a :: b :: c :: r).length (some 3) = 3 := by
      have := HT.sIx_nat (a :: b :: c :: r).length (a :: b :: c :: r).length 3
      rw [show (some 3 : Option Int) = some ((3 : Nat) : Int) from rfl, this]
      simp
    unfold cutD
    rw [h1, h2]
    simp
  rcases sq_cases hs with rfl | rfl
  · exact ⟨.lst [b, c], by show some (D.lst (cutD _ _ _)) = _; rw [e], rfl⟩
  · refine ⟨.tup [b, c], ?_, rfl⟩
    show (if (cutD (a :: b :: c :: r) (some 1) (some 3)).length < (a :: b :: c :: r).length then some (D.tup (cutD (a :: b :: c :: r) (some 1) (some 3))) else none) = _
    rw [e, if_pos (by simp)]
theorem fc_same {w : Str} {b c : D} {r : List D} (hs : isSq d = some (.str w :: b :: c :: r)) (hw : w = "same" ∨ w = "different") : isFc n d = (r.isEmpty && two n b c) := by
  unfold isFc
  rw [hs]
  match r with
  | [] => exact if_pos hw
  | [x] => exact if_neg (by rintro rfl; rcases hw with h | h <;> exact absurd h (by decide +kernel))
  | x :: y :: r => rfl
theorem fc_win {b c : D} {r : List D} (hs : isSq d = some (.str "window" :: b :: c :: r)) : isFc n d = (r.isEmpty && (isIx 0 (n - 1) b && (isDs c && lenW n b c))) := by
  unfold isFc
  rw [hs]
  match r with
  | [] => exact (if_neg (by decide +kernel)).trans (if_pos rfl)
  | [x] => exact if_neg (by decide +kernel)
  | x :: y :: r => rfl
def eqvR (n : Int) (b c : D) : List D → Bool
  | [x] => two n b c && lenE n b c x
  | _ => false
theorem fc_eqv {b c : D} {r : List D} (hs : isSq d = some (.str "equivalent" :: b :: c :: r)) : isFc n d = eqvR n b c r := by
  unfold isFc
  rw [hs]
  match r with
  | [] => exact (if_neg (by decide +kernel)).trans (if_neg (by decide +kernel))
  | [x] => exact if_pos rfl
  | x :: y :: r => rfl
theorem fc_no {a b c : D} {r : List D} (hs : isSq d = some (a :: b :: c :: r)) (h1 : isT "same" a = false) (h2 : isT "different" a = false) (h3 : isT "equivalent" a = false) (h4 : isT "window" a = false) : isFc n d = false := by
  unfold isFc
  rw [hs]
  cases a with
  | str w =>
    simp only [isT, decide_eq_false_iff_not] at h1 h2 h3 h4
    match r with
    | [] => exact (if_neg (by rintro (h | h); exact h1 h.symm; exact h2 h.symm)).trans (if_neg fun h => h4 h.symm)
    | [x] => exact if_neg fun h => h3 h.symm
    | x :: y :: r => rfl
  | _ => rfl
theorem isT_eq {w : Str} {a : D} (h : isT w a = true) : a = .str w := by
  cases a <;> simp_all [isT]
theorem p__law_due (hd : pl d = true) (hn : n ≤ 400) (h : P (.bl (isFc n d)) S) : w__law_due [.int n, d] S P R := by
  simp only [w__law_due, gSeq, gRet, gRetN, gExpr, gAsg, gIf, gNext, gKill, gDrop, gBrk, gCnt, gNever, gFor, gAug, gOwn, gPut, gDPut, gSprPut, gObjPut, gPar, eObj, eRev, gtName, gtTup, gtCons, gtNil, seqOf, eC, eVar, eUn, eBin, eChain, eAnd, eOr, eNot, eOrT, eIf, tE, tTru, DL.tAnd, DL.tOr, DL.tNot, DL.tYes, aNil, aCons, eLst, eTup, eCall, eCallP, eCallB, aDef, eFn, eIsI, eMt, eGet2, eSpr, oNone, oSome, eSl, eSlX, eSlN, gLPut, gTPut, gOwnAsg, gObjApp, gObjIns, eNewObj, eObjPop, eObjR, eObjL, eObjLen, eObjEnd, eSort, eSortSet, eLstRg, gPar0, sIn, eLc, iSeq, DL.iRng1, DL.iRng2, DL.iEnum, DL.iZip, DL.iStr, killL, fnW, fnWo, eIsE, gTry, gRaise, eJn, eNever, tNever, List.getElem?_cons_zero, List.getElem?_cons_succ, List.set_cons_zero, List.set_cons_succ, List.map_cons, List.map_nil, List.cons_append, List.nil_append, List.append_nil, List.replicate_succ, List.replicate_zero, List.length_cons, List.length_nil, List.foldl_cons, List.foldl_nil, Nat.zero_add, Nat.reduceAdd, Nat.reduceSub, ex_some, ex_bl, ex_int, ex_obj, ex_str, ex_lst, ex_cons, true_and, and_true, dAdd_int, dSub_int, dCmp_int, dNeg_int, Option.some.injEq, exists_eq_left', exists_eq_left]
  rw [isAny_sq hd]
  simp only [List.getElem?_cons_zero, List.getElem?_cons_succ, List.set_cons_zero, List.set_cons_succ, List.map_cons, List.map_nil, List.cons_append, List.nil_append, List.append_nil, List.replicate_succ, List.replicate_zero, List.length_cons, List.length_nil, List.foldl_cons, List.foldl_nil, Nat.zero_add, Nat.reduceAdd, Nat.reduceSub, ex_some, ex_bl, ex_int, ex_obj, ex_str, ex_lst, ex_cons, true_and, and_true, dAdd_int, dSub_int, dCmp_int, dNeg_int, Option.some.injEq, exists_eq_left', exists_eq_left]
  cases hs : isSq d with
  | none => simpa [isFc, hs] using h
  | some xs =>
    have hline := line_eq
    simp only [fLen_sq hs, List.getElem?_cons_zero, List.getElem?_cons_succ, List.set_cons_zero, List.set_cons_succ, List.map_cons, List.map_nil, List.cons_append, List.nil_append, List.append_nil, List.replicate_succ, List.replicate_zero, List.length_cons, List.length_nil, List.foldl_cons, List.foldl_nil, Nat.zero_add, Nat.reduceAdd, Nat.reduceSub, ex_some, ex_bl, ex_int, ex_obj, ex_str, ex_lst, ex_cons, true_and, and_true, dAdd_int, dSub_int, dCmp_int, dNeg_int, Option.some.injEq, exists_eq_left', exists_eq_left, Option.isSome_some, Bool.not_true, Bool.false_eq_true, if_false]
    by_cases h3 : xs.length < 3
    · have h3' : ((xs.length : Nat) : Int) < 3 := by omega
      simp only [decide_eq_true h3', if_true]
      have e : isFc n d = false := by
        unfold isFc
        rw [hs]
        match xs, h3 with
        | [], _ => rfl
        | [_], _ => simp
        | [_, _], _ => simp
      rw [← e]; exact h
    · obtain ⟨a, b, c, r, rfl⟩ := len3 h3
      have hpl := sq_pl hs hd
      have pa := hpl a (by simp)
      have pb := hpl b (by simp)
      have pc := hpl c (by simp)
      have h3' : ¬ ((r.length + 1 + 1 + 1 : Nat) : Int) < 3 := by omega
      obtain ⟨z, hz, hzi⟩ := slX_parts hs
      have hw1 : shD (.str "window") = true := by decide +kernel
      have hw2 : shD (.str "equivalent") = true := by decide +kernel
      have hin : dInT a (.tup [.str "same", .str "different"]) = some (.bl (isT "same" a || isT "different" a)) := by
        show (if anyK a = true then some (D.bl (["same", "different"].any fun z => isT z a)) else none) = _
        rw [if_pos (pl_any pa)]
        simp
      simp only [dIx0 hs, dIx1 hs, dIx2 hs, hz, hzi, eqX_str (pl_any pa) hw1, neX_str (pl_any pa) hw2, hin, decide_eq_false h3', Bool.false_eq_true, if_false, List.getElem?_cons_zero, List.getElem?_cons_succ, List.set_cons_zero, List.set_cons_succ, List.map_cons, List.map_nil, List.cons_append, List.nil_append, List.append_nil, List.replicate_succ, List.replicate_zero, List.length_cons, List.length_nil, List.foldl_cons, List.foldl_nil, Nat.zero_add, Nat.reduceAdd, Nat.reduceSub, ex_some, ex_bl, ex_int, ex_obj, ex_str, ex_lst, ex_cons, true_and, and_true, dAdd_int, dSub_int, dCmp_int, dNeg_int, Option.some.injEq, exists_eq_left', exists_eq_left, dNe_int, dEq_int]
      have hr3 : (((r.length + 1 + 1 + 1 : Nat) : Int) == 3) = r.isEmpty := by cases r <;> simp <;> omega
      cases hwin : isT "window" a with
      | true =>
        have ha := isT_eq hwin
        subst ha
        have e := fc_win (n := n) hs
        simp only [if_true, hr3]
        cases hr : r.isEmpty with
        | false => rw [e, hr] at h; exact h
        | true =>
          rw [e, hr] at h
          simp only [Bool.not_true, Bool.false_eq_true, if_false]
          refine p__law_is_index pb ⟨_, rfl, ?_⟩
          cases h1 : isIx 0 (n - 1) b with
          | false => rw [h1] at h; exact h
          | true =>
            obtain ⟨i, rfl, hi0, hi1⟩ := isIx_int h1
            rw [h1] at h
            simp only [Bool.not_true, Bool.false_eq_true, if_false, List.getElem?_cons_zero, List.getElem?_cons_succ, List.set_cons_zero, List.set_cons_succ, List.map_cons, List.map_nil, List.cons_append, List.nil_append, List.append_nil, List.replicate_succ, List.replicate_zero, List.length_cons, List.length_nil, List.foldl_cons, List.foldl_nil, Nat.zero_add, Nat.reduceAdd, Nat.reduceSub, ex_some, ex_bl, ex_int, ex_obj, ex_str, ex_lst, ex_cons, true_and, and_true, dAdd_int, dSub_int, dCmp_int, dNeg_int, Option.some.injEq, exists_eq_left', exists_eq_left]
            refine p__law_is_list pc (by omega) ?_
            simp only [lenW] at h
            cases hc : isSq c with
            | none => simp only [isDs, hc] at h ⊢; exact h
            | some ys => simp only [hc] at h ⊢; exact h
      | false =>
        simp only [Bool.false_eq_true, if_false]
        refine ⟨by omega, ?_⟩
        refine lcL_filter (f := fun x => x) (c := fun x => !isIx 0 (n - 1) x) (fun x hx Q N h1 h2 => ?_) ?_
        · have px : pl x = true := by
            rcases List.mem_cons.mp hx with rfl | hx
            · exact pb
            · rcases List.mem_cons.mp hx with rfl | hx
              · exact pc
              · cases hx
          simp only [gSeq, gRet, gRetN, gExpr, gAsg, gIf, gNext, gKill, gDrop, gBrk, gCnt, gNever, gFor, gAug, gOwn, gPut, gDPut, gSprPut, gObjPut, gPar, eObj, eRev, gtName, gtTup, gtCons, gtNil, seqOf, eC, eVar, eUn, eBin, eChain, eAnd, eOr, eNot, eOrT, eIf, tE, tTru, DL.tAnd, DL.tOr, DL.tNot, DL.tYes, aNil, aCons, eLst, eTup, eCall, eCallP, eCallB, aDef, eFn, eIsI, eMt, eGet2, eSpr, oNone, oSome, eSl, eSlX, eSlN, gLPut, gTPut, gOwnAsg, gObjApp, gObjIns, eNewObj, eObjPop, eObjR, eObjL, eObjLen, eObjEnd, eSort, eSortSet, eLstRg, gPar0, sIn, eLc, iSeq, DL.iRng1, DL.iRng2, DL.iEnum, DL.iZip, DL.iStr, killL, fnW, fnWo, eIsE, gTry, gRaise, eJn, eNever, tNever, List.getElem?_cons_zero, List.getElem?_cons_succ, List.set_cons_zero, List.set_cons_succ, List.map_cons, List.map_nil, List.cons_append, List.nil_append, List.append_nil, List.replicate_succ, List.replicate_zero, List.length_cons, List.length_nil, List.foldl_cons, List.foldl_nil, Nat.zero_add, Nat.reduceAdd, Nat.reduceSub, ex_some, ex_bl, ex_int, ex_obj, ex_str, ex_lst, ex_cons, true_and, and_true, dAdd_int, dSub_int, dCmp_int, dNeg_int, Option.some.injEq, exists_eq_left', exists_eq_left]
          refine p__law_is_index px ?_
          simp only [List.getElem?_cons_zero, List.getElem?_cons_succ, List.set_cons_zero, List.set_cons_succ, List.map_cons, List.map_nil, List.cons_append, List.nil_append, List.append_nil, List.replicate_succ, List.replicate_zero, List.length_cons, List.length_nil, List.foldl_cons, List.foldl_nil, Nat.zero_add, Nat.reduceAdd, Nat.reduceSub, ex_some, ex_bl, ex_int, ex_obj, ex_str, ex_lst, ex_cons, true_and, and_true, dAdd_int, dSub_int, dCmp_int, dNeg_int, Option.some.injEq, exists_eq_left', exists_eq_left]
          cases hx : isIx 0 (n - 1) x with
          | true => simpa [hx] using h2
          | false => simpa [hx] using h1
        refine ⟨by omega, ?_⟩
        have hemp : (([b, c].filter fun x => !isIx 0 (n - 1) x).map fun x => x).isEmpty = (isIx 0 (n - 1) b && isIx 0 (n - 1) c) := by
          cases h1 : isIx 0 (n - 1) b <;> cases h2 : isIx 0 (n - 1) c <;> simp [h1, h2]
        simp only [dNe0, hemp, List.getElem?_cons_zero, List.getElem?_cons_succ, List.set_cons_zero, List.set_cons_succ, List.map_cons, List.map_nil, List.cons_append, List.nil_append, List.append_nil, List.replicate_succ, List.replicate_zero, List.length_cons, List.length_nil, List.foldl_cons, List.foldl_nil, Nat.zero_add, Nat.reduceAdd, Nat.reduceSub, ex_some, ex_bl, ex_int, ex_obj, ex_str, ex_lst, ex_cons, true_and, and_true, dAdd_int, dSub_int, dCmp_int, dNeg_int, Option.some.injEq, exists_eq_left', exists_eq_left]
        have hfalse : two n b c = false → isFc n d = false := fun ht => by
          cases h1 : isT "same" a with
          | true =>
            have ha := isT_eq h1
            subst ha
            rw [fc_same hs (.inl rfl), ht, Bool.and_false]
          | false =>
            cases h2 : isT "different" a with
            | true =>
              have ha := isT_eq h2
              subst ha
              rw [fc_same hs (.inr rfl), ht, Bool.and_false]
            | false =>
              cases h3 : isT "equivalent" a with
              | true =>
                have ha := isT_eq h3
                subst ha
                rw [fc_eqv hs]
                unfold eqvR
                split
                · rw [ht, Bool.false_and]
                · rfl
              | false => exact fc_no hs h1 h2 h3 hwin
        cases hb : isIx 0 (n - 1) b && isIx 0 (n - 1) c with
        | false =>
          have ht : two n b c = false := by
            unfold two
            rw [← Bool.and_assoc, hb, Bool.false_and]
          rw [hfalse ht] at h
          simp only [Bool.not_false, if_true]
          exact h
        | true =>
          have hb' := Bool.and_eq_true_iff.mp hb
          obtain ⟨i, rfl, hi0, hi1⟩ := isIx_int hb'.1
          obtain ⟨j, rfl, hj0, hj1⟩ := isIx_int hb'.2
          simp only [Bool.not_true, Bool.false_eq_true, if_false, dEq_int, List.getElem?_cons_zero, List.getElem?_cons_succ, List.set_cons_zero, List.set_cons_succ, List.map_cons, List.map_nil, List.cons_append, List.nil_append, List.append_nil, List.replicate_succ, List.replicate_zero, List.length_cons, List.length_nil, List.foldl_cons, List.foldl_nil, Nat.zero_add, Nat.reduceAdd, Nat.reduceSub, ex_some, ex_bl, ex_int, ex_obj, ex_str, ex_lst, ex_cons, true_and, and_true, dAdd_int, dSub_int, dCmp_int, dNeg_int, Option.some.injEq, exists_eq_left', exists_eq_left]
          cases hij : i == j with
          | true =>
            have ht : two n (.int i) (.int j) = false := by simp only [two, neI, hij, Bool.not_true, Bool.and_false]
            rw [hfalse ht] at h
            exact h
          | false =>
            have ht : two n (.int i) (.int j) = true := by simp only [two, neI, hij, hb'.1, hb'.2, Bool.not_false, Bool.and_true]
            simp only [Bool.false_eq_true, if_false]
            refine ⟨by omega, ?_⟩
            cases h12 : isT "same" a || isT "different" a with
            | true =>
              simp only [if_true, hr3, List.getElem?_cons_zero, List.getElem?_cons_succ, List.set_cons_zero, List.set_cons_succ, List.map_cons, List.map_nil, List.cons_append, List.nil_append, List.append_nil, List.replicate_succ, List.replicate_zero, List.length_cons, List.length_nil, List.foldl_cons, List.foldl_nil, Nat.zero_add, Nat.reduceAdd, Nat.reduceSub, ex_some, ex_bl, ex_int, ex_obj, ex_str, ex_lst, ex_cons, true_and, and_true, dAdd_int, dSub_int, dCmp_int, dNeg_int, Option.some.injEq, exists_eq_left', exists_eq_left]
              have e : isFc n d = r.isEmpty := by
                rcases Bool.or_eq_true_iff.mp h12 with h1 | h1
                · have ha := isT_eq h1
                  subst ha
                  rw [fc_same hs (.inl rfl), ht, Bool.and_true]
                · have ha := isT_eq h1
                  subst ha
                  rw [fc_same hs (.inr rfl), ht, Bool.and_true]
              rw [← e]; exact h
            | false =>
              have h12' := Bool.or_eq_false_iff.mp h12
              simp only [Bool.false_eq_true, if_false]
              cases h3 : isT "equivalent" a with
              | false =>
                rw [fc_no hs h12'.1 h12'.2 h3 hwin] at h
                exact h
              | true =>
                have ha := isT_eq h3
                subst ha
                have e := fc_eqv (n := n) hs
                simp only [Bool.not_true, Bool.false_eq_true, if_false]
                match r, hs, e with
                | [], hs, e => rw [e] at h; exact h
                | x :: y :: r, hs, e =>
                  rw [e] at h
                  have hl : ((((x :: y :: r).length + 1 + 1 + 1 : Nat) : Int) == 4) = false := by rw [beq_eq_false_iff_ne]; simp; omega
                  rw [hl]
                  exact h
                | [x], hs, e =>
                  rw [e] at h
                  simp only [eqvR, ht, Bool.true_and] at h
                  have px : pl x = true := hpl x (by simp)
                  simp only [dIx3 hs, fMax, List.getElem?_cons_zero, List.getElem?_cons_succ, List.set_cons_zero, List.set_cons_succ, List.map_cons, List.map_nil, List.cons_append, List.nil_append, List.append_nil, List.replicate_succ, List.replicate_zero, List.length_cons, List.length_nil, List.foldl_cons, List.foldl_nil, Nat.zero_add, Nat.reduceAdd, Nat.reduceSub, ex_some, ex_bl, ex_int, ex_obj, ex_str, ex_lst, ex_cons, true_and, and_true, dAdd_int, dSub_int, dCmp_int, dNeg_int, Option.some.injEq, exists_eq_left', exists_eq_left]
                  refine p__law_is_index px ⟨_, rfl, ?_⟩
                  simp only [lenE] at h
                  cases x with
                  | int q =>
                    simp only [isIx, List.getElem?_cons_zero, List.getElem?_cons_succ, List.set_cons_zero, List.set_cons_succ, List.map_cons, List.map_nil, List.cons_append, List.nil_append, List.append_nil, List.replicate_succ, List.replicate_zero, List.length_cons, List.length_nil, List.foldl_cons, List.foldl_nil, Nat.zero_add, Nat.reduceAdd, Nat.reduceSub, ex_some, ex_bl, ex_int, ex_obj, ex_str, ex_lst, ex_cons, true_and, and_true, dAdd_int, dSub_int, dCmp_int, dNeg_int, Option.some.injEq, exists_eq_left', exists_eq_left] at h ⊢
                    by_cases hq : 0 ≤ q ∧ q ≤ n
                    · simp only [decide_eq_true hq.1, decide_eq_true hq.2, Bool.and_true, Bool.not_true, Bool.false_eq_true, if_false]
                      by_cases h1 : 1 ≤ q
                      · simpa [h1] using h
                      · simpa [h1] using h
                    · have hf : (decide (1 ≤ q) && decide (q ≤ n - if j > i then j else i)) = false := by
                        rw [Bool.and_eq_false_iff, decide_eq_false_iff_not, decide_eq_false_iff_not]
                        split <;> omega
                      have hf2 : (decide (0 ≤ q) && decide (q ≤ n)) = false := by
                        rw [Bool.and_eq_false_iff, decide_eq_false_iff_not, decide_eq_false_iff_not]
                        omega
                      rw [hf] at h
                      rw [hf2]
                      exact h
                  | _ => exact h
end
theorem p_draw {a : Nat} {m : Int} {S : Sto} {P : D → Sto → Prop} {R : RX} (hs : S a = some .spr) (h0 : 0 < m) (h1 : m < 1073741824) (h : ∀ k : Int, 0 ≤ k → k < m → P (.int k) S) : w__law_draw [.obj a, .int m] S P R := by
  simp only [w__law_draw, gSeq, gRet, gRetN, gExpr, gAsg, gIf, gNext, gKill, gDrop, gBrk, gCnt, gNever, gFor, gAug, gOwn, gPut, gDPut, gSprPut, gObjPut, gPar, eObj, eRev, gtName, gtTup, gtCons, gtNil, seqOf, eC, eVar, eUn, eBin, eChain, eAnd, eOr, eNot, eOrT, eIf, tE, tTru, DL.tAnd, DL.tOr, DL.tNot, DL.tYes, aNil, aCons, eLst, eTup, eCall, eCallP, eCallB, aDef, eFn, eIsI, eMt, eGet2, eSpr, oNone, oSome, eSl, eSlX, eSlN, gLPut, gTPut, gOwnAsg, gObjApp, gObjIns, eNewObj, eObjPop, eObjR, eObjL, eObjLen, eObjEnd, eSort, eSortSet, eLstRg, gPar0, sIn, eLc, iSeq, DL.iRng1, DL.iRng2, DL.iEnum, DL.iZip, DL.iStr, killL, fnW, fnWo, eIsE, gTry, gRaise, eJn, eNever, tNever, List.getElem?_cons_zero, List.getElem?_cons_succ, List.set_cons_zero, List.set_cons_succ, List.map_cons, List.map_nil, List.cons_append, List.nil_append, List.append_nil, List.replicate_succ, List.replicate_zero, List.length_cons, List.length_nil, List.foldl_cons, List.foldl_nil, Nat.zero_add, Nat.reduceAdd, Nat.reduceSub, ex_some, ex_bl, ex_int, ex_obj, ex_str, ex_lst, ex_cons, true_and, and_true, dAdd_int, dSub_int, dCmp_int, dNeg_int, Option.some.injEq, exists_eq_left', exists_eq_left]
  simp only [hs, true_and, true_or, or_true]
  intro v hv
  have hv0 := hv.1 rfl
  split
  · intro v1 hv1
    rw [dMod_int h0]
    simp only [List.getElem?_cons_zero, List.getElem?_cons_succ, List.set_cons_zero, List.set_cons_succ, List.map_cons, List.map_nil, List.cons_append, List.nil_append, List.append_nil, List.replicate_succ, List.replicate_zero, List.length_cons, List.length_nil, List.foldl_cons, List.foldl_nil, Nat.zero_add, Nat.reduceAdd, Nat.reduceSub, ex_some, ex_bl, ex_int, ex_obj, ex_str, ex_lst, ex_cons, true_and, and_true, dAdd_int, dSub_int, dCmp_int, dNeg_int, Option.some.injEq, exists_eq_left', exists_eq_left]
    intro v2 hv2
    rw [dDiv_int h0 h1]
    simp only [List.getElem?_cons_zero, List.getElem?_cons_succ, List.set_cons_zero, List.set_cons_succ, List.map_cons, List.map_nil, List.cons_append, List.nil_append, List.append_nil, List.replicate_succ, List.replicate_zero, List.length_cons, List.length_nil, List.foldl_cons, List.foldl_nil, Nat.zero_add, Nat.reduceAdd, Nat.reduceSub, ex_some, ex_bl, ex_int, ex_obj, ex_str, ex_lst, ex_cons, true_and, and_true, dAdd_int, dSub_int, dCmp_int, dNeg_int, Option.some.injEq, exists_eq_left', exists_eq_left]
    exact ⟨⟨fun _ => Int.ediv_nonneg (hv2.1 rfl) (Int.le_of_lt h0), fun z => absurd z (by decide)⟩, h _ (Int.emod_nonneg _ (by omega)) (Int.emod_lt_of_pos _ h0)⟩
  · intro v2 hv2
    refine ⟨⟨fun z => absurd z (by decide), fun z => absurd z (by decide)⟩, ?_⟩
    intro v3 hv3 v4 hv4
    have q3 := hv3.2 rfl
    have q4 := hv4.2 rfl
    rw [dMul_l (by omega) (by omega)]
    simp only [List.getElem?_cons_zero, List.getElem?_cons_succ, List.set_cons_zero, List.set_cons_succ, List.map_cons, List.map_nil, List.cons_append, List.nil_append, List.append_nil, List.replicate_succ, List.replicate_zero, List.length_cons, List.length_nil, List.foldl_cons, List.foldl_nil, Nat.zero_add, Nat.reduceAdd, Nat.reduceSub, ex_some, ex_bl, ex_int, ex_obj, ex_str, ex_lst, ex_cons, true_and, and_true, dAdd_int, dSub_int, dCmp_int, dNeg_int, Option.some.injEq, exists_eq_left', exists_eq_left]
    rw [dMod_int (by decide)]
    simp only [List.getElem?_cons_zero, List.getElem?_cons_succ, List.set_cons_zero, List.set_cons_succ, List.map_cons, List.map_nil, List.cons_append, List.nil_append, List.append_nil, List.replicate_succ, List.replicate_zero, List.length_cons, List.length_nil, List.foldl_cons, List.foldl_nil, Nat.zero_add, Nat.reduceAdd, Nat.reduceSub, ex_some, ex_bl, ex_int, ex_obj, ex_str, ex_lst, ex_cons, true_and, and_true, dAdd_int, dSub_int, dCmp_int, dNeg_int, Option.some.injEq, exists_eq_left', exists_eq_left]
    intro v5 hv5
    rw [dMul_l (by decide) (by decide)]
    simp only [List.getElem?_cons_zero, List.getElem?_cons_succ, List.set_cons_zero, List.set_cons_succ, List.map_cons, List.map_nil, List.cons_append, List.nil_append, List.append_nil, List.replicate_succ, List.replicate_zero, List.length_cons, List.length_nil, List.foldl_cons, List.foldl_nil, Nat.zero_add, Nat.reduceAdd, Nat.reduceSub, ex_some, ex_bl, ex_int, ex_obj, ex_str, ex_lst, ex_cons, true_and, and_true, dAdd_int, dSub_int, dCmp_int, dNeg_int, Option.some.injEq, exists_eq_left', exists_eq_left]
    intro v6 hv6
    have q6 := hv6.2 rfl
    rw [dMul_r (by omega) (by omega)]
    simp only [List.getElem?_cons_zero, List.getElem?_cons_succ, List.set_cons_zero, List.set_cons_succ, List.map_cons, List.map_nil, List.cons_append, List.nil_append, List.append_nil, List.replicate_succ, List.replicate_zero, List.length_cons, List.length_nil, List.foldl_cons, List.foldl_nil, Nat.zero_add, Nat.reduceAdd, Nat.reduceSub, ex_some, ex_bl, ex_int, ex_obj, ex_str, ex_lst, ex_cons, true_and, and_true, dAdd_int, dSub_int, dCmp_int, dNeg_int, Option.some.injEq, exists_eq_left', exists_eq_left]
    rw [dMod_int (by decide)]
    simp only [List.getElem?_cons_zero, List.getElem?_cons_succ, List.set_cons_zero, List.set_cons_succ, List.map_cons, List.map_nil, List.cons_append, List.nil_append, List.append_nil, List.replicate_succ, List.replicate_zero, List.length_cons, List.length_nil, List.foldl_cons, List.foldl_nil, Nat.zero_add, Nat.reduceAdd, Nat.reduceSub, ex_some, ex_bl, ex_int, ex_obj, ex_str, ex_lst, ex_cons, true_and, and_true, dAdd_int, dSub_int, dCmp_int, dNeg_int, Option.some.injEq, exists_eq_left', exists_eq_left]
    refine ⟨⟨fun z => absurd z (by decide), fun _ => ⟨Int.emod_nonneg _ (by decide), Int.lt_trans (Int.emod_lt_of_pos _ (by decide)) (by decide)⟩⟩, ?_⟩
    intro v7 hv7
    rw [dDiv_int (by decide) (by decide)]
    simp only [List.getElem?_cons_zero, List.getElem?_cons_succ, List.set_cons_zero, List.set_cons_succ, List.map_cons, List.map_nil, List.cons_append, List.nil_append, List.append_nil, List.replicate_succ, List.replicate_zero, List.length_cons, List.length_nil, List.foldl_cons, List.foldl_nil, Nat.zero_add, Nat.reduceAdd, Nat.reduceSub, ex_some, ex_bl, ex_int, ex_obj, ex_str, ex_lst, ex_cons, true_and, and_true, dAdd_int, dSub_int, dCmp_int, dNeg_int, Option.some.injEq, exists_eq_left', exists_eq_left]
    rw [dMod_int h0]
    simp only [List.getElem?_cons_zero, List.getElem?_cons_succ, List.set_cons_zero, List.set_cons_succ, List.map_cons, List.map_nil, List.cons_append, List.nil_append, List.append_nil, List.replicate_succ, List.replicate_zero, List.length_cons, List.length_nil, List.foldl_cons, List.foldl_nil, Nat.zero_add, Nat.reduceAdd, Nat.reduceSub, ex_some, ex_bl, ex_int, ex_obj, ex_str, ex_lst, ex_cons, true_and, and_true, dAdd_int, dSub_int, dCmp_int, dNeg_int, Option.some.injEq, exists_eq_left', exists_eq_left]
    exact h _ (Int.emod_nonneg _ (by omega)) (Int.emod_lt_of_pos _ h0)
theorem ints_of {q : Int → Prop} : ∀ {ds : List D}, (∀ d ∈ ds, ∃ k, d = .int k ∧ q k) → ∃ xs : List Int, ds = xs.map D.int ∧ ∀ x ∈ xs, q x
  | [], _ => ⟨[], rfl, by simp⟩
  | d :: ds, h => by
    obtain ⟨k, rfl, hk⟩ := h d (List.mem_cons_self ..)
    obtain ⟨xs, rfl, hx⟩ := ints_of fun y hy => h y (List.mem_cons_of_mem _ hy)
    exact ⟨k :: xs, rfl, fun x hm => by
      rcases List.mem_cons.mp hm with rfl | hm
      · exact hk
      · exact hx x hm⟩
theorem dPow18 : dPow (.int 10) (.int 18) = some (.int (10 ^ 18)) := by rw [dPow, if_pos (by decide)]; rfl
theorem dPow60 : dPow (.int 10) (.int 60) = some (.int (10 ^ 60)) := by rw [dPow, if_pos (by decide)]; rfl
theorem fAbs_int {i : Int} : fAbs [.int i] = some (.int (if i < 0 then -i else i)) := rfl
theorem p_spring {ns : List Int} {S : Sto} {P : D → Sto → Prop} {R : RX} (h : ∀ a, S a = none → P (.obj a) (S.upd a .spr)) : sprBox w__law_spring [.scr ns] S P R := by
  unfold sprBox
  simp only [w__law_spring, gSeq, gRet, gRetN, gExpr, gAsg, gIf, gNext, gKill, gDrop, gBrk, gCnt, gNever, gFor, gAug, gOwn, gPut, gDPut, gSprPut, gObjPut, gPar, eObj, eRev, gtName, gtTup, gtCons, gtNil, seqOf, eC, eVar, eUn, eBin, eChain, eAnd, eOr, eNot, eOrT, eIf, tE, tTru, DL.tAnd, DL.tOr, DL.tNot, DL.tYes, aNil, aCons, eLst, eTup, eCall, eCallP, eCallB, aDef, eFn, eIsI, eMt, eGet2, eSpr, oNone, oSome, eSl, eSlX, eSlN, gLPut, gTPut, gOwnAsg, gObjApp, gObjIns, eNewObj, eObjPop, eObjR, eObjL, eObjLen, eObjEnd, eSort, eSortSet, eLstRg, gPar0, sIn, eLc, iSeq, DL.iRng1, DL.iRng2, DL.iEnum, DL.iZip, DL.iStr, killL, fnW, fnWo, eIsE, gTry, gRaise, eJn, eNever, tNever, List.getElem?_cons_zero, List.getElem?_cons_succ, List.set_cons_zero, List.set_cons_succ, List.map_cons, List.map_nil, List.cons_append, List.nil_append, List.append_nil, List.replicate_succ, List.replicate_zero, List.length_cons, List.length_nil, List.foldl_cons, List.foldl_nil, Nat.zero_add, Nat.reduceAdd, Nat.reduceSub, ex_some, ex_bl, ex_int, ex_obj, ex_str, ex_lst, ex_cons, true_and, and_true, dAdd_int, dSub_int, dCmp_int, dNeg_int, Option.some.injEq, exists_eq_left', exists_eq_left, dSl, itemsOf]
  have hcut : (cutD ns none (some 63)).length ≤ 63 := by
    rw [cutD_take ns (by decide)]
    exact List.length_take_le _ _
  refine forL_inv (fun i Δ S' => S' = S ∧ ∃ (x s : Int) (c : Option D), Δ = [some (.scr ns), some (.int x), some (.int s), c] ∧ 0 ≤ x ∧ x < 2 ^ (200 * i) ∧ 0 ≤ s ∧ s < 2 ^ 61) ⟨rfl, 0, 88651, none, rfl, by decide, by decide, by decide, by decide⟩ ?_ ?_
  · rintro i y Δ S' Nx hy ⟨rfl, x, s, c, rfl, hx0, hx1, hs0, hs1⟩ hN
    have hi : i < 63 := by
      have := (List.getElem?_eq_some_iff.mp hy).1
      rw [List.length_map] at this
      omega
    rw [List.getElem?_map] at hy
    cases hc : (cutD ns none (some 63))[i]? with
    | none => rw [hc] at hy; simp at hy
    | some n =>
      rw [hc] at hy
      simp only [Option.map_some, Option.some.injEq] at hy
      subst hy
      have hpow : (2 : Int) ^ (200 * (i + 1)) = 2 ^ (200 * i) * 2 ^ 200 := by rw [Nat.mul_add, Int.pow_add]
      have hbig : (10 : Int) ^ 60 ≤ 2 ^ 200 := by decide
      simp only [gSeq, gRet, gRetN, gExpr, gAsg, gIf, gNext, gKill, gDrop, gBrk, gCnt, gNever, gFor, gAug, gOwn, gPut, gDPut, gSprPut, gObjPut, gPar, eObj, eRev, gtName, gtTup, gtCons, gtNil, seqOf, eC, eVar, eUn, eBin, eChain, eAnd, eOr, eNot, eOrT, eIf, tE, tTru, DL.tAnd, DL.tOr, DL.tNot, DL.tYes, aNil, aCons, eLst, eTup, eCall, eCallP, eCallB, aDef, eFn, eIsI, eMt, eGet2, eSpr, oNone, oSome, eSl, eSlX, eSlN, gLPut, gTPut, gOwnAsg, gObjApp, gObjIns, eNewObj, eObjPop, eObjR, eObjL, eObjLen, eObjEnd, eSort, eSortSet, eLstRg, gPar0, sIn, eLc, iSeq, DL.iRng1, DL.iRng2, DL.iEnum, DL.iZip, DL.iStr, killL, fnW, fnWo, eIsE, gTry, gRaise, eJn, eNever, tNever, List.getElem?_cons_zero, List.getElem?_cons_succ, List.set_cons_zero, List.set_cons_succ, List.map_cons, List.map_nil, List.cons_append, List.nil_append, List.append_nil, List.replicate_succ, List.replicate_zero, List.length_cons, List.length_nil, List.foldl_cons, List.foldl_nil, Nat.zero_add, Nat.reduceAdd, Nat.reduceSub, ex_some, ex_bl, ex_int, ex_obj, ex_str, ex_lst, ex_cons, true_and, and_true, dAdd_int, dSub_int, dCmp_int, dNeg_int, Option.some.injEq, exists_eq_left', exists_eq_left, fAbs_int, dPow18, dPow60]
      have tail : ∀ x' : Int, 0 ≤ x' → x' < 2 ^ (200 * (i + 1)) → ∃ d, dMul (D.int s) (D.int 69069) = some d ∧ ∃ d_3, dMod (D.int n) (D.int 2305843009213693921) = some d_3 ∧ ∃ d_4, dAdd d d_3 = some d_4 ∧
          ∃ d, dAdd d_4 (D.int 7) = some d ∧ ∃ d_5, dMod d (D.int 2305843009213693951) = some d_5 ∧ Nx [some (D.scr ns), some (.int x'), some d_5, some (D.int n)] S' := fun x' h0 h1 => by
        rw [dMul_l (by omega) (by omega)]
        simp only [List.getElem?_cons_zero, List.getElem?_cons_succ, List.set_cons_zero, List.set_cons_succ, List.map_cons, List.map_nil, List.cons_append, List.nil_append, List.append_nil, List.replicate_succ, List.replicate_zero, List.length_cons, List.length_nil, List.foldl_cons, List.foldl_nil, Nat.zero_add, Nat.reduceAdd, Nat.reduceSub, ex_some, ex_bl, ex_int, ex_obj, ex_str, ex_lst, ex_cons, true_and, and_true, dAdd_int, dSub_int, dCmp_int, dNeg_int, Option.some.injEq, exists_eq_left', exists_eq_left]
        rw [dMod_int (by decide)]
        simp only [List.getElem?_cons_zero, List.getElem?_cons_succ, List.set_cons_zero, List.set_cons_succ, List.map_cons, List.map_nil, List.cons_append, List.nil_append, List.append_nil, List.replicate_succ, List.replicate_zero, List.length_cons, List.length_nil, List.foldl_cons, List.foldl_nil, Nat.zero_add, Nat.reduceAdd, Nat.reduceSub, ex_some, ex_bl, ex_int, ex_obj, ex_str, ex_lst, ex_cons, true_and, and_true, dAdd_int, dSub_int, dCmp_int, dNeg_int, Option.some.injEq, exists_eq_left', exists_eq_left]
        rw [dMod_int (by decide)]
        simp only [List.getElem?_cons_zero, List.getElem?_cons_succ, List.set_cons_zero, List.set_cons_succ, List.map_cons, List.map_nil, List.cons_append, List.nil_append, List.append_nil, List.replicate_succ, List.replicate_zero, List.length_cons, List.length_nil, List.foldl_cons, List.foldl_nil, Nat.zero_add, Nat.reduceAdd, Nat.reduceSub, ex_some, ex_bl, ex_int, ex_obj, ex_str, ex_lst, ex_cons, true_and, and_true, dAdd_int, dSub_int, dCmp_int, dNeg_int, Option.some.injEq, exists_eq_left', exists_eq_left]
        exact hN _ _ ⟨rfl, _, _, _, rfl, h0, h1, Int.emod_nonneg _ (by decide), Int.lt_trans (Int.emod_lt_of_pos _ (by decide)) (by decide)⟩
      have hx2 : x < 2 ^ (200 * (i + 1)) := by
        rw [hpow]
        have h1 : (0 : Int) < 2 ^ (200 * i) := Int.pow_pos (by decide)
        have h2 : (2 : Int) ^ (200 * i) * 1 ≤ 2 ^ (200 * i) * 2 ^ 200 := Int.mul_le_mul_of_nonneg_left (by decide) (Int.le_of_lt h1)
        omega
      generalize (if n < 0 then -n else n) = ab
      split
      · have hlog : x.natAbs.log2 + ((10 : Int) ^ 60).natAbs.log2 < 1000000 := by
          have h1 : x.natAbs.log2 ≤ 200 * i := by
            rcases Nat.eq_zero_or_pos x.natAbs with z | z
            · rw [z]; simp
            · refine Nat.le_of_lt ((Nat.log2_lt (by omega)).mpr ?_)
              have e : ((x.natAbs : Nat) : Int) < ((2 ^ (200 * i) : Nat) : Int) := by
                rw [Int.natAbs_of_nonneg hx0]
                have := hx1
                rw [Int.natCast_pow]
                exact this
              exact Int.ofNat_lt.mp e
          have h2 : ((10 : Int) ^ 60).natAbs.log2 = 199 := by decide +kernel
          omega
        rw [dMul_w hlog]
        simp only [List.getElem?_cons_zero, List.getElem?_cons_succ, List.set_cons_zero, List.set_cons_succ, List.map_cons, List.map_nil, List.cons_append, List.nil_append, List.append_nil, List.replicate_succ, List.replicate_zero, List.length_cons, List.length_nil, List.foldl_cons, List.foldl_nil, Nat.zero_add, Nat.reduceAdd, Nat.reduceSub, ex_some, ex_bl, ex_int, ex_obj, ex_str, ex_lst, ex_cons, true_and, and_true, dAdd_int, dSub_int, dCmp_int, dNeg_int, Option.some.injEq, exists_eq_left', exists_eq_left]
        rw [dMod_int (by decide)]
        simp only [List.getElem?_cons_zero, List.getElem?_cons_succ, List.set_cons_zero, List.set_cons_succ, List.map_cons, List.map_nil, List.cons_append, List.nil_append, List.append_nil, List.replicate_succ, List.replicate_zero, List.length_cons, List.length_nil, List.foldl_cons, List.foldl_nil, Nat.zero_add, Nat.reduceAdd, Nat.reduceSub, ex_some, ex_bl, ex_int, ex_obj, ex_str, ex_lst, ex_cons, true_and, and_true, dAdd_int, dSub_int, dCmp_int, dNeg_int, Option.some.injEq, exists_eq_left', exists_eq_left]
        have g0 := Int.emod_nonneg ab (show (10 : Int) ^ 60 ≠ 0 by decide)
        have g1 := Int.emod_lt_of_pos ab (show (0 : Int) < 10 ^ 60 by decide)
        refine tail _ (Int.add_nonneg (Int.mul_nonneg hx0 (show (0 : Int) ≤ 10 ^ 60 by decide)) g0) ?_
        rw [hpow]
        have h3 : (x + 1) * 10 ^ 60 ≤ 2 ^ (200 * i) * 2 ^ 200 := Int.mul_le_mul (by omega) hbig (by decide) (Int.le_of_lt (Int.pow_pos (by decide)))
        rw [Int.add_mul, Int.one_mul] at h3
        omega
      · exact tail x hx0 hx2
  · rintro Δ S' ⟨rfl, x, s, c, rfl, hx0, hx1, hs0, hs1⟩
    simp only [gSeq, gRet, gRetN, gExpr, gAsg, gIf, gNext, gKill, gDrop, gBrk, gCnt, gNever, gFor, gAug, gOwn, gPut, gDPut, gSprPut, gObjPut, gPar, eObj, eRev, gtName, gtTup, gtCons, gtNil, seqOf, eC, eVar, eUn, eBin, eChain, eAnd, eOr, eNot, eOrT, eIf, tE, tTru, DL.tAnd, DL.tOr, DL.tNot, DL.tYes, aNil, aCons, eLst, eTup, eCall, eCallP, eCallB, aDef, eFn, eIsI, eMt, eGet2, eSpr, oNone, oSome, eSl, eSlX, eSlN, gLPut, gTPut, gOwnAsg, gObjApp, gObjIns, eNewObj, eObjPop, eObjR, eObjL, eObjLen, eObjEnd, eSort, eSortSet, eLstRg, gPar0, sIn, eLc, iSeq, DL.iRng1, DL.iRng2, DL.iEnum, DL.iZip, DL.iStr, killL, fnW, fnWo, eIsE, gTry, gRaise, eJn, eNever, tNever, List.getElem?_cons_zero, List.getElem?_cons_succ, List.set_cons_zero, List.set_cons_succ, List.map_cons, List.map_nil, List.cons_append, List.nil_append, List.append_nil, List.replicate_succ, List.replicate_zero, List.length_cons, List.length_nil, List.foldl_cons, List.foldl_nil, Nat.zero_add, Nat.reduceAdd, Nat.reduceSub, ex_some, ex_bl, ex_int, ex_obj, ex_str, ex_lst, ex_cons, true_and, and_true, dAdd_int, dSub_int, dCmp_int, dNeg_int, Option.some.injEq, exists_eq_left', exists_eq_left]
    exact ⟨by rw [line_eq]; simp, x, s, 0, rfl, hx0, hs0, hs1, h⟩

theorem rng_nat (n : Nat) : (rngD 0 (n : Int).toNat) = (List.range n).map fun i => D.int (i : Nat) := by
  unfold rngD
  rw [Int.toNat_natCast]
  simp
/-- a comprehension of draws -/
theorem lc_draws {a : Nat} {m : Int} {g : WG} {Δ : DL.Env} {S : Sto} {P : D → Sto → Prop} {xs : List D} {e : WE} (hs : S a = some .spr) (h0 : 0 < m) (h1 : m < 1073741824)
    (he : ∀ x ∈ xs, ∀ Q : D → Sto → Prop, w__law_draw [.obj a, .int m] S Q noR → g x Δ fun Δ1 => e Δ1 S Q noR) (h : ∀ ys : List Int, ys.length = xs.length → (∀ y ∈ ys, 0 ≤ y ∧ y < m) → P (.lst (ys.map D.int)) S) : lcL g DL.tYes e Δ xs [] S P := by
  refine lcL_all (p := fun d => ∃ k, d = .int k ∧ (0 ≤ k ∧ k < m)) (fun x hx Q hQ => he x hx Q (p_draw hs h0 h1 fun k k0 k1 => hQ _ ⟨k, rfl, k0, k1⟩)) fun ds hl hd => ?_
  obtain ⟨ys, rfl, hy⟩ := ints_of hd
  exact h ys (by simpa using hl) hy

/-! ### the distances of a text -/
theorem p_distances {xs : List Int} {S : Sto} {P : D → Sto → Prop} {R : RX} (hl : xs.length ≤ 400) (h : P (.lst ((dist xs).map D.int)) S) : w__law_distances [.lst (xs.map D.int)] S P R := by
  simp only [w__law_distances, gSeq, gRet, gRetN, gExpr, gAsg, gIf, gNext, gKill, gDrop, gBrk, gCnt, gNever, gFor, gAug, gOwn, gPut, gDPut, gSprPut, gObjPut, gPar, eObj, eRev, gtName, gtTup, gtCons, gtNil, seqOf, eC, eVar, eUn, eBin, eChain, eAnd, eOr, eNot, eOrT, eIf, tE, tTru, DL.tAnd, DL.tOr, DL.tNot, DL.tYes, aNil, aCons, eLst, eTup, eCall, eCallP, eCallB, aDef, eFn, eIsI, eMt, eGet2, eSpr, oNone, oSome, eSl, eSlX, eSlN, gLPut, gTPut, gOwnAsg, gObjApp, gObjIns, eNewObj, eObjPop, eObjR, eObjL, eObjLen, eObjEnd, eSort, eSortSet, eLstRg, gPar0, sIn, eLc, iSeq, DL.iRng1, DL.iRng2, DL.iEnum, DL.iZip, DL.iStr, killL, fnW, fnWo, eIsE, gTry, gRaise, eJn, eNever, tNever, List.getElem?_cons_zero, List.getElem?_cons_succ, List.set_cons_zero, List.set_cons_succ, List.map_cons, List.map_nil, List.cons_append, List.nil_append, List.append_nil, List.replicate_succ, List.replicate_zero, List.length_cons, List.length_nil, List.foldl_cons, List.foldl_nil, Nat.zero_add, Nat.reduceAdd, Nat.reduceSub, ex_some, ex_bl, ex_int, ex_obj, ex_str, ex_lst, ex_cons, true_and, and_true, dAdd_int, dSub_int, dCmp_int, dNeg_int, Option.some.injEq, exists_eq_left', exists_eq_left, itemsOf]
  have hline := line_eq
  refine ⟨by omega, ?_⟩
  refine forL_inv (fun i Δ S' => S' = S ∧ i ≤ xs.length ∧ ∃ (kvs : List (L2.Key × Int)) (c3 c4 : Option D), DJ (xs.take i).reverse (dist (xs.take i)) kvs ∧ kvs.length ≤ i ∧ Δ = [some (.lst (xs.map D.int)), some (.lst ((dist (xs.take i)).map D.int)), some (.dct (kvs.map fun p => (p.1, D.int p.2))), c3, c4]) ?_ ?_ ?_
  · exact ⟨rfl, by omega, [], _, _, DJ.nil, by simp, rfl⟩
  · rintro i x Δ S' Nx hx ⟨rfl, hi, kvs, c3, c4, J, hk, rfl⟩ hN
    rw [enumD_get, List.getElem?_map] at hx
    cases hd : xs[i]? with
    | none => rw [hd] at hx; simp at hx
    | some n =>
      rw [hd] at hx
      simp only [Option.map_some, Option.some.injEq] at hx
      subst hx
      obtain ⟨hi2, hn⟩ := List.getElem?_eq_some_iff.mp hd
      have htk : xs.take (i + 1) = xs.take i ++ [n] := by rw [List.take_succ, hd]; rfl
      have hrl : ((xs.take i).reverse).length = i := by rw [List.length_reverse, List.length_take]; omega
      have hdl : (dist (xs.take i)).length = i := by rw [dist_len, List.length_take]; omega
      obtain ⟨J2, hE⟩ := J.step n
      simp only [gSeq, gRet, gRetN, gExpr, gAsg, gIf, gNext, gKill, gDrop, gBrk, gCnt, gNever, gFor, gAug, gOwn, gPut, gDPut, gSprPut, gObjPut, gPar, eObj, eRev, gtName, gtTup, gtCons, gtNil, seqOf, eC, eVar, eUn, eBin, eChain, eAnd, eOr, eNot, eOrT, eIf, tE, tTru, DL.tAnd, DL.tOr, DL.tNot, DL.tYes, aNil, aCons, eLst, eTup, eCall, eCallP, eCallB, aDef, eFn, eIsI, eMt, eGet2, eSpr, oNone, oSome, eSl, eSlX, eSlN, gLPut, gTPut, gOwnAsg, gObjApp, gObjIns, eNewObj, eObjPop, eObjR, eObjL, eObjLen, eObjEnd, eSort, eSortSet, eLstRg, gPar0, sIn, eLc, iSeq, DL.iRng1, DL.iRng2, DL.iEnum, DL.iZip, DL.iStr, killL, fnW, fnWo, eIsE, gTry, gRaise, eJn, eNever, tNever, List.getElem?_cons_zero, List.getElem?_cons_succ, List.set_cons_zero, List.set_cons_succ, List.map_cons, List.map_nil, List.cons_append, List.nil_append, List.append_nil, List.replicate_succ, List.replicate_zero, List.length_cons, List.length_nil, List.foldl_cons, List.foldl_nil, Nat.zero_add, Nat.reduceAdd, Nat.reduceSub, ex_some, ex_bl, ex_int, ex_obj, ex_str, ex_lst, ex_cons, true_and, and_true, dAdd_int, dSub_int, dCmp_int, dNeg_int, Option.some.injEq, exists_eq_left', exists_eq_left, isLst]
      have hget : dGet2 (.dct (kvs.map fun p => (p.1, D.int p.2))) (.int n) (.int ((0 + i : Nat) : Int)) = some ((DL.getD (kvs.map fun p => (p.1, D.int p.2)) (.inl n)).getD (.int ((0 + i : Nat) : Int))) := rfl
      rw [Nat.zero_add] at hget
      simp only [hget, getD_map, List.getElem?_cons_zero, List.getElem?_cons_succ, List.set_cons_zero, List.set_cons_succ, List.map_cons, List.map_nil, List.cons_append, List.nil_append, List.append_nil, List.replicate_succ, List.replicate_zero, List.length_cons, List.length_nil, List.foldl_cons, List.foldl_nil, Nat.zero_add, Nat.reduceAdd, Nat.reduceSub, ex_some, ex_bl, ex_int, ex_obj, ex_str, ex_lst, ex_cons, true_and, and_true, dAdd_int, dSub_int, dCmp_int, dNeg_int, Option.some.injEq, exists_eq_left', exists_eq_left]
      refine ⟨⟨_, rfl⟩, ?_⟩
      have hput : ∀ v : Int, putX (.dct (kvs.map fun p => (p.1, D.int p.2))) (.int n) (.int v) = some (.dct (putD (kvs.map fun p => (p.1, D.int p.2)) (.inl n) (.int v))) := fun v => if_pos (by rw [List.length_map]; omega)
      have happ : ∀ v : Int, oAppend (.lst ((dist (xs.take i)).map D.int)) [.int v] = some (.lst ((dist (xs.take i) ++ [v]).map D.int), .non) := fun v => by
        show (if _ then _ else none) = _
        rw [if_pos (by rw [List.length_map]; omega), List.map_append]
        rfl
      have hd2 : dist (xs.take (i + 1)) = dist (xs.take i) ++ [nxE i kvs n] := by rw [htk, dist_snoc, ← hE, hrl]
      have hv : dSub (.int (i : Int)) (((kvs.find? fun p => decide (p.1 = (Sum.inl n : L2.Key))).map fun p => D.int p.2).getD (.int (i : Int))) = some (.int (nxE i kvs n)) := by
        unfold nxE
        cases kvs.find? fun p => decide (p.1 = (Sum.inl n : L2.Key)) with
        | none => simp [dSub]
        | some q => simp [dSub]
      rw [hv]
      simp only [List.getElem?_cons_zero, List.getElem?_cons_succ, List.set_cons_zero, List.set_cons_succ, List.map_cons, List.map_nil, List.cons_append, List.nil_append, List.append_nil, List.replicate_succ, List.replicate_zero, List.length_cons, List.length_nil, List.foldl_cons, List.foldl_nil, Nat.zero_add, Nat.reduceAdd, Nat.reduceSub, ex_some, ex_bl, ex_int, ex_obj, ex_str, ex_lst, ex_cons, true_and, and_true, dAdd_int, dSub_int, dCmp_int, dNeg_int, Option.some.injEq, exists_eq_left', exists_eq_left]
      rw [happ]
      refine ⟨_, _, rfl, ⟨_, rfl⟩, _, hput _, ?_⟩
      rw [putD_map]
      refine hN _ _ ⟨rfl, hi2, nxK i kvs n, some (.int (i : Int)), some (.int n), ?_, ?_, ?_⟩
      · rw [hd2, htk, List.reverse_append]
        rw [hrl] at J2
        exact J2
      · unfold nxK
        split
        · rw [List.length_map]; omega
        · rw [List.length_append]; simp; omega
      · rw [hd2]; rfl
  · rintro Δ S' ⟨rfl, _, kvs, c3, c4, J, _, rfl⟩
    rw [enumD_len, List.length_map, List.take_of_length_le (Nat.le_refl _)]
    simp only [List.getElem?_cons_zero, List.getElem?_cons_succ, List.set_cons_zero, List.set_cons_succ, List.map_cons, List.map_nil, List.cons_append, List.nil_append, List.append_nil, List.replicate_succ, List.replicate_zero, List.length_cons, List.length_nil, List.foldl_cons, List.foldl_nil, Nat.zero_add, Nat.reduceAdd, Nat.reduceSub, ex_some, ex_bl, ex_int, ex_obj, ex_str, ex_lst, ex_cons, true_and, and_true, dAdd_int, dSub_int, dCmp_int, dNeg_int, Option.some.injEq, exists_eq_left', exists_eq_left]
    exact h

/-! ### windows, facts -/
def win (xs : List Int) (a l : Int) : List Int := (xs.drop a.toNat).take l.toNat
theorem sl_win {xs : List Int} {a l : Int} (ha : 0 ≤ a) (hl : 0 ≤ l) : dSl (.lst (xs.map D.int)) (some a) (some (a + l)) = some (.lst ((win xs a l).map D.int)) := by
  obtain ⟨p, rfl⟩ := Int.eq_ofNat_of_zero_le ha
  obtain ⟨q, rfl⟩ := Int.eq_ofNat_of_zero_le hl
  show some (D.lst (cutD _ _ _)) = _
  unfold cutD win
  rw [HT.sIx_nat, show ((p : Int) + (q : Int)) = ((p + q : Nat) : Int) by omega, HT.sIx_nat, Int.toNat_natCast, Int.toNat_natCast, List.length_map, List.map_take, List.map_drop]
  congr 2
  by_cases h : p ≤ xs.length
  · rw [Nat.min_eq_left h]
    by_cases h2 : p + q ≤ xs.length
    · rw [Nat.min_eq_left h2, Nat.add_sub_cancel_left]
    · rw [Nat.min_eq_right (by omega), List.take_of_length_le (by simp), List.take_of_length_le (by simp; omega)]
  · rw [List.drop_of_length_le (by rw [List.length_map]; omega), List.drop_of_length_le (by rw [List.length_map]; omega)]
    simp
theorem win_len {xs : List Int} {a l : Int} (ha : 0 ≤ a) (hl : 0 ≤ l) (h : a + l ≤ xs.length) : ((win xs a l).length : Int) = l := by
  unfold win
  rw [List.length_take, List.length_drop]
  omega
theorem win_le {xs : List Int} {a l : Int} : (win xs a l).length ≤ xs.length := by
  unfold win
  rw [List.length_take, List.length_drop]
  omega
theorem p_window {xs : List Int} {a l : Int} {S : Sto} {P : D → Sto → Prop} {R : RX} (ha : 0 ≤ a) (hl : 0 ≤ l) (hx : xs.length ≤ 400) (h : P (.lst ((dist (win xs a l)).map D.int)) S) : w__law_window [.lst (xs.map D.int), .int a, .int l] S P R := by
  simp only [w__law_window, gSeq, gRet, gRetN, gExpr, gAsg, gIf, gNext, gKill, gDrop, gBrk, gCnt, gNever, gFor, gAug, gOwn, gPut, gDPut, gSprPut, gObjPut, gPar, eObj, eRev, gtName, gtTup, gtCons, gtNil, seqOf, eC, eVar, eUn, eBin, eChain, eAnd, eOr, eNot, eOrT, eIf, tE, tTru, DL.tAnd, DL.tOr, DL.tNot, DL.tYes, aNil, aCons, eLst, eTup, eCall, eCallP, eCallB, aDef, eFn, eIsI, eMt, eGet2, eSpr, oNone, oSome, eSl, eSlX, eSlN, gLPut, gTPut, gOwnAsg, gObjApp, gObjIns, eNewObj, eObjPop, eObjR, eObjL, eObjLen, eObjEnd, eSort, eSortSet, eLstRg, gPar0, sIn, eLc, iSeq, DL.iRng1, DL.iRng2, DL.iEnum, DL.iZip, DL.iStr, killL, fnW, fnWo, eIsE, gTry, gRaise, eJn, eNever, tNever, List.getElem?_cons_zero, List.getElem?_cons_succ, List.set_cons_zero, List.set_cons_succ, List.map_cons, List.map_nil, List.cons_append, List.nil_append, List.append_nil, List.replicate_succ, List.replicate_zero, List.length_cons, List.length_nil, List.foldl_cons, List.foldl_nil, Nat.zero_add, Nat.reduceAdd, Nat.reduceSub, ex_some, ex_bl, ex_int, ex_obj, ex_str, ex_lst, ex_cons, true_and, and_true, dAdd_int, dSub_int, dCmp_int, dNeg_int, Option.some.injEq, exists_eq_left', exists_eq_left]
  rw [sl_win ha hl]
  simp only [List.getElem?_cons_zero, List.getElem?_cons_succ, List.set_cons_zero, List.set_cons_succ, List.map_cons, List.map_nil, List.cons_append, List.nil_append, List.append_nil, List.replicate_succ, List.replicate_zero, List.length_cons, List.length_nil, List.foldl_cons, List.foldl_nil, Nat.zero_add, Nat.reduceAdd, Nat.reduceSub, ex_some, ex_bl, ex_int, ex_obj, ex_str, ex_lst, ex_cons, true_and, and_true, dAdd_int, dSub_int, dCmp_int, dNeg_int, Option.some.injEq, exists_eq_left', exists_eq_left]
  exact p_distances (Nat.le_trans win_le hx) h
theorem eqv_ints2 : ∀ xs ys : List Int, PyData.eqvAll (xs.map PyData.int) (ys.map PyData.int) = decide (xs = ys)
  | [], [] => by simp [PyData.eqvAll]
  | [], y :: ys => by simp [PyData.eqvAll]
  | x :: xs, [] => by simp [PyData.eqvAll]
  | x :: xs, y :: ys => by
    simp only [List.map_cons, PyData.eqvAll, eqv_ints2 xs ys, PyData.eqv]
    rw [Bool.eq_iff_iff]
    simp
theorem dEq_ints (xs ys : List Int) : dEq (.lst (xs.map D.int)) (.lst (ys.map D.int)) = some (.bl (decide (xs = ys))) := by
  show (if shD (.lst (xs.map D.int)) = true ∧ shD (.lst (ys.map D.int)) = true then some (PyData.eqv (toPy (.lst (xs.map D.int))) (toPy (.lst (ys.map D.int)))) else none).map D.bl = _
  rw [if_pos ⟨shD_ints xs, shD_ints ys⟩]
  simp only [toPy, toPyAll_ints, PyData.eqv, eqv_ints2, Option.map_some]
theorem dNe_ints (xs ys : List Int) : dNe (.lst (xs.map D.int)) (.lst (ys.map D.int)) = some (.bl (!decide (xs = ys))) := by
  show (if shD (.lst (xs.map D.int)) = true ∧ shD (.lst (ys.map D.int)) = true then some (PyData.eqv (toPy (.lst (xs.map D.int))) (toPy (.lst (ys.map D.int)))) else none).map (fun b => D.bl (!b)) = _
  rw [if_pos ⟨shD_ints xs, shD_ints ys⟩]
  simp only [toPy, toPyAll_ints, PyData.eqv, eqv_ints2, Option.map_some]
/-- a fact, in plain words -/
inductive Fc where
  | same (a b : Int)
  | diff (a b : Int)
  | eqv (a b l : Int)
  | win (a : Int) (ds : List Int)
def Fc.ok (n : Int) : Fc → Prop
  | .same a b => 0 ≤ a ∧ a < n ∧ 0 ≤ b ∧ b < n ∧ a ≠ b
  | .diff a b => 0 ≤ a ∧ a < n ∧ 0 ≤ b ∧ b < n ∧ a ≠ b
  | .eqv a b l => 0 ≤ a ∧ a < n ∧ 0 ≤ b ∧ b < n ∧ a ≠ b ∧ 1 ≤ l ∧ a + l ≤ n ∧ b + l ≤ n
  | .win a ds => 0 ≤ a ∧ a < n ∧ 1 ≤ ds.length ∧ a + ds.length ≤ n ∧ VD ds
def Fc.holds (xs : List Int) : Fc → Prop
  | .same a b => xs[a.toNat]? = xs[b.toNat]?
  | .diff a b => xs[a.toNat]? ≠ xs[b.toNat]?
  | .eqv a b l => dist (SPG.win xs a l) = dist (SPG.win xs b l)
  | .win a ds => dist (SPG.win xs a ds.length) = ds
def Fc.parts : Fc → List D
  | .same a b => [.str "same", .int a, .int b]
  | .diff a b => [.str "different", .int a, .int b]
  | .eqv a b l => [.str "equivalent", .int a, .int b, .int l]
  | .win a ds => [.str "window", .int a, .lst (ds.map D.int)]
theorem dist_take (xs : List Int) (k : Nat) : dist (xs.take k) = (dist xs).take k := by
  have h := dist_app (xs.take k) (xs.drop k)
  rw [List.take_append_drop] at h
  by_cases hk : k ≤ xs.length
  · have hl : (dist (xs.take k)).length = k := by rw [dist_len, List.length_take]; omega
    rw [h, List.take_append_of_le_length (by omega)]
    exact (List.take_of_length_le (by omega)).symm
  · rw [List.take_of_length_le (show xs.length ≤ k by omega)]
    exact (List.take_of_length_le (by rw [dist_len]; omega)).symm
theorem win_take {xs : List Int} {a l m : Int} (hm : m ≤ l) : win xs a m = (win xs a l).take m.toNat := by
  unfold win
  rw [List.take_take]
  congr 1
  omega
theorem win_short {xs : List Int} {a b l m : Int} (hm : m ≤ l) (h : dist (win xs a l) = dist (win xs b l)) : dist (win xs a m) = dist (win xs b m) := by
  rw [win_take hm, win_take (a := b) hm, dist_take, dist_take, h]
theorem win_one {xs : List Int} {a : Int} (ha : 0 ≤ a) (h : a < xs.length) : dist (win xs a 1) = [0] := by
  have hl : (win xs a 1).length = 1 := by
    have := win_len (xs := xs) (a := a) (l := 1) ha (by omega) (by omega)
    omega
  obtain ⟨x, hx⟩ := List.length_eq_one_iff.mp hl
  rw [hx]
  rfl
theorem fMax_int {i j : Int} : fMax [.int i, .int j] = some (.int (if j > i then j else i)) := rfl
theorem fMin_int {i j : Int} : fMin [.int i, .int j] = some (.int (if j < i then j else i)) := rfl
theorem dIx_at {xs : List Int} {a : Int} (h0 : 0 ≤ a) (h1 : a < xs.length) : ∃ x, xs[a.toNat]? = some x ∧ dIx (.lst (xs.map D.int)) (.int a) = some (.int x) := by
  obtain ⟨p, rfl⟩ := Int.eq_ofNat_of_zero_le h0
  have hp : p < xs.length := by omega
  refine ⟨xs[p], by simp [hp], ?_⟩
  exact atI_nat (by rw [List.getElem?_map, List.getElem?_eq_getElem hp]; rfl)
theorem p_fact_w {a : Nat} {xs : List Int} {i : Int} {c4 c5 c6 c7 c8 : Option D} {S : Sto} {B : EndsD} {R : RX} (hs : S a = some .spr) (h1 : xs.length ≤ 400) (hi0 : 0 ≤ i) (hi1 : i < xs.length)
    (h : ∀ f : Fc, f.ok xs.length → f.holds xs → B.rt (.tup f.parts) S) : w__law_fact_w [some (.obj a), some (.lst (xs.map D.int)), some (.int xs.length), some (.int i), c4, c5, c6, c7, c8] S B R := by
  have hline := line_eq
  simp only [w__law_fact_w, gSeq, gRet, gRetN, gExpr, gAsg, gIf, gNext, gKill, gDrop, gBrk, gCnt, gNever, gFor, gAug, gOwn, gPut, gDPut, gSprPut, gObjPut, gPar, eObj, eRev, gtName, gtTup, gtCons, gtNil, seqOf, eC, eVar, eUn, eBin, eChain, eAnd, eOr, eNot, eOrT, eIf, tE, tTru, DL.tAnd, DL.tOr, DL.tNot, DL.tYes, aNil, aCons, eLst, eTup, eCall, eCallP, eCallB, aDef, eFn, eIsI, eMt, eGet2, eSpr, oNone, oSome, eSl, eSlX, eSlN, gLPut, gTPut, gOwnAsg, gObjApp, gObjIns, eNewObj, eObjPop, eObjR, eObjL, eObjLen, eObjEnd, eSort, eSortSet, eLstRg, gPar0, sIn, eLc, iSeq, DL.iRng1, DL.iRng2, DL.iEnum, DL.iZip, DL.iStr, killL, fnW, fnWo, eIsE, gTry, gRaise, eJn, eNever, tNever, List.getElem?_cons_zero, List.getElem?_cons_succ, List.set_cons_zero, List.set_cons_succ, List.map_cons, List.map_nil, List.cons_append, List.nil_append, List.append_nil, List.replicate_succ, List.replicate_zero, List.length_cons, List.length_nil, List.foldl_cons, List.foldl_nil, Nat.zero_add, Nat.reduceAdd, Nat.reduceSub, ex_some, ex_bl, ex_int, ex_obj, ex_str, ex_lst, ex_cons, true_and, and_true, dAdd_int, dSub_int, dCmp_int, dNeg_int, Option.some.injEq, exists_eq_left', exists_eq_left, fMin_int]
  refine ⟨by omega, ?_⟩
  refine p_draw hs (by decide) (by decide) fun k hk0 hk1 => ?_
  simp only [List.getElem?_cons_zero, List.getElem?_cons_succ, List.set_cons_zero, List.set_cons_succ, List.map_cons, List.map_nil, List.cons_append, List.nil_append, List.append_nil, List.replicate_succ, List.replicate_zero, List.length_cons, List.length_nil, List.foldl_cons, List.foldl_nil, Nat.zero_add, Nat.reduceAdd, Nat.reduceSub, ex_some, ex_bl, ex_int, ex_obj, ex_str, ex_lst, ex_cons, true_and, and_true, dAdd_int, dSub_int, dCmp_int, dNeg_int, Option.some.injEq, exists_eq_left', exists_eq_left, fMin_int]
  have hix : ∃ m : Int, dIx (.lst [.int ((xs.length : Int) - i), .int (if (xs.length : Int) - i < 5 then (xs.length : Int) - i else 5)]) (.int (if k < 1 then k else 1)) = some (.int m) ∧ 1 ≤ m ∧ m ≤ (xs.length : Int) - i := by
    by_cases hk : k < 1
    · rw [if_pos hk, show k = 0 by omega]
      exact ⟨_, rfl, by omega, by omega⟩
    · rw [if_neg hk]
      refine ⟨_, rfl, ?_, ?_⟩ <;> split <;> omega
  obtain ⟨m, hm, hm1, hm2⟩ := hix
  rw [hm]
  simp only [List.getElem?_cons_zero, List.getElem?_cons_succ, List.set_cons_zero, List.set_cons_succ, List.map_cons, List.map_nil, List.cons_append, List.nil_append, List.append_nil, List.replicate_succ, List.replicate_zero, List.length_cons, List.length_nil, List.foldl_cons, List.foldl_nil, Nat.zero_add, Nat.reduceAdd, Nat.reduceSub, ex_some, ex_bl, ex_int, ex_obj, ex_str, ex_lst, ex_cons, true_and, and_true, dAdd_int, dSub_int, dCmp_int, dNeg_int, Option.some.injEq, exists_eq_left', exists_eq_left]
  refine p_draw hs (by omega) (by omega) fun q hq0 hq1 => ?_
  simp only [List.getElem?_cons_zero, List.getElem?_cons_succ, List.set_cons_zero, List.set_cons_succ, List.map_cons, List.map_nil, List.cons_append, List.nil_append, List.append_nil, List.replicate_succ, List.replicate_zero, List.length_cons, List.length_nil, List.foldl_cons, List.foldl_nil, Nat.zero_add, Nat.reduceAdd, Nat.reduceSub, ex_some, ex_bl, ex_int, ex_obj, ex_str, ex_lst, ex_cons, true_and, and_true, dAdd_int, dSub_int, dCmp_int, dNeg_int, Option.some.injEq, exists_eq_left', exists_eq_left]
  refine p_window hi0 (by omega) h1 ⟨by omega, ?_⟩
  have hl := win_len (xs := xs) (a := i) (l := 1 + q) hi0 (by omega) (by omega)
  have hd : ((dist (win xs i (1 + q))).length : Int) = 1 + q := by rw [dist_len]; exact hl
  refine h (.win i (dist (win xs i (1 + q)))) ⟨hi0, hi1, by omega, by omega, VD_dist (Nat.le_trans win_le h1)⟩ ?_
  show dist (win xs i ((dist (win xs i (1 + q))).length : Int)) = _
  rw [hd]
theorem p_fact {a : Nat} {xs : List Int} {S : Sto} {P : D → Sto → Prop} {R : RX} (hs : S a = some .spr) (h0 : 1 ≤ xs.length) (h1 : xs.length ≤ 400) (h : ∀ f : Fc, f.ok xs.length → f.holds xs → P (.tup f.parts) S) : w__law_fact [.obj a, .lst (xs.map D.int)] S P R := by
  have hline := line_eq
  simp only [w__law_fact, gSeq, gRet, gRetN, gExpr, gAsg, gIf, gNext, gKill, gDrop, gBrk, gCnt, gNever, gFor, gAug, gOwn, gPut, gDPut, gSprPut, gObjPut, gPar, eObj, eRev, gtName, gtTup, gtCons, gtNil, seqOf, eC, eVar, eUn, eBin, eChain, eAnd, eOr, eNot, eOrT, eIf, tE, tTru, DL.tAnd, DL.tOr, DL.tNot, DL.tYes, aNil, aCons, eLst, eTup, eCall, eCallP, eCallB, aDef, eFn, eIsI, eMt, eGet2, eSpr, oNone, oSome, eSl, eSlX, eSlN, gLPut, gTPut, gOwnAsg, gObjApp, gObjIns, eNewObj, eObjPop, eObjR, eObjL, eObjLen, eObjEnd, eSort, eSortSet, eLstRg, gPar0, sIn, eLc, iSeq, DL.iRng1, DL.iRng2, DL.iEnum, DL.iZip, DL.iStr, killL, fnW, fnWo, eIsE, gTry, gRaise, eJn, eNever, tNever, List.getElem?_cons_zero, List.getElem?_cons_succ, List.set_cons_zero, List.set_cons_succ, List.map_cons, List.map_nil, List.cons_append, List.nil_append, List.append_nil, List.replicate_succ, List.replicate_zero, List.length_cons, List.length_nil, List.foldl_cons, List.foldl_nil, Nat.zero_add, Nat.reduceAdd, Nat.reduceSub, ex_some, ex_bl, ex_int, ex_obj, ex_str, ex_lst, ex_cons, true_and, and_true, dAdd_int, dSub_int, dCmp_int, dNeg_int, Option.some.injEq, exists_eq_left', exists_eq_left, fLen, dLen, List.length_map]
  refine p_draw hs (by omega) (by omega) fun i hi0 hi1 => ?_
  refine p_draw hs (by omega) (by omega) fun j hj0 hj1 => ?_
  refine ⟨_, _, rfl, ?_⟩
  refine p_draw hs (by decide) (by decide) fun way hw0 hw1 => ?_
  simp only [List.getElem?_cons_zero, List.getElem?_cons_succ, List.set_cons_zero, List.set_cons_succ, List.map_cons, List.map_nil, List.cons_append, List.nil_append, List.append_nil, List.replicate_succ, List.replicate_zero, List.length_cons, List.length_nil, List.foldl_cons, List.foldl_nil, Nat.zero_add, Nat.reduceAdd, Nat.reduceSub, ex_some, ex_bl, ex_int, ex_obj, ex_str, ex_lst, ex_cons, true_and, and_true, dAdd_int, dSub_int, dCmp_int, dNeg_int, Option.some.injEq, exists_eq_left', exists_eq_left, dNe_int]
  obtain ⟨x, hx, hxi⟩ := dIx_at (xs := xs) hi0 hi1
  obtain ⟨y, hy, hyi⟩ := dIx_at (xs := xs) hj0 hj1
  have last : ∀ {c4 c5 c6 c7 c8 : Option D} {nx : DL.Env → Sto → Prop} {bk ct : DL.Env → Sto → Prop}, w__law_fact_w [some (.obj a), some (.lst (xs.map D.int)), some (.int xs.length), some (.int i), c4, c5, c6, c7, c8] S { nx := nx, rt := P, bk := bk, ct := ct } R := fun {_ _ _ _ _ _ _ _} => p_fact_w hs h1 hi0 hi1 h
  cases hij : i == j with
  | true => simp only [Bool.not_true, Bool.false_eq_true, if_false, ite_self]; exact last
  | false =>
    have hne : i ≠ j := by simpa using hij
    simp only [Bool.not_false, if_true, hxi, hyi, dEq_int, List.getElem?_cons_zero, List.getElem?_cons_succ, List.set_cons_zero, List.set_cons_succ, List.map_cons, List.map_nil, List.cons_append, List.nil_append, List.append_nil, List.replicate_succ, List.replicate_zero, List.length_cons, List.length_nil, List.foldl_cons, List.foldl_nil, Nat.zero_add, Nat.reduceAdd, Nat.reduceSub, ex_some, ex_bl, ex_int, ex_obj, ex_str, ex_lst, ex_cons, true_and, and_true, dAdd_int, dSub_int, dCmp_int, dNeg_int, Option.some.injEq, exists_eq_left', exists_eq_left]
    split
    · refine ⟨by omega, ?_⟩
      cases hxy : x == y with
      | true =>
        have e : x = y := by simpa using hxy
        have hix : dIx (.lst [.str "different", .str "same"]) (.int 1) = some (.str "same") := rfl
        simp only [fInt, if_true, hix, List.getElem?_cons_zero, List.getElem?_cons_succ, List.set_cons_zero, List.set_cons_succ, List.map_cons, List.map_nil, List.cons_append, List.nil_append, List.append_nil, List.replicate_succ, List.replicate_zero, List.length_cons, List.length_nil, List.foldl_cons, List.foldl_nil, Nat.zero_add, Nat.reduceAdd, Nat.reduceSub, ex_some, ex_bl, ex_int, ex_obj, ex_str, ex_lst, ex_cons, true_and, and_true, dAdd_int, dSub_int, dCmp_int, dNeg_int, Option.some.injEq, exists_eq_left', exists_eq_left]
        exact ⟨by omega, h (.same i j) ⟨hi0, hi1, hj0, hj1, hne⟩ (show xs[i.toNat]? = xs[j.toNat]? by rw [hx, hy, e])⟩
      | false =>
        have e : x ≠ y := by simpa using hxy
        have hix : dIx (.lst [.str "different", .str "same"]) (.int 0) = some (.str "different") := rfl
        simp only [fInt, Bool.false_eq_true, if_false, hix, List.getElem?_cons_zero, List.getElem?_cons_succ, List.set_cons_zero, List.set_cons_succ, List.map_cons, List.map_nil, List.cons_append, List.nil_append, List.append_nil, List.replicate_succ, List.replicate_zero, List.length_cons, List.length_nil, List.foldl_cons, List.foldl_nil, Nat.zero_add, Nat.reduceAdd, Nat.reduceSub, ex_some, ex_bl, ex_int, ex_obj, ex_str, ex_lst, ex_cons, true_and, and_true, dAdd_int, dSub_int, dCmp_int, dNeg_int, Option.some.injEq, exists_eq_left', exists_eq_left]
        exact ⟨by omega, h (.diff i j) ⟨hi0, hi1, hj0, hj1, hne⟩ (show xs[i.toNat]? ≠ xs[j.toNat]? by rw [hx, hy]; intro z; exact e (by simpa using z))⟩
    · by_cases hw4 : way < 4
      · simp only [decide_eq_true hw4, if_true, fMax_int, Bool.false_eq_true, if_false, List.getElem?_cons_zero, List.getElem?_cons_succ, List.set_cons_zero, List.set_cons_succ, List.map_cons, List.map_nil, List.cons_append, List.nil_append, List.append_nil, List.replicate_succ, List.replicate_zero, List.length_cons, List.length_nil, List.foldl_cons, List.foldl_nil, Nat.zero_add, Nat.reduceAdd, Nat.reduceSub, ex_some, ex_bl, ex_int, ex_obj, ex_str, ex_lst, ex_cons, true_and, and_true, dAdd_int, dSub_int, dCmp_int, dNeg_int, Option.some.injEq, exists_eq_left', exists_eq_left]
        obtain ⟨mx, hmx, hm1, hm2, hm3⟩ : ∃ mx : Int, (if j > i then j else i) = mx ∧ i ≤ mx ∧ j ≤ mx ∧ mx < xs.length := ⟨_, rfl, by split <;> omega, by split <;> omega, by split <;> omega⟩
        rw [hmx]
        refine ⟨_, _, rfl, rfl, ⟨by omega, by omega, by omega, by omega⟩, ?_⟩
        have fin : ∀ (L : Int) (c7 c8 : Option D), 1 ≤ L → L ≤ xs.length - mx → dist (win xs i L) = dist (win xs j L) → P (.tup [.str "equivalent", .int i, .int j, .int L]) S := fun L c7 c8 hL1 hL2 he =>
          h (.eqv i j L) ⟨hi0, hi1, hj0, hj1, hne, hL1, by omega, by omega⟩ he
        refine forL_inv (fun t Δ S' => S' = S ∧ ∃ (L : Int) (c8 : Option D), 1 ≤ L ∧ L ≤ xs.length - mx ∧ dist (win xs i L) = dist (win xs j L) ∧
          Δ = [some (.obj a), some (.lst (xs.map D.int)), some (.int xs.length), some (.int i), some (.int j), some (.int way), some (.int L), some (.int ((xs.length : Int) - mx)), c8]) ?_ ?_ ?_
        · exact ⟨rfl, 1, _, by omega, by omega, by rw [win_one hi0 hi1, win_one hj0 hj1], rfl⟩
        · rintro t z Δ S' Nx hz ⟨rfl, L, c8, hL1, hL2, he, rfl⟩ hN
          have htl := (List.getElem?_eq_some_iff.mp hz).1
          rw [rngD_len] at htl
          rw [rngD_get htl] at hz
          cases hz
          simp only [gSeq, gRet, gRetN, gExpr, gAsg, gIf, gNext, gKill, gDrop, gBrk, gCnt, gNever, gFor, gAug, gOwn, gPut, gDPut, gSprPut, gObjPut, gPar, eObj, eRev, gtName, gtTup, gtCons, gtNil, seqOf, eC, eVar, eUn, eBin, eChain, eAnd, eOr, eNot, eOrT, eIf, tE, tTru, DL.tAnd, DL.tOr, DL.tNot, DL.tYes, aNil, aCons, eLst, eTup, eCall, eCallP, eCallB, aDef, eFn, eIsI, eMt, eGet2, eSpr, oNone, oSome, eSl, eSlX, eSlN, gLPut, gTPut, gOwnAsg, gObjApp, gObjIns, eNewObj, eObjPop, eObjR, eObjL, eObjLen, eObjEnd, eSort, eSortSet, eLstRg, gPar0, sIn, eLc, iSeq, DL.iRng1, DL.iRng2, DL.iEnum, DL.iZip, DL.iStr, killL, fnW, fnWo, eIsE, gTry, gRaise, eJn, eNever, tNever, List.getElem?_cons_zero, List.getElem?_cons_succ, List.set_cons_zero, List.set_cons_succ, List.map_cons, List.map_nil, List.cons_append, List.nil_append, List.append_nil, List.replicate_succ, List.replicate_zero, List.length_cons, List.length_nil, List.foldl_cons, List.foldl_nil, Nat.zero_add, Nat.reduceAdd, Nat.reduceSub, ex_some, ex_bl, ex_int, ex_obj, ex_str, ex_lst, ex_cons, true_and, and_true, dAdd_int, dSub_int, dCmp_int, dNeg_int, Option.some.injEq, exists_eq_left', exists_eq_left]
          refine p_window hi0 (by omega) h1 ?_
          refine p_window hj0 (by omega) h1 ?_
          rw [dEq_ints]
          simp only [List.getElem?_cons_zero, List.getElem?_cons_succ, List.set_cons_zero, List.set_cons_succ, List.map_cons, List.map_nil, List.cons_append, List.nil_append, List.append_nil, List.replicate_succ, List.replicate_zero, List.length_cons, List.length_nil, List.foldl_cons, List.foldl_nil, Nat.zero_add, Nat.reduceAdd, Nat.reduceSub, ex_some, ex_bl, ex_int, ex_obj, ex_str, ex_lst, ex_cons, true_and, and_true, dAdd_int, dSub_int, dCmp_int, dNeg_int, Option.some.injEq, exists_eq_left', exists_eq_left]
          split
          · rename_i hd
            exact hN _ _ ⟨rfl, _, _, by omega, by omega, of_decide_eq_true hd, rfl⟩
          · exact hN _ _ ⟨rfl, _, _, hL1, hL2, he, rfl⟩
        · rintro Δ S' ⟨rfl, L, c8, hL1, hL2, he, rfl⟩
          simp only [List.getElem?_cons_zero, List.getElem?_cons_succ, List.set_cons_zero, List.set_cons_succ, List.map_cons, List.map_nil, List.cons_append, List.nil_append, List.append_nil, List.replicate_succ, List.replicate_zero, List.length_cons, List.length_nil, List.foldl_cons, List.foldl_nil, Nat.zero_add, Nat.reduceAdd, Nat.reduceSub, ex_some, ex_bl, ex_int, ex_obj, ex_str, ex_lst, ex_cons, true_and, and_true, dAdd_int, dSub_int, dCmp_int, dNeg_int, Option.some.injEq, exists_eq_left', exists_eq_left]
          refine p_draw hs (by decide) (by decide) fun k hk0 hk1 => ?_
          simp only [List.getElem?_cons_zero, List.getElem?_cons_succ, List.set_cons_zero, List.set_cons_succ, List.map_cons, List.map_nil, List.cons_append, List.nil_append, List.append_nil, List.replicate_succ, List.replicate_zero, List.length_cons, List.length_nil, List.foldl_cons, List.foldl_nil, Nat.zero_add, Nat.reduceAdd, Nat.reduceSub, ex_some, ex_bl, ex_int, ex_obj, ex_str, ex_lst, ex_cons, true_and, and_true, dAdd_int, dSub_int, dCmp_int, dNeg_int, Option.some.injEq, exists_eq_left', exists_eq_left, dEq_int]
          split
          · refine p_draw hs (by omega) (by omega) fun q hq0 hq1 => ?_
            simp only [List.getElem?_cons_zero, List.getElem?_cons_succ, List.set_cons_zero, List.set_cons_succ, List.map_cons, List.map_nil, List.cons_append, List.nil_append, List.append_nil, List.replicate_succ, List.replicate_zero, List.length_cons, List.length_nil, List.foldl_cons, List.foldl_nil, Nat.zero_add, Nat.reduceAdd, Nat.reduceSub, ex_some, ex_bl, ex_int, ex_obj, ex_str, ex_lst, ex_cons, true_and, and_true, dAdd_int, dSub_int, dCmp_int, dNeg_int, Option.some.injEq, exists_eq_left', exists_eq_left]
            exact ⟨by omega, fin _ none none (by omega) (by omega) (win_short (l := L) (by omega) he)⟩
          · exact ⟨by omega, fin _ none none hL1 hL2 he⟩
      · simp only [decide_eq_false hw4, Bool.false_eq_true, if_false]
        exact last

/-! ### dressed facts -/
def Dr (f : Fc) (d : D) : Prop := ∃ ps, isSq d = some ps ∧ (ps = f.parts ∨ ∃ a ds, f = .win a ds ∧ ps = [.str "window", .int a, .tup (ds.map D.int)])
def DrAll (fs : List Fc) (d : D) : Prop := ∃ es, isSq d = some es ∧ es.length = fs.length ∧ ∀ (i : Nat) (f : Fc), fs[i]? = some f → ∃ e, es[i]? = some e ∧ Dr f e
theorem Dr.of {f : Fc} {d : D} (h : isSq d = some f.parts) : Dr f d := ⟨_, h, .inl rfl⟩
theorem parts_len (f : Fc) : f.parts.length ≤ 4 := by cases f <;> simp [Fc.parts]
theorem oApp {xs : List D} {y : D} (h : xs.length < 1000000) : oAppend (.lst xs) [y] = some (.lst (xs ++ [y]), .non) := by
  have hline := line_eq
  exact if_pos (by omega)
theorem p_dressed {a : Nat} {fs : List Fc} {S : Sto} {P : D → Sto → Prop} {R : RX} (hs : S a = some .spr) (hl : fs.length ≤ 1000) (h : ∀ d, DrAll fs d → P d S) : w__law_dressed_facts [.obj a, .lst (fs.map fun f => .tup f.parts)] S P R := by
  have hline := line_eq
  simp only [w__law_dressed_facts, gSeq, gRet, gRetN, gExpr, gAsg, gIf, gNext, gKill, gDrop, gBrk, gCnt, gNever, gFor, gAug, gOwn, gPut, gDPut, gSprPut, gObjPut, gPar, eObj, eRev, gtName, gtTup, gtCons, gtNil, seqOf, eC, eVar, eUn, eBin, eChain, eAnd, eOr, eNot, eOrT, eIf, tE, tTru, DL.tAnd, DL.tOr, DL.tNot, DL.tYes, aNil, aCons, eLst, eTup, eCall, eCallP, eCallB, aDef, eFn, eIsI, eMt, eGet2, eSpr, oNone, oSome, eSl, eSlX, eSlN, gLPut, gTPut, gOwnAsg, gObjApp, gObjIns, eNewObj, eObjPop, eObjR, eObjL, eObjLen, eObjEnd, eSort, eSortSet, eLstRg, gPar0, sIn, eLc, iSeq, DL.iRng1, DL.iRng2, DL.iEnum, DL.iZip, DL.iStr, killL, fnW, fnWo, eIsE, gTry, gRaise, eJn, eNever, tNever, List.getElem?_cons_zero, List.getElem?_cons_succ, List.set_cons_zero, List.set_cons_succ, List.map_cons, List.map_nil, List.cons_append, List.nil_append, List.append_nil, List.replicate_succ, List.replicate_zero, List.length_cons, List.length_nil, List.foldl_cons, List.foldl_nil, Nat.zero_add, Nat.reduceAdd, Nat.reduceSub, ex_some, ex_bl, ex_int, ex_obj, ex_str, ex_lst, ex_cons, true_and, and_true, dAdd_int, dSub_int, dCmp_int, dNeg_int, Option.some.injEq, exists_eq_left', exists_eq_left, itemsOf]
  refine ⟨by omega, ?_⟩
  refine forL_inv (fun i Δ S' => S' = S ∧ ∃ (es : List D) (c3 : Option D), es.length = i ∧ i ≤ fs.length ∧ (∀ j f, j < i → fs[j]? = some f → ∃ e, es[j]? = some e ∧ Dr f e) ∧
    Δ = [some (.obj a), some (.lst (fs.map fun f => .tup f.parts)), some (.lst es), c3, none]) ?_ ?_ ?_
  · exact ⟨rfl, [], _, rfl, by omega, by intro j f hj; omega, rfl⟩
  · rintro i x Δ S' Nx hx ⟨rfl, es, c3, hel, hil, hE, rfl⟩ hN
    rw [List.getElem?_map] at hx
    cases hf : fs[i]? with
    | none => rw [hf] at hx; simp at hx
    | some f =>
      rw [hf] at hx
      cases hx
      have hil2 := (List.getElem?_eq_some_iff.mp hf).1
      have step : ∀ (e : D) (c3 : Option D), Dr f e → Nx [some (.obj a), some (.lst (fs.map fun f => .tup f.parts)), some (.lst (es ++ [e])), c3, none] S' := fun e c3 hd => by
        refine hN _ _ ⟨rfl, es ++ [e], _, by simp [hel], hil2, fun j g hj hg => ?_, rfl⟩
        by_cases hji : j < i
        · obtain ⟨e2, h1, h2⟩ := hE j g hji hg
          exact ⟨e2, by rw [List.getElem?_append_left (by omega)]; exact h1, h2⟩
        · have hj2 : j = i := by omega
          subst hj2
          rw [hf] at hg
          cases hg
          exact ⟨e, by rw [← hel, List.getElem?_append_right (Nat.le_refl _)]; simp, hd⟩
      have tail : ∀ ps : List D, (∀ d, isSq d = some ps → Dr f d) → w__law_draw [.obj a, .int 2] S' (fun x S1 => ∃ d, dEq x (.int 0) = some d ∧ ∃ k, d = .bl k ∧ (if k = true then ∃ z r, oAppend (.lst es) [.lst ps] = some (z, r) ∧ Nx [some (.obj a), some (.lst (fs.map fun f => .tup f.parts)), some z, some (.tup f.parts), none] S1 else
          ∃ d, fTup [.lst ps] = some d ∧ ∃ z r, oAppend (.lst es) [d] = some (z, r) ∧ Nx [some (.obj a), some (.lst (fs.map fun f => .tup f.parts)), some z, some (.tup f.parts), none] S1)) R := fun ps hps => by
        refine p_draw hs (by decide) (by decide) fun k hk0 hk1 => ?_
        simp only [dEq_int, List.getElem?_cons_zero, List.getElem?_cons_succ, List.set_cons_zero, List.set_cons_succ, List.map_cons, List.map_nil, List.cons_append, List.nil_append, List.append_nil, List.replicate_succ, List.replicate_zero, List.length_cons, List.length_nil, List.foldl_cons, List.foldl_nil, Nat.zero_add, Nat.reduceAdd, Nat.reduceSub, ex_some, ex_bl, ex_int, ex_obj, ex_str, ex_lst, ex_cons, true_and, and_true, dAdd_int, dSub_int, dCmp_int, dNeg_int, Option.some.injEq, exists_eq_left', exists_eq_left]
        split
        · rw [oApp (by omega)]
          exact ⟨_, _, rfl, step _ _ (hps _ rfl)⟩
        · refine ⟨_, rfl, ?_⟩
          rw [oApp (by omega)]
          exact ⟨_, _, rfl, step _ _ (hps _ rfl)⟩
      have nw : ∀ w : Str, w ≠ "window" → dEq (.str w) (.str "window") = some (.bl false) := fun w hw => by rw [dEq_str, decide_eq_false hw]
      cases f with
      | same i j =>
        simp only [gSeq, gRet, gRetN, gExpr, gAsg, gIf, gNext, gKill, gDrop, gBrk, gCnt, gNever, gFor, gAug, gOwn, gPut, gDPut, gSprPut, gObjPut, gPar, eObj, eRev, gtName, gtTup, gtCons, gtNil, seqOf, eC, eVar, eUn, eBin, eChain, eAnd, eOr, eNot, eOrT, eIf, tE, tTru, DL.tAnd, DL.tOr, DL.tNot, DL.tYes, aNil, aCons, eLst, eTup, eCall, eCallP, eCallB, aDef, eFn, eIsI, eMt, eGet2, eSpr, oNone, oSome, eSl, eSlX, eSlN, gLPut, gTPut, gOwnAsg, gObjApp, gObjIns, eNewObj, eObjPop, eObjR, eObjL, eObjLen, eObjEnd, eSort, eSortSet, eLstRg, gPar0, sIn, eLc, iSeq, DL.iRng1, DL.iRng2, DL.iEnum, DL.iZip, DL.iStr, killL, fnW, fnWo, eIsE, gTry, gRaise, eJn, eNever, tNever, List.getElem?_cons_zero, List.getElem?_cons_succ, List.set_cons_zero, List.set_cons_succ, List.map_cons, List.map_nil, List.cons_append, List.nil_append, List.append_nil, List.replicate_succ, List.replicate_zero, List.length_cons, List.length_nil, List.foldl_cons, List.foldl_nil, Nat.zero_add, Nat.reduceAdd, Nat.reduceSub, ex_some, ex_bl, ex_int, ex_obj, ex_str, ex_lst, ex_cons, true_and, and_true, dAdd_int, dSub_int, dCmp_int, dNeg_int, Option.some.injEq, exists_eq_left', exists_eq_left, Fc.parts, fList, isLst, dIx0 (d := .tup [.str "same", .int i, .int j]) rfl, nw "same" (by decide +kernel), Bool.false_eq_true, if_false]
        exact tail _ fun d hd => Dr.of hd
      | diff i j =>
        simp only [gSeq, gRet, gRetN, gExpr, gAsg, gIf, gNext, gKill, gDrop, gBrk, gCnt, gNever, gFor, gAug, gOwn, gPut, gDPut, gSprPut, gObjPut, gPar, eObj, eRev, gtName, gtTup, gtCons, gtNil, seqOf, eC, eVar, eUn, eBin, eChain, eAnd, eOr, eNot, eOrT, eIf, tE, tTru, DL.tAnd, DL.tOr, DL.tNot, DL.tYes, aNil, aCons, eLst, eTup, eCall, eCallP, eCallB, aDef, eFn, eIsI, eMt, eGet2, eSpr, oNone, oSome, eSl, eSlX, eSlN, gLPut, gTPut, gOwnAsg, gObjApp, gObjIns, eNewObj, eObjPop, eObjR, eObjL, eObjLen, eObjEnd, eSort, eSortSet, eLstRg, gPar0, sIn, eLc, iSeq, DL.iRng1, DL.iRng2, DL.iEnum, DL.iZip, DL.iStr, killL, fnW, fnWo, eIsE, gTry, gRaise, eJn, eNever, tNever, List.getElem?_cons_zero, List.getElem?_cons_succ, List.set_cons_zero, List.set_cons_succ, List.map_cons, List.map_nil, List.cons_append, List.nil_append, List.append_nil, List.replicate_succ, List.replicate_zero, List.length_cons, List.length_nil, List.foldl_cons, List.foldl_nil, Nat.zero_add, Nat.reduceAdd, Nat.reduceSub, ex_some, ex_bl, ex_int, ex_obj, ex_str, ex_lst, ex_cons, true_and, and_true, dAdd_int, dSub_int, dCmp_int, dNeg_int, Option.some.injEq, exists_eq_left', exists_eq_left, Fc.parts, fList, isLst, dIx0 (d := .tup [.str "different", .int i, .int j]) rfl, nw "different" (by decide +kernel), Bool.false_eq_true, if_false]
        exact tail _ fun d hd => Dr.of hd
      | eqv i j l =>
        simp only [gSeq, gRet, gRetN, gExpr, gAsg, gIf, gNext, gKill, gDrop, gBrk, gCnt, gNever, gFor, gAug, gOwn, gPut, gDPut, gSprPut, gObjPut, gPar, eObj, eRev, gtName, gtTup, gtCons, gtNil, seqOf, eC, eVar, eUn, eBin, eChain, eAnd, eOr, eNot, eOrT, eIf, tE, tTru, DL.tAnd, DL.tOr, DL.tNot, DL.tYes, aNil, aCons, eLst, eTup, eCall, eCallP, eCallB, aDef, eFn, eIsI, eMt, eGet2, eSpr, oNone, oSome, eSl, eSlX, eSlN, gLPut, gTPut, gOwnAsg, gObjApp, gObjIns, eNewObj, eObjPop, eObjR, eObjL, eObjLen, eObjEnd, eSort, eSortSet, eLstRg, gPar0, sIn, eLc, iSeq, DL.iRng1, DL.iRng2, DL.iEnum, DL.iZip, DL.iStr, killL, fnW, fnWo, eIsE, gTry, gRaise, eJn, eNever, tNever, List.getElem?_cons_zero, List.getElem?_cons_succ, List.set_cons_zero, List.set_cons_succ, List.map_cons, List.map_nil, List.cons_append, List.nil_append, List.append_nil, List.replicate_succ, List.replicate_zero, List.length_cons, List.length_nil, List.foldl_cons, List.foldl_nil, Nat.zero_add, Nat.reduceAdd, Nat.reduceSub, ex_some, ex_bl, ex_int, ex_obj, ex_str, ex_lst, ex_cons, true_and, and_true, dAdd_int, dSub_int, dCmp_int, dNeg_int, Option.some.injEq, exists_eq_left', exists_eq_left, Fc.parts, fList, isLst, dIx0 (d := .tup [.str "equivalent", .int i, .int j, .int l]) rfl, nw "equivalent" (by decide +kernel), Bool.false_eq_true, if_false]
        exact tail _ fun d hd => Dr.of hd
      | win i ds =>
        simp only [gSeq, gRet, gRetN, gExpr, gAsg, gIf, gNext, gKill, gDrop, gBrk, gCnt, gNever, gFor, gAug, gOwn, gPut, gDPut, gSprPut, gObjPut, gPar, eObj, eRev, gtName, gtTup, gtCons, gtNil, seqOf, eC, eVar, eUn, eBin, eChain, eAnd, eOr, eNot, eOrT, eIf, tE, tTru, DL.tAnd, DL.tOr, DL.tNot, DL.tYes, aNil, aCons, eLst, eTup, eCall, eCallP, eCallB, aDef, eFn, eIsI, eMt, eGet2, eSpr, oNone, oSome, eSl, eSlX, eSlN, gLPut, gTPut, gOwnAsg, gObjApp, gObjIns, eNewObj, eObjPop, eObjR, eObjL, eObjLen, eObjEnd, eSort, eSortSet, eLstRg, gPar0, sIn, eLc, iSeq, DL.iRng1, DL.iRng2, DL.iEnum, DL.iZip, DL.iStr, killL, fnW, fnWo, eIsE, gTry, gRaise, eJn, eNever, tNever, List.getElem?_cons_zero, List.getElem?_cons_succ, List.set_cons_zero, List.set_cons_succ, List.map_cons, List.map_nil, List.cons_append, List.nil_append, List.append_nil, List.replicate_succ, List.replicate_zero, List.length_cons, List.length_nil, List.foldl_cons, List.foldl_nil, Nat.zero_add, Nat.reduceAdd, Nat.reduceSub, ex_some, ex_bl, ex_int, ex_obj, ex_str, ex_lst, ex_cons, true_and, and_true, dAdd_int, dSub_int, dCmp_int, dNeg_int, Option.some.injEq, exists_eq_left', exists_eq_left, Fc.parts, fList, isLst, dIx0 (d := .tup [.str "window", .int i, .lst (ds.map D.int)]) rfl, dEq_str, decide_true, if_true]
        refine p_draw hs (by decide) (by decide) fun k hk0 hk1 => ?_
        simp only [dEq_int, List.getElem?_cons_zero, List.getElem?_cons_succ, List.set_cons_zero, List.set_cons_succ, List.map_cons, List.map_nil, List.cons_append, List.nil_append, List.append_nil, List.replicate_succ, List.replicate_zero, List.length_cons, List.length_nil, List.foldl_cons, List.foldl_nil, Nat.zero_add, Nat.reduceAdd, Nat.reduceSub, ex_some, ex_bl, ex_int, ex_obj, ex_str, ex_lst, ex_cons, true_and, and_true, dAdd_int, dSub_int, dCmp_int, dNeg_int, Option.some.injEq, exists_eq_left', exists_eq_left]
        split
        · refine ⟨⟨_, rfl⟩, ?_⟩
          simp only [dIx2 (d := .lst [.str "window", .int i, .lst (ds.map D.int)]) rfl, fTup, List.getElem?_cons_zero, List.getElem?_cons_succ, List.set_cons_zero, List.set_cons_succ, List.map_cons, List.map_nil, List.cons_append, List.nil_append, List.append_nil, List.replicate_succ, List.replicate_zero, List.length_cons, List.length_nil, List.foldl_cons, List.foldl_nil, Nat.zero_add, Nat.reduceAdd, Nat.reduceSub, ex_some, ex_bl, ex_int, ex_obj, ex_str, ex_lst, ex_cons, true_and, and_true, dAdd_int, dSub_int, dCmp_int, dNeg_int, Option.some.injEq, exists_eq_left', exists_eq_left]
          refine ⟨_, rfl, ?_⟩
          exact tail [.str "window", .int i, .tup (ds.map D.int)] fun d hd => ⟨_, hd, .inr ⟨i, ds, rfl, rfl⟩⟩
        · exact tail _ fun d hd => Dr.of hd
  · rintro Δ S' ⟨rfl, es, c3, hel, hil, hE, rfl⟩
    rw [List.length_map] at hel hE
    have hall : ∀ d, isSq d = some es → DrAll fs d := fun d hd => ⟨es, hd, hel, fun i f hf => hE i f (List.getElem?_eq_some_iff.mp hf).1 hf⟩
    simp only [List.getElem?_cons_zero, List.getElem?_cons_succ, List.set_cons_zero, List.set_cons_succ, List.map_cons, List.map_nil, List.cons_append, List.nil_append, List.append_nil, List.replicate_succ, List.replicate_zero, List.length_cons, List.length_nil, List.foldl_cons, List.foldl_nil, Nat.zero_add, Nat.reduceAdd, Nat.reduceSub, ex_some, ex_bl, ex_int, ex_obj, ex_str, ex_lst, ex_cons, true_and, and_true, dAdd_int, dSub_int, dCmp_int, dNeg_int, Option.some.injEq, exists_eq_left', exists_eq_left]
    refine p_draw hs (by decide) (by decide) fun k hk0 hk1 => ?_
    simp only [dEq_int, List.getElem?_cons_zero, List.getElem?_cons_succ, List.set_cons_zero, List.set_cons_succ, List.map_cons, List.map_nil, List.cons_append, List.nil_append, List.append_nil, List.replicate_succ, List.replicate_zero, List.length_cons, List.length_nil, List.foldl_cons, List.foldl_nil, Nat.zero_add, Nat.reduceAdd, Nat.reduceSub, ex_some, ex_bl, ex_int, ex_obj, ex_str, ex_lst, ex_cons, true_and, and_true, dAdd_int, dSub_int, dCmp_int, dNeg_int, Option.some.injEq, exists_eq_left', exists_eq_left]
    split
    · exact h _ (hall _ rfl)
    · exact ⟨_, rfl, h _ (hall _ rfl)⟩

/-! ### values that repr takes -/
structure Gd (n k : Nat) (d : D) : Prop where
  pl : pl d = true
  len : (PyData.shown (toPy d)).length ≤ n
  dep : PyData.depth (toPy d) ≤ k
  sh : PyData.showable (toPy d) = true
def gdB (n k : Nat) (d : D) : Bool := pl d && (decide ((PyData.shown (toPy d)).length ≤ n) && (decide (PyData.depth (toPy d) ≤ k) && PyData.showable (toPy d)))
theorem Gd.of {n k : Nat} {d : D} (h : gdB n k d = true) : Gd n k d := by
  unfold gdB at h
  rw [Bool.and_eq_true, Bool.and_eq_true, Bool.and_eq_true] at h
  exact ⟨h.1, of_decide_eq_true h.2.1, of_decide_eq_true h.2.2.1, h.2.2.2⟩
theorem Gd.mono {n k m j : Nat} {d : D} (g : Gd n k d) (h : n ≤ m) (h2 : k ≤ j) : Gd m j d := ⟨g.pl, Nat.le_trans g.len h, Nat.le_trans g.dep h2, g.sh⟩
theorem gd_int {i : Int} (h0 : 0 ≤ i) (h1 : i < 10 ^ 40) : Gd 40 0 (.int i) := by
  obtain ⟨n, rfl⟩ := Int.eq_ofNat_of_zero_le h0
  have hn : n < 10 ^ 40 := by
    have h2 : ((n : Nat) : Int) < ((10 ^ 40 : Nat) : Int) := h1
    exact Int.ofNat_lt.mp h2
  refine ⟨rfl, ?_, by simp [toPy, PyData.depth], ?_⟩
  · simp only [toPy, PyData.shown]
    show (numS (n : Int)).length ≤ 40
    rw [TL.len_tl, numS_nat]
    exact TL.numL_len (by decide) hn
  · simp only [toPy, PyData.showable, decide_eq_true_eq]
    rw [Int.natAbs_natCast]
    rcases Nat.eq_zero_or_pos n with rfl | hp
    · decide
    · exact (Nat.log2_lt (by omega)).mpr (Nat.lt_trans hn (by decide +kernel))
theorem gds {n k : Nat} : ∀ {xs : List D}, (∀ x ∈ xs, Gd n k x) → pls xs = true ∧ pil (PyData.shownAll (toPyAll xs)) ≤ xs.length * (n + 2) ∧ PyData.depthAll (toPyAll xs) ≤ k ∧ PyData.showableAll (toPyAll xs) = true
  | [], _ => by simp [pls, toPyAll, PyData.shownAll, pil, PyData.depthAll, PyData.showableAll]
  | x :: xs, h => by
    have hx := h x (List.mem_cons_self ..)
    obtain ⟨h1, h2, h3, h4⟩ := gds (xs := xs) fun y hy => h y (List.mem_cons_of_mem _ hy)
    have hl := hx.len
    refine ⟨by simp [pls, hx.pl, h1], ?_, ?_, by simp [toPyAll, PyData.showableAll, hx.sh, h4]⟩
    · rw [toPyAll, PyData.shownAll, pil_cons, List.length_cons, Nat.succ_mul]
      omega
    · rw [toPyAll, PyData.depthAll]
      exact Nat.max_le.mpr ⟨hx.dep, h3⟩
theorem gd_lst {n k m : Nat} {xs : List D} (h : ∀ x ∈ xs, Gd n k x) (hl : xs.length ≤ m) : Gd (m * (n + 2) + 4) (k + 1) (.lst xs) := by
  obtain ⟨h1, h2, h3, h4⟩ := gds h
  have h5 := listText_le (PyData.shownAll (toPyAll xs))
  have h6 := Nat.mul_le_mul_right (n + 2) hl
  refine ⟨by rw [pl]; exact h1, ?_, ?_, by rw [toPy, PyData.showable]; exact h4⟩
  · rw [toPy, PyData.shown]; omega
  · rw [toPy, PyData.depth]; omega
theorem gd_tup {n k m : Nat} {xs : List D} (h : ∀ x ∈ xs, Gd n k x) (hl : xs.length ≤ m) : Gd (m * (n + 2) + 4) (k + 1) (.tup xs) := by
  obtain ⟨h1, h2, h3, h4⟩ := gds h
  have h5 := tupleText_le (PyData.shownAll (toPyAll xs))
  have h6 := Nat.mul_le_mul_right (n + 2) hl
  refine ⟨by rw [pl]; exact h1, ?_, ?_, by rw [toPy, PyData.showable]; exact h4⟩
  · rw [toPy, PyData.shown]; omega
  · rw [toPy, PyData.depth]; omega
theorem gd_sq {n k m : Nat} {xs : List D} {d : D} (hd : isSq d = some xs) (h : ∀ x ∈ xs, Gd n k x) (hl : xs.length ≤ m) : Gd (m * (n + 2) + 4) (k + 1) d := by
  rcases sq_cases hd with rfl | rfl
  · exact gd_lst h hl
  · exact gd_tup h hl
theorem gd_ints {ds : List Int} (h : ∀ n ∈ ds, 0 ≤ n ∧ n ≤ 1000) (hl : ds.length ≤ 401) : Gd 20000 1 (.lst (ds.map D.int)) ∧ Gd 20000 1 (.tup (ds.map D.int)) := by
  have h2 : ∀ x ∈ ds.map D.int, Gd 40 0 x := fun x hx => by
    obtain ⟨n, hn, rfl⟩ := List.mem_map.mp hx
    have := h n hn
    exact gd_int (by omega) (by omega)
  exact ⟨(gd_lst h2 (by rw [List.length_map]; exact hl)).mono (by decide) (by decide), (gd_tup h2 (by rw [List.length_map]; exact hl)).mono (by decide) (by decide)⟩
theorem repr_gd {n k : Nat} {d : D} (g : Gd n k d) (hn : n ≤ 10000000) (hk : k ≤ 64) : fReprX [d] = some (.str (PyData.shown (toPy d))) := by
  have hline := line_eq
  have := g.len
  have := g.dep
  exact if_pos ⟨pl_rp g.pl, g.sh, by omega, by omega⟩
theorem gd_part {f : Fc} {n : Int} (h : f.ok n) (hn : n ≤ 400) : ∀ x ∈ f.parts, Gd 20000 1 x := by
  have gi : ∀ i : Int, 0 ≤ i → i ≤ 400 → Gd 20000 1 (.int i) := fun i h0 h1 => (gd_int h0 (by omega)).mono (by decide) (by decide)
  have gs : ∀ w : Str, gdB 100 1 (.str w) = true → Gd 20000 1 (.str w) := fun w hw => (Gd.of hw).mono (by decide) (by decide)
  intro x hx
  cases f with
  | same a b =>
    obtain ⟨h1, h2, h3, h4, h5⟩ := h
    simp only [Fc.parts, List.mem_cons, List.not_mem_nil, or_false] at hx
    rcases hx with rfl | rfl | rfl
    · exact gs _ (by decide +kernel)
    · exact gi _ h1 (by omega)
    · exact gi _ h3 (by omega)
  | diff a b =>
    obtain ⟨h1, h2, h3, h4, h5⟩ := h
    simp only [Fc.parts, List.mem_cons, List.not_mem_nil, or_false] at hx
    rcases hx with rfl | rfl | rfl
    · exact gs _ (by decide +kernel)
    · exact gi _ h1 (by omega)
    · exact gi _ h3 (by omega)
  | eqv a b l =>
    obtain ⟨h1, h2, h3, h4, h5, h6, h7, h8⟩ := h
    simp only [Fc.parts, List.mem_cons, List.not_mem_nil, or_false] at hx
    rcases hx with rfl | rfl | rfl | rfl
    · exact gs _ (by decide +kernel)
    · exact gi _ h1 (by omega)
    · exact gi _ h3 (by omega)
    · exact gi _ (by omega) (by omega)
  | win a ds =>
    obtain ⟨h1, h2, h3, h4, h5⟩ := h
    simp only [Fc.parts, List.mem_cons, List.not_mem_nil, or_false] at hx
    rcases hx with rfl | rfl | rfl
    · exact gs _ (by decide +kernel)
    · exact gi _ h1 (by omega)
    · exact (gd_ints h5.rng (by omega)).1
theorem gd_dr {f : Fc} {n : Int} {d : D} (h : f.ok n) (hn : n ≤ 400) (hd : Dr f d) : Gd 100000 2 d := by
  obtain ⟨ps, h1, h2⟩ := hd
  rcases h2 with rfl | ⟨a, ds, rfl, rfl⟩
  · exact (gd_sq h1 (gd_part h hn) (parts_len f)).mono (by decide) (by decide)
  · refine (gd_sq h1 (n := 20000) (k := 1) (m := 3) (fun x hx => ?_) (by simp)).mono (by decide) (by decide)
    simp only [List.mem_cons, List.not_mem_nil, or_false] at hx
    rcases hx with rfl | rfl | rfl
    · exact gd_part h hn _ (by simp [Fc.parts])
    · exact gd_part h hn _ (by simp [Fc.parts])
    · obtain ⟨h1, h2, h3, h4, h5⟩ := h
      exact (gd_ints h5.rng (by omega)).2
theorem dIx_mem {xs : List D} {k : Int} (h0 : 0 ≤ k) (h1 : k < xs.length) : ∃ z, z ∈ xs ∧ dIx (.lst xs) (.int k) = some z := by
  obtain ⟨p, rfl⟩ := Int.eq_ofNat_of_zero_le h0
  have hp : p < xs.length := by omega
  exact ⟨xs[p], List.getElem_mem hp, atI_nat (List.getElem?_eq_getElem hp)⟩
theorem dAdd_l {a b : List D} (h : a.length + b.length ≤ 100000) : dAdd (.lst a) (.lst b) = some (.lst (a ++ b)) := by
  have hline := line_eq
  exact if_pos (by omega)
theorem dMul_z {k : Nat} {a : D} (h : k ≤ 100000) : dMul (.lst [a]) (.int (k : Int)) = some (.lst (List.replicate k a)) := by
  have hline := line_eq
  have c : -(2 ^ 63) ≤ (k : Int) ∧ (k : Int) < 2 ^ 63 ∧ [a].length * (k : Int).toNat ≤ LINE := ⟨by omega, by omega, by rw [Int.toNat_natCast, List.length_singleton]; omega⟩
  have e : List.replicate k a = (List.replicate (k : Int).toNat [a]).flatten := by rw [Int.toNat_natCast, List.flatten_replicate_singleton]
  rw [e]
  unfold dMul
  exact if_pos c
theorem p_no_distances {a : Nat} {S : Sto} {P : D → Sto → Prop} {R : RX} (hs : S a = some .spr) (h : ∀ d, Gd 20000 2 d → P d S) : w__law_no_distances [.obj a] S P R := by
  have hline := line_eq
  obtain ⟨Z, hZ⟩ : ∃ Z, Z = List.replicate 401 (D.int 0) := ⟨_, rfl⟩
  have hm : dMul (.lst [.int 0]) (.int 401) = some (.lst Z) := by rw [hZ]; exact dMul_z (k := 401) (by decide)
  simp only [w__law_no_distances, gSeq, gRet, gRetN, gExpr, gAsg, gIf, gNext, gKill, gDrop, gBrk, gCnt, gNever, gFor, gAug, gOwn, gPut, gDPut, gSprPut, gObjPut, gPar, eObj, eRev, gtName, gtTup, gtCons, gtNil, seqOf, eC, eVar, eUn, eBin, eChain, eAnd, eOr, eNot, eOrT, eIf, tE, tTru, DL.tAnd, DL.tOr, DL.tNot, DL.tYes, aNil, aCons, eLst, eTup, eCall, eCallP, eCallB, aDef, eFn, eIsI, eMt, eGet2, eSpr, oNone, oSome, eSl, eSlX, eSlN, gLPut, gTPut, gOwnAsg, gObjApp, gObjIns, eNewObj, eObjPop, eObjR, eObjL, eObjLen, eObjEnd, eSort, eSortSet, eLstRg, gPar0, sIn, eLc, iSeq, DL.iRng1, DL.iRng2, DL.iEnum, DL.iZip, DL.iStr, killL, fnW, fnWo, eIsE, gTry, gRaise, eJn, eNever, tNever, List.getElem?_cons_zero, List.getElem?_cons_succ, List.set_cons_zero, List.set_cons_succ, List.map_cons, List.map_nil, List.cons_append, List.nil_append, List.append_nil, List.replicate_succ, List.replicate_zero, List.length_cons, List.length_nil, List.foldl_cons, List.foldl_nil, Nat.zero_add, Nat.reduceAdd, Nat.reduceSub, ex_some, ex_bl, ex_int, ex_obj, ex_str, ex_lst, ex_cons, true_and, and_true, dAdd_int, dSub_int, dCmp_int, dNeg_int, Option.some.injEq, exists_eq_left', exists_eq_left, hm]
  refine ⟨by omega, by omega, by omega, by omega, by omega, by omega, by omega, by omega, by omega, by omega, by omega, by omega, by omega, by omega, by omega, by omega, ?_⟩
  rw [dAdd_l (by simp)]
  simp only [List.getElem?_cons_zero, List.getElem?_cons_succ, List.set_cons_zero, List.set_cons_succ, List.map_cons, List.map_nil, List.cons_append, List.nil_append, List.append_nil, List.replicate_succ, List.replicate_zero, List.length_cons, List.length_nil, List.foldl_cons, List.foldl_nil, Nat.zero_add, Nat.reduceAdd, Nat.reduceSub, ex_some, ex_bl, ex_int, ex_obj, ex_str, ex_lst, ex_cons, true_and, and_true, dAdd_int, dSub_int, dCmp_int, dNeg_int, Option.some.injEq, exists_eq_left', exists_eq_left]
  refine ⟨by omega, by omega, ?_⟩
  refine p_draw hs (by decide) (by decide) fun k hk0 hk1 => ?_
  obtain ⟨z, hz, hi⟩ := dIx_mem (xs := [D.non, D.int 0, D.str "0 0", D.dct [], D.lst [D.int 1], D.lst [D.int 0, D.int 2],
                      D.lst [D.int 0, D.int 0, D.int 1, D.int 2], D.lst [D.int 0, D.int 1, D.int 2],
                      D.lst [D.int 0, D.int (-1)], D.lst [D.int 0, D.bl true], D.lst [D.int 0, D.non],
                      D.lst [D.int 0, D.str "1"], D.bl true, D.lst [D.lst [D.int 0]],
                      D.tup [D.int 0, D.int 3], D.lst [D.bl false], D.lst [D.int 0, D.int 0, D.int 0, D.int 2, D.int 3],
                      D.lst [D.str "0"], D.lst Z, D.tup [D.int 1]]) (k := k) hk0 hk1
  refine ⟨z, hi, h z ?_⟩
  simp only [List.mem_cons, List.not_mem_nil, or_false] at hz
  have hzz : Gd 20000 2 (.lst Z) := by
    have e : Z = (List.replicate 401 (0 : Int)).map D.int := by rw [hZ, List.map_replicate]
    rw [e]
    exact (gd_ints (fun n hn => by rw [List.eq_of_mem_replicate hn]; decide) (by rw [List.length_replicate]; decide)).1.mono (by decide) (by decide)
  rcases hz with rfl | rfl | rfl | rfl | rfl | rfl | rfl | rfl | rfl | rfl | rfl | rfl | rfl | rfl | rfl | rfl | rfl | rfl | rfl | rfl
  all_goals first | exact hzz | exact Gd.of (by decide +kernel)
end SPG

/-! SQF: compressed sequences: is_compressed of any plain value, drawn sequences, their texts. -/
namespace SQF
open PySem DL SPG
abbrev g_BLOCK_FIELDS : D := .int 4
abbrev g_EMPTY_LIST : D := .str "none"
abbrev g_EMPTY_MAPPING : D := .str "-"
abbrev g_MAX_POSITIONS : D := .int 400
abbrev g_MOST_BLOCKS : D := .int 8
abbrev g_MOST_BLOCK_LENGTH : D := .int 40
abbrev g_MOST_REPETITIONS : D := .int 1000000000000000000000000000000
def w__law_draw : Fn := fnW 2 4
    (gSeq (gIf (tE (eBin dGt (eSpr (eVar 0) 0) (eC (.int 0)))) (gSeq (gAsg (eBin dMod (eSpr (eVar 0) 0) (eVar 1)) (gtName 2))
    (gSeq (gSprPut (eVar 0) 0 (eBin dDiv (eSpr (eVar 0) 0) (eVar 1)))
    (gRet (eVar 2)))) gNext)
    (gSeq (gSprPut (eVar 0) 2 (eBin dAdd (eSpr (eVar 0) 2) (eC (.int 1))))
    (gSeq (gAsg (eBin dMod (eBin dMul (eSpr (eVar 0) 1) (eSpr (eVar 0) 1)) (eC (.int 2305843009213693951))) (gtName 3))
    (gSeq (gSprPut (eVar 0) 1 (eBin dMod (eBin dAdd (eBin dAdd (eVar 3) (eBin dMul (eBin dMul (eC (.int 7919)) (eSpr (eVar 0) 2)) (eSpr (eVar 0) 1))) (eC (.int 104729))) (eC (.int 2305843009213693951))))
    (gRet (eBin dMod (eBin dDiv (eSpr (eVar 0) 1) (eC (.int 65537))) (eVar 1)))))))
def w__law_mapping : Fn := fnW 3 6
    (gSeq (gAsg (eNewObj (eLstRg (eVar 2))) (gtName 3))
    (gSeq (gAsg (eLst aNil) (gtName 4))
    (gSeq (gFor (iRng1 (eVar 1)) (gtName 5) (gIf (tAnd (tE (eObjL dNe (eVar 3) (eLst aNil))) (tE (eBin dGt (eCall w__law_draw (aDef (aCons (eVar 0) (aCons (eC (.int 3)) aNil)) [])) (eC (.int 0))))) (gOwn 4 isLst oAppend (aCons (eTup (aCons (eVar 5) (aCons (eObjPop (eVar 3) (eCall w__law_draw (aDef (aCons (eVar 0) (aCons (eObjLen (eVar 3)) aNil)) []))) aNil))) aNil)) gNext))
    (gRet (eVar 4)))))
def w__law_symbols : Fn := fnW 2 10
    (gSeq (gAsg (eBin dAdd (eC (.int 1)) (eCall w__law_draw (aDef (aCons (eVar 0) (aCons (eBin dIx (eLst (aCons (eC (.int 2)) (aCons (eC (.int 4)) (aCons (eC (.int 9)) aNil)))) (eCall w__law_draw (aDef (aCons (eVar 0) (aCons (eC (.int 3)) aNil)) []))) aNil)) []))) (gtName 2))
    (gSeq (gAsg (eCall w__law_draw (aDef (aCons (eVar 0) (aCons (eBin dAdd (eVar 1) (eC (.int 1))) aNil)) [])) (gtName 3))
    (gSeq (gAsg (eLc (iRng1 (eBin dAdd (eC (.int 1)) (eCall w__law_draw (aDef (aCons (eVar 0) (aCons (eC (.int 6)) aNil)) [])))) [8] (gtName 8) tYes (eCall w__law_draw (aDef (aCons (eVar 0) (aCons (eVar 2) aNil)) []))) (gtName 4))
    (gSeq (gAsg (eCall w__law_draw (aDef (aCons (eVar 0) (aCons (eC (.int 3)) aNil)) [])) (gtName 5))
    (gSeq (gIf (tE (eBin dEq (eVar 5) (eC (.int 0)))) (gRet (eLc (iRng1 (eVar 3)) [8] (gtName 8) tYes (eCall w__law_draw (aDef (aCons (eVar 0) (aCons (eVar 2) aNil)) [])))) gNext)
    (gSeq (gIf (tE (eBin dEq (eVar 5) (eC (.int 1)))) (gRet (eSl (eBin dMul (eVar 4) (eBin dAdd (eBin dDiv (eVar 3) (eFn fLen (aCons (eVar 4) aNil))) (eC (.int 1)))) oNone (oSome (eVar 3)))) gNext)
    (gSeq (gAsg (eLst aNil) (gtName 6))
    (gSeq (gWhile (tE (eBin dLt (eFn fLen (aCons (eVar 6) aNil)) (eVar 3))) (gSeq (gAsg (eCall w__law_draw (aDef (aCons (eVar 0) (aCons (eC (.int 3)) aNil)) [])) (gtName 7))
    (gSeq (gOwn 6 isLst oExtend (aCons (eLc (iSeq (eVar 4)) [9] (gtName 9) tYes (eBin dMod (eBin dAdd (eVar 9) (eVar 7)) (eC (.int 9)))) aNil))
    (gIf (tE (eBin dEq (eCall w__law_draw (aDef (aCons (eVar 0) (aCons (eC (.int 3)) aNil)) [])) (eC (.int 0)))) (gOwn 6 isLst oAppend (aCons (eCall w__law_draw (aDef (aCons (eVar 0) (aCons (eVar 2) aNil)) [])) aNil)) gNext))))
    (gRet (eSl (eVar 6) oNone (oSome (eVar 3))))))))))))
def w__law_distances : Fn := fnW 1 5
    (gSeq (gAsg (eLst aNil) (gtName 1))
    (gSeq (gAsg (eC (.dct [])) (gtName 2))
    (gSeq (gFor (iEnum (eVar 0)) (gtTup 2 (gtCons (gtName 3) (gtCons (gtName 4) gtNil))) (gSeq (gOwn 1 isLst oAppend (aCons (eBin dSub (eVar 3) (eGet2 (eVar 2) (eVar 4) (eVar 3))) aNil))
    (gDPut 2 (eVar 3) (eVar 4))))
    (gRet (eVar 1)))))
def w__law_sequence_rest : WS :=
    (gSeq (gAsg (eUn dLenSet (eVar 5)) (gtName 6))
    (gSeq (gAsg (eBin dIx (eLst (aCons (eC (.int 1)) (aCons (eC (.int 2)) (aCons (eBin dAdd (eC (.int 1)) (eCall w__law_draw (aDef (aCons (eVar 0) (aCons (eC (.int 99)) aNil)) []))) (aCons (eBin dPow (eC (.int 10)) (eC (.int 30))) aNil))))) (eCall w__law_draw (aDef (aCons (eVar 0) (aCons (eC (.int 4)) aNil)) []))) (gtName 7))
    (gSeq (gAsg (eCall (fnSub w__law_mapping) (aDef (aCons (eVar 0) (aCons (eVar 6) (aCons (eVar 3) aNil))) [])) (gtName 8))
    (gSeq (gAsg (eCall (fnSub w__law_mapping) (aDef (aCons (eVar 0) (aCons (eVar 6) (aCons (eVar 6) aNil))) [])) (gtName 9))
    (gSeq (gOwn 2 isLst oAppend (aCons (eTup (aCons (eCallP w__law_distances (aDef (aCons (eVar 5) aNil) [])) (aCons (eVar 8) (aCons (eVar 9) (aCons (eVar 7) aNil))))) aNil))
    (gAsg (eVar 6) (gtName 3)))))))
def w__law_sequence_mid : WS :=
    (gSeq (gIf (tE (eBin dEq (eCall w__law_draw (aDef (aCons (eVar 0) (aCons (eC (.int 6)) aNil)) [])) (eC (.int 0)))) (gAsg (eBin dIx (eLst (aCons (eLstRg (eC (.int 40))) (aCons (eLc (iRng1 (eC (.int 40))) [10] (gtName 10) tYes (eCall w__law_draw (aDef (aCons (eVar 0) (aCons (eC (.int 40)) aNil)) []))) aNil))) (eCall w__law_draw (aDef (aCons (eVar 0) (aCons (eC (.int 2)) aNil)) []))) (gtName 5)) gNext)
    w__law_sequence_rest)
def w__law_sequence : Fn := fnW 2 11
    (gSeq (gAsg (eLst aNil) (gtName 2))
    (gSeq (gAsg (eC (.int 0)) (gtName 3))
    (gSeq (gFor (iRng1 (eBin dAdd (eC (.int 1)) (eCall w__law_draw (aDef (aCons (eVar 0) (aCons (eVar 1) aNil)) [])))) (gtName 4) (gSeq (gAsg (eOrT (eCall w__law_symbols (aDef (aCons (eVar 0) (aCons (eBin dIx (eLst (aCons (eC (.int 3)) (aCons (eC (.int 8)) (aCons (eC (.int 40)) aNil)))) (eCall w__law_draw (aDef (aCons (eVar 0) (aCons (eC (.int 3)) aNil)) []))) aNil)) [])) (eLst (aCons (eC (.int 0)) aNil))) (gtName 5))
    w__law_sequence_mid))
    (gRet (eVar 2)))))
def w_list_text : Fn := fnW 1 2
    (gRet (eIf (tE (eBin dGt (eFn fLen (aCons (eVar 0) aNil)) (eC (.int 0)))) (eMt isStr mJoin (eC (.str " ")) (aCons (eLc (iSeq (eVar 0)) [1] (gtName 1) tYes (eFn fStr (aCons (eVar 1) aNil))) aNil)) (eC g_EMPTY_LIST)))
def w_is_sequence : Fn := fnW 1 1
    (gRet (eIsI [.list, .tuple] (eVar 0)))
def w_is_integer : Fn := fnW 3 3
    (gSeq (gIf (tOr (tNot (tE (eIsI [.int] (eVar 0)))) (tE (eIsI [.bool] (eVar 0)))) (gRet (eC (.bl false))) gNext)
    (gRet (eAnd (eBin dGe (eVar 0) (eVar 1)) (eOr (eBin dIs (eVar 2) (eC .non)) (eBin dLe (eVar 0) (eVar 2))))))
def w_is_distances : Fn := fnW 1 4
    (gSeq (gIf (tOr (tNot (tE (eCallP w_is_sequence (aDef (aCons (eVar 0) aNil) [])))) (tE (eBin dGt (eFn fLen (aCons (eVar 0) aNil)) (eC g_MAX_POSITIONS)))) (gRet (eC (.bl false))) gNext)
    (gSeq (gIf (tNot (tE (eFn fAll (aCons (eLc (iEnum (eVar 0)) [2, 3] (gtTup 2 (gtCons (gtName 2) (gtCons (gtName 3) gtNil))) tYes (eCallP w_is_integer (aDef (aCons (eVar 3) (aCons (eC (.int 0)) (aCons (eVar 2) aNil))) []))) aNil)))) (gRet (eC (.bl false))) gNext)
    (gSeq (gAsg (eLc (iEnum (eVar 0)) [2, 3] (gtTup 2 (gtCons (gtName 2) (gtCons (gtName 3) gtNil))) (tE (eBin dGt (eVar 3) (eC (.int 0)))) (eBin dSub (eVar 2) (eVar 3))) (gtName 1))
    (gRet (eBin dEq (eUn dLenSet (eVar 1)) (eFn fLen (aCons (eVar 1) aNil)))))))
def w_is_pair : Fn := fnW 3 3
    (gSeq (gIf (tOr (tNot (tE (eCallP w_is_sequence (aDef (aCons (eVar 0) aNil) [])))) (tE (eBin dNe (eFn fLen (aCons (eVar 0) aNil)) (eC (.int 2))))) (gRet (eC (.bl false))) gNext)
    (gRet (eAnd (eCallP w_is_integer (aDef (aCons (eBin dIx (eVar 0) (eC (.int 0))) (aCons (eC (.int 0)) (aCons (eBin dSub (eVar 1) (eC (.int 1))) aNil))) [])) (eCallP w_is_integer (aDef (aCons (eBin dIx (eVar 0) (eC (.int 1))) (aCons (eC (.int 0)) (aCons (eBin dSub (eVar 2) (eC (.int 1))) aNil))) [])))))
def w_is_mapping : Fn := fnW 3 8
    (gSeq (gIf (tOr (tNot (tE (eCallP w_is_sequence (aDef (aCons (eVar 0) aNil) [])))) (tNot (tE (eFn fAll (aCons (eLc (iSeq (eVar 0)) [5] (gtName 5) tYes (eCallP w_is_pair (aDef (aCons (eVar 5) (aCons (eVar 1) (aCons (eVar 2) aNil))) []))) aNil))))) (gRet (eC (.bl false))) gNext)
    (gSeq (gAsg (eLc (iSeq (eVar 0)) [5] (gtName 5) tYes (eBin dIx (eVar 5) (eC (.int 0)))) (gtName 3))
    (gSeq (gAsg (eLc (iSeq (eVar 0)) [5] (gtName 5) tYes (eBin dIx (eVar 5) (eC (.int 1)))) (gtName 4))
    (gRet (eAnd (eFn fAll (aCons (eLc (iZip (eVar 3) (eSl (eVar 3) (oSome (eC (.int 1))) oNone)) [6, 7] (gtTup 2 (gtCons (gtName 6) (gtCons (gtName 7) gtNil))) tYes (eBin dLt (eVar 6) (eVar 7))) aNil)) (eBin dEq (eUn dLenSet (eVar 4)) (eFn fLen (aCons (eVar 4) aNil))))))))
def w_is_block : Fn := fnW 2 3
    (gSeq (gIf (tOr (tNot (tE (eCallP w_is_sequence (aDef (aCons (eVar 0) aNil) [])))) (tOr (tE (eBin dNe (eFn fLen (aCons (eVar 0) aNil)) (eC g_BLOCK_FIELDS))) (tNot (tE (eCallP w_is_distances (aDef (aCons (eBin dIx (eVar 0) (eC (.int 0))) aNil) [])))))) (gRet (eC (.bl false))) gNext)
    (gSeq (gIf (tNot (tE (eChain dLe dLe (eC (.int 1)) (eFn fLen (aCons (eBin dIx (eVar 0) (eC (.int 0))) aNil)) (eC g_MOST_BLOCK_LENGTH)))) (gRet (eC (.bl false))) gNext)
    (gSeq (gAsg (eMt isLst mCount (eFn fList (aCons (eBin dIx (eVar 0) (eC (.int 0))) aNil)) (aCons (eC (.int 0)) aNil)) (gtName 2))
    (gSeq (gIf (tOr (tNot (tE (eCallP w_is_mapping (aDef (aCons (eBin dIx (eVar 0) (eC (.int 1))) (aCons (eVar 2) (aCons (eVar 1) aNil))) [])))) (tNot (tE (eCallP w_is_mapping (aDef (aCons (eBin dIx (eVar 0) (eC (.int 2))) (aCons (eVar 2) (aCons (eVar 2) aNil))) []))))) (gRet (eC (.bl false))) gNext)
    (gRet (eCallP w_is_integer (aDef (aCons (eBin dIx (eVar 0) (eC (.int 3))) (aCons (eC (.int 1)) (aCons (eC g_MOST_REPETITIONS) aNil))) [])))))))
def w_is_compressed : Fn := fnW 1 3
    (gSeq (gIf (tOr (tNot (tE (eCallP w_is_sequence (aDef (aCons (eVar 0) aNil) [])))) (tNot (tE (eChain dLe dLe (eC (.int 1)) (eFn fLen (aCons (eVar 0) aNil)) (eC g_MOST_BLOCKS))))) (gRet (eC (.bl false))) gNext)
    (gSeq (gAsg (eC (.int 0)) (gtName 1))
    (gSeq (gFor (iSeq (eVar 0)) (gtName 2) (gSeq (gIf (tNot (tE (eCallP w_is_block (aDef (aCons (eVar 2) (aCons (eVar 1) aNil)) [])))) (gRet (eC (.bl false))) gNext)
    (gAsg (eMt isLst mCount (eFn fList (aCons (eBin dIx (eVar 2) (eC (.int 0))) aNil)) (aCons (eC (.int 0)) aNil)) (gtName 1))))
    (gRet (eC (.bl true))))))
def w_mapping_text : Fn := fnW 1 3
    (gRet (eIf (tE (eBin dGt (eFn fLen (aCons (eVar 0) aNil)) (eC (.int 0)))) (eMt isStr mJoin (eC (.str " ")) (aCons (eLc (iSeq (eVar 0)) [1, 2] (gtTup 2 (gtCons (gtName 1) (gtCons (gtName 2) gtNil))) tYes (eJn [(eUn dFmt (eVar 1)), (eC (.str ">")), (eUn dFmt (eVar 2))] Str.empty)) aNil)) (eC g_EMPTY_MAPPING)))
def w_block_text : Fn := fnW 1 5
    (gSeq (gAsg (eVar 0) (gtTup 4 (gtCons (gtName 1) (gtCons (gtName 2) (gtCons (gtName 3) (gtCons (gtName 4) gtNil))))))
    (gRet (eJn [(eUn dFmt (eCallP w_list_text (aDef (aCons (eVar 1) aNil) []))), (eC (.str " / ")), (eUn dFmt (eCallP w_mapping_text (aDef (aCons (eVar 2) aNil) []))), (eC (.str " / ")), (eUn dFmt (eCallP w_mapping_text (aDef (aCons (eVar 3) aNil) []))), (eC (.str " x ")), (eUn dFmt (eVar 4))] Str.empty)))
section
variable {d : D} {S : Sto} {P : D → Sto → Prop} {R : RX}
/-! ### is_compressed of any plain value -/
def pairOk (own other : Int) (d : D) : Bool := match isSq d with
  | some [a, b] => isIx 0 (own - 1) a && isIx 0 (other - 1) b
  | _ => false
theorem p_is_pair {own other : Int} (hv : pl d = true) (h : P (.bl (pairOk own other d)) S) : w_is_pair [d, .int own, .int other] S P R := by
  simp only [w_is_pair, gSeq, gRet, gRetN, gExpr, gAsg, gIf, gNext, gKill, gDrop, gBrk, gCnt, gNever, gFor, gAug, gOwn, gPut, gDPut, gSprPut, gObjPut, gPar, eObj, eRev, gtName, gtTup, gtCons, gtNil, seqOf, eC, eVar, eUn, eBin, eChain, eAnd, eOr, eNot, eOrT, eIf, tE, tTru, DL.tAnd, DL.tOr, DL.tNot, DL.tYes, aNil, aCons, eLst, eTup, eCall, eCallP, eCallB, aDef, eFn, eIsI, eMt, eGet2, eSpr, oNone, oSome, eSl, eSlX, eSlN, gLPut, gTPut, gOwnAsg, gObjApp, gObjIns, eNewObj, eObjPop, eObjR, eObjL, eObjLen, eObjEnd, eSort, eSortSet, eLstRg, gPar0, sIn, eLc, iSeq, DL.iRng1, DL.iRng2, DL.iEnum, DL.iZip, DL.iStr, killL, fnW, fnWo, eIsE, gTry, gRaise, eJn, eNever, tNever, List.getElem?_cons_zero, List.getElem?_cons_succ, List.set_cons_zero, List.set_cons_succ, List.map_cons, List.map_nil, List.cons_append, List.nil_append, List.append_nil, List.replicate_succ, List.replicate_zero, List.length_cons, List.length_nil, List.foldl_cons, List.foldl_nil, Nat.zero_add, Nat.reduceAdd, Nat.reduceSub, ex_some, ex_bl, ex_int, ex_obj, ex_str, ex_lst, ex_cons, true_and, and_true, dAdd_int, dSub_int, dCmp_int, dNeg_int, Option.some.injEq, exists_eq_left', exists_eq_left]
  refine p_is_sequence_distances hv ?_
  cases hs : isSq d with
  | none =>
    have e : pairOk own other d = false := by unfold pairOk; rw [hs]
    rw [e] at h
    simpa [hs] using h
  | some xs =>
    simp only [List.getElem?_cons_zero, List.getElem?_cons_succ, List.set_cons_zero, List.set_cons_succ, List.map_cons, List.map_nil, List.cons_append, List.nil_append, List.append_nil, List.replicate_succ, List.replicate_zero, List.length_cons, List.length_nil, List.foldl_cons, List.foldl_nil, Nat.zero_add, Nat.reduceAdd, Nat.reduceSub, ex_some, ex_bl, ex_int, ex_obj, ex_str, ex_lst, ex_cons, true_and, and_true, dAdd_int, dSub_int, dCmp_int, dNeg_int, Option.some.injEq, exists_eq_left', exists_eq_left, Option.isSome_some, Bool.not_true, Bool.false_eq_true, if_false, fLen_sq hs, dNe_int]
    by_cases hl : xs.length = 2
    · obtain ⟨a, b, rfl⟩ : ∃ a b, xs = [a, b] := by
        match xs, hl with
        | [a, b], _ => exact ⟨a, b, rfl⟩
      have hp := sq_pl hs hv
      have ha : pl a = true := hp a (by simp)
      have hb : pl b = true := hp b (by simp)
      rw [if_neg (by simp), dIx0 hs]
      refine ⟨_, rfl, p_is_integer_distances ha ⟨_, rfl, ?_⟩⟩
      have e : pairOk own other d = (isIx 0 (own - 1) a && isIx 0 (other - 1) b) := by unfold pairOk; rw [hs]
      rw [e] at h
      cases ia : isIx 0 (own - 1) a with
      | false =>
        rw [ia] at h
        simpa using h
      | true =>
        rw [ia, Bool.true_and] at h
        rw [if_pos rfl, dIx1 hs]
        exact ⟨_, rfl, p_is_integer_distances hb h⟩
    · have e : pairOk own other d = false := by
        unfold pairOk; rw [hs]
        match xs, hl with
        | [], _ => rfl
        | [a], _ => rfl
        | [a, b], z => exact absurd rfl z
        | a :: b :: c :: r, _ => rfl
      rw [e] at h
      rw [if_pos (by simp; omega)]
      exact h
def prOf (d : D) : Int × Int := match isSq d with
  | some [.int a, .int b] => (a, b)
  | _ => (0, 0)
theorem pair_int {own other : Int} (h : pairOk own other d = true) : ∃ a b, isSq d = some [.int a, .int b] ∧ prOf d = (a, b) ∧ 0 ≤ a ∧ a < own ∧ 0 ≤ b ∧ b < other := by
  unfold pairOk at h
  split at h
  · rename_i x y hs
    rw [Bool.and_eq_true] at h
    obtain ⟨a, rfl, h1, h2⟩ := isIx_int h.1
    obtain ⟨b, rfl, h3, h4⟩ := isIx_int h.2
    exact ⟨a, b, hs, by unfold prOf; rw [hs], h1, by omega, h3, by omega⟩
  · cases h
def ascI : List Int → Bool
  | a :: b :: r => decide (a < b) && ascI (b :: r)
  | _ => true
def mapOk (own other : Int) (d : D) : Bool := match isSq d with
  | some xs => xs.all (pairOk own other) && (ascI (xs.map fun x => (prOf x).1) && decide (xs.map fun x => (prOf x).2).Nodup)
  | none => false
theorem zip_asc : ∀ xs : List Int, ((zipD (xs.map D.int) ((xs.drop 1).map D.int)).map fun p => match p with | .tup [.int a, .int b] => decide (a < b) | _ => false).all id = ascI xs
  | [] => rfl
  | [a] => rfl
  | a :: b :: r => by
    have ih := zip_asc (b :: r)
    simp only [List.drop_succ_cons, List.drop_zero, List.map_cons] at ih ⊢
    rw [zipD, List.map_cons, List.all_cons, ih]
    rfl
theorem asc_lt : ∀ {xs : List Int}, ascI xs = true → xs.Pairwise (· < ·)
  | [], _ => .nil
  | [a], _ => by simp
  | a :: b :: r, h => by
    unfold ascI at h
    rw [Bool.and_eq_true, decide_eq_true_eq] at h
    have ih := asc_lt h.2
    refine .cons (fun x hx => ?_) ih
    rcases List.mem_cons.mp hx with rfl | hx
    · exact h.1
    · have := (List.pairwise_cons.mp ih).1 x hx
      omega
theorem lt_asc : ∀ {xs : List Int}, xs.Pairwise (· < ·) → ascI xs = true
  | [], _ => rfl
  | [a], _ => rfl
  | a :: b :: r, h => by
    unfold ascI
    have h2 := List.pairwise_cons.mp h
    rw [Bool.and_eq_true, decide_eq_true_eq]
    exact ⟨h2.1 b (by simp), lt_asc h2.2⟩
theorem asc_len {xs : List Int} {own : Int} (h : ascI xs = true) (hr : ∀ x ∈ xs, 0 ≤ x ∧ x < own) : (xs.length : Int) ≤ max own 0 := by
  have hnd : xs.Nodup := (asc_lt h).imp fun z => Int.ne_of_lt z
  have hs : xs ⊆ (List.range own.toNat).map (fun i : Nat => (i : Int)) := fun x hx => by
    have := hr x hx
    exact List.mem_map.mpr ⟨x.toNat, List.mem_range.mpr (by omega), by omega⟩
  have := hnd.length_le_of_subset hs
  rw [List.length_map, List.length_range] at this
  omega
theorem dedup_nodup_iff {xs : List Int} : ((dedup xs).length == xs.length) = decide xs.Nodup := by
  by_cases h : xs.Nodup
  · rw [dedup_nodup h, decide_eq_true h]
    simp
  · rw [decide_eq_false h]
    refine Bool.eq_false_iff.mpr fun e => h ?_
    have e2 : (dedup xs).length = xs.length := by simpa using e
    have : ∀ ys : List Int, (dedup ys).length = ys.length → ys.Nodup := by
      intro ys
      induction ys using snoc_ind with
      | h0 => intro _; exact .nil
      | hs ys y ih =>
        intro hl
        have le : (dedup ys).length ≤ ys.length := by
          have := dedup_le ys []
          simpa [dedup] using this
        rw [dedup_snoc, any_eq_mem] at hl
        by_cases hm : y ∈ dedup ys
        · rw [decide_eq_true hm, if_pos rfl, List.length_append] at hl
          simp at hl
          omega
        · rw [decide_eq_false hm, if_neg (by decide), List.length_append, List.length_append] at hl
          have := ih (by simp at hl; omega)
          rw [List.nodup_append]
          refine ⟨this, by simp, fun a ha b hb e => ?_⟩
          have hb2 : b = y := by simpa using hb
          subst hb2 e
          exact hm (mem_dedup.mpr ha)
    exact this xs e2
theorem p_is_mapping {own other : Int} (ho : own ≤ 400) (hv : pl d = true) (hl : ∀ xs, isSq d = some xs → xs.length ≤ 100000) (h : P (.bl (mapOk own other d)) S) : w_is_mapping [d, .int own, .int other] S P R := by
  have hline := line_eq
  simp only [w_is_mapping, gSeq, gRet, gRetN, gExpr, gAsg, gIf, gNext, gKill, gDrop, gBrk, gCnt, gNever, gFor, gAug, gOwn, gPut, gDPut, gSprPut, gObjPut, gPar, eObj, eRev, gtName, gtTup, gtCons, gtNil, seqOf, eC, eVar, eUn, eBin, eChain, eAnd, eOr, eNot, eOrT, eIf, tE, tTru, DL.tAnd, DL.tOr, DL.tNot, DL.tYes, aNil, aCons, eLst, eTup, eCall, eCallP, eCallB, aDef, eFn, eIsI, eMt, eGet2, eSpr, oNone, oSome, eSl, eSlX, eSlN, gLPut, gTPut, gOwnAsg, gObjApp, gObjIns, eNewObj, eObjPop, eObjR, eObjL, eObjLen, eObjEnd, eSort, eSortSet, eLstRg, gPar0, sIn, eLc, iSeq, DL.iRng1, DL.iRng2, DL.iEnum, DL.iZip, DL.iStr, killL, fnW, fnWo, eIsE, gTry, gRaise, eJn, eNever, tNever, List.getElem?_cons_zero, List.getElem?_cons_succ, List.set_cons_zero, List.set_cons_succ, List.map_cons, List.map_nil, List.cons_append, List.nil_append, List.append_nil, List.replicate_succ, List.replicate_zero, List.length_cons, List.length_nil, List.foldl_cons, List.foldl_nil, Nat.zero_add, Nat.reduceAdd, Nat.reduceSub, ex_some, ex_bl, ex_int, ex_obj, ex_str, ex_lst, ex_cons, true_and, and_true, dAdd_int, dSub_int, dCmp_int, dNeg_int, Option.some.injEq, exists_eq_left', exists_eq_left]
  refine p_is_sequence_distances hv ?_
  cases hs : isSq d with
  | none =>
    have e : mapOk own other d = false := by unfold mapOk; rw [hs]
    rw [e] at h
    simpa [hs] using h
  | some xs =>
    have hp := sq_pl hs hv
    have hlen := hl xs hs
    have hmap : mapOk own other d = (xs.all (pairOk own other) && (ascI (xs.map fun x => (prOf x).1) && decide (xs.map fun x => (prOf x).2).Nodup)) := by unfold mapOk; rw [hs]
    rw [hmap] at h
    simp only [List.getElem?_cons_zero, List.getElem?_cons_succ, List.set_cons_zero, List.set_cons_succ, List.map_cons, List.map_nil, List.cons_append, List.nil_append, List.append_nil, List.replicate_succ, List.replicate_zero, List.length_cons, List.length_nil, List.foldl_cons, List.foldl_nil, Nat.zero_add, Nat.reduceAdd, Nat.reduceSub, ex_some, ex_bl, ex_int, ex_obj, ex_str, ex_lst, ex_cons, true_and, and_true, dAdd_int, dSub_int, dCmp_int, dNeg_int, Option.some.injEq, exists_eq_left', exists_eq_left, Option.isSome_some, Bool.not_true, Bool.false_eq_true, if_false, items_sq hs]
    refine ⟨by omega, ?_⟩
    have hid : xs = xs.map fun x => x := (List.map_id' xs).symm
    refine lcL_map (f := fun x => .bl (pairOk own other x)) (fun x hx Q hQ => ?_) ?_
    · simp only [gSeq, gRet, gRetN, gExpr, gAsg, gIf, gNext, gKill, gDrop, gBrk, gCnt, gNever, gFor, gAug, gOwn, gPut, gDPut, gSprPut, gObjPut, gPar, eObj, eRev, gtName, gtTup, gtCons, gtNil, seqOf, eC, eVar, eUn, eBin, eChain, eAnd, eOr, eNot, eOrT, eIf, tE, tTru, DL.tAnd, DL.tOr, DL.tNot, DL.tYes, aNil, aCons, eLst, eTup, eCall, eCallP, eCallB, aDef, eFn, eIsI, eMt, eGet2, eSpr, oNone, oSome, eSl, eSlX, eSlN, gLPut, gTPut, gOwnAsg, gObjApp, gObjIns, eNewObj, eObjPop, eObjR, eObjL, eObjLen, eObjEnd, eSort, eSortSet, eLstRg, gPar0, sIn, eLc, iSeq, DL.iRng1, DL.iRng2, DL.iEnum, DL.iZip, DL.iStr, killL, fnW, fnWo, eIsE, gTry, gRaise, eJn, eNever, tNever, List.getElem?_cons_zero, List.getElem?_cons_succ, List.set_cons_zero, List.set_cons_succ, List.map_cons, List.map_nil, List.cons_append, List.nil_append, List.append_nil, List.replicate_succ, List.replicate_zero, List.length_cons, List.length_nil, List.foldl_cons, List.foldl_nil, Nat.zero_add, Nat.reduceAdd, Nat.reduceSub, ex_some, ex_bl, ex_int, ex_obj, ex_str, ex_lst, ex_cons, true_and, and_true, dAdd_int, dSub_int, dCmp_int, dNeg_int, Option.some.injEq, exists_eq_left', exists_eq_left]
      exact p_is_pair (hp x hx) hQ
    rw [List.nil_append]
    simp only [fAll, boolsOf_mapOf, Option.map_some, List.getElem?_cons_zero, List.getElem?_cons_succ, List.set_cons_zero, List.set_cons_succ, List.map_cons, List.map_nil, List.cons_append, List.nil_append, List.append_nil, List.replicate_succ, List.replicate_zero, List.length_cons, List.length_nil, List.foldl_cons, List.foldl_nil, Nat.zero_add, Nat.reduceAdd, Nat.reduceSub, ex_some, ex_bl, ex_int, ex_obj, ex_str, ex_lst, ex_cons, true_and, and_true, dAdd_int, dSub_int, dCmp_int, dNeg_int, Option.some.injEq, exists_eq_left', exists_eq_left]
    have ea : ((xs.map (pairOk own other)).all id) = xs.all (pairOk own other) := by rw [List.all_map]; rfl
    rw [ea]
    cases hall : xs.all (pairOk own other) with
    | false =>
      rw [hall] at h
      simpa using h
    | true =>
      rw [hall, Bool.true_and] at h
      rw [List.all_eq_true] at hall
      simp only [Bool.not_true, Bool.false_eq_true, if_false]
      refine ⟨by omega, ?_⟩
      refine lcL_map (f := fun x => .int (prOf x).1) (fun x hx Q hQ => ?_) ?_
      · obtain ⟨a, b, h1, h2, _⟩ := pair_int (hall x hx)
        simp only [gSeq, gRet, gRetN, gExpr, gAsg, gIf, gNext, gKill, gDrop, gBrk, gCnt, gNever, gFor, gAug, gOwn, gPut, gDPut, gSprPut, gObjPut, gPar, eObj, eRev, gtName, gtTup, gtCons, gtNil, seqOf, eC, eVar, eUn, eBin, eChain, eAnd, eOr, eNot, eOrT, eIf, tE, tTru, DL.tAnd, DL.tOr, DL.tNot, DL.tYes, aNil, aCons, eLst, eTup, eCall, eCallP, eCallB, aDef, eFn, eIsI, eMt, eGet2, eSpr, oNone, oSome, eSl, eSlX, eSlN, gLPut, gTPut, gOwnAsg, gObjApp, gObjIns, eNewObj, eObjPop, eObjR, eObjL, eObjLen, eObjEnd, eSort, eSortSet, eLstRg, gPar0, sIn, eLc, iSeq, DL.iRng1, DL.iRng2, DL.iEnum, DL.iZip, DL.iStr, killL, fnW, fnWo, eIsE, gTry, gRaise, eJn, eNever, tNever, List.getElem?_cons_zero, List.getElem?_cons_succ, List.set_cons_zero, List.set_cons_succ, List.map_cons, List.map_nil, List.cons_append, List.nil_append, List.append_nil, List.replicate_succ, List.replicate_zero, List.length_cons, List.length_nil, List.foldl_cons, List.foldl_nil, Nat.zero_add, Nat.reduceAdd, Nat.reduceSub, ex_some, ex_bl, ex_int, ex_obj, ex_str, ex_lst, ex_cons, true_and, and_true, dAdd_int, dSub_int, dCmp_int, dNeg_int, Option.some.injEq, exists_eq_left', exists_eq_left, dIx0 h1]
        rw [h2] at hQ
        exact hQ
      rw [List.nil_append]
      refine ⟨by omega, ?_⟩
      refine lcL_map (f := fun x => .int (prOf x).2) (fun x hx Q hQ => ?_) ?_
      · obtain ⟨a, b, h1, h2, _⟩ := pair_int (hall x hx)
        simp only [gSeq, gRet, gRetN, gExpr, gAsg, gIf, gNext, gKill, gDrop, gBrk, gCnt, gNever, gFor, gAug, gOwn, gPut, gDPut, gSprPut, gObjPut, gPar, eObj, eRev, gtName, gtTup, gtCons, gtNil, seqOf, eC, eVar, eUn, eBin, eChain, eAnd, eOr, eNot, eOrT, eIf, tE, tTru, DL.tAnd, DL.tOr, DL.tNot, DL.tYes, aNil, aCons, eLst, eTup, eCall, eCallP, eCallB, aDef, eFn, eIsI, eMt, eGet2, eSpr, oNone, oSome, eSl, eSlX, eSlN, gLPut, gTPut, gOwnAsg, gObjApp, gObjIns, eNewObj, eObjPop, eObjR, eObjL, eObjLen, eObjEnd, eSort, eSortSet, eLstRg, gPar0, sIn, eLc, iSeq, DL.iRng1, DL.iRng2, DL.iEnum, DL.iZip, DL.iStr, killL, fnW, fnWo, eIsE, gTry, gRaise, eJn, eNever, tNever, List.getElem?_cons_zero, List.getElem?_cons_succ, List.set_cons_zero, List.set_cons_succ, List.map_cons, List.map_nil, List.cons_append, List.nil_append, List.append_nil, List.replicate_succ, List.replicate_zero, List.length_cons, List.length_nil, List.foldl_cons, List.foldl_nil, Nat.zero_add, Nat.reduceAdd, Nat.reduceSub, ex_some, ex_bl, ex_int, ex_obj, ex_str, ex_lst, ex_cons, true_and, and_true, dAdd_int, dSub_int, dCmp_int, dNeg_int, Option.some.injEq, exists_eq_left', exists_eq_left, dIx1 h1]
        rw [h2] at hQ
        exact hQ
      rw [List.nil_append]
      have e1 : (xs.map fun x => D.int (prOf x).1) = (xs.map fun x => (prOf x).1).map D.int := by rw [List.map_map]; rfl
      have e2 : (xs.map fun x => D.int (prOf x).2) = (xs.map fun x => (prOf x).2).map D.int := by rw [List.map_map]; rfl
      rw [e1, e2]
      have hk : ∀ x ∈ (xs.map fun x => (prOf x).1), 0 ≤ x ∧ x < own := fun x hx => by
        obtain ⟨y, hy, rfl⟩ := List.mem_map.mp hx
        obtain ⟨a, b, h1, h2, h3, h4, _⟩ := pair_int (hall y hy)
        rw [h2]
        exact ⟨h3, h4⟩
      have hkl : (xs.map fun x => (prOf x).1).length = (xs.map fun x => (prOf x).2).length := by rw [List.length_map, List.length_map]
      have hkl2 : (xs.map fun x => (prOf x).1).length = xs.length := List.length_map _
      generalize (xs.map fun x => (prOf x).1) = ks at h hk hkl hkl2
      generalize (xs.map fun x => (prOf x).2) = ts at h hkl
      have hsl : dSl (.lst (ks.map D.int)) (some 1) none = some (.lst ((ks.drop 1).map D.int)) := by
        show some (D.lst (cutD _ (some ((1 : Nat) : Int)) none)) = _
        unfold cutD
        rw [HT.sIx_nat, HT.sIx_none]
        rw [← List.map_drop]
        rcases Nat.lt_or_ge (ks.map D.int).length 1 with q | q
        · have : ks = [] := List.eq_nil_of_length_eq_zero (by rw [List.length_map] at q; omega)
          subst this
          rfl
        · rw [Nat.min_eq_left q, List.take_of_length_le (by rw [List.length_map, List.length_map, List.length_drop]; exact Nat.le_refl _)]
      simp only [hsl, List.getElem?_cons_zero, List.getElem?_cons_succ, List.set_cons_zero, List.set_cons_succ, List.map_cons, List.map_nil, List.cons_append, List.nil_append, List.append_nil, List.replicate_succ, List.replicate_zero, List.length_cons, List.length_nil, List.foldl_cons, List.foldl_nil, Nat.zero_add, Nat.reduceAdd, Nat.reduceSub, ex_some, ex_bl, ex_int, ex_obj, ex_str, ex_lst, ex_cons, true_and, and_true, dAdd_int, dSub_int, dCmp_int, dNeg_int, Option.some.injEq, exists_eq_left', exists_eq_left]
      refine ⟨_, _, rfl, rfl, ?_⟩
      have hzl : (zipD (ks.map D.int) ((ks.drop 1).map D.int)).length ≤ ks.length := by
        rw [zipD_len, List.length_map]
        exact Nat.min_le_left _ _
      refine ⟨by omega, ?_⟩
      have hzm : ∀ p ∈ zipD (ks.map D.int) ((ks.drop 1).map D.int), ∃ a b, p = .tup [.int a, .int b] := by
        have gen : ∀ (us vs : List Int) (p : D), p ∈ zipD (us.map D.int) (vs.map D.int) → ∃ a b, p = .tup [.int a, .int b] := by
          intro us
          induction us with
          | nil => intro vs p hp; cases vs <;> simp [zipD] at hp
          | cons u us ih =>
            intro vs p hp
            cases vs with
            | nil => simp [zipD] at hp
            | cons v vs =>
              rw [List.map_cons, List.map_cons, zipD] at hp
              rcases List.mem_cons.mp hp with rfl | hp
              · exact ⟨u, v, rfl⟩
              · exact ih vs p hp
        exact gen _ _
      have hidz : zipD (ks.map D.int) ((ks.drop 1).map D.int) = (zipD (ks.map D.int) ((ks.drop 1).map D.int)).map fun x => x := (List.map_id' _).symm
      refine lcL_map (f := fun p => .bl (match p with | .tup [.int a, .int b] => decide (a < b) | _ => false)) (fun p hp Q hQ => ?_) ?_
      · obtain ⟨a, b, rfl⟩ := hzm p hp
        simp only [gSeq, gRet, gRetN, gExpr, gAsg, gIf, gNext, gKill, gDrop, gBrk, gCnt, gNever, gFor, gAug, gOwn, gPut, gDPut, gSprPut, gObjPut, gPar, eObj, eRev, gtName, gtTup, gtCons, gtNil, seqOf, eC, eVar, eUn, eBin, eChain, eAnd, eOr, eNot, eOrT, eIf, tE, tTru, DL.tAnd, DL.tOr, DL.tNot, DL.tYes, aNil, aCons, eLst, eTup, eCall, eCallP, eCallB, aDef, eFn, eIsI, eMt, eGet2, eSpr, oNone, oSome, eSl, eSlX, eSlN, gLPut, gTPut, gOwnAsg, gObjApp, gObjIns, eNewObj, eObjPop, eObjR, eObjL, eObjLen, eObjEnd, eSort, eSortSet, eLstRg, gPar0, sIn, eLc, iSeq, DL.iRng1, DL.iRng2, DL.iEnum, DL.iZip, DL.iStr, killL, fnW, fnWo, eIsE, gTry, gRaise, eJn, eNever, tNever, List.getElem?_cons_zero, List.getElem?_cons_succ, List.set_cons_zero, List.set_cons_succ, List.map_cons, List.map_nil, List.cons_append, List.nil_append, List.append_nil, List.replicate_succ, List.replicate_zero, List.length_cons, List.length_nil, List.foldl_cons, List.foldl_nil, Nat.zero_add, Nat.reduceAdd, Nat.reduceSub, ex_some, ex_bl, ex_int, ex_obj, ex_str, ex_lst, ex_cons, true_and, and_true, dAdd_int, dSub_int, dCmp_int, dNeg_int, Option.some.injEq, exists_eq_left', exists_eq_left]
        exact hQ
      rw [List.nil_append]
      simp only [fAll, boolsOf_mapOf, Option.map_some, List.getElem?_cons_zero, List.getElem?_cons_succ, List.set_cons_zero, List.set_cons_succ, List.map_cons, List.map_nil, List.cons_append, List.nil_append, List.append_nil, List.replicate_succ, List.replicate_zero, List.length_cons, List.length_nil, List.foldl_cons, List.foldl_nil, Nat.zero_add, Nat.reduceAdd, Nat.reduceSub, ex_some, ex_bl, ex_int, ex_obj, ex_str, ex_lst, ex_cons, true_and, and_true, dAdd_int, dSub_int, dCmp_int, dNeg_int, Option.some.injEq, exists_eq_left', exists_eq_left, zip_asc]
      cases hasc : ascI ks with
      | false =>
        rw [hasc] at h
        simpa using h
      | true =>
        rw [hasc, Bool.true_and] at h
        have hkl3 := asc_len hasc hk
        have hset : dLenSet (.lst (ts.map D.int)) = some (.int ((dedup ts).length : Nat)) := by
          simp [dLenSet, intsOf_map, show ts.length + 1 < 4096 by omega]
        have hfl : fLen [.lst (ts.map D.int)] = some (.int (ts.length : Int)) := by simp [fLen, dLen]
        rw [hset, hfl]
        simp only [List.getElem?_cons_zero, List.getElem?_cons_succ, List.set_cons_zero, List.set_cons_succ, List.map_cons, List.map_nil, List.cons_append, List.nil_append, List.append_nil, List.replicate_succ, List.replicate_zero, List.length_cons, List.length_nil, List.foldl_cons, List.foldl_nil, Nat.zero_add, Nat.reduceAdd, Nat.reduceSub, ex_some, ex_bl, ex_int, ex_obj, ex_str, ex_lst, ex_cons, true_and, and_true, dAdd_int, dSub_int, dCmp_int, dNeg_int, Option.some.injEq, exists_eq_left', exists_eq_left, dEq_int]
        have e3 : (((dedup ts).length : Int) == (ts.length : Int)) = decide ts.Nodup := by
          rw [← dedup_nodup_iff, Bool.eq_iff_iff, beq_iff_eq, beq_iff_eq]
          omega
        rw [e3]
        exact h

/-! ### blocks -/
def zc (d : D) : Int := match isSq d with
  | some xs => (((intsOf xs).getD []).count 0 : Nat)
  | none => 0
def lenIn (lo hi : Nat) (d : D) : Bool := match isSq d with
  | some xs => decide (lo ≤ xs.length) && decide (xs.length ≤ hi)
  | none => false
def blkOk (prev : Int) (d : D) : Bool := match isSq d with
  | some [a, b, c, e] => isDs a && (lenIn 1 40 a && (mapOk (zc a) prev b && (mapOk (zc a) (zc a) c && isIx 1 (10 ^ 30) e)))
  | _ => false
theorem ds_ints {a : D} (h : isDs a = true) : ∃ ns : List Int, isSq a = some (ns.map D.int) ∧ ns.length ≤ 400 := by
  unfold isDs at h
  cases hs : isSq a with
  | none => rw [hs] at h; cases h
  | some xs =>
    rw [hs] at h
    have h2 : (decide (xs.length ≤ 400) && (ixAll 0 xs && ndT xs)) = true := h
    simp only [Bool.and_eq_true, decide_eq_true_eq] at h2
    obtain ⟨ns, rfl⟩ := ixAll_ints h2.2.1
    exact ⟨ns, rfl, by have := h2.1; rwa [List.length_map] at this⟩
theorem zc_ints {a : D} {ns : List Int} (h : isSq a = some (ns.map D.int)) : zc a = (ns.count 0 : Nat) := by
  unfold zc
  rw [h]
  show (((intsOf (ns.map D.int)).getD []).count 0 : Int) = _
  rw [intsOf_map]
  rfl
theorem fList_sq {a : D} {xs : List D} (h : isSq a = some xs) : fList [a] = some (.lst xs) := by rcases sq_cases h with rfl | rfl <;> rfl
theorem p_is_block {prev : Int} (hv : pl d = true) (hl : ∀ xs, isSq d = some xs → ∀ x ∈ xs, ∀ ys, isSq x = some ys → ys.length ≤ 100000) (h : P (.bl (blkOk prev d)) S) : w_is_block [d, .int prev] S P R := by
  have hline := line_eq
  simp only [w_is_block, gSeq, gRet, gRetN, gExpr, gAsg, gIf, gNext, gKill, gDrop, gBrk, gCnt, gNever, gFor, gAug, gOwn, gPut, gDPut, gSprPut, gObjPut, gPar, eObj, eRev, gtName, gtTup, gtCons, gtNil, seqOf, eC, eVar, eUn, eBin, eChain, eAnd, eOr, eNot, eOrT, eIf, tE, tTru, DL.tAnd, DL.tOr, DL.tNot, DL.tYes, aNil, aCons, eLst, eTup, eCall, eCallP, eCallB, aDef, eFn, eIsI, eMt, eGet2, eSpr, oNone, oSome, eSl, eSlX, eSlN, gLPut, gTPut, gOwnAsg, gObjApp, gObjIns, eNewObj, eObjPop, eObjR, eObjL, eObjLen, eObjEnd, eSort, eSortSet, eLstRg, gPar0, sIn, eLc, iSeq, DL.iRng1, DL.iRng2, DL.iEnum, DL.iZip, DL.iStr, killL, fnW, fnWo, eIsE, gTry, gRaise, eJn, eNever, tNever, List.getElem?_cons_zero, List.getElem?_cons_succ, List.set_cons_zero, List.set_cons_succ, List.map_cons, List.map_nil, List.cons_append, List.nil_append, List.append_nil, List.replicate_succ, List.replicate_zero, List.length_cons, List.length_nil, List.foldl_cons, List.foldl_nil, Nat.zero_add, Nat.reduceAdd, Nat.reduceSub, ex_some, ex_bl, ex_int, ex_obj, ex_str, ex_lst, ex_cons, true_and, and_true, dAdd_int, dSub_int, dCmp_int, dNeg_int, Option.some.injEq, exists_eq_left', exists_eq_left]
  refine p_is_sequence_distances hv ?_
  cases hs : isSq d with
  | none =>
    have e : blkOk prev d = false := by unfold blkOk; rw [hs]
    rw [e] at h
    simpa [hs] using h
  | some xs =>
    simp only [List.getElem?_cons_zero, List.getElem?_cons_succ, List.set_cons_zero, List.set_cons_succ, List.map_cons, List.map_nil, List.cons_append, List.nil_append, List.append_nil, List.replicate_succ, List.replicate_zero, List.length_cons, List.length_nil, List.foldl_cons, List.foldl_nil, Nat.zero_add, Nat.reduceAdd, Nat.reduceSub, ex_some, ex_bl, ex_int, ex_obj, ex_str, ex_lst, ex_cons, true_and, and_true, dAdd_int, dSub_int, dCmp_int, dNeg_int, Option.some.injEq, exists_eq_left', exists_eq_left, Option.isSome_some, Bool.not_true, Bool.false_eq_true, if_false, fLen_sq hs, dNe_int]
    by_cases hx : xs.length = 4
    · obtain ⟨a, b, c, e, rfl⟩ : ∃ a b c e, xs = [a, b, c, e] := by
        match xs, hx with
        | [a, b, c, e], _ => exact ⟨a, b, c, e, rfl⟩
      have hp := sq_pl hs hv
      have ha : pl a = true := hp a (by simp)
      have hb : pl b = true := hp b (by simp)
      have hc : pl c = true := hp c (by simp)
      have he : pl e = true := hp e (by simp)
      have hbl := hl _ hs b (by simp)
      have hcl := hl _ hs c (by simp)
      have heq : blkOk prev d = (isDs a && (lenIn 1 40 a && (mapOk (zc a) prev b && (mapOk (zc a) (zc a) c && isIx 1 (10 ^ 30) e)))) := by unfold blkOk; rw [hs]
      rw [heq] at h
      rw [if_neg (by simp), dIx0 hs]
      refine ⟨_, rfl, SPG.p_is_distances ha ⟨_, rfl, ?_⟩⟩
      cases hda : isDs a with
      | false =>
        rw [hda] at h
        simpa using h
      | true =>
        rw [hda, Bool.true_and] at h
        obtain ⟨ns, hns, hnl⟩ := ds_ints hda
        simp only [Bool.not_true, Bool.false_eq_true, if_false]
        refine ⟨_, rfl, ?_⟩
        rw [fLen_sq hns]
        simp only [List.getElem?_cons_zero, List.getElem?_cons_succ, List.set_cons_zero, List.set_cons_succ, List.map_cons, List.map_nil, List.cons_append, List.nil_append, List.append_nil, List.replicate_succ, List.replicate_zero, List.length_cons, List.length_nil, List.foldl_cons, List.foldl_nil, Nat.zero_add, Nat.reduceAdd, Nat.reduceSub, ex_some, ex_bl, ex_int, ex_obj, ex_str, ex_lst, ex_cons, true_and, and_true, dAdd_int, dSub_int, dCmp_int, dNeg_int, Option.some.injEq, exists_eq_left', exists_eq_left, List.length_map]
        have hle : lenIn 1 40 a = (decide (1 ≤ ns.length) && decide (ns.length ≤ 40)) := by unfold lenIn; rw [hns]; simp
        rw [hle] at h
        by_cases h1 : 1 ≤ ns.length
        · rw [decide_eq_true (show (1 : Int) ≤ ns.length by omega)]
          rw [decide_eq_true h1, Bool.true_and] at h
          simp only [if_true, List.getElem?_cons_zero, List.getElem?_cons_succ, List.set_cons_zero, List.set_cons_succ, List.map_cons, List.map_nil, List.cons_append, List.nil_append, List.append_nil, List.replicate_succ, List.replicate_zero, List.length_cons, List.length_nil, List.foldl_cons, List.foldl_nil, Nat.zero_add, Nat.reduceAdd, Nat.reduceSub, ex_some, ex_bl, ex_int, ex_obj, ex_str, ex_lst, ex_cons, true_and, and_true, dAdd_int, dSub_int, dCmp_int, dNeg_int, Option.some.injEq, exists_eq_left', exists_eq_left]
          by_cases h40 : ns.length ≤ 40
          · rw [decide_eq_true h40, Bool.true_and] at h
            rw [decide_eq_true (show (ns.length : Int) ≤ 40 by omega)]
            simp only [Bool.not_true, Bool.false_eq_true, if_false, List.getElem?_cons_zero, List.getElem?_cons_succ, List.set_cons_zero, List.set_cons_succ, List.map_cons, List.map_nil, List.cons_append, List.nil_append, List.append_nil, List.replicate_succ, List.replicate_zero, List.length_cons, List.length_nil, List.foldl_cons, List.foldl_nil, Nat.zero_add, Nat.reduceAdd, Nat.reduceSub, ex_some, ex_bl, ex_int, ex_obj, ex_str, ex_lst, ex_cons, true_and, and_true, dAdd_int, dSub_int, dCmp_int, dNeg_int, Option.some.injEq, exists_eq_left', exists_eq_left, dIx0 hs]
            rw [fList_sq hns]
            simp only [List.getElem?_cons_zero, List.getElem?_cons_succ, List.set_cons_zero, List.set_cons_succ, List.map_cons, List.map_nil, List.cons_append, List.nil_append, List.append_nil, List.replicate_succ, List.replicate_zero, List.length_cons, List.length_nil, List.foldl_cons, List.foldl_nil, Nat.zero_add, Nat.reduceAdd, Nat.reduceSub, ex_some, ex_bl, ex_int, ex_obj, ex_str, ex_lst, ex_cons, true_and, and_true, dAdd_int, dSub_int, dCmp_int, dNeg_int, Option.some.injEq, exists_eq_left', exists_eq_left]
            have hcnt : mCount (.lst (ns.map D.int)) [.int 0] = some (.int (zc a)) := by
              rw [zc_ints hns]
              show (intsOf (ns.map D.int)).map _ = _
              rw [intsOf_map]
              rfl
            have hz : zc a ≤ 400 := by
              rw [zc_ints hns]
              have := List.count_le_length (a := (0 : Int)) (l := ns)
              omega
            refine ⟨rfl, ?_⟩
            rw [hcnt]
            simp only [List.getElem?_cons_zero, List.getElem?_cons_succ, List.set_cons_zero, List.set_cons_succ, List.map_cons, List.map_nil, List.cons_append, List.nil_append, List.append_nil, List.replicate_succ, List.replicate_zero, List.length_cons, List.length_nil, List.foldl_cons, List.foldl_nil, Nat.zero_add, Nat.reduceAdd, Nat.reduceSub, ex_some, ex_bl, ex_int, ex_obj, ex_str, ex_lst, ex_cons, true_and, and_true, dAdd_int, dSub_int, dCmp_int, dNeg_int, Option.some.injEq, exists_eq_left', exists_eq_left, dIx1 hs]
            refine p_is_mapping hz hb hbl ⟨_, rfl, ?_⟩
            cases hm1 : mapOk (zc a) prev b with
            | false =>
              rw [hm1] at h
              simpa using h
            | true =>
              rw [hm1, Bool.true_and] at h
              simp only [Bool.not_true, Bool.false_eq_true, if_false, List.getElem?_cons_zero, List.getElem?_cons_succ, List.set_cons_zero, List.set_cons_succ, List.map_cons, List.map_nil, List.cons_append, List.nil_append, List.append_nil, List.replicate_succ, List.replicate_zero, List.length_cons, List.length_nil, List.foldl_cons, List.foldl_nil, Nat.zero_add, Nat.reduceAdd, Nat.reduceSub, ex_some, ex_bl, ex_int, ex_obj, ex_str, ex_lst, ex_cons, true_and, and_true, dAdd_int, dSub_int, dCmp_int, dNeg_int, Option.some.injEq, exists_eq_left', exists_eq_left, dIx2 hs]
              refine p_is_mapping hz hc hcl ⟨_, rfl, ?_⟩
              cases hm2 : mapOk (zc a) (zc a) c with
              | false =>
                rw [hm2] at h
                simpa using h
              | true =>
                rw [hm2, Bool.true_and] at h
                simp only [Bool.not_true, Bool.false_eq_true, if_false, List.getElem?_cons_zero, List.getElem?_cons_succ, List.set_cons_zero, List.set_cons_succ, List.map_cons, List.map_nil, List.cons_append, List.nil_append, List.append_nil, List.replicate_succ, List.replicate_zero, List.length_cons, List.length_nil, List.foldl_cons, List.foldl_nil, Nat.zero_add, Nat.reduceAdd, Nat.reduceSub, ex_some, ex_bl, ex_int, ex_obj, ex_str, ex_lst, ex_cons, true_and, and_true, dAdd_int, dSub_int, dCmp_int, dNeg_int, Option.some.injEq, exists_eq_left', exists_eq_left, dIx3 hs]
                exact p_is_integer_distances he h
          · rw [decide_eq_false h40] at h
            rw [decide_eq_false (show ¬ (ns.length : Int) ≤ 40 by omega)]
            simpa using h
        · rw [decide_eq_false h1] at h
          rw [decide_eq_false (show ¬ (1 : Int) ≤ ns.length by omega)]
          simpa using h
    · have e : blkOk prev d = false := by
        unfold blkOk; rw [hs]
        match xs, hx with
        | [], _ => rfl
        | [a], _ => rfl
        | [a, b], _ => rfl
        | [a, b, c], _ => rfl
        | [a, b, c, e], z => exact absurd rfl z
        | a :: b :: c :: e :: f :: r, _ => rfl
      rw [e] at h
      rw [if_pos (by simp; omega)]
      exact h
def zcB (d : D) : Int := match isSq d with
  | some (a :: _) => zc a
  | _ => 0
def goC : Int → List D → Bool
  | _, [] => true
  | p, b :: r => blkOk p b && goC (zcB b) r
def compOk (d : D) : Bool := match isSq d with
  | some xs => decide (1 ≤ xs.length) && (decide (xs.length ≤ 8) && goC 0 xs)
  | none => false
/-- lists within lists are not too long -/
def Szd (d : D) : Prop := ∀ xs, isSq d = some xs → ∀ b ∈ xs, ∀ ys, isSq b = some ys → ∀ x ∈ ys, ∀ zs, isSq x = some zs → zs.length ≤ 100000
theorem blk_sq {p : Int} {b : D} (h : blkOk p b = true) : ∃ a x y e, isSq b = some [a, x, y, e] ∧ isDs a = true ∧ lenIn 1 40 a = true ∧ mapOk (zc a) p x = true ∧ mapOk (zc a) (zc a) y = true ∧ isIx 1 (10 ^ 30) e = true := by
  unfold blkOk at h
  split at h
  · rename_i a x y e hs
    simp only [Bool.and_eq_true] at h
    exact ⟨a, x, y, e, hs, h.1, h.2.1, h.2.2.1, h.2.2.2.1, h.2.2.2.2⟩
  · cases h
theorem p_is_compressed (hv : pl d = true) (hz : Szd d) (h : P (.bl (compOk d)) S) : w_is_compressed [d] S P R := by
  have hline := line_eq
  simp only [w_is_compressed, gSeq, gRet, gRetN, gExpr, gAsg, gIf, gNext, gKill, gDrop, gBrk, gCnt, gNever, gFor, gAug, gOwn, gPut, gDPut, gSprPut, gObjPut, gPar, eObj, eRev, gtName, gtTup, gtCons, gtNil, seqOf, eC, eVar, eUn, eBin, eChain, eAnd, eOr, eNot, eOrT, eIf, tE, tTru, DL.tAnd, DL.tOr, DL.tNot, DL.tYes, aNil, aCons, eLst, eTup, eCall, eCallP, eCallB, aDef, eFn, eIsI, eMt, eGet2, eSpr, oNone, oSome, eSl, eSlX, eSlN, gLPut, gTPut, gOwnAsg, gObjApp, gObjIns, eNewObj, eObjPop, eObjR, eObjL, eObjLen, eObjEnd, eSort, eSortSet, eLstRg, gPar0, sIn, eLc, iSeq, DL.iRng1, DL.iRng2, DL.iEnum, DL.iZip, DL.iStr, killL, fnW, fnWo, eIsE, gTry, gRaise, eJn, eNever, tNever, List.getElem?_cons_zero, List.getElem?_cons_succ, List.set_cons_zero, List.set_cons_succ, List.map_cons, List.map_nil, List.cons_append, List.nil_append, List.append_nil, List.replicate_succ, List.replicate_zero, List.length_cons, List.length_nil, List.foldl_cons, List.foldl_nil, Nat.zero_add, Nat.reduceAdd, Nat.reduceSub, ex_some, ex_bl, ex_int, ex_obj, ex_str, ex_lst, ex_cons, true_and, and_true, dAdd_int, dSub_int, dCmp_int, dNeg_int, Option.some.injEq, exists_eq_left', exists_eq_left]
  refine p_is_sequence_distances hv ?_
  cases hs : isSq d with
  | none =>
    have e : compOk d = false := by unfold compOk; rw [hs]
    rw [e] at h
    simpa [hs] using h
  | some xs =>
    have hp := sq_pl hs hv
    have hzz := hz xs hs
    have heq : compOk d = (decide (1 ≤ xs.length) && (decide (xs.length ≤ 8) && goC 0 xs)) := by unfold compOk; rw [hs]
    rw [heq] at h
    simp only [List.getElem?_cons_zero, List.getElem?_cons_succ, List.set_cons_zero, List.set_cons_succ, List.map_cons, List.map_nil, List.cons_append, List.nil_append, List.append_nil, List.replicate_succ, List.replicate_zero, List.length_cons, List.length_nil, List.foldl_cons, List.foldl_nil, Nat.zero_add, Nat.reduceAdd, Nat.reduceSub, ex_some, ex_bl, ex_int, ex_obj, ex_str, ex_lst, ex_cons, true_and, and_true, dAdd_int, dSub_int, dCmp_int, dNeg_int, Option.some.injEq, exists_eq_left', exists_eq_left, Option.isSome_some, Bool.not_true, Bool.false_eq_true, if_false, fLen_sq hs]
    by_cases h1 : 1 ≤ xs.length
    · rw [decide_eq_true h1, Bool.true_and] at h
      rw [decide_eq_true (show (1 : Int) ≤ xs.length by omega)]
      simp only [if_true, List.getElem?_cons_zero, List.getElem?_cons_succ, List.set_cons_zero, List.set_cons_succ, List.map_cons, List.map_nil, List.cons_append, List.nil_append, List.append_nil, List.replicate_succ, List.replicate_zero, List.length_cons, List.length_nil, List.foldl_cons, List.foldl_nil, Nat.zero_add, Nat.reduceAdd, Nat.reduceSub, ex_some, ex_bl, ex_int, ex_obj, ex_str, ex_lst, ex_cons, true_and, and_true, dAdd_int, dSub_int, dCmp_int, dNeg_int, Option.some.injEq, exists_eq_left', exists_eq_left]
      by_cases h8 : xs.length ≤ 8
      · rw [decide_eq_true h8, Bool.true_and] at h
        rw [decide_eq_true (show (xs.length : Int) ≤ 8 by omega)]
        simp only [Bool.not_true, Bool.false_eq_true, if_false, items_sq hs, List.getElem?_cons_zero, List.getElem?_cons_succ, List.set_cons_zero, List.set_cons_succ, List.map_cons, List.map_nil, List.cons_append, List.nil_append, List.append_nil, List.replicate_succ, List.replicate_zero, List.length_cons, List.length_nil, List.foldl_cons, List.foldl_nil, Nat.zero_add, Nat.reduceAdd, Nat.reduceSub, ex_some, ex_bl, ex_int, ex_obj, ex_str, ex_lst, ex_cons, true_and, and_true, dAdd_int, dSub_int, dCmp_int, dNeg_int, Option.some.injEq, exists_eq_left', exists_eq_left]
        -- the loop
        have loop : ∀ (ys : List D) (p : Int) (c : Option D) (B : EndsD), (∀ y ∈ ys, pl y = true ∧ ∀ zs, isSq y = some zs → ∀ x ∈ zs, ∀ ws, isSq x = some ws → ws.length ≤ 100000) →
            (goC p ys = false → B.rt (.bl false) S) → (goC p ys = true → ∀ q c', B.nx [some d, some (.int q), c'] S) →
            forL (gtName 2) (gSeq (gIf (tNot (tE (eCallP w_is_block (aDef (aCons (eVar 2) (aCons (eVar 1) aNil)) [])))) (gRet (eC (.bl false))) gNext)
              (gAsg (eMt isLst mCount (eFn fList (aCons (eBin dIx (eVar 2) (eC (.int 0))) aNil)) (aCons (eC (.int 0)) aNil)) (gtName 1))) R B ys [some d, some (.int p), c] S := by
          intro ys
          induction ys with
          | nil => intro p c B hy h1 h2; exact h2 rfl p c
          | cons y ys ih =>
            intro p c B hy h1 h2
            have hy1 := hy y (List.mem_cons_self ..)
            unfold forL
            simp only [gSeq, gRet, gRetN, gExpr, gAsg, gIf, gNext, gKill, gDrop, gBrk, gCnt, gNever, gFor, gAug, gOwn, gPut, gDPut, gSprPut, gObjPut, gPar, eObj, eRev, gtName, gtTup, gtCons, gtNil, seqOf, eC, eVar, eUn, eBin, eChain, eAnd, eOr, eNot, eOrT, eIf, tE, tTru, DL.tAnd, DL.tOr, DL.tNot, DL.tYes, aNil, aCons, eLst, eTup, eCall, eCallP, eCallB, aDef, eFn, eIsI, eMt, eGet2, eSpr, oNone, oSome, eSl, eSlX, eSlN, gLPut, gTPut, gOwnAsg, gObjApp, gObjIns, eNewObj, eObjPop, eObjR, eObjL, eObjLen, eObjEnd, eSort, eSortSet, eLstRg, gPar0, sIn, eLc, iSeq, DL.iRng1, DL.iRng2, DL.iEnum, DL.iZip, DL.iStr, killL, fnW, fnWo, eIsE, gTry, gRaise, eJn, eNever, tNever, List.getElem?_cons_zero, List.getElem?_cons_succ, List.set_cons_zero, List.set_cons_succ, List.map_cons, List.map_nil, List.cons_append, List.nil_append, List.append_nil, List.replicate_succ, List.replicate_zero, List.length_cons, List.length_nil, List.foldl_cons, List.foldl_nil, Nat.zero_add, Nat.reduceAdd, Nat.reduceSub, ex_some, ex_bl, ex_int, ex_obj, ex_str, ex_lst, ex_cons, true_and, and_true, dAdd_int, dSub_int, dCmp_int, dNeg_int, Option.some.injEq, exists_eq_left', exists_eq_left]
            refine p_is_block hy1.1 hy1.2 ⟨_, rfl, ?_⟩
            cases hb : blkOk p y with
            | false =>
              simp only [Bool.not_false, if_true]
              exact h1 (by unfold goC; rw [hb]; rfl)
            | true =>
              simp only [Bool.not_true, Bool.false_eq_true, if_false]
              obtain ⟨a, x, z, e, hsy, hda, _⟩ := blk_sq hb
              obtain ⟨ns, hns, hnl⟩ := ds_ints hda
              rw [dIx0 hsy]
              simp only [List.getElem?_cons_zero, List.getElem?_cons_succ, List.set_cons_zero, List.set_cons_succ, List.map_cons, List.map_nil, List.cons_append, List.nil_append, List.append_nil, List.replicate_succ, List.replicate_zero, List.length_cons, List.length_nil, List.foldl_cons, List.foldl_nil, Nat.zero_add, Nat.reduceAdd, Nat.reduceSub, ex_some, ex_bl, ex_int, ex_obj, ex_str, ex_lst, ex_cons, true_and, and_true, dAdd_int, dSub_int, dCmp_int, dNeg_int, Option.some.injEq, exists_eq_left', exists_eq_left]
              rw [fList_sq hns]
              simp only [List.getElem?_cons_zero, List.getElem?_cons_succ, List.set_cons_zero, List.set_cons_succ, List.map_cons, List.map_nil, List.cons_append, List.nil_append, List.append_nil, List.replicate_succ, List.replicate_zero, List.length_cons, List.length_nil, List.foldl_cons, List.foldl_nil, Nat.zero_add, Nat.reduceAdd, Nat.reduceSub, ex_some, ex_bl, ex_int, ex_obj, ex_str, ex_lst, ex_cons, true_and, and_true, dAdd_int, dSub_int, dCmp_int, dNeg_int, Option.some.injEq, exists_eq_left', exists_eq_left]
              have hcnt : mCount (.lst (ns.map D.int)) [.int 0] = some (.int (zcB y)) := by
                have : zcB y = zc a := by unfold zcB; rw [hsy]
                rw [this, zc_ints hns]
                show (intsOf (ns.map D.int)).map _ = _
                rw [intsOf_map]
                rfl
              refine ⟨rfl, _, hcnt, ?_⟩
              refine ih (zcB y) _ B (fun w hw => hy w (List.mem_cons_of_mem _ hw)) (fun hg => h1 (by unfold goC; rw [hb, hg]; rfl)) fun hg => h2 (by unfold goC; rw [hb, hg]; rfl)
        refine loop xs 0 none _ (fun y hy => ⟨hp y hy, fun zs hzs x hx ws hws => hzz y hy zs hzs x hx ws hws⟩) (fun hg => ?_) fun hg q c' => ?_
        · rw [hg] at h
          exact h
        · rw [hg] at h
          exact h
      · rw [decide_eq_false h8] at h
        rw [decide_eq_false (show ¬ (xs.length : Int) ≤ 8 by omega)]
        simpa using h
    · rw [decide_eq_false h1] at h
      rw [decide_eq_false (show ¬ (1 : Int) ≤ xs.length by omega)]
      simpa using h
end

/-! ### drawn sequences -/
theorem Sto.upd_ne {S : Sto} {a b : Nat} {o : Ob} (h : b ≠ a) : S.upd a o b = S b := if_neg h
theorem lcL_inv' {g : WG} {t : WT} {e : WE} {Δ : DL.Env} (I : Nat → List D → Sto → Prop) {P : D → Sto → Prop} : ∀ (xs : List D) (n : Nat) (acc : List D) (S : Sto), I n acc S →
    (∀ i x acc S (Nx : List D → Sto → Prop), xs[i]? = some x → I (n + i) acc S → (∀ acc' S', I (n + i + 1) acc' S' → Nx acc' S') → g x Δ fun Δ1 => t Δ1 S (fun k S1 => if k = true then e Δ1 S1 (fun d S2 => Nx (acc ++ [d]) S2) noR else Nx acc S1) noR) →
    (∀ acc S, I (n + xs.length) acc S → P (.lst acc) S) → lcL g t e Δ xs acc S P
  | [], n, acc, S, h0, hs, hd => hd acc S h0
  | x :: xs, n, acc, S, h0, hs, hd => by
    unfold lcL
    exact hs 0 x acc S (fun acc S1 => lcL g t e Δ xs acc S1 P) rfl h0 fun acc' S' h => lcL_inv' I xs (n + 1) acc' S' h (fun i y acc S Nx hy hI hN => by
      have e : n + 1 + i = n + (i + 1) := by omega
      rw [e] at hI hN
      exact hs (i + 1) y acc S Nx (by simpa using hy) hI hN) (fun acc S hI => hd acc S (by
      have e : n + 1 + xs.length = n + (x :: xs).length := by simp; omega
      rwa [e] at hI))
theorem lcL_inv {g : WG} {t : WT} {e : WE} {Δ : DL.Env} (I : Nat → List D → Sto → Prop) {P : D → Sto → Prop} {xs : List D} {S : Sto} (h0 : I 0 [] S)
    (hs : ∀ i x acc S (Nx : List D → Sto → Prop), xs[i]? = some x → I i acc S → (∀ acc' S', I (i + 1) acc' S' → Nx acc' S') → g x Δ fun Δ1 => t Δ1 S (fun k S1 => if k = true then e Δ1 S1 (fun d S2 => Nx (acc ++ [d]) S2) noR else Nx acc S1) noR)
    (hd : ∀ acc S, I xs.length acc S → P (.lst acc) S) : lcL g t e Δ xs [] S P :=
  lcL_inv' I xs 0 [] S h0 (fun i x acc S Nx hx hI hN => hs i x acc S Nx hx (by rwa [Nat.zero_add] at hI) (by rwa [Nat.zero_add] at hN)) fun acc S hI => hd acc S (by rwa [Nat.zero_add] at hI)
theorem eraseIdx_perm {α : Type} : ∀ (l : List α) (i : Nat) (x : α), l[i]? = some x → l.Perm (x :: l.eraseIdx i)
  | [], i, x, h => by simp at h
  | y :: l, 0, x, h => by simp at h; subst h; exact List.Perm.refl _
  | y :: l, i + 1, x, h => by
    have := eraseIdx_perm l i x (by simpa using h)
    exact (List.Perm.cons y this).trans (List.Perm.swap ..)
theorem map_erase {α β : Type} {f : α → β} : ∀ (l : List α) (i : Nat), (l.map f).eraseIdx i = (l.eraseIdx i).map f
  | [], _ => rfl
  | _ :: _, 0 => rfl
  | x :: l, i + 1 => by simp [map_erase l i]
theorem isDs_ints {ds : List Int} (v : VD ds) : isDs (.lst (ds.map D.int)) = true := by
  have h1 : ∀ (ds : List Int) (i : Nat), (∀ p ∈ enumZ i ds, 0 ≤ p.2 ∧ p.2 ≤ p.1) → ixAll i (ds.map D.int) = true := by
    intro ds
    induction ds with
    | nil => intro i _; rfl
    | cons n ds ih =>
      intro i h
      have h0 := h ((i : Int), n) (by simp [enumZ])
      rw [List.map_cons, ixAll, ih (i + 1) fun p hp => h p (by simp [enumZ, hp])]
      simpa [isIx] using h0
  unfold isDs
  show (decide ((ds.map D.int).length ≤ 400) && (ixAll 0 (ds.map D.int) && ndT (ds.map D.int))) = true
  rw [h1 ds 0 v.ok]
  have h2 : ndT (ds.map D.int) = true := by
    unfold ndT
    rw [intsOf_map]
    show decide ((dedup (tgts ds)).length = (tgts ds).length) = true
    rw [dedup_nodup v.nd]
    simp
  rw [h2]
  have := v.len
  simpa using this
theorem dist_count (xs : List Int) : (dist xs).count 0 = (dedup xs).length := by
  rw [← zeros_dist, List.count_eq_countP, List.countP_eq_length_filter]
theorem dAdd_ints {a b : Int} : dAdd (.int a) (.int b) = some (.int (a + b)) := rfl
theorem p_symbols {a : Nat} {most : Int} {S : Sto} {P : D → Sto → Prop} {R : RX} (hs : S a = some .spr) (h0 : 0 ≤ most) (h1 : most ≤ 1000) (h : ∀ xs : List Int, (xs.length : Int) ≤ most → (∀ x ∈ xs, 0 ≤ x ∧ x < 9) → P (.lst (xs.map D.int)) S) : w__law_symbols [.obj a, .int most] S P R := by
  simp only [w__law_symbols, gSeq, gRet, gRetN, gExpr, gAsg, gIf, gNext, gKill, gDrop, gBrk, gCnt, gNever, gFor, gAug, gOwn, gPut, gDPut, gSprPut, gObjPut, gPar, eObj, eRev, gtName, gtTup, gtCons, gtNil, seqOf, eC, eVar, eUn, eBin, eChain, eAnd, eOr, eNot, eOrT, eIf, tE, tTru, DL.tAnd, DL.tOr, DL.tNot, DL.tYes, aNil, aCons, eLst, eTup, eCall, eCallP, eCallB, aDef, eFn, eIsI, eMt, eGet2, eSpr, oNone, oSome, eSl, eSlX, eSlN, gLPut, gTPut, gOwnAsg, gObjApp, gObjIns, eNewObj, eObjPop, eObjR, eObjL, eObjLen, eObjEnd, eSort, eSortSet, eLstRg, gPar0, sIn, eLc, iSeq, DL.iRng1, DL.iRng2, DL.iEnum, DL.iZip, DL.iStr, killL, fnW, fnWo, eIsE, gTry, gRaise, eJn, eNever, tNever, List.getElem?_cons_zero, List.getElem?_cons_succ, List.set_cons_zero, List.set_cons_succ, List.map_cons, List.map_nil, List.cons_append, List.nil_append, List.append_nil, List.replicate_succ, List.replicate_zero, List.length_cons, List.length_nil, List.foldl_cons, List.foldl_nil, Nat.zero_add, Nat.reduceAdd, Nat.reduceSub, ex_some, ex_bl, ex_int, ex_obj, ex_str, ex_lst, ex_cons, true_and, and_true, dAdd_int, dSub_int, dCmp_int, dNeg_int, Option.some.injEq, exists_eq_left', exists_eq_left]
  refine ⟨by rw [line_eq]; omega, p_draw hs (by decide) (by decide) fun k0 hk0 hk1 => ?_⟩
  have hkind : ∃ kk : Int, dIx (.lst [.int 2, .int 4, .int 9]) (.int k0) = some (.int kk) ∧ 2 ≤ kk ∧ kk ≤ 9 := by
    rcases (show k0 = 0 ∨ k0 = 1 ∨ k0 = 2 by omega) with rfl | rfl | rfl
    · exact ⟨2, rfl, by decide, by decide⟩
    · exact ⟨4, rfl, by decide, by decide⟩
    · exact ⟨9, rfl, by decide, by decide⟩
  obtain ⟨kk, hix, hkk0, hkk1⟩ := hkind
  rw [hix]
  simp only [List.getElem?_cons_zero, List.getElem?_cons_succ, List.set_cons_zero, List.set_cons_succ, List.map_cons, List.map_nil, List.cons_append, List.nil_append, List.append_nil, List.replicate_succ, List.replicate_zero, List.length_cons, List.length_nil, List.foldl_cons, List.foldl_nil, Nat.zero_add, Nat.reduceAdd, Nat.reduceSub, ex_some, ex_bl, ex_int, ex_obj, ex_str, ex_lst, ex_cons, true_and, and_true, dAdd_int, dSub_int, dCmp_int, dNeg_int, Option.some.injEq, exists_eq_left', exists_eq_left]
  refine p_draw hs (by omega) (by omega) fun k1 hk10 hk11 => ?_
  simp only [List.getElem?_cons_zero, List.getElem?_cons_succ, List.set_cons_zero, List.set_cons_succ, List.map_cons, List.map_nil, List.cons_append, List.nil_append, List.append_nil, List.replicate_succ, List.replicate_zero, List.length_cons, List.length_nil, List.foldl_cons, List.foldl_nil, Nat.zero_add, Nat.reduceAdd, Nat.reduceSub, ex_some, ex_bl, ex_int, ex_obj, ex_str, ex_lst, ex_cons, true_and, and_true, dAdd_int, dSub_int, dCmp_int, dNeg_int, Option.some.injEq, exists_eq_left', exists_eq_left]
  obtain ⟨kinds, hkinds⟩ : ∃ kinds, kinds = 1 + k1 := ⟨_, rfl⟩
  rw [← hkinds]
  refine p_draw hs (by omega) (by omega) fun len hlen0 hlen1 => ?_
  simp only [List.getElem?_cons_zero, List.getElem?_cons_succ, List.set_cons_zero, List.set_cons_succ, List.map_cons, List.map_nil, List.cons_append, List.nil_append, List.append_nil, List.replicate_succ, List.replicate_zero, List.length_cons, List.length_nil, List.foldl_cons, List.foldl_nil, Nat.zero_add, Nat.reduceAdd, Nat.reduceSub, ex_some, ex_bl, ex_int, ex_obj, ex_str, ex_lst, ex_cons, true_and, and_true, dAdd_int, dSub_int, dCmp_int, dNeg_int, Option.some.injEq, exists_eq_left', exists_eq_left]
  refine p_draw hs (by decide) (by decide) fun k2 hk20 hk21 => ?_
  simp only [List.getElem?_cons_zero, List.getElem?_cons_succ, List.set_cons_zero, List.set_cons_succ, List.map_cons, List.map_nil, List.cons_append, List.nil_append, List.append_nil, List.replicate_succ, List.replicate_zero, List.length_cons, List.length_nil, List.foldl_cons, List.foldl_nil, Nat.zero_add, Nat.reduceAdd, Nat.reduceSub, ex_some, ex_bl, ex_int, ex_obj, ex_str, ex_lst, ex_cons, true_and, and_true, dAdd_int, dSub_int, dCmp_int, dNeg_int, Option.some.injEq, exists_eq_left', exists_eq_left]
  refine ⟨by omega, by omega, ?_⟩
  have hn : (rngD 0 (1 + k2).toNat).length = (1 + k2).toNat := rngD_len _ _
  refine ⟨by rw [hn, line_eq]; omega, ?_⟩
  refine lc_draws (m := kinds) hs (by omega) (by omega) (fun x hx Q hQ => by simp only [gSeq, gRet, gRetN, gExpr, gAsg, gIf, gNext, gKill, gDrop, gBrk, gCnt, gNever, gFor, gAug, gOwn, gPut, gDPut, gSprPut, gObjPut, gPar, eObj, eRev, gtName, gtTup, gtCons, gtNil, seqOf, eC, eVar, eUn, eBin, eChain, eAnd, eOr, eNot, eOrT, eIf, tE, tTru, DL.tAnd, DL.tOr, DL.tNot, DL.tYes, aNil, aCons, eLst, eTup, eCall, eCallP, eCallB, aDef, eFn, eIsI, eMt, eGet2, eSpr, oNone, oSome, eSl, eSlX, eSlN, gLPut, gTPut, gOwnAsg, gObjApp, gObjIns, eNewObj, eObjPop, eObjR, eObjL, eObjLen, eObjEnd, eSort, eSortSet, eLstRg, gPar0, sIn, eLc, iSeq, DL.iRng1, DL.iRng2, DL.iEnum, DL.iZip, DL.iStr, killL, fnW, fnWo, eIsE, gTry, gRaise, eJn, eNever, tNever, List.getElem?_cons_zero, List.getElem?_cons_succ, List.set_cons_zero, List.set_cons_succ, List.map_cons, List.map_nil, List.cons_append, List.nil_append, List.append_nil, List.replicate_succ, List.replicate_zero, List.length_cons, List.length_nil, List.foldl_cons, List.foldl_nil, Nat.zero_add, Nat.reduceAdd, Nat.reduceSub, ex_some, ex_bl, ex_int, ex_obj, ex_str, ex_lst, ex_cons, true_and, and_true, dAdd_int, dSub_int, dCmp_int, dNeg_int, Option.some.injEq, exists_eq_left', exists_eq_left]; exact hQ) fun word hwl hw => ?_
  rw [hn] at hwl
  have hw9 : ∀ y ∈ word, 0 ≤ y ∧ y < 9 := fun y hy => by have := hw y hy; omega
  refine p_draw hs (by decide) (by decide) fun way hw0 hw1 => ?_
  simp only [List.getElem?_cons_zero, List.getElem?_cons_succ, List.set_cons_zero, List.set_cons_succ, List.map_cons, List.map_nil, List.cons_append, List.nil_append, List.append_nil, List.replicate_succ, List.replicate_zero, List.length_cons, List.length_nil, List.foldl_cons, List.foldl_nil, Nat.zero_add, Nat.reduceAdd, Nat.reduceSub, ex_some, ex_bl, ex_int, ex_obj, ex_str, ex_lst, ex_cons, true_and, and_true, dAdd_int, dSub_int, dCmp_int, dNeg_int, Option.some.injEq, exists_eq_left', exists_eq_left, dEq_int]
  split
  · refine ⟨by omega, by omega, ?_⟩
    have hn2 : (rngD 0 len.toNat).length = len.toNat := rngD_len _ _
    refine ⟨by rw [hn2, line_eq]; omega, ?_⟩
    refine lc_draws (m := kinds) hs (by omega) (by omega) (fun x hx Q hQ => by simp only [gSeq, gRet, gRetN, gExpr, gAsg, gIf, gNext, gKill, gDrop, gBrk, gCnt, gNever, gFor, gAug, gOwn, gPut, gDPut, gSprPut, gObjPut, gPar, eObj, eRev, gtName, gtTup, gtCons, gtNil, seqOf, eC, eVar, eUn, eBin, eChain, eAnd, eOr, eNot, eOrT, eIf, tE, tTru, DL.tAnd, DL.tOr, DL.tNot, DL.tYes, aNil, aCons, eLst, eTup, eCall, eCallP, eCallB, aDef, eFn, eIsI, eMt, eGet2, eSpr, oNone, oSome, eSl, eSlX, eSlN, gLPut, gTPut, gOwnAsg, gObjApp, gObjIns, eNewObj, eObjPop, eObjR, eObjL, eObjLen, eObjEnd, eSort, eSortSet, eLstRg, gPar0, sIn, eLc, iSeq, DL.iRng1, DL.iRng2, DL.iEnum, DL.iZip, DL.iStr, killL, fnW, fnWo, eIsE, gTry, gRaise, eJn, eNever, tNever, List.getElem?_cons_zero, List.getElem?_cons_succ, List.set_cons_zero, List.set_cons_succ, List.map_cons, List.map_nil, List.cons_append, List.nil_append, List.append_nil, List.replicate_succ, List.replicate_zero, List.length_cons, List.length_nil, List.foldl_cons, List.foldl_nil, Nat.zero_add, Nat.reduceAdd, Nat.reduceSub, ex_some, ex_bl, ex_int, ex_obj, ex_str, ex_lst, ex_cons, true_and, and_true, dAdd_int, dSub_int, dCmp_int, dNeg_int, Option.some.injEq, exists_eq_left', exists_eq_left]; exact hQ) fun ys hyl hy => ?_
    exact h ys (by rw [hyl, hn2]; omega) fun y hy' => by have := hy y hy'; omega
  · split
    · have hwl2 : fLen [.lst (word.map D.int)] = some (.int (word.length : Int)) := by simp [fLen, dLen]
      rw [hwl2]
      simp only [List.getElem?_cons_zero, List.getElem?_cons_succ, List.set_cons_zero, List.set_cons_succ, List.map_cons, List.map_nil, List.cons_append, List.nil_append, List.append_nil, List.replicate_succ, List.replicate_zero, List.length_cons, List.length_nil, List.foldl_cons, List.foldl_nil, Nat.zero_add, Nat.reduceAdd, Nat.reduceSub, ex_some, ex_bl, ex_int, ex_obj, ex_str, ex_lst, ex_cons, true_and, and_true, dAdd_int, dSub_int, dCmp_int, dNeg_int, Option.some.injEq, exists_eq_left', exists_eq_left]
      have hwpos : (0 : Int) < word.length := by rw [hwl]; omega
      have hwle : (word.length : Int) ≤ 6 := by rw [hwl]; omega
      rw [dDiv_int hwpos (by omega)]
      simp only [List.getElem?_cons_zero, List.getElem?_cons_succ, List.set_cons_zero, List.set_cons_succ, List.map_cons, List.map_nil, List.cons_append, List.nil_append, List.append_nil, List.replicate_succ, List.replicate_zero, List.length_cons, List.length_nil, List.foldl_cons, List.foldl_nil, Nat.zero_add, Nat.reduceAdd, Nat.reduceSub, ex_some, ex_bl, ex_int, ex_obj, ex_str, ex_lst, ex_cons, true_and, and_true, dAdd_int, dSub_int, dCmp_int, dNeg_int, Option.some.injEq, exists_eq_left', exists_eq_left]
      have hq0 : 0 ≤ len / (word.length : Int) := Int.ediv_nonneg hlen0 (by omega)
      have hq1 : len / (word.length : Int) ≤ len := Int.ediv_le_self _ hlen0
      have hmul : dMul (.lst (word.map D.int)) (.int (len / (word.length : Int) + 1)) = some (.lst (List.replicate (len / (word.length : Int) + 1).toNat (word.map D.int)).flatten) := if_pos ⟨by omega, by omega, by
        rw [List.length_map, line_eq]
        have e1 : (len / (word.length : Int) + 1).toNat ≤ 1001 := by omega
        have e2 : word.length ≤ 6 := by omega
        exact Nat.le_trans (Nat.mul_le_mul e2 e1) (by decide)⟩
      rw [hmul]
      simp only [List.getElem?_cons_zero, List.getElem?_cons_succ, List.set_cons_zero, List.set_cons_succ, List.map_cons, List.map_nil, List.cons_append, List.nil_append, List.append_nil, List.replicate_succ, List.replicate_zero, List.length_cons, List.length_nil, List.foldl_cons, List.foldl_nil, Nat.zero_add, Nat.reduceAdd, Nat.reduceSub, ex_some, ex_bl, ex_int, ex_obj, ex_str, ex_lst, ex_cons, true_and, and_true, dAdd_int, dSub_int, dCmp_int, dNeg_int, Option.some.injEq, exists_eq_left', exists_eq_left, dSl]
      have hf : (List.replicate (len / (word.length : Int) + 1).toNat (word.map D.int)).flatten = ((List.replicate (len / (word.length : Int) + 1).toNat word).flatten).map D.int := by
        rw [List.map_flatten, List.map_replicate]
      rw [hf, cutD_take _ hlen0, ← List.map_take]
      refine h _ ?_ fun x hx => ?_
      · have := List.length_take_le len.toNat (List.replicate (len / (word.length : Int) + 1).toNat word).flatten
        omega
      · have hx2 := List.mem_of_mem_take hx
        obtain ⟨l, hl, hxl⟩ := List.mem_flatten.mp hx2
        have := List.eq_of_mem_replicate hl
        subst this
        exact hw9 x hxl
    · refine ⟨by rw [line_eq]; omega, ?_⟩
      have hwpos : 0 < word.length := by rw [hwl]; omega
      refine ⟨fun m Δ S' => S' = S ∧ ∃ (found : List Int) (c7 c8 c9 : Option D), m = (len - found.length).toNat ∧ found.length ≤ 2000 ∧ (∀ x ∈ found, 0 ≤ x ∧ x < 9) ∧ Δ = [some (.obj a), some (.int most), some (.int kinds), some (.int len), some (.lst (word.map D.int)), some (.int way), some (.lst (found.map D.int)), c7, c8, c9], ?_, ?_⟩
      · exact ⟨_, rfl, [], _, _, _, rfl, by simp, by simp, rfl⟩
      · rintro m Δ S' ⟨rfl, found, c7, c8, c9, rfl, hfl, hf, rfl⟩
        have hfl2 : fLen [.lst (found.map D.int)] = some (.int (found.length : Int)) := by simp [fLen, dLen]
        simp only [gSeq, gRet, gRetN, gExpr, gAsg, gIf, gNext, gKill, gDrop, gBrk, gCnt, gNever, gFor, gAug, gOwn, gPut, gDPut, gSprPut, gObjPut, gPar, eObj, eRev, gtName, gtTup, gtCons, gtNil, seqOf, eC, eVar, eUn, eBin, eChain, eAnd, eOr, eNot, eOrT, eIf, tE, tTru, DL.tAnd, DL.tOr, DL.tNot, DL.tYes, aNil, aCons, eLst, eTup, eCall, eCallP, eCallB, aDef, eFn, eIsI, eMt, eGet2, eSpr, oNone, oSome, eSl, eSlX, eSlN, gLPut, gTPut, gOwnAsg, gObjApp, gObjIns, eNewObj, eObjPop, eObjR, eObjL, eObjLen, eObjEnd, eSort, eSortSet, eLstRg, gPar0, sIn, eLc, iSeq, DL.iRng1, DL.iRng2, DL.iEnum, DL.iZip, DL.iStr, killL, fnW, fnWo, eIsE, gTry, gRaise, eJn, eNever, tNever, List.getElem?_cons_zero, List.getElem?_cons_succ, List.set_cons_zero, List.set_cons_succ, List.map_cons, List.map_nil, List.cons_append, List.nil_append, List.append_nil, List.replicate_succ, List.replicate_zero, List.length_cons, List.length_nil, List.foldl_cons, List.foldl_nil, Nat.zero_add, Nat.reduceAdd, Nat.reduceSub, ex_some, ex_bl, ex_int, ex_obj, ex_str, ex_lst, ex_cons, true_and, and_true, dAdd_int, dSub_int, dCmp_int, dNeg_int, Option.some.injEq, exists_eq_left', exists_eq_left]
        rw [hfl2]
        simp only [List.getElem?_cons_zero, List.getElem?_cons_succ, List.set_cons_zero, List.set_cons_succ, List.map_cons, List.map_nil, List.cons_append, List.nil_append, List.append_nil, List.replicate_succ, List.replicate_zero, List.length_cons, List.length_nil, List.foldl_cons, List.foldl_nil, Nat.zero_add, Nat.reduceAdd, Nat.reduceSub, ex_some, ex_bl, ex_int, ex_obj, ex_str, ex_lst, ex_cons, true_and, and_true, dAdd_int, dSub_int, dCmp_int, dNeg_int, Option.some.injEq, exists_eq_left', exists_eq_left]
        split
        · rename_i hlt
          have hlt' : (found.length : Int) < len := by simpa using hlt
          refine p_draw hs (by decide) (by decide) fun sh hsh0 hsh1 => ?_
          simp only [isLst, itemsOf, List.getElem?_cons_zero, List.getElem?_cons_succ, List.set_cons_zero, List.set_cons_succ, List.map_cons, List.map_nil, List.cons_append, List.nil_append, List.append_nil, List.replicate_succ, List.replicate_zero, List.length_cons, List.length_nil, List.foldl_cons, List.foldl_nil, Nat.zero_add, Nat.reduceAdd, Nat.reduceSub, ex_some, ex_bl, ex_int, ex_obj, ex_str, ex_lst, ex_cons, true_and, and_true, dAdd_int, dSub_int, dCmp_int, dNeg_int, Option.some.injEq, exists_eq_left', exists_eq_left]
          refine ⟨by rw [List.length_map, line_eq]; omega, ?_⟩
          refine lcL_mapOf _ (fun y => .int ((y + sh) % 9)) (fun y hy Q hQ => ?_) ?_
          · simp only [gSeq, gRet, gRetN, gExpr, gAsg, gIf, gNext, gKill, gDrop, gBrk, gCnt, gNever, gFor, gAug, gOwn, gPut, gDPut, gSprPut, gObjPut, gPar, eObj, eRev, gtName, gtTup, gtCons, gtNil, seqOf, eC, eVar, eUn, eBin, eChain, eAnd, eOr, eNot, eOrT, eIf, tE, tTru, DL.tAnd, DL.tOr, DL.tNot, DL.tYes, aNil, aCons, eLst, eTup, eCall, eCallP, eCallB, aDef, eFn, eIsI, eMt, eGet2, eSpr, oNone, oSome, eSl, eSlX, eSlN, gLPut, gTPut, gOwnAsg, gObjApp, gObjIns, eNewObj, eObjPop, eObjR, eObjL, eObjLen, eObjEnd, eSort, eSortSet, eLstRg, gPar0, sIn, eLc, iSeq, DL.iRng1, DL.iRng2, DL.iEnum, DL.iZip, DL.iStr, killL, fnW, fnWo, eIsE, gTry, gRaise, eJn, eNever, tNever, List.getElem?_cons_zero, List.getElem?_cons_succ, List.set_cons_zero, List.set_cons_succ, List.map_cons, List.map_nil, List.cons_append, List.nil_append, List.append_nil, List.replicate_succ, List.replicate_zero, List.length_cons, List.length_nil, List.foldl_cons, List.foldl_nil, Nat.zero_add, Nat.reduceAdd, Nat.reduceSub, ex_some, ex_bl, ex_int, ex_obj, ex_str, ex_lst, ex_cons, true_and, and_true, dAdd_int, dSub_int, dCmp_int, dNeg_int, Option.some.injEq, exists_eq_left', exists_eq_left]
            rw [dMod_int (by decide)]
            simp only [List.getElem?_cons_zero, List.getElem?_cons_succ, List.set_cons_zero, List.set_cons_succ, List.map_cons, List.map_nil, List.cons_append, List.nil_append, List.append_nil, List.replicate_succ, List.replicate_zero, List.length_cons, List.length_nil, List.foldl_cons, List.foldl_nil, Nat.zero_add, Nat.reduceAdd, Nat.reduceSub, ex_some, ex_bl, ex_int, ex_obj, ex_str, ex_lst, ex_cons, true_and, and_true, dAdd_int, dSub_int, dCmp_int, dNeg_int, Option.some.injEq, exists_eq_left', exists_eq_left]
            exact hQ
          rw [List.nil_append]
          have he : oExtend (.lst (found.map D.int)) [.lst (word.map fun y => D.int ((y + sh) % 9))] = some (.lst ((found ++ word.map fun y => (y + sh) % 9).map D.int), .non) := by
            show (if _ then _ else none) = _
            rw [if_pos (by rw [List.length_map, List.length_map, line_eq]; omega), List.map_append, List.map_map]
            rfl
          rw [he]
          refine ⟨_, _, rfl, ?_⟩
          have hf2 : ∀ x ∈ found ++ word.map (fun y => (y + sh) % 9), 0 ≤ x ∧ x < 9 := fun x hx => by
            rcases List.mem_append.mp hx with hx | hx
            · exact hf x hx
            · obtain ⟨y, _, rfl⟩ := List.mem_map.mp hx
              exact ⟨Int.emod_nonneg _ (by decide), Int.emod_lt_of_pos _ (by decide)⟩
          have hl2 : (found ++ word.map fun y => (y + sh) % 9).length = found.length + word.length := by simp
          refine p_draw hs (by decide) (by decide) fun z hz0 hz1 => ?_
          simp only [List.getElem?_cons_zero, List.getElem?_cons_succ, List.set_cons_zero, List.set_cons_succ, List.map_cons, List.map_nil, List.cons_append, List.nil_append, List.append_nil, List.replicate_succ, List.replicate_zero, List.length_cons, List.length_nil, List.foldl_cons, List.foldl_nil, Nat.zero_add, Nat.reduceAdd, Nat.reduceSub, ex_some, ex_bl, ex_int, ex_obj, ex_str, ex_lst, ex_cons, true_and, and_true, dAdd_int, dSub_int, dCmp_int, dNeg_int, Option.some.injEq, exists_eq_left', exists_eq_left, dEq_int]
          split
          · refine p_draw hs (by omega) (by omega) fun nx hx0 hx1 => ?_
            generalize hff : (found ++ word.map fun y => (y + sh) % 9) = ff at hf2 hl2 ⊢
            have ha : oAppend (.lst (ff.map D.int)) [.int nx] = some (.lst ((ff ++ [nx]).map D.int), .non) := by
              show (if _ then _ else none) = _
              rw [if_pos (by rw [List.length_map, line_eq]; omega), List.map_append]
              rfl
            rw [ha]
            refine ⟨_, _, rfl, _, ?_, rfl, ff ++ [nx], _, _, _, rfl, ?_, ?_, rfl⟩
            · rw [List.length_append, hl2]
              simp
              omega
            · rw [List.length_append, hl2]
              simp
              omega
            · intro x hx
              rcases List.mem_append.mp hx with hx | hx
              · exact hf2 x hx
              · simp at hx
                omega
          · refine ⟨_, ?_, _, _, _, _, rfl, ?_, hf2, rfl⟩
            · rw [hl2]
              omega
            · omega
        · simp only [dSl, List.getElem?_cons_zero, List.getElem?_cons_succ, List.set_cons_zero, List.set_cons_succ, List.map_cons, List.map_nil, List.cons_append, List.nil_append, List.append_nil, List.replicate_succ, List.replicate_zero, List.length_cons, List.length_nil, List.foldl_cons, List.foldl_nil, Nat.zero_add, Nat.reduceAdd, Nat.reduceSub, ex_some, ex_bl, ex_int, ex_obj, ex_str, ex_lst, ex_cons, true_and, and_true, dAdd_int, dSub_int, dCmp_int, dNeg_int, Option.some.injEq, exists_eq_left', exists_eq_left]
          rw [cutD_take _ hlen0, ← List.map_take]
          refine h _ ?_ fun x hx => hf x (List.mem_of_mem_take hx)
          have := List.length_take_le len.toNat found
          omega


abbrev Prs := List (Int × Int)
def pairs (l : Prs) : D := .lst (l.map fun p => .tup [.int p.1, .int p.2])
/-- a mapping of symbols below own to symbols below other -/
structure Mp (own other : Int) (l : Prs) : Prop where
  asc : (l.map (·.1)).Pairwise (· < ·)
  nd : (l.map (·.2)).Nodup
  rg : ∀ p ∈ l, 0 ≤ p.1 ∧ p.1 < own ∧ 0 ≤ p.2 ∧ p.2 < other
theorem dNe_nilL {l : List D} (h : shD (.lst l) = true) : dNe (.lst l) (.lst []) = some (.bl (!l.isEmpty)) := by
  unfold dNe dEqB
  have h0 : shD (.lst []) = true := shD_ints []
  simp only [h, h0, and_self, if_true, Option.map_some]
  cases l with
  | nil => rfl
  | cons x l => simp [toPy, toPyAll, PyData.eqv, PyData.eqvAll]
theorem p_mapping {a : Nat} {own other : Int} {S : Sto} {P : D → Sto → Prop} {R : RX} (hs : S a = some .spr) (h0 : 0 ≤ own) (h1 : own ≤ 1000) (h2 : 0 ≤ other) (h3 : other ≤ 1000) (h : ∀ l : Prs, Mp own other l → P (pairs l) S) :
    fnSub w__law_mapping [.obj a, .int own, .int other] S P R := by
  have hline := line_eq
  unfold fnSub
  simp only [w__law_mapping, gSeq, gRet, gRetN, gExpr, gAsg, gIf, gNext, gKill, gDrop, gBrk, gCnt, gNever, gFor, gAug, gOwn, gPut, gDPut, gSprPut, gObjPut, gPar, eObj, eRev, gtName, gtTup, gtCons, gtNil, seqOf, eC, eVar, eUn, eBin, eChain, eAnd, eOr, eNot, eOrT, eIf, tE, tTru, DL.tAnd, DL.tOr, DL.tNot, DL.tYes, aNil, aCons, eLst, eTup, eCall, eCallP, eCallB, aDef, eFn, eIsI, eMt, eGet2, eSpr, oNone, oSome, eSl, eSlX, eSlN, gLPut, gTPut, gOwnAsg, gObjApp, gObjIns, eNewObj, eObjPop, eObjR, eObjL, eObjLen, eObjEnd, eSort, eSortSet, eLstRg, gPar0, sIn, eLc, iSeq, DL.iRng1, DL.iRng2, DL.iEnum, DL.iZip, DL.iStr, killL, fnW, fnWo, eIsE, gTry, gRaise, eJn, eNever, tNever, List.getElem?_cons_zero, List.getElem?_cons_succ, List.set_cons_zero, List.set_cons_succ, List.map_cons, List.map_nil, List.cons_append, List.nil_append, List.append_nil, List.replicate_succ, List.replicate_zero, List.length_cons, List.length_nil, List.foldl_cons, List.foldl_nil, Nat.zero_add, Nat.reduceAdd, Nat.reduceSub, ex_some, ex_bl, ex_int, ex_obj, ex_str, ex_lst, ex_cons, true_and, and_true, dAdd_int, dSub_int, dCmp_int, dNeg_int, Option.some.injEq, exists_eq_left', exists_eq_left]
  refine ⟨h2, by omega, fun p hp => ?_⟩
  have hap : a ≠ p := fun e => by rw [e, hp] at hs; cases hs
  refine ⟨by omega, by omega, by omega, ?_⟩
  obtain ⟨ow, rfl⟩ := Int.eq_ofNat_of_zero_le h0
  obtain ⟨ot, rfl⟩ := Int.eq_ofNat_of_zero_le h2
  rw [rng_nat, rng_nat]
  refine forL_inv (fun i Δ S' => ∃ (l : Prs) (left : List Int) (c5 : Option D), i ≤ ow ∧ S' = S.upd p (.lst (left.map D.int)) ∧ l.length ≤ i ∧ left.length ≤ ot ∧ (l.map (·.2) ++ left).Nodup ∧ (∀ x ∈ l.map (·.2) ++ left, 0 ≤ x ∧ x < (ot : Int)) ∧ (l.map (·.1)).Pairwise (· < ·) ∧ (∀ q ∈ l, 0 ≤ q.1 ∧ q.1 < (i : Int)) ∧
      Δ = [some (.obj a), some (.int (ow : Int)), some (.int (ot : Int)), some (.obj p), some (.lst (l.map fun p => .tup [.int p.1, .int p.2])), c5]) ⟨[], (List.range ot).map (fun i : Nat => (i : Int)), none, by omega, ?_, by simp, by simp, ?_, ?_, by simp, by simp, rfl⟩ ?_ ?_
  · congr 2
    rw [List.map_map]
    rfl
  · rw [List.map_nil, List.nil_append]
    exact List.Pairwise.map _ (fun a b hne e => hne (Int.ofNat.inj e)) List.nodup_range
  · intro x hx
    rw [List.map_nil, List.nil_append] at hx
    obtain ⟨i, hi, rfl⟩ := List.mem_map.mp hx
    have := List.mem_range.mp hi
    omega
  · rintro i x Δ S' Nx hx ⟨l, left, c5, hi, rfl, hll, hlo, hnd, hrg, hasc, hk, rfl⟩ hN
    have hi2 : i < ow := by
      have := (List.getElem?_eq_some_iff.mp hx).1
      simpa using this
    have hx2 : x = .int (i : Int) := by
      rw [List.getElem?_map, List.getElem?_range hi2] at hx
      exact (Option.some.inj hx).symm
    subst hx2
    have stay : Nx [some (.obj a), some (.int (ow : Int)), some (.int (ot : Int)), some (.obj p), some (.lst (l.map fun p => .tup [.int p.1, .int p.2])), some (.int (i : Int))] (S.upd p (.lst (left.map D.int))) :=
      hN _ _ ⟨l, left, _, by omega, rfl, by omega, hlo, hnd, hrg, hasc, fun q hq => by have := hk q hq; omega, rfl⟩
    have hsp : ∀ ds, (S.upd p (.lst ds)) a = some .spr := fun ds => by rw [Sto.upd_ne hap]; exact hs
    simp only [gSeq, gRet, gRetN, gExpr, gAsg, gIf, gNext, gKill, gDrop, gBrk, gCnt, gNever, gFor, gAug, gOwn, gPut, gDPut, gSprPut, gObjPut, gPar, eObj, eRev, gtName, gtTup, gtCons, gtNil, seqOf, eC, eVar, eUn, eBin, eChain, eAnd, eOr, eNot, eOrT, eIf, tE, tTru, DL.tAnd, DL.tOr, DL.tNot, DL.tYes, aNil, aCons, eLst, eTup, eCall, eCallP, eCallB, aDef, eFn, eIsI, eMt, eGet2, eSpr, oNone, oSome, eSl, eSlX, eSlN, gLPut, gTPut, gOwnAsg, gObjApp, gObjIns, eNewObj, eObjPop, eObjR, eObjL, eObjLen, eObjEnd, eSort, eSortSet, eLstRg, gPar0, sIn, eLc, iSeq, DL.iRng1, DL.iRng2, DL.iEnum, DL.iZip, DL.iStr, killL, fnW, fnWo, eIsE, gTry, gRaise, eJn, eNever, tNever, List.getElem?_cons_zero, List.getElem?_cons_succ, List.set_cons_zero, List.set_cons_succ, List.map_cons, List.map_nil, List.cons_append, List.nil_append, List.append_nil, List.replicate_succ, List.replicate_zero, List.length_cons, List.length_nil, List.foldl_cons, List.foldl_nil, Nat.zero_add, Nat.reduceAdd, Nat.reduceSub, ex_some, ex_bl, ex_int, ex_obj, ex_str, ex_lst, ex_cons, true_and, and_true, dAdd_int, dSub_int, dCmp_int, dNeg_int, Option.some.injEq, exists_eq_left', exists_eq_left]
    refine ⟨by omega, p, _, _, rfl, Sto.upd_same _ _ _, dNe_nilL (shD_ints left), _, rfl, ?_⟩
    cases hle : left with
    | nil =>
      rw [hle] at stay
      simpa using stay
    | cons y ys =>
      rw [← hle]
      have hpos : 0 < left.length := by rw [hle]; simp
      have hem : (!(left.map D.int).isEmpty) = true := by rw [hle]; rfl
      rw [hem]
      simp only [if_true]
      refine p_draw (hsp _) (by decide) (by decide) fun k k0 k1 => ?_
      simp only [List.getElem?_cons_zero, List.getElem?_cons_succ, List.set_cons_zero, List.set_cons_succ, List.map_cons, List.map_nil, List.cons_append, List.nil_append, List.append_nil, List.replicate_succ, List.replicate_zero, List.length_cons, List.length_nil, List.foldl_cons, List.foldl_nil, Nat.zero_add, Nat.reduceAdd, Nat.reduceSub, ex_some, ex_bl, ex_int, ex_obj, ex_str, ex_lst, ex_cons, true_and, and_true, dAdd_int, dSub_int, dCmp_int, dNeg_int, Option.some.injEq, exists_eq_left', exists_eq_left]
      split
      · refine ⟨rfl, ⟨_, Sto.upd_same _ _ _⟩, p, _, rfl, Sto.upd_same _ _ _, ?_⟩
        refine p_draw (hsp _) (by rw [List.length_map]; omega) (by rw [List.length_map]; omega) fun j j0 j1 => ?_
        rw [List.length_map] at j1
        obtain ⟨jN, rfl⟩ := Int.eq_ofNat_of_zero_le j0
        have hj : jN < left.length := by omega
        refine ⟨_, jN, .int left[jN], Sto.upd_same _ _ _, by rw [List.length_map]; omega, rfl, by rw [List.getElem?_map, List.getElem?_eq_getElem hj]; rfl, by omega, ?_⟩
        have happ : oAppend (.lst (l.map fun p => D.tup [.int p.1, .int p.2])) [.tup [.int (i : Int), .int left[jN]]] = some (.lst ((l ++ [((i : Int), left[jN])]).map fun p => D.tup [.int p.1, .int p.2]), .non) := by
          show (if _ then _ else none) = _
          rw [if_pos (by rw [List.length_map]; omega), List.map_append]
          rfl
        have hper : ((l ++ [((i : Int), left[jN])]).map (·.2) ++ left.eraseIdx jN).Perm (l.map (·.2) ++ left) := by
          rw [List.map_append, List.append_assoc]
          exact List.Perm.append_left _ (eraseIdx_perm left jN left[jN] (List.getElem?_eq_getElem hj)).symm
        refine ⟨_, _, happ, hN _ _ ⟨l ++ [((i : Int), left[jN])], left.eraseIdx jN, _, by omega, ?_, ?_, ?_, hper.nodup_iff.mpr hnd, fun x hx => hrg x (hper.mem_iff.mp hx), ?_, ?_, rfl⟩⟩
        · rw [map_erase]
          funext b
          by_cases hb : b = p
          · subst hb; rw [Sto.upd_same, Sto.upd_same]
          · rw [Sto.upd_ne hb, Sto.upd_ne hb, Sto.upd_ne hb]
        · rw [List.length_append]
          simp
          omega
        · rw [List.length_eraseIdx]
          split <;> omega
        · rw [List.map_append, List.pairwise_append]
          refine ⟨hasc, by simp, fun u hu w hw => ?_⟩
          obtain ⟨q, hq, rfl⟩ := List.mem_map.mp hu
          have hw2 : w = (i : Int) := by simpa using hw
          rw [hw2]
          exact (hk q hq).2
        · intro q hq
          rcases List.mem_append.mp hq with hq | hq
          · have := hk q hq
            omega
          · rw [List.mem_singleton.mp hq]
            show 0 ≤ (i : Int) ∧ (i : Int) < ((i + 1 : Nat) : Int)
            omega
      · exact stay
  · rintro Δ S' ⟨l, left, c5, hi, rfl, hll, hlo, hnd, hrg, hasc, hk, rfl⟩
    simp only [List.getElem?_cons_zero, List.getElem?_cons_succ, List.set_cons_zero, List.set_cons_succ, List.map_cons, List.map_nil, List.cons_append, List.nil_append, List.append_nil, List.replicate_succ, List.replicate_zero, List.length_cons, List.length_nil, List.foldl_cons, List.foldl_nil, Nat.zero_add, Nat.reduceAdd, Nat.reduceSub, ex_some, ex_bl, ex_int, ex_obj, ex_str, ex_lst, ex_cons, true_and, and_true, dAdd_int, dSub_int, dCmp_int, dNeg_int, Option.some.injEq, exists_eq_left', exists_eq_left]
    refine ⟨S, SubS.upd hp, h l ⟨hasc, (List.nodup_append.mp hnd).1, fun q hq => ?_⟩⟩
    have h5 := hk q hq
    have h6 := hrg q.2 (List.mem_append_left _ (List.mem_map_of_mem hq))
    have hlen : ((List.range ow).map fun i : Nat => D.int (i : Int)).length = ow := by simp
    omega

/-- a block: its symbols, its two mappings, its count -/
structure Blk where
  xs : List Int
  lk : Prs
  tn : Prs
  ct : Int
def Blk.d (b : Blk) : D := .tup [.lst ((dist b.xs).map D.int), pairs b.lk, pairs b.tn, .int b.ct]
def Blk.own (b : Blk) : Int := ((dedup b.xs).length : Nat)
structure Blk.ok (prev : Int) (b : Blk) : Prop where
  l1 : 1 ≤ b.xs.length
  l2 : b.xs.length ≤ 40
  rg : ∀ x ∈ b.xs, 0 ≤ x ∧ x < 40
  lk : Mp b.own prev b.lk
  tn : Mp b.own b.own b.tn
  c1 : 1 ≤ b.ct
  c2 : b.ct ≤ 10 ^ 30
def SeqOk : Int → List Blk → Prop
  | _, [] => True
  | p, b :: bs => b.ok p ∧ SeqOk b.own bs
def lastOwn : Int → List Blk → Int
  | p, [] => p
  | _, b :: bs => lastOwn b.own bs
theorem seqOk_snoc : ∀ {bs : List Blk} {p : Int} {b : Blk}, SeqOk p bs → b.ok (lastOwn p bs) → SeqOk p (bs ++ [b])
  | [], _, _, _, h => ⟨h, trivial⟩
  | c :: bs, _, _, ⟨h1, h2⟩, h => ⟨h1, seqOk_snoc (bs := bs) h2 h⟩
theorem lastOwn_snoc : ∀ (bs : List Blk) (p : Int) (b : Blk), lastOwn p (bs ++ [b]) = b.own
  | [], _, _ => rfl
  | c :: bs, _, b => lastOwn_snoc bs c.own b
theorem seqOk_mem : ∀ {bs : List Blk} {p : Int} {b : Blk}, SeqOk p bs → b ∈ bs → ∃ q, b.ok q
  | c :: bs, p, b, ⟨h1, h2⟩, h => by
    rcases List.mem_cons.mp h with rfl | h
    · exact ⟨p, h1⟩
    · exact seqOk_mem h2 h
theorem own_pos {b : Blk} {p : Int} (h : b.ok p) : 1 ≤ b.own ∧ b.own ≤ 40 := by
  have h1 := h.l1
  have h2 := h.l2
  have h3 : 0 < (dedup b.xs).length := by
    cases e : b.xs with
    | nil => rw [e] at h1; simp at h1
    | cons y ys => exact List.length_pos_of_mem (mem_dedup.mpr (List.mem_cons_self ..))
  have h4 : (dedup b.xs).length ≤ b.xs.length := by
    have := dedup_le b.xs []
    simpa [dedup] using this
  unfold Blk.own
  omega
theorem lastOwn_le : ∀ {bs : List Blk} {p : Int}, SeqOk p bs → 0 ≤ p → p ≤ 40 → 0 ≤ lastOwn p bs ∧ lastOwn p bs ≤ 40
  | [], _, _, h1, h2 => ⟨h1, h2⟩
  | c :: bs, _, ⟨h1, h2⟩, _, _ => by
    have := own_pos h1
    exact lastOwn_le (bs := bs) h2 (by omega) (by omega)
theorem dPow30 : dPow (.int 10) (.int 30) = some (.int (10 ^ 30)) := by rw [dPow, if_pos (by decide)]; rfl
theorem p_sequence {a : Nat} {most : Int} {S : Sto} {P : D → Sto → Prop} {R : RX} (hs : S a = some .spr) (h1 : 1 ≤ most) (h2 : most ≤ 8) (h : ∀ bs : List Blk, SeqOk 0 bs → 1 ≤ bs.length → (bs.length : Int) ≤ most → P (.lst (bs.map Blk.d)) S) :
    w__law_sequence [.obj a, .int most] S P R := by
  have hline := line_eq
  simp only [w__law_sequence, gSeq, gRet, gRetN, gExpr, gAsg, gIf, gNext, gKill, gDrop, gBrk, gCnt, gNever, gFor, gAug, gOwn, gPut, gDPut, gSprPut, gObjPut, gPar, eObj, eRev, gtName, gtTup, gtCons, gtNil, seqOf, eC, eVar, eUn, eBin, eChain, eAnd, eOr, eNot, eOrT, eIf, tE, tTru, DL.tAnd, DL.tOr, DL.tNot, DL.tYes, aNil, aCons, eLst, eTup, eCall, eCallP, eCallB, aDef, eFn, eIsI, eMt, eGet2, eSpr, oNone, oSome, eSl, eSlX, eSlN, gLPut, gTPut, gOwnAsg, gObjApp, gObjIns, eNewObj, eObjPop, eObjR, eObjL, eObjLen, eObjEnd, eSort, eSortSet, eLstRg, gPar0, sIn, eLc, iSeq, DL.iRng1, DL.iRng2, DL.iEnum, DL.iZip, DL.iStr, killL, fnW, fnWo, eIsE, gTry, gRaise, eJn, eNever, tNever, List.getElem?_cons_zero, List.getElem?_cons_succ, List.set_cons_zero, List.set_cons_succ, List.map_cons, List.map_nil, List.cons_append, List.nil_append, List.append_nil, List.replicate_succ, List.replicate_zero, List.length_cons, List.length_nil, List.foldl_cons, List.foldl_nil, Nat.zero_add, Nat.reduceAdd, Nat.reduceSub, ex_some, ex_bl, ex_int, ex_obj, ex_str, ex_lst, ex_cons, true_and, and_true, dAdd_int, dSub_int, dCmp_int, dNeg_int, Option.some.injEq, exists_eq_left', exists_eq_left]
  refine ⟨by omega, ?_⟩
  refine p_draw hs (by omega) (by omega) fun n n0 n1 => ?_
  simp only [List.getElem?_cons_zero, List.getElem?_cons_succ, List.set_cons_zero, List.set_cons_succ, List.map_cons, List.map_nil, List.cons_append, List.nil_append, List.append_nil, List.replicate_succ, List.replicate_zero, List.length_cons, List.length_nil, List.foldl_cons, List.foldl_nil, Nat.zero_add, Nat.reduceAdd, Nat.reduceSub, ex_some, ex_bl, ex_int, ex_obj, ex_str, ex_lst, ex_cons, true_and, and_true, dAdd_int, dSub_int, dCmp_int, dNeg_int, Option.some.injEq, exists_eq_left', exists_eq_left]
  refine ⟨by omega, by omega, ?_⟩
  refine forL_inv (fun i Δ S' => S' = S ∧ ∃ (bs : List Blk) (c4 c5 c6 c7 c8 c9 c10 : Option D), (bs.length : Int) = i ∧ (i : Int) ≤ 1 + n ∧ SeqOk 0 bs ∧ Δ = [some (.obj a), some (.int most), some (.lst (bs.map Blk.d)), some (.int (lastOwn 0 bs)), c4, c5, c6, c7, c8, c9, c10])
    ⟨rfl, [], none, none, none, none, none, none, none, rfl, by omega, trivial, rfl⟩ ?_ ?_
  · rintro i x Δ S' Nx hx ⟨rfl, bs, c4, c5, c6, c7, c8, c9, c10, hb, hi, ok, rfl⟩ hN
    have hi2 : (i : Int) < 1 + n := by
      have := (List.getElem?_eq_some_iff.mp hx).1
      rw [rngD_len] at this
      omega
    have hlo := lastOwn_le ok (by omega) (by omega)
    simp only [gSeq, gRet, gRetN, gExpr, gAsg, gIf, gNext, gKill, gDrop, gBrk, gCnt, gNever, gFor, gAug, gOwn, gPut, gDPut, gSprPut, gObjPut, gPar, eObj, eRev, gtName, gtTup, gtCons, gtNil, seqOf, eC, eVar, eUn, eBin, eChain, eAnd, eOr, eNot, eOrT, eIf, tE, tTru, DL.tAnd, DL.tOr, DL.tNot, DL.tYes, aNil, aCons, eLst, eTup, eCall, eCallP, eCallB, aDef, eFn, eIsI, eMt, eGet2, eSpr, oNone, oSome, eSl, eSlX, eSlN, gLPut, gTPut, gOwnAsg, gObjApp, gObjIns, eNewObj, eObjPop, eObjR, eObjL, eObjLen, eObjEnd, eSort, eSortSet, eLstRg, gPar0, sIn, eLc, iSeq, DL.iRng1, DL.iRng2, DL.iEnum, DL.iZip, DL.iStr, killL, fnW, fnWo, eIsE, gTry, gRaise, eJn, eNever, tNever, List.getElem?_cons_zero, List.getElem?_cons_succ, List.set_cons_zero, List.set_cons_succ, List.map_cons, List.map_nil, List.cons_append, List.nil_append, List.append_nil, List.replicate_succ, List.replicate_zero, List.length_cons, List.length_nil, List.foldl_cons, List.foldl_nil, Nat.zero_add, Nat.reduceAdd, Nat.reduceSub, ex_some, ex_bl, ex_int, ex_obj, ex_str, ex_lst, ex_cons, true_and, and_true, dAdd_int, dSub_int, dCmp_int, dNeg_int, Option.some.injEq, exists_eq_left', exists_eq_left]
    refine ⟨by omega, ?_⟩
    refine p_draw hs (by decide) (by decide) fun k0 k00 k01 => ?_
    have hsz : ∃ kk : Int, dIx (.lst [.int 3, .int 8, .int 40]) (.int k0) = some (.int kk) ∧ 3 ≤ kk ∧ kk ≤ 40 := by
      rcases (show k0 = 0 ∨ k0 = 1 ∨ k0 = 2 by omega) with rfl | rfl | rfl
      · exact ⟨3, rfl, by decide, by decide⟩
      · exact ⟨8, rfl, by decide, by decide⟩
      · exact ⟨40, rfl, by decide, by decide⟩
    obtain ⟨kk, hix, hk0, hk1⟩ := hsz
    rw [hix]
    simp only [List.getElem?_cons_zero, List.getElem?_cons_succ, List.set_cons_zero, List.set_cons_succ, List.map_cons, List.map_nil, List.cons_append, List.nil_append, List.append_nil, List.replicate_succ, List.replicate_zero, List.length_cons, List.length_nil, List.foldl_cons, List.foldl_nil, Nat.zero_add, Nat.reduceAdd, Nat.reduceSub, ex_some, ex_bl, ex_int, ex_obj, ex_str, ex_lst, ex_cons, true_and, and_true, dAdd_int, dSub_int, dCmp_int, dNeg_int, Option.some.injEq, exists_eq_left', exists_eq_left]
    refine p_symbols hs (by omega) (by omega) fun ys hyl hyr => ?_
    -- the symbols, whatever the way
    have rest : ∀ (zs : List Int) (B : EndsD), 1 ≤ zs.length → zs.length ≤ 40 → (∀ x ∈ zs, 0 ≤ x ∧ x < 40) → B.nx = Nx →
        w__law_sequence_rest [some (.obj a), some (.int most), some (.lst (bs.map Blk.d)), some (.int (lastOwn 0 bs)), some x, some (.lst (zs.map D.int)), c6, c7, c8, c9, c10] S' B R := by
      intro zs B hz1 hz2 hzr hB
      have hset : dLenSet (.lst (zs.map D.int)) = some (.int ((dedup zs).length : Nat)) := by
        simp [dLenSet, intsOf_map, show zs.length + 1 < 4096 by omega]
      have hdl : (dedup zs).length ≤ zs.length := by
        have := dedup_le zs []
        simpa [dedup] using this
      simp only [w__law_sequence_rest, gSeq, gRet, gRetN, gExpr, gAsg, gIf, gNext, gKill, gDrop, gBrk, gCnt, gNever, gFor, gAug, gOwn, gPut, gDPut, gSprPut, gObjPut, gPar, eObj, eRev, gtName, gtTup, gtCons, gtNil, seqOf, eC, eVar, eUn, eBin, eChain, eAnd, eOr, eNot, eOrT, eIf, tE, tTru, DL.tAnd, DL.tOr, DL.tNot, DL.tYes, aNil, aCons, eLst, eTup, eCall, eCallP, eCallB, aDef, eFn, eIsI, eMt, eGet2, eSpr, oNone, oSome, eSl, eSlX, eSlN, gLPut, gTPut, gOwnAsg, gObjApp, gObjIns, eNewObj, eObjPop, eObjR, eObjL, eObjLen, eObjEnd, eSort, eSortSet, eLstRg, gPar0, sIn, eLc, iSeq, DL.iRng1, DL.iRng2, DL.iEnum, DL.iZip, DL.iStr, killL, fnW, fnWo, eIsE, gTry, gRaise, eJn, eNever, tNever, List.getElem?_cons_zero, List.getElem?_cons_succ, List.set_cons_zero, List.set_cons_succ, List.map_cons, List.map_nil, List.cons_append, List.nil_append, List.append_nil, List.replicate_succ, List.replicate_zero, List.length_cons, List.length_nil, List.foldl_cons, List.foldl_nil, Nat.zero_add, Nat.reduceAdd, Nat.reduceSub, ex_some, ex_bl, ex_int, ex_obj, ex_str, ex_lst, ex_cons, true_and, and_true, dAdd_int, dSub_int, dCmp_int, dNeg_int, Option.some.injEq, exists_eq_left', exists_eq_left, hset, dPow30]
      refine p_draw hs (by decide) (by decide) fun k1 k10 k11 => ?_
      simp only [List.getElem?_cons_zero, List.getElem?_cons_succ, List.set_cons_zero, List.set_cons_succ, List.map_cons, List.map_nil, List.cons_append, List.nil_append, List.append_nil, List.replicate_succ, List.replicate_zero, List.length_cons, List.length_nil, List.foldl_cons, List.foldl_nil, Nat.zero_add, Nat.reduceAdd, Nat.reduceSub, ex_some, ex_bl, ex_int, ex_obj, ex_str, ex_lst, ex_cons, true_and, and_true, dAdd_int, dSub_int, dCmp_int, dNeg_int, Option.some.injEq, exists_eq_left', exists_eq_left]
      refine ⟨by omega, ?_⟩
      refine p_draw hs (by decide) (by decide) fun k2 k20 k21 => ?_
      have hct : ∃ ct : Int, dIx (.lst [.int 1, .int 2, .int (1 + k1), .int (10 ^ 30)]) (.int k2) = some (.int ct) ∧ 1 ≤ ct ∧ ct ≤ 10 ^ 30 := by
        rcases (show k2 = 0 ∨ k2 = 1 ∨ k2 = 2 ∨ k2 = 3 by omega) with rfl | rfl | rfl | rfl
        · exact ⟨1, rfl, by decide, by decide⟩
        · exact ⟨2, rfl, by decide, by decide⟩
        · exact ⟨1 + k1, rfl, by omega, by omega⟩
        · exact ⟨10 ^ 30, rfl, by decide, by decide⟩
      obtain ⟨ct, hix2, c1, c2⟩ := hct
      rw [hix2]
      simp only [List.getElem?_cons_zero, List.getElem?_cons_succ, List.set_cons_zero, List.set_cons_succ, List.map_cons, List.map_nil, List.cons_append, List.nil_append, List.append_nil, List.replicate_succ, List.replicate_zero, List.length_cons, List.length_nil, List.foldl_cons, List.foldl_nil, Nat.zero_add, Nat.reduceAdd, Nat.reduceSub, ex_some, ex_bl, ex_int, ex_obj, ex_str, ex_lst, ex_cons, true_and, and_true, dAdd_int, dSub_int, dCmp_int, dNeg_int, Option.some.injEq, exists_eq_left', exists_eq_left]
      refine p_mapping hs (by omega) (by omega) (by omega) (by omega) fun l1 m1 => ?_
      refine p_mapping hs (by omega) (by omega) (by omega) (by omega) fun l2 m2 => ?_
      refine ⟨rfl, ?_⟩
      refine SPG.p_distances (by omega) ?_
      refine ⟨by omega, ?_⟩
      have happ : oAppend (.lst (bs.map Blk.d)) [.tup [.lst ((dist zs).map D.int), pairs l1, pairs l2, .int ct]] = some (.lst ((bs ++ [(⟨zs, l1, l2, ct⟩ : Blk)]).map Blk.d), .non) := by
        show (if _ then _ else none) = _
        rw [if_pos (by rw [List.length_map]; omega), List.map_append]
        rfl
      refine ⟨_, _, happ, ?_⟩
      rw [hB]
      have hok : SeqOk 0 (bs ++ [(⟨zs, l1, l2, ct⟩ : Blk)]) := seqOk_snoc ok (b := ⟨zs, l1, l2, ct⟩) ⟨hz1, hz2, hzr, m1, m2, c1, c2⟩
      have hlen : ((bs ++ [(⟨zs, l1, l2, ct⟩ : Blk)]).length : Int) = ((i + 1 : Nat) : Int) := by
        rw [List.length_append]
        simp
        omega
      have he : lastOwn 0 (bs ++ [(⟨zs, l1, l2, ct⟩ : Blk)]) = ((dedup zs).length : Nat) := lastOwn_snoc bs 0 _
      exact hN _ _ ⟨rfl, bs ++ [⟨zs, l1, l2, ct⟩], _, _, _, _, _, _, _, hlen, by omega, hok, by rw [he]⟩
    have mid : ∀ (zs : List Int) (B : EndsD), 1 ≤ zs.length → zs.length ≤ 40 → (∀ x ∈ zs, 0 ≤ x ∧ x < 40) → B.nx = Nx →
        w__law_sequence_mid [some (.obj a), some (.int most), some (.lst (bs.map Blk.d)), some (.int (lastOwn 0 bs)), some x, some (.lst (zs.map D.int)), c6, c7, c8, c9, c10] S' B R := by
      intro zs B hz1 hz2 hzr hB
      simp only [w__law_sequence_mid, gSeq, gRet, gRetN, gExpr, gAsg, gIf, gNext, gKill, gDrop, gBrk, gCnt, gNever, gFor, gAug, gOwn, gPut, gDPut, gSprPut, gObjPut, gPar, eObj, eRev, gtName, gtTup, gtCons, gtNil, seqOf, eC, eVar, eUn, eBin, eChain, eAnd, eOr, eNot, eOrT, eIf, tE, tTru, DL.tAnd, DL.tOr, DL.tNot, DL.tYes, aNil, aCons, eLst, eTup, eCall, eCallP, eCallB, aDef, eFn, eIsI, eMt, eGet2, eSpr, oNone, oSome, eSl, eSlX, eSlN, gLPut, gTPut, gOwnAsg, gObjApp, gObjIns, eNewObj, eObjPop, eObjR, eObjL, eObjLen, eObjEnd, eSort, eSortSet, eLstRg, gPar0, sIn, eLc, iSeq, DL.iRng1, DL.iRng2, DL.iEnum, DL.iZip, DL.iStr, killL, fnW, fnWo, eIsE, gTry, gRaise, eJn, eNever, tNever, List.getElem?_cons_zero, List.getElem?_cons_succ, List.set_cons_zero, List.set_cons_succ, List.map_cons, List.map_nil, List.cons_append, List.nil_append, List.append_nil, List.replicate_succ, List.replicate_zero, List.length_cons, List.length_nil, List.foldl_cons, List.foldl_nil, Nat.zero_add, Nat.reduceAdd, Nat.reduceSub, ex_some, ex_bl, ex_int, ex_obj, ex_str, ex_lst, ex_cons, true_and, and_true, dAdd_int, dSub_int, dCmp_int, dNeg_int, Option.some.injEq, exists_eq_left', exists_eq_left]
      refine p_draw hs (by decide) (by decide) fun k3 k30 k31 => ?_
      simp only [List.getElem?_cons_zero, List.getElem?_cons_succ, List.set_cons_zero, List.set_cons_succ, List.map_cons, List.map_nil, List.cons_append, List.nil_append, List.append_nil, List.replicate_succ, List.replicate_zero, List.length_cons, List.length_nil, List.foldl_cons, List.foldl_nil, Nat.zero_add, Nat.reduceAdd, Nat.reduceSub, ex_some, ex_bl, ex_int, ex_obj, ex_str, ex_lst, ex_cons, true_and, and_true, dAdd_int, dSub_int, dCmp_int, dNeg_int, Option.some.injEq, exists_eq_left', exists_eq_left, dEq_int]
      split
      · refine ⟨by decide, by decide, by decide, by decide, by rw [rngD_len]; simp only [line_eq]; decide, ?_⟩
        refine lc_draws (m := 40) hs (by decide) (by decide) (fun x hx Q hQ => by simp only [gSeq, gRet, gRetN, gExpr, gAsg, gIf, gNext, gKill, gDrop, gBrk, gCnt, gNever, gFor, gAug, gOwn, gPut, gDPut, gSprPut, gObjPut, gPar, eObj, eRev, gtName, gtTup, gtCons, gtNil, seqOf, eC, eVar, eUn, eBin, eChain, eAnd, eOr, eNot, eOrT, eIf, tE, tTru, DL.tAnd, DL.tOr, DL.tNot, DL.tYes, aNil, aCons, eLst, eTup, eCall, eCallP, eCallB, aDef, eFn, eIsI, eMt, eGet2, eSpr, oNone, oSome, eSl, eSlX, eSlN, gLPut, gTPut, gOwnAsg, gObjApp, gObjIns, eNewObj, eObjPop, eObjR, eObjL, eObjLen, eObjEnd, eSort, eSortSet, eLstRg, gPar0, sIn, eLc, iSeq, DL.iRng1, DL.iRng2, DL.iEnum, DL.iZip, DL.iStr, killL, fnW, fnWo, eIsE, gTry, gRaise, eJn, eNever, tNever, List.getElem?_cons_zero, List.getElem?_cons_succ, List.set_cons_zero, List.set_cons_succ, List.map_cons, List.map_nil, List.cons_append, List.nil_append, List.append_nil, List.replicate_succ, List.replicate_zero, List.length_cons, List.length_nil, List.foldl_cons, List.foldl_nil, Nat.zero_add, Nat.reduceAdd, Nat.reduceSub, ex_some, ex_bl, ex_int, ex_obj, ex_str, ex_lst, ex_cons, true_and, and_true, dAdd_int, dSub_int, dCmp_int, dNeg_int, Option.some.injEq, exists_eq_left', exists_eq_left]; exact hQ) fun us hul hu => ?_
        rw [rngD_len] at hul
        refine ⟨by omega, ?_⟩
        refine p_draw hs (by decide) (by decide) fun k4 k40 k41 => ?_
        rcases (show k4 = 0 ∨ k4 = 1 by omega) with rfl | rfl
        · refine ⟨.lst (((List.range 40).map fun i : Nat => (i : Int)).map D.int), ?_, rest _ _ (by simp) (by simp) (fun x hx => ?_) hB⟩
          · have e : rngD 0 (Int.toNat 40) = ((List.range 40).map fun i : Nat => (i : Int)).map D.int := by
              rw [List.map_map]
              exact rng_nat 40
            rw [e]
            rfl
          · obtain ⟨i, hi, rfl⟩ := List.mem_map.mp hx
            have := List.mem_range.mp hi
            omega
        · exact ⟨_, rfl, rest us _ (by rw [hul]; decide) (by rw [hul]; decide) hu hB⟩
      · exact rest zs _ hz1 hz2 hzr hB
    refine ⟨_, rfl, ?_⟩
    cases ys with
    | nil =>
      refine ⟨by omega, ?_⟩
      exact mid [0] _ (by decide) (by decide) (fun x hx => by rw [List.mem_singleton.mp hx]; decide) rfl
    | cons y ys =>
      exact mid (y :: ys) _ (by simp) (by simp at hyl ⊢; omega) (fun x hx => by have := hyr x hx; omega) rfl
  · rintro Δ S' ⟨rfl, bs, c4, c5, c6, c7, c8, c9, c10, hb, hi, ok, rfl⟩
    simp only [List.getElem?_cons_zero, List.getElem?_cons_succ, List.set_cons_zero, List.set_cons_succ, List.map_cons, List.map_nil, List.cons_append, List.nil_append, List.append_nil, List.replicate_succ, List.replicate_zero, List.length_cons, List.length_nil, List.foldl_cons, List.foldl_nil, Nat.zero_add, Nat.reduceAdd, Nat.reduceSub, ex_some, ex_bl, ex_int, ex_obj, ex_str, ex_lst, ex_cons, true_and, and_true, dAdd_int, dSub_int, dCmp_int, dNeg_int, Option.some.injEq, exists_eq_left', exists_eq_left]
    rw [rngD_len] at hb
    exact h bs ok (by omega) (by omega)

/-! ### drawn sequences are compressed sequences -/
theorem pl_ints (xs : List Int) : pl (.lst (xs.map D.int)) = true := by
  rw [pl, pls_iff]
  intro x hx
  obtain ⟨n, _, rfl⟩ := List.mem_map.mp hx
  rfl
theorem pl_pairs (l : Prs) : pl (pairs l) = true := by
  unfold pairs
  rw [pl, pls_iff]
  intro x hx
  obtain ⟨n, _, rfl⟩ := List.mem_map.mp hx
  rfl
theorem pl_blk (b : Blk) : pl b.d = true := by
  unfold Blk.d
  rw [pl, pls_iff]
  intro x hx
  simp only [List.mem_cons, List.not_mem_nil, or_false] at hx
  rcases hx with rfl | rfl | rfl | rfl
  · exact pl_ints _
  · exact pl_pairs _
  · exact pl_pairs _
  · rfl
theorem mapOk_pairs {own other : Int} {l : Prs} (m : Mp own other l) : mapOk own other (pairs l) = true := by
  have hsq : isSq (pairs l) = some (l.map fun p => D.tup [.int p.1, .int p.2]) := rfl
  unfold mapOk
  rw [hsq]
  have e1 : (l.map fun p => D.tup [.int p.1, .int p.2]).map (fun x => (prOf x).1) = l.map (·.1) := by rw [List.map_map]; rfl
  have e2 : (l.map fun p => D.tup [.int p.1, .int p.2]).map (fun x => (prOf x).2) = l.map (·.2) := by rw [List.map_map]; rfl
  show ((l.map fun p => D.tup [.int p.1, .int p.2]).all (pairOk own other) && (ascI ((l.map fun p => D.tup [.int p.1, .int p.2]).map fun x => (prOf x).1) && decide ((l.map fun p => D.tup [.int p.1, .int p.2]).map fun x => (prOf x).2).Nodup)) = true
  rw [e1, e2, lt_asc m.asc, decide_eq_true m.nd, Bool.and_true, Bool.and_true, List.all_eq_true]
  intro x hx
  obtain ⟨p, hp, rfl⟩ := List.mem_map.mp hx
  obtain ⟨h1, h2, h3, h4⟩ := m.rg p hp
  show (isIx 0 (own - 1) (.int p.1) && isIx 0 (other - 1) (.int p.2)) = true
  simp [isIx]
  omega
theorem zc_blk (b : Blk) : zc (.lst ((dist b.xs).map D.int)) = b.own := by
  rw [zc_ints (ns := dist b.xs) rfl, dist_count]
  rfl
theorem blkOk_blk {p : Int} {b : Blk} (h : b.ok p) : blkOk p b.d = true := by
  have hsq : isSq b.d = some [.lst ((dist b.xs).map D.int), pairs b.lk, pairs b.tn, .int b.ct] := rfl
  unfold blkOk
  rw [hsq]
  show (isDs (.lst ((dist b.xs).map D.int)) && (lenIn 1 40 (.lst ((dist b.xs).map D.int)) && (mapOk (zc (.lst ((dist b.xs).map D.int))) p (pairs b.lk) && (mapOk (zc (.lst ((dist b.xs).map D.int))) (zc (.lst ((dist b.xs).map D.int))) (pairs b.tn) && isIx 1 (10 ^ 30) (.int b.ct))))) = true
  have h1 := h.l1
  have h2 := h.l2
  rw [isDs_ints (VD_dist (by omega)), zc_blk, mapOk_pairs h.lk, mapOk_pairs h.tn]
  have e1 : lenIn 1 40 (.lst ((dist b.xs).map D.int)) = true := by
    show (decide (1 ≤ ((dist b.xs).map D.int).length) && decide (((dist b.xs).map D.int).length ≤ 40)) = true
    rw [List.length_map, dist_len]
    simp [h1, h2]
  have e2 : isIx 1 (10 ^ 30) (.int b.ct) = true := by
    have := h.c1
    have := h.c2
    simp [isIx]
    omega
  rw [e1, e2]
  rfl
theorem goC_blks : ∀ {bs : List Blk} {p : Int}, SeqOk p bs → goC p (bs.map Blk.d) = true
  | [], _, _ => rfl
  | b :: bs, p, ⟨h1, h2⟩ => by
    rw [List.map_cons, goC, blkOk_blk h1]
    have e : zcB b.d = b.own := zc_blk b
    rw [e, goC_blks h2]
    rfl
theorem compOk_blks {bs : List Blk} (h : SeqOk 0 bs) (h1 : 1 ≤ bs.length) (h8 : bs.length ≤ 8) : compOk (.lst (bs.map Blk.d)) = true := by
  show (decide (1 ≤ (bs.map Blk.d).length) && (decide ((bs.map Blk.d).length ≤ 8) && goC 0 (bs.map Blk.d))) = true
  rw [List.length_map, goC_blks h]
  simp [h1, h8]
/-- how long the repr of a block may be -/
theorem gd_pairs {own other : Int} {l : Prs} (m : Mp own other l) (ho : own ≤ 40) (ho2 : other ≤ 40) : Gd 5000 2 (pairs l) := by
  have hl : l.length ≤ 40 := by
    have := asc_len (own := own) (lt_asc m.asc) (fun x hx => by
      obtain ⟨p, hp, rfl⟩ := List.mem_map.mp hx
      have := m.rg p hp
      omega)
    rw [List.length_map] at this
    omega
  refine (gd_lst (n := 100) (k := 1) (m := 40) (fun x hx => ?_) (by rw [List.length_map]; exact hl)).mono (by decide) (by decide)
  obtain ⟨p, hp, rfl⟩ := List.mem_map.mp hx
  obtain ⟨h1, h2, h3, h4⟩ := m.rg p hp
  refine (gd_tup (n := 40) (k := 0) (m := 2) (fun y hy => ?_) (by simp)).mono (by decide) (by decide)
  simp only [List.mem_cons, List.not_mem_nil, or_false] at hy
  rcases hy with rfl | rfl
  · exact gd_int h1 (by omega)
  · exact gd_int h3 (by omega)
theorem gd_dist {xs : List Int} (h : xs.length ≤ 400) : Gd 20000 1 (.lst ((dist xs).map D.int)) := (gd_ints (VD_dist h).rng (by rw [dist_len]; omega)).1
theorem gd_blk {p : Int} {b : Blk} (h : b.ok p) (hp : p ≤ 40) : Gd 100000 3 b.d := by
  have h2 := h.l2
  have hw := own_pos h
  refine (gd_tup (n := 20000) (k := 2) (m := 4) (fun y hy => ?_) (by simp)).mono (by decide) (by decide)
  simp only [List.mem_cons, List.not_mem_nil, or_false] at hy
  rcases hy with rfl | rfl | rfl | rfl
  · exact (gd_dist (by omega)).mono (by decide) (by decide)
  · exact (gd_pairs h.lk hw.2 hp).mono (by decide) (by decide)
  · exact (gd_pairs h.tn hw.2 hw.2).mono (by decide) (by decide)
  · have := h.c1
    have := h.c2
    exact (gd_int (by omega) (by omega)).mono (by decide) (by decide)
theorem gd_blks : ∀ {bs : List Blk} {p : Int}, SeqOk p bs → p ≤ 40 → ∀ x ∈ bs.map Blk.d, Gd 100000 3 x
  | [], _, _, _, x, hx => by simp at hx
  | b :: bs, p, ⟨h1, h2⟩, hp, x, hx => by
    rw [List.map_cons] at hx
    rcases List.mem_cons.mp hx with rfl | hx
    · exact gd_blk h1 hp
    · exact gd_blks h2 (own_pos h1).2 x hx
theorem ln_pairs {own other : Int} {l : Prs} (m : Mp own other l) (ho : own ≤ 40) : l.length ≤ 40 := by
  have := asc_len (own := own) (lt_asc m.asc) (fun x hx => by
    obtain ⟨p, hp, rfl⟩ := List.mem_map.mp hx
    have := m.rg p hp
    omega)
  rw [List.length_map] at this
  omega
/-- the lists of a block are not too long -/
def SzB (b : D) : Prop := ∀ ys, isSq b = some ys → ∀ x ∈ ys, ∀ zs, isSq x = some zs → zs.length ≤ 100000
theorem szB_blk {p : Int} {b : Blk} (h : b.ok p) : SzB b.d := fun ys hys x hx zs hzs => by
  have e : ys = [.lst ((dist b.xs).map D.int), pairs b.lk, pairs b.tn, .int b.ct] := (Option.some.inj hys).symm
  subst e
  have h2 := h.l2
  have hw := own_pos h
  simp only [List.mem_cons, List.not_mem_nil, or_false] at hx
  rcases hx with rfl | rfl | rfl | rfl
  · have : zs = (dist b.xs).map D.int := (Option.some.inj hzs).symm
    rw [this, List.length_map, dist_len]
    omega
  · have : zs = b.lk.map fun p => D.tup [.int p.1, .int p.2] := (Option.some.inj hzs).symm
    rw [this, List.length_map]
    have := ln_pairs h.lk hw.2
    omega
  · have : zs = b.tn.map fun p => D.tup [.int p.1, .int p.2] := (Option.some.inj hzs).symm
    rw [this, List.length_map]
    have := ln_pairs h.tn hw.2
    omega
  · cases hzs
theorem szd_lst {xs : List D} (h : ∀ x ∈ xs, SzB x) : Szd (.lst xs) := fun ys hys b hb zs hzs x hx ws hws => by
  have e : ys = xs := (Option.some.inj hys).symm
  subst e
  exact h b hb zs hzs x hx ws hws
theorem szB_blks {bs : List Blk} {p : Int} (h : SeqOk p bs) : ∀ x ∈ bs.map Blk.d, SzB x := fun x hx => by
  obtain ⟨b, hb, rfl⟩ := List.mem_map.mp hx
  obtain ⟨q, hq⟩ := seqOk_mem h hb
  exact szB_blk hq
theorem pl_blks (bs : List Blk) : pl (.lst (bs.map Blk.d)) = true := by
  rw [pl, pls_iff]
  intro x hx
  obtain ⟨b, _, rfl⟩ := List.mem_map.mp hx
  exact pl_blk b

/-! ### the texts -/
def pairT (p : Int × Int) : Str := ((Str.empty ++ numS p.1) ++ ">") ++ numS p.2
def mapT (l : Prs) : Str := if l.length = 0 then "-" else Txt.join " " (l.map pairT)
def blkT (b : Blk) : Str := ((((((Str.empty ++ txt (dist b.xs)) ++ " / ") ++ mapT b.lk) ++ " / ") ++ mapT b.tn) ++ " x ") ++ numS b.ct
theorem glued_len (sep : Str) : ∀ ts : List Str, (Txt.join sep ts).length ≤ (ts.map (·.length)).sum + ts.length * sep.length := by
  have joinL_le : ∀ (S : List Nat) (ps : List (List Nat)), (TL.joinL S ps).length ≤ (ps.map (·.length)).sum + ps.length * S.length := by
    intro S ps
    induction ps with
    | nil => simp [TL.joinL]
    | cons p ps ih =>
      cases ps with
      | nil => simp [TL.joinL]
      | cons q r =>
        simp only [TL.joinL, List.length_append, List.map_cons, List.sum_cons, List.length_cons, Nat.succ_mul] at ih ⊢
        omega
  intro ts
  rw [TL.len_tl, TL.join_eq, TL.tl_join]
  have := joinL_le (TL.tl sep) (ts.map TL.tl)
  have e1 : ((ts.map TL.tl).map (·.length)) = ts.map (·.length) := by
    rw [List.map_map]
    exact List.map_congr_left fun x _ => (TL.len_tl x).symm
  rw [e1, List.length_map, ← TL.len_tl] at this
  exact this
theorem sum_le' {ts : List Str} {k : Nat} (h : ∀ t ∈ ts, t.length ≤ k) : (ts.map (·.length)).sum ≤ ts.length * k := by
  induction ts with
  | nil => simp
  | cons t ts ih =>
    have := ih fun x hx => h x (List.mem_cons_of_mem _ hx)
    have h1 := h t (List.mem_cons_self ..)
    simp only [List.map_cons, List.sum_cons, List.length_cons, Nat.succ_mul]
    omega
theorem numS_big {n : Int} (h0 : 0 ≤ n) (h : n < 10 ^ 40) : (numS n).length ≤ 40 := by
  obtain ⟨m, rfl⟩ := Int.eq_ofNat_of_zero_le h0
  have hm : m < 10 ^ 40 := by
    have h2 : ((m : Nat) : Int) < ((10 ^ 40 : Nat) : Int) := h
    exact Int.ofNat_lt.mp h2
  rw [TL.len_tl, numS_nat]
  exact TL.numL_len (by decide) hm
theorem log_big {n : Int} (h0 : 0 ≤ n) (h : n < 10 ^ 40) : n.natAbs.log2 < 1920 := by
  obtain ⟨m, rfl⟩ := Int.eq_ofNat_of_zero_le h0
  have hm : m < 10 ^ 40 := by
    have h2 : ((m : Nat) : Int) < ((10 ^ 40 : Nat) : Int) := h
    exact Int.ofNat_lt.mp h2
  rw [Int.natAbs_natCast]
  rcases Nat.eq_zero_or_pos m with rfl | hp
  · decide
  · exact (Nat.log2_lt (by omega)).mpr (Nat.lt_trans hm (by decide +kernel))
theorem len_app (a b : Str) : (a ++ b).length = a.length + b.length := by rw [TL.len_tl, TL.len_tl, TL.len_tl, TL.tl_append, List.length_append]
theorem p_list_text {d : D} {ds : List Int} {S : Sto} {P : D → Sto → Prop} {R : RX} (hd : d = .lst (ds.map D.int) ∨ d = .tup (ds.map D.int)) (v : VD ds) (h : P (.str (txt ds)) S) : w_list_text [d] S P R := by
  have hi : itemsOf d = some (ds.map D.int) := by rcases hd with rfl | rfl <;> rfl
  have hl : dLen d = some (.int (ds.length : Int)) := by rcases hd with rfl | rfl <;> simp [dLen]
  have hr := v.rng
  have hlen := v.len
  simp only [w_list_text, gSeq, gRet, gRetN, gExpr, gAsg, gIf, gNext, gKill, gDrop, gBrk, gCnt, gNever, gFor, gAug, gOwn, gPut, gDPut, gSprPut, gObjPut, gPar, eObj, eRev, gtName, gtTup, gtCons, gtNil, seqOf, eC, eVar, eUn, eBin, eChain, eAnd, eOr, eNot, eOrT, eIf, tE, tTru, DL.tAnd, DL.tOr, DL.tNot, DL.tYes, aNil, aCons, eLst, eTup, eCall, eCallP, eCallB, aDef, eFn, eIsI, eMt, eGet2, eSpr, oNone, oSome, eSl, eSlX, eSlN, gLPut, gTPut, gOwnAsg, gObjApp, gObjIns, eNewObj, eObjPop, eObjR, eObjL, eObjLen, eObjEnd, eSort, eSortSet, eLstRg, gPar0, sIn, eLc, iSeq, DL.iRng1, DL.iRng2, DL.iEnum, DL.iZip, DL.iStr, killL, fnW, fnWo, eIsE, gTry, gRaise, eJn, eNever, tNever, List.getElem?_cons_zero, List.getElem?_cons_succ, List.set_cons_zero, List.set_cons_succ, List.map_cons, List.map_nil, List.cons_append, List.nil_append, List.append_nil, List.replicate_succ, List.replicate_zero, List.length_cons, List.length_nil, List.foldl_cons, List.foldl_nil, Nat.zero_add, Nat.reduceAdd, Nat.reduceSub, ex_some, ex_bl, ex_int, ex_obj, ex_str, ex_lst, ex_cons, true_and, and_true, dAdd_int, dSub_int, dCmp_int, dNeg_int, Option.some.injEq, exists_eq_left', exists_eq_left]
  simp only [fLen, hl, hi, List.getElem?_cons_zero, List.getElem?_cons_succ, List.set_cons_zero, List.set_cons_succ, List.map_cons, List.map_nil, List.cons_append, List.nil_append, List.append_nil, List.replicate_succ, List.replicate_zero, List.length_cons, List.length_nil, List.foldl_cons, List.foldl_nil, Nat.zero_add, Nat.reduceAdd, Nat.reduceSub, ex_some, ex_bl, ex_int, ex_obj, ex_str, ex_lst, ex_cons, true_and, and_true, dAdd_int, dSub_int, dCmp_int, dNeg_int, Option.some.injEq, exists_eq_left', exists_eq_left]
  split
  · rename_i hc
    have hne : ds.length ≠ 0 := by simp at hc; intro z; simp [z] at hc
    refine ⟨rfl, by rw [List.length_map, line_eq]; omega, ?_⟩
    refine lcL_mapOf _ (fun n => .str (numS n)) (fun n hn Q hQ => ?_) ?_
    · simp only [gSeq, gRet, gRetN, gExpr, gAsg, gIf, gNext, gKill, gDrop, gBrk, gCnt, gNever, gFor, gAug, gOwn, gPut, gDPut, gSprPut, gObjPut, gPar, eObj, eRev, gtName, gtTup, gtCons, gtNil, seqOf, eC, eVar, eUn, eBin, eChain, eAnd, eOr, eNot, eOrT, eIf, tE, tTru, DL.tAnd, DL.tOr, DL.tNot, DL.tYes, aNil, aCons, eLst, eTup, eCall, eCallP, eCallB, aDef, eFn, eIsI, eMt, eGet2, eSpr, oNone, oSome, eSl, eSlX, eSlN, gLPut, gTPut, gOwnAsg, gObjApp, gObjIns, eNewObj, eObjPop, eObjR, eObjL, eObjLen, eObjEnd, eSort, eSortSet, eLstRg, gPar0, sIn, eLc, iSeq, DL.iRng1, DL.iRng2, DL.iEnum, DL.iZip, DL.iStr, killL, fnW, fnWo, eIsE, gTry, gRaise, eJn, eNever, tNever, List.getElem?_cons_zero, List.getElem?_cons_succ, List.set_cons_zero, List.set_cons_succ, List.map_cons, List.map_nil, List.cons_append, List.nil_append, List.append_nil, List.replicate_succ, List.replicate_zero, List.length_cons, List.length_nil, List.foldl_cons, List.foldl_nil, Nat.zero_add, Nat.reduceAdd, Nat.reduceSub, ex_some, ex_bl, ex_int, ex_obj, ex_str, ex_lst, ex_cons, true_and, and_true, dAdd_int, dSub_int, dCmp_int, dNeg_int, Option.some.injEq, exists_eq_left', exists_eq_left]
      rw [fStr_num (by have := hr n hn; omega)]
      simp only [List.getElem?_cons_zero, List.getElem?_cons_succ, List.set_cons_zero, List.set_cons_succ, List.map_cons, List.map_nil, List.cons_append, List.nil_append, List.append_nil, List.replicate_succ, List.replicate_zero, List.length_cons, List.length_nil, List.foldl_cons, List.foldl_nil, Nat.zero_add, Nat.reduceAdd, Nat.reduceSub, ex_some, ex_bl, ex_int, ex_obj, ex_str, ex_lst, ex_cons, true_and, and_true, dAdd_int, dSub_int, dCmp_int, dNeg_int, Option.some.injEq, exists_eq_left', exists_eq_left]
      exact hQ
    rw [List.nil_append, mJoin_nums hr (by omega)]
    simp only [List.getElem?_cons_zero, List.getElem?_cons_succ, List.set_cons_zero, List.set_cons_succ, List.map_cons, List.map_nil, List.cons_append, List.nil_append, List.append_nil, List.replicate_succ, List.replicate_zero, List.length_cons, List.length_nil, List.foldl_cons, List.foldl_nil, Nat.zero_add, Nat.reduceAdd, Nat.reduceSub, ex_some, ex_bl, ex_int, ex_obj, ex_str, ex_lst, ex_cons, true_and, and_true, dAdd_int, dSub_int, dCmp_int, dNeg_int, Option.some.injEq, exists_eq_left', exists_eq_left]
    unfold txt at h
    rwa [if_neg hne] at h
  · rename_i hc
    have hne : ds.length = 0 := by simp at hc; rw [hc]; rfl
    unfold txt at h
    rwa [if_pos hne] at h

theorem seqOf_sq {d : D} {xs : List D} (h : isSq d = some xs) : seqOf d = some xs := by rcases sq_cases h with rfl | rfl <;> rfl
theorem lcL_rel {β : Type} {g : WG} {e : WE} {Δ : DL.Env} {S : Sto} {r : D → β → Prop} (f : β → D) {P : D → Sto → Prop} : ∀ {ds : List D} {bs : List β} {acc : List D}, Paired r ds bs → (∀ d b, d ∈ ds → b ∈ bs → r d b → ∀ Q : D → Sto → Prop, Q (f b) S → g d Δ fun Δ1 => e Δ1 S Q noR) →
    P (.lst (acc ++ bs.map f)) S → lcL g DL.tYes e Δ ds acc S P
  | _, _, acc, .nil, _, hP => by
    rw [List.map_nil, List.append_nil] at hP
    exact hP
  | _, _, acc, .cons h1 r1, h, hP => by
    unfold lcL
    refine h _ _ (List.mem_cons_self ..) (List.mem_cons_self ..) h1 _ (lcL_rel f r1 (fun d b hd hb => h d b (List.mem_cons_of_mem _ hd) (List.mem_cons_of_mem _ hb)) ?_)
    rw [List.append_assoc]
    exact hP
theorem paired_len {α β : Type} {r : α → β → Prop} : ∀ {xs : List α} {ys : List β}, Paired r xs ys → xs.length = ys.length
  | _, _, .nil => rfl
  | _, _, .cons _ t => by rw [List.length_cons, List.length_cons, paired_len t]
/-- the pairs of a mapping, as lists or tuples -/
def PrIn (l : Prs) (d : D) : Prop := ∃ ds, isSq d = some ds ∧ Paired (fun (x : D) (p : Int × Int) => isSq x = some [.int p.1, .int p.2]) ds l
theorem prIn_pairs (l : Prs) : PrIn l (pairs l) := ⟨_, rfl, by
  induction l with
  | nil => exact .nil
  | cons p l ih => exact .cons rfl ih⟩
theorem pairT_len {p : Int × Int} (h1 : 0 ≤ p.1) (h2 : p.1 < 10 ^ 40) (h3 : 0 ≤ p.2) (h4 : p.2 < 10 ^ 40) : (pairT p).length ≤ 81 := by
  have a := numS_big h1 h2
  have b := numS_big h3 h4
  unfold pairT
  rw [len_app, len_app, len_app]
  have e1 : Str.empty.length = 0 := rfl
  have e2 : (">" : Str).length = 1 := by decide
  omega
theorem dFmt_int {n : Int} (h0 : 0 ≤ n) (h : n < 10 ^ 40) : dFmt (.int n) = some (.str (numS n)) := if_pos (log_big h0 h)
theorem dFmt_str {s : Str} (h : s.length ≤ 1000000) : dFmt (.str s) = some (.str s) := if_pos (by have := line_eq; omega)
theorem mJoin_strs {sep : Str} {ts : List Str} {k : Nat} (h : ∀ t ∈ ts, t.length ≤ k) (hl : ts.length * (k + sep.length) ≤ 10000000) : mJoin (.str sep) [.lst (ts.map D.str)] = some (.str (Txt.join sep ts)) := by
  have hline := line_eq
  have := sum_le' h
  rw [Nat.mul_add] at hl
  show (strsOf (ts.map D.str)).bind _ = _
  rw [strsOf_map, Option.bind_some, if_pos (by omega)]
theorem mapT_len {l : Prs} (hr : ∀ p ∈ l, 0 ≤ p.1 ∧ p.1 < 10 ^ 40 ∧ 0 ≤ p.2 ∧ p.2 < 10 ^ 40) (hl : l.length ≤ 100) : (mapT l).length ≤ 10000 := by
  unfold mapT
  split
  · decide
  · have h1 := glued_len " " (l.map pairT)
    have h2 := sum_le' (ts := l.map pairT) (k := 81) fun t ht => by
      obtain ⟨p, hp, rfl⟩ := List.mem_map.mp ht
      obtain ⟨a, b, c, d⟩ := hr p hp
      exact pairT_len a b c d
    rw [List.length_map] at h1 h2
    have e : (" " : Str).length = 1 := by decide
    rw [e] at h1
    omega
theorem p_mapping_text {l : Prs} {d : D} {S : Sto} {P : D → Sto → Prop} {R : RX} (hd : PrIn l d) (hr : ∀ p ∈ l, 0 ≤ p.1 ∧ p.1 < 10 ^ 40 ∧ 0 ≤ p.2 ∧ p.2 < 10 ^ 40) (hl : l.length ≤ 100) (h : P (.str (mapT l)) S) : w_mapping_text [d] S P R := by
  have hline := line_eq
  obtain ⟨ds, hs, hp⟩ := hd
  have hlen := paired_len hp
  simp only [w_mapping_text, gSeq, gRet, gRetN, gExpr, gAsg, gIf, gNext, gKill, gDrop, gBrk, gCnt, gNever, gFor, gAug, gOwn, gPut, gDPut, gSprPut, gObjPut, gPar, eObj, eRev, gtName, gtTup, gtCons, gtNil, seqOf, eC, eVar, eUn, eBin, eChain, eAnd, eOr, eNot, eOrT, eIf, tE, tTru, DL.tAnd, DL.tOr, DL.tNot, DL.tYes, aNil, aCons, eLst, eTup, eCall, eCallP, eCallB, aDef, eFn, eIsI, eMt, eGet2, eSpr, oNone, oSome, eSl, eSlX, eSlN, gLPut, gTPut, gOwnAsg, gObjApp, gObjIns, eNewObj, eObjPop, eObjR, eObjL, eObjLen, eObjEnd, eSort, eSortSet, eLstRg, gPar0, sIn, eLc, iSeq, DL.iRng1, DL.iRng2, DL.iEnum, DL.iZip, DL.iStr, killL, fnW, fnWo, eIsE, gTry, gRaise, eJn, eNever, tNever, List.getElem?_cons_zero, List.getElem?_cons_succ, List.set_cons_zero, List.set_cons_succ, List.map_cons, List.map_nil, List.cons_append, List.nil_append, List.append_nil, List.replicate_succ, List.replicate_zero, List.length_cons, List.length_nil, List.foldl_cons, List.foldl_nil, Nat.zero_add, Nat.reduceAdd, Nat.reduceSub, ex_some, ex_bl, ex_int, ex_obj, ex_str, ex_lst, ex_cons, true_and, and_true, dAdd_int, dSub_int, dCmp_int, dNeg_int, Option.some.injEq, exists_eq_left', exists_eq_left, fLen_sq hs]
  by_cases hz : l.length = 0
  · rw [decide_eq_false (show ¬ (0 : Int) < ds.length by omega)]
    unfold mapT at h
    rw [if_pos hz] at h
    simpa using h
  · rw [decide_eq_true (show (0 : Int) < ds.length by omega)]
    unfold mapT at h
    rw [if_neg hz] at h
    simp only [if_true, items_sq hs, List.getElem?_cons_zero, List.getElem?_cons_succ, List.set_cons_zero, List.set_cons_succ, List.map_cons, List.map_nil, List.cons_append, List.nil_append, List.append_nil, List.replicate_succ, List.replicate_zero, List.length_cons, List.length_nil, List.foldl_cons, List.foldl_nil, Nat.zero_add, Nat.reduceAdd, Nat.reduceSub, ex_some, ex_bl, ex_int, ex_obj, ex_str, ex_lst, ex_cons, true_and, and_true, dAdd_int, dSub_int, dCmp_int, dNeg_int, Option.some.injEq, exists_eq_left', exists_eq_left]
    refine ⟨rfl, by omega, ?_⟩
    refine lcL_rel (fun p => .str (pairT p)) hp (fun x p hx hpm hxp Q hQ => ?_) ?_
    · obtain ⟨a1, a2, a3, a4⟩ := hr p hpm
      have e1 := numS_big a1 a2
      have e2 := numS_big a3 a4
      have e0 : Str.empty.length = 0 := rfl
      have e3 : (">" : Str).length = 1 := by decide
      simp only [gSeq, gRet, gRetN, gExpr, gAsg, gIf, gNext, gKill, gDrop, gBrk, gCnt, gNever, gFor, gAug, gOwn, gPut, gDPut, gSprPut, gObjPut, gPar, eObj, eRev, gtName, gtTup, gtCons, gtNil, seqOf, eC, eVar, eUn, eBin, eChain, eAnd, eOr, eNot, eOrT, eIf, tE, tTru, DL.tAnd, DL.tOr, DL.tNot, DL.tYes, aNil, aCons, eLst, eTup, eCall, eCallP, eCallB, aDef, eFn, eIsI, eMt, eGet2, eSpr, oNone, oSome, eSl, eSlX, eSlN, gLPut, gTPut, gOwnAsg, gObjApp, gObjIns, eNewObj, eObjPop, eObjR, eObjL, eObjLen, eObjEnd, eSort, eSortSet, eLstRg, gPar0, sIn, eLc, iSeq, DL.iRng1, DL.iRng2, DL.iEnum, DL.iZip, DL.iStr, killL, fnW, fnWo, eIsE, gTry, gRaise, eJn, eNever, tNever, List.getElem?_cons_zero, List.getElem?_cons_succ, List.set_cons_zero, List.set_cons_succ, List.map_cons, List.map_nil, List.cons_append, List.nil_append, List.append_nil, List.replicate_succ, List.replicate_zero, List.length_cons, List.length_nil, List.foldl_cons, List.foldl_nil, Nat.zero_add, Nat.reduceAdd, Nat.reduceSub, ex_some, ex_bl, ex_int, ex_obj, ex_str, ex_lst, ex_cons, true_and, and_true, dAdd_int, dSub_int, dCmp_int, dNeg_int, Option.some.injEq, exists_eq_left', exists_eq_left]
      refine ⟨_, seqOf_sq hxp, rfl, ?_⟩
      simp only [List.getElem?_cons_zero, List.getElem?_cons_succ, List.set_cons_zero, List.set_cons_succ, List.map_cons, List.map_nil, List.cons_append, List.nil_append, List.append_nil, List.replicate_succ, List.replicate_zero, List.length_cons, List.length_nil, List.foldl_cons, List.foldl_nil, Nat.zero_add, Nat.reduceAdd, Nat.reduceSub, ex_some, ex_bl, ex_int, ex_obj, ex_str, ex_lst, ex_cons, true_and, and_true, dAdd_int, dSub_int, dCmp_int, dNeg_int, Option.some.injEq, exists_eq_left', exists_eq_left, dFmt_int a1 a2, dFmt_int a3 a4]
      exact ⟨by simp only [len_app]; omega, by simp only [len_app]; omega, by simp only [len_app]; omega, hQ⟩
    · rw [List.nil_append]
      have e : (l.map fun p => D.str (pairT p)) = (l.map pairT).map D.str := by rw [List.map_map]; rfl
      rw [e, mJoin_strs (k := 81) (fun t ht => by
        obtain ⟨p, hp, rfl⟩ := List.mem_map.mp ht
        obtain ⟨a, b, c, d⟩ := hr p hp
        exact pairT_len a b c d) (by rw [List.length_map]; have e : (" " : Str).length = 1 := by decide
                                     rw [e]; omega)]
      exact ⟨_, rfl, h⟩

/-- a block's tree, with lists and tuples -/
def BlkIn (b : Blk) (d : D) : Prop := ∃ a x y, isSq d = some [a, x, y, .int b.ct] ∧ isSq a = some ((dist b.xs).map D.int) ∧ PrIn b.lk x ∧ PrIn b.tn y
theorem blkIn_d (b : Blk) : BlkIn b b.d := ⟨_, _, _, rfl, rfl, prIn_pairs _, prIn_pairs _⟩
theorem txt_len {xs : List Int} (h : xs.length ≤ 400) : (txt (dist xs)).length ≤ 2004 := by
  unfold txt
  split
  · decide
  · have := join_nums_len (VD_dist h).rng
    rw [dist_len] at this
    omega
theorem mp_rg {own other : Int} {l : Prs} (m : Mp own other l) (h1 : own ≤ 40) (h2 : other ≤ 40) : ∀ p ∈ l, 0 ≤ p.1 ∧ p.1 < 10 ^ 40 ∧ 0 ≤ p.2 ∧ p.2 < 10 ^ 40 := fun p hp => by
  obtain ⟨a, b, c, d⟩ := m.rg p hp
  exact ⟨a, by omega, c, by omega⟩
theorem blkT_len {p : Int} {b : Blk} (h : b.ok p) (hp : p ≤ 40) : (blkT b).length ≤ 23000 := by
  have hw := own_pos h
  have h2 := h.l2
  have c1 := h.c1
  have c2 := h.c2
  have a1 := txt_len (xs := b.xs) (by omega)
  have a2 := mapT_len (mp_rg h.lk hw.2 hp) (by have := ln_pairs h.lk hw.2; omega)
  have a3 := mapT_len (mp_rg h.tn hw.2 hw.2) (by have := ln_pairs h.tn hw.2; omega)
  have a4 := numS_big (n := b.ct) (by omega) (by omega)
  have e0 : Str.empty.length = 0 := rfl
  have e1 : (" / " : Str).length = 3 := by decide
  have e2 : (" x " : Str).length = 3 := by decide
  unfold blkT
  simp only [len_app]
  omega
theorem p_block_text {p : Int} {b : Blk} {d : D} {S : Sto} {P : D → Sto → Prop} {R : RX} (hb : b.ok p) (hp : p ≤ 40) (hd : BlkIn b d) (h : P (.str (blkT b)) S) : w_block_text [d] S P R := by
  have hline := line_eq
  obtain ⟨a, x, y, hs, ha, hx, hy⟩ := hd
  have hw := own_pos hb
  have h2 := hb.l2
  have c1 := hb.c1
  have c2 := hb.c2
  have a1 := txt_len (xs := b.xs) (by omega)
  have l1 := ln_pairs hb.lk hw.2
  have l2 := ln_pairs hb.tn hw.2
  have a2 := mapT_len (mp_rg hb.lk hw.2 hp) (by omega)
  have a3 := mapT_len (mp_rg hb.tn hw.2 hw.2) (by omega)
  have a4 := numS_big (n := b.ct) (by omega) (by omega)
  have e0 : Str.empty.length = 0 := rfl
  have e1 : (" / " : Str).length = 3 := by decide
  have e2 : (" x " : Str).length = 3 := by decide
  simp only [w_block_text, gSeq, gRet, gRetN, gExpr, gAsg, gIf, gNext, gKill, gDrop, gBrk, gCnt, gNever, gFor, gAug, gOwn, gPut, gDPut, gSprPut, gObjPut, gPar, eObj, eRev, gtName, gtTup, gtCons, gtNil, seqOf, eC, eVar, eUn, eBin, eChain, eAnd, eOr, eNot, eOrT, eIf, tE, tTru, DL.tAnd, DL.tOr, DL.tNot, DL.tYes, aNil, aCons, eLst, eTup, eCall, eCallP, eCallB, aDef, eFn, eIsI, eMt, eGet2, eSpr, oNone, oSome, eSl, eSlX, eSlN, gLPut, gTPut, gOwnAsg, gObjApp, gObjIns, eNewObj, eObjPop, eObjR, eObjL, eObjLen, eObjEnd, eSort, eSortSet, eLstRg, gPar0, sIn, eLc, iSeq, DL.iRng1, DL.iRng2, DL.iEnum, DL.iZip, DL.iStr, killL, fnW, fnWo, eIsE, gTry, gRaise, eJn, eNever, tNever, List.getElem?_cons_zero, List.getElem?_cons_succ, List.set_cons_zero, List.set_cons_succ, List.map_cons, List.map_nil, List.cons_append, List.nil_append, List.append_nil, List.replicate_succ, List.replicate_zero, List.length_cons, List.length_nil, List.foldl_cons, List.foldl_nil, Nat.zero_add, Nat.reduceAdd, Nat.reduceSub, ex_some, ex_bl, ex_int, ex_obj, ex_str, ex_lst, ex_cons, true_and, and_true, dAdd_int, dSub_int, dCmp_int, dNeg_int, Option.some.injEq, exists_eq_left', exists_eq_left]
  refine ⟨_, seqOf_sq hs, rfl, ?_⟩
  simp only [List.getElem?_cons_zero, List.getElem?_cons_succ, List.set_cons_zero, List.set_cons_succ, List.map_cons, List.map_nil, List.cons_append, List.nil_append, List.append_nil, List.replicate_succ, List.replicate_zero, List.length_cons, List.length_nil, List.foldl_cons, List.foldl_nil, Nat.zero_add, Nat.reduceAdd, Nat.reduceSub, ex_some, ex_bl, ex_int, ex_obj, ex_str, ex_lst, ex_cons, true_and, and_true, dAdd_int, dSub_int, dCmp_int, dNeg_int, Option.some.injEq, exists_eq_left', exists_eq_left]
  refine p_list_text (sq_cases ha) (VD_dist (by omega)) ?_
  rw [dFmt_str (by omega)]
  simp only [List.getElem?_cons_zero, List.getElem?_cons_succ, List.set_cons_zero, List.set_cons_succ, List.map_cons, List.map_nil, List.cons_append, List.nil_append, List.append_nil, List.replicate_succ, List.replicate_zero, List.length_cons, List.length_nil, List.foldl_cons, List.foldl_nil, Nat.zero_add, Nat.reduceAdd, Nat.reduceSub, ex_some, ex_bl, ex_int, ex_obj, ex_str, ex_lst, ex_cons, true_and, and_true, dAdd_int, dSub_int, dCmp_int, dNeg_int, Option.some.injEq, exists_eq_left', exists_eq_left]
  refine ⟨by simp only [len_app]; omega, by simp only [len_app]; omega, ?_⟩
  refine p_mapping_text hx (mp_rg hb.lk hw.2 hp) (by omega) ?_
  rw [dFmt_str (by omega)]
  simp only [List.getElem?_cons_zero, List.getElem?_cons_succ, List.set_cons_zero, List.set_cons_succ, List.map_cons, List.map_nil, List.cons_append, List.nil_append, List.append_nil, List.replicate_succ, List.replicate_zero, List.length_cons, List.length_nil, List.foldl_cons, List.foldl_nil, Nat.zero_add, Nat.reduceAdd, Nat.reduceSub, ex_some, ex_bl, ex_int, ex_obj, ex_str, ex_lst, ex_cons, true_and, and_true, dAdd_int, dSub_int, dCmp_int, dNeg_int, Option.some.injEq, exists_eq_left', exists_eq_left]
  refine ⟨by simp only [len_app]; omega, by simp only [len_app]; omega, ?_⟩
  refine p_mapping_text hy (mp_rg hb.tn hw.2 hw.2) (by omega) ?_
  rw [dFmt_str (by omega)]
  simp only [List.getElem?_cons_zero, List.getElem?_cons_succ, List.set_cons_zero, List.set_cons_succ, List.map_cons, List.map_nil, List.cons_append, List.nil_append, List.append_nil, List.replicate_succ, List.replicate_zero, List.length_cons, List.length_nil, List.foldl_cons, List.foldl_nil, Nat.zero_add, Nat.reduceAdd, Nat.reduceSub, ex_some, ex_bl, ex_int, ex_obj, ex_str, ex_lst, ex_cons, true_and, and_true, dAdd_int, dSub_int, dCmp_int, dNeg_int, Option.some.injEq, exists_eq_left', exists_eq_left]
  refine ⟨by simp only [len_app]; omega, by simp only [len_app]; omega, ?_⟩
  rw [dFmt_int (by omega) (by omega)]
  simp only [List.getElem?_cons_zero, List.getElem?_cons_succ, List.set_cons_zero, List.set_cons_succ, List.map_cons, List.map_nil, List.cons_append, List.nil_append, List.append_nil, List.replicate_succ, List.replicate_zero, List.length_cons, List.length_nil, List.foldl_cons, List.foldl_nil, Nat.zero_add, Nat.reduceAdd, Nat.reduceSub, ex_some, ex_bl, ex_int, ex_obj, ex_str, ex_lst, ex_cons, true_and, and_true, dAdd_int, dSub_int, dCmp_int, dNeg_int, Option.some.injEq, exists_eq_left', exists_eq_left]
  exact ⟨by simp only [len_app]; omega, h⟩
/-- a sequence's tree -/
def SeqIn (bs : List Blk) (d : D) : Prop := ∃ ds, isSq d = some ds ∧ Paired (fun d b => BlkIn b d) ds bs
theorem seqIn_d (bs : List Blk) : SeqIn bs (.lst (bs.map Blk.d)) := ⟨_, rfl, by
  induction bs with
  | nil => exact .nil
  | cons b bs ih => exact .cons (blkIn_d b) ih⟩
def seqT (bs : List Blk) : Str := Txt.join "; " (bs.map blkT)
theorem seqOk_ok : ∀ {bs : List Blk} {p : Int} {b : Blk}, SeqOk p bs → p ≤ 40 → b ∈ bs → ∃ q, b.ok q ∧ q ≤ 40
  | c :: bs, p, b, ⟨h1, h2⟩, hp, h => by
    rcases List.mem_cons.mp h with rfl | h
    · exact ⟨p, h1, hp⟩
    · exact seqOk_ok h2 (own_pos h1).2 h
theorem join_blks {bs : List Blk} (ok : SeqOk 0 bs) (h8 : bs.length ≤ 100) : mJoin (.str "; ") [.lst (bs.map fun b => .str (blkT b))] = some (.str (seqT bs)) := by
  have e : (bs.map fun b => D.str (blkT b)) = (bs.map blkT).map D.str := by rw [List.map_map]; rfl
  have e2 : ("; " : Str).length = 2 := by decide
  rw [e]
  exact mJoin_strs (k := 23000) (fun t ht => by
    obtain ⟨b, hb, rfl⟩ := List.mem_map.mp ht
    obtain ⟨q, hq, hq2⟩ := seqOk_ok ok (by decide) hb
    exact blkT_len hq hq2) (by rw [List.length_map, e2]; omega)
end SQF

namespace K57
open PySem PySem.Spec PyProof.Rows L2 DL
def top (i : Nat) : Stmt := PySem.Challenge.pw_howfarback_k57_format_errors.main.body.getD i (.Pass ⟨0, 0, 0, 0⟩)
abbrev s__law_spring : Stmt := top 42
abbrev s__law_draw : Stmt := top 43
abbrev s__law_mapping : Stmt := top 47
abbrev s__law_symbols : Stmt := top 44
abbrev s__law_distances : Stmt := top 45
abbrev s__law_sequence : Stmt := top 48
abbrev s__law_no_distances : Stmt := top 46
abbrev s__law_changed : Stmt := top 54
abbrev s__law_class : Stmt := top 52
abbrev s_list_text : Stmt := top 36
abbrev s_is_sequence : Stmt := top 21
abbrev s_is_integer : Stmt := top 20
abbrev s_is_distances : Stmt := top 22
abbrev s_format_distances : Stmt := top 38
abbrev s_is_pair : Stmt := top 24
abbrev s_is_mapping : Stmt := top 25
abbrev s_is_block : Stmt := top 31
abbrev s_is_compressed : Stmt := top 32
abbrev s_mapping_text : Stmt := top 37
abbrev s_block_text : Stmt := top 39
abbrev s_format_sequence : Stmt := top 40
abbrev s__law_asked : Stmt := top 53
abbrev s_law : Stmt := top 55
abbrev g_BLOCK_FIELDS : D := .int 4
abbrev g_EMPTY_LIST : D := .str "none"
abbrev g_EMPTY_MAPPING : D := .str "-"
abbrev g_MAX_POSITIONS : D := .int 400
abbrev g_MOST_BLOCKS : D := .int 8
abbrev g_MOST_BLOCK_LENGTH : D := .int 40
abbrev g_MOST_REPETITIONS : D := .int 1000000000000000000000000000000
abbrev q_Inconsistent : Str → Option Bool := qOf [("InvalidDistances", false), ("InvalidSequence", false)]
abbrev q_InvalidDistances : Str → Option Bool := qOf [("InvalidDistances", true), ("InvalidSequence", false)]
abbrev q_InvalidFacts : Str → Option Bool := qOf [("InvalidDistances", false), ("InvalidSequence", false)]
abbrev q_InvalidNumber : Str → Option Bool := qOf [("InvalidDistances", false), ("InvalidSequence", false)]
abbrev q_InvalidPosition : Str → Option Bool := qOf [("InvalidDistances", false), ("InvalidSequence", false)]
abbrev q_InvalidSequence : Str → Option Bool := qOf [("InvalidDistances", false), ("InvalidSequence", true)]
abbrev q_ParseError : Str → Option Bool := qOf [("InvalidDistances", false), ("InvalidSequence", false)]
abbrev q_tup7 : Str → Option Bool := qOf [("InvalidDistances", false), ("InvalidSequence", false)]
abbrev q_tup8 : Str → Option Bool := qOf [("InvalidDistances", false), ("InvalidSequence", false)]
abbrev q_ValueError : Str → Option Bool := qOf [("InvalidDistances", true), ("InvalidSequence", true)]
abbrev q_HowFarBackError : Str → Option Bool := qOf [("InvalidDistances", true), ("InvalidSequence", true)]
abbrev m_HowFarBackError : Str → Option Bool := qOf [("InvalidDistances", true), ("InvalidSequence", true)]
/-- what the walk asks of the top -/
structure Txt (K : PySem.W.Frag) (mg : Str → Option Value) : Prop where
  d__law_spring : DefT K mg "_law_spring" "_law_spring" s__law_spring []
  d__law_draw : DefT K mg "_law_draw" "_law_draw" s__law_draw []
  d__law_mapping : DefT K mg "_law_mapping" "_law_mapping" s__law_mapping []
  d__law_symbols : DefT K mg "_law_symbols" "_law_symbols" s__law_symbols []
  d__law_distances : DefT K mg "_law_distances" "_law_distances" s__law_distances []
  d__law_sequence : DefT K mg "_law_sequence" "_law_sequence" s__law_sequence []
  d__law_no_distances : DefT K mg "_law_no_distances" "_law_no_distances" s__law_no_distances []
  d__law_changed : DefT K mg "_law_changed" "_law_changed" s__law_changed []
  d__law_class : DefT K mg "_law_class" "_law_class" s__law_class []
  d_list_text : DefT K mg "list_text" "list_text" s_list_text []
  d_is_sequence : DefT K mg "is_sequence" "is_sequence" s_is_sequence []
  d_is_integer : DefT K mg "is_integer" "is_integer" s_is_integer [.non]
  d_is_distances : DefT K mg "is_distances" "is_distances" s_is_distances []
  d_format_distances : DefT K mg "format_distances" "format_distances" s_format_distances []
  d_is_pair : DefT K mg "is_pair" "is_pair" s_is_pair []
  d_is_mapping : DefT K mg "is_mapping" "is_mapping" s_is_mapping []
  d_is_block : DefT K mg "is_block" "is_block" s_is_block []
  d_is_compressed : DefT K mg "is_compressed" "is_compressed" s_is_compressed []
  d_mapping_text : DefT K mg "mapping_text" "mapping_text" s_mapping_text []
  d_block_text : DefT K mg "block_text" "block_text" s_block_text []
  d_format_sequence : DefT K mg "format_sequence" "format_sequence" s_format_sequence []
  d__law_asked : DefT K mg "_law_asked" "_law_asked" s__law_asked []
  d_law : DefT K mg "law" "law" s_law []
  g_BLOCK_FIELDS : GlobT K mg "BLOCK_FIELDS" g_BLOCK_FIELDS
  g_EMPTY_LIST : GlobT K mg "EMPTY_LIST" g_EMPTY_LIST
  g_EMPTY_MAPPING : GlobT K mg "EMPTY_MAPPING" g_EMPTY_MAPPING
  g_MAX_POSITIONS : GlobT K mg "MAX_POSITIONS" g_MAX_POSITIONS
  g_MOST_BLOCKS : GlobT K mg "MOST_BLOCKS" g_MOST_BLOCKS
  g_MOST_BLOCK_LENGTH : GlobT K mg "MOST_BLOCK_LENGTH" g_MOST_BLOCK_LENGTH
  g_MOST_REPETITIONS : GlobT K mg "MOST_REPETITIONS" g_MOST_REPETITIONS
  x_InvalidDistances : ExcT K mg "InvalidDistances"
  x_InvalidSequence : ExcT K mg "InvalidSequence"
  i_Inconsistent : IsN K mg q_Inconsistent "Inconsistent"
  i_InvalidDistances : IsN K mg q_InvalidDistances "InvalidDistances"
  i_InvalidFacts : IsN K mg q_InvalidFacts "InvalidFacts"
  i_InvalidNumber : IsN K mg q_InvalidNumber "InvalidNumber"
  i_InvalidPosition : IsN K mg q_InvalidPosition "InvalidPosition"
  i_InvalidSequence : IsN K mg q_InvalidSequence "InvalidSequence"
  i_ParseError : IsN K mg q_ParseError "ParseError"
  i_tup7 : IsNT K mg q_tup7 ["InvalidCommand", "InvalidMapping", "InvalidPattern", "InvalidRanks", "InvalidSymbols"]
  i_tup8 : IsNT K mg q_tup8 ["NothingToUndo", "TooLong", "UnknownMark", "UnknownSymbol"]
  i_ValueError : IsQ K q_ValueError (.type "ValueError")
  i_HowFarBackError : IsN K mg q_HowFarBackError "HowFarBackError"
  m_HowFarBackError : ExN K mg m_HowFarBackError "HowFarBackError"
  n_ValueError : mg "ValueError" = none
  n_abs : mg "abs" = none
  n_all : mg "all" = none
  n_bool : mg "bool" = none
  n_enumerate : mg "enumerate" = none
  n_int : mg "int" = none
  n_isinstance : mg "isinstance" = none
  n_len : mg "len" = none
  n_list : mg "list" = none
  n_min : mg "min" = none
  n_range : mg "range" = none
  n_repr : mg "repr" = none
  n_set : mg "set" = none
  n_str : mg "str" = none
  n_tuple : mg "tuple" = none
  n_zip : mg "zip" = none
section
variable {P : Program} {w : World} {K : PySem.W.Frag} {mg : Str → Option Value} {base : Heap}
def N__law_spring : List Str := ["_law_script", "_law_digits", "_law_seed", "_law_cell"]
theorem sc__law_spring : FnScope N__law_spring ["_law_script"] (defScope s__law_spring) := ⟨rfl, rfl, rfl, by decide +kernel, rfl, by decide +kernel, by decide +kernel⟩
def w__law_spring : Fn := fnWo 1 4
    (gSeq (gAsg (eC (.int 0)) (gtName 1))
    (gSeq (gAsg (eC (.int 88651)) (gtName 2))
    (gSeq (gFor (iSeq (eSl (eVar 0) oNone (oSome (eC (.int 63))))) (gtName 3) (gSeq (gIf (tE (eBin dGe (eFn fAbs (aCons (eVar 3) aNil)) (eBin dPow (eC (.int 10)) (eC (.int 18))))) (gAsg (eBin dAdd (eBin dMul (eVar 1) (eBin dPow (eC (.int 10)) (eC (.int 60)))) (eBin dMod (eFn fAbs (aCons (eVar 3) aNil)) (eBin dPow (eC (.int 10)) (eC (.int 60))))) (gtName 1)) gNext)
    (gAsg (eBin dMod (eBin dAdd (eBin dAdd (eBin dMul (eVar 2) (eC (.int 69069))) (eBin dMod (eVar 3) (eC (.int 2305843009213693921)))) (eC (.int 7))) (eC (.int 2305843009213693951))) (gtName 2))))
    (gRet (eLst (aCons (eVar 1) (aCons (eVar 2) (aCons (eC (.int 0)) aNil))))))))
theorem t__law_spring (T : Txt K mg) : FnT P w K mg base (L2.CX P w) 1 "_law_spring" "_law_spring" s__law_spring [] ["_law_script"] (spW K mg true w__law_spring) :=
  T.d__law_spring.fno (N := N__law_spring) (O := []) (On := []) (L := []) (k := 0) sc__law_spring (by decide) fun f cdv A outer s H E hgu hr =>
    have hN : N__law_spring.Nodup := sc__law_spring.nd
    (dss_cons (ds_set (by decide) hN rfl (.inl rfl) (de_eff de_int))
    (dss_cons (ds_set (by decide) hN rfl (.inl rfl) (de_eff de_int))
    (dss_cons (ds_for (passes_of rfl) rfl (di_seq (de_sl (de_b (de_eff (de_var 0 (by decide) (pv 0)))) (do_eff do_none) (do_some (de_eff de_int)))) (dg_name (by decide) (pg_name hN rfl (.inl rfl))) (dss_cons (ds_if (dt_cmp op_ge (s_cmp _) (de_b (de_blt call_abs s_abs (by rfl) T.n_abs (by decide +kernel) (dab_cons (de_b (de_eff (de_var 3 (by decide) (pv 3)))) (dab_eff dab_nil)))) (de_b (de_bin op_pow s_pow (de_b (de_eff de_int)) (de_b (de_eff de_int)))) rfl) (dss_one (ds_set (by decide) hN rfl (.inl rfl) (de_bin op_addA s_add (de_b (de_bin op_mulA s_mul (de_b (de_eff (de_var 1 (by decide) (pv 1)))) (de_b (de_bin op_pow s_pow (de_b (de_eff de_int)) (de_b (de_eff de_int)))))) (de_b (de_bin op_mod s_mod (de_b (de_blt call_abs s_abs (by rfl) T.n_abs (by decide +kernel) (dab_cons (de_b (de_eff (de_var 3 (by decide) (pv 3)))) (dab_eff dab_nil)))) (de_b (de_bin op_pow s_pow (de_b (de_eff de_int)) (de_b (de_eff de_int))))))))) dss_nil)
    (dss_one (ds_set (by decide) hN rfl (.inl rfl) (de_bin op_mod s_mod (de_b (de_bin op_addA s_add (de_b (de_bin op_addA s_add (de_b (de_bin op_mulA s_mul (de_b (de_eff (de_var 2 (by decide) (pv 2)))) (de_b (de_eff de_int)))) (de_b (de_bin op_mod s_mod (de_b (de_eff (de_var 3 (by decide) (pv 3)))) (de_b (de_eff de_int)))))) (de_b (de_eff de_int)))) (de_b (de_eff de_int)))))))
    (dss_one (ds_retNew (dn_lst (da_cons (de_eff (de_var 1 (by decide) (pv 1))) (da_cons (de_eff (de_var 2 (by decide) (pv 2))) (da_cons (de_eff de_int) (da_eff da_nil))))))))))
theorem u__law_spring (T : Txt K mg) : FnT P w K mg base (L2.CX P w) 1 "_law_spring" "_law_spring" s__law_spring [] ["_law_script"] (spW K mg false (sprBox w__law_spring)) := (t__law_spring T).imp spW_spr
theorem c__law_spring_1 (T : Txt K mg) : CalG P w K mg base (L2.CX P w) 1 "_law_spring" (spW K mg false (sprBox w__law_spring)) [] [] := (u__law_spring T).call fun _ _ _ _ _ _ us hl => match us, hl with | [_], _ => rfl
def N__law_draw : List Str := ["_law_spring_here", "_law_many", "_law_found", "_law_mix"]
theorem sc__law_draw : FnScope N__law_draw ["_law_spring_here", "_law_many"] (defScope s__law_draw) := ⟨rfl, rfl, rfl, by decide +kernel, rfl, by decide +kernel, by decide +kernel⟩
def w__law_draw : Fn := fnW 2 4
    (gSeq (gIf (tE (eBin dGt (eSpr (eVar 0) 0) (eC (.int 0)))) (gSeq (gAsg (eBin dMod (eSpr (eVar 0) 0) (eVar 1)) (gtName 2))
    (gSeq (gSprPut (eVar 0) 0 (eBin dDiv (eSpr (eVar 0) 0) (eVar 1)))
    (gRet (eVar 2)))) gNext)
    (gSeq (gSprPut (eVar 0) 2 (eBin dAdd (eSpr (eVar 0) 2) (eC (.int 1))))
    (gSeq (gAsg (eBin dMod (eBin dMul (eSpr (eVar 0) 1) (eSpr (eVar 0) 1)) (eC (.int 2305843009213693951))) (gtName 3))
    (gSeq (gSprPut (eVar 0) 1 (eBin dMod (eBin dAdd (eBin dAdd (eVar 3) (eBin dMul (eBin dMul (eC (.int 7919)) (eSpr (eVar 0) 2)) (eSpr (eVar 0) 1))) (eC (.int 104729))) (eC (.int 2305843009213693951))))
    (gRet (eBin dMod (eBin dDiv (eSpr (eVar 0) 1) (eC (.int 65537))) (eVar 1)))))))
theorem t__law_draw (T : Txt K mg) : FnT P w K mg base (L2.CX P w) 1 "_law_draw" "_law_draw" s__law_draw [] ["_law_spring_here", "_law_many"] (spW K mg false w__law_draw) :=
  T.d__law_draw.fn (N := N__law_draw) (O := []) (On := []) (L := []) (k := 0) sc__law_draw (by decide) fun f cdv A outer s H E hgu hr =>
    have hN : N__law_draw.Nodup := sc__law_draw.nd
    (dss_cons (ds_if (dt_cmp op_gt (s_cmp _) (de_b (de_spr (de_eff (de_var 0 (by decide) (pv 0))) (by intro _ _; rfl))) (de_b (de_eff de_int)) rfl) (dss_cons (ds_set (by decide) hN rfl (.inl rfl) (de_bin op_mod s_mod (de_b (de_spr (de_eff (de_var 0 (by decide) (pv 0))) (by intro _ _; rfl))) (de_b (de_eff (de_var 1 (by decide) (pv 1))))))
    (dss_cons (ds_sprPut (de_eff (de_var 0 (by decide) (pv 0))) (de_bin op_fdiv s_div (de_b (de_spr (de_eff (de_var 0 (by decide) (pv 0))) (by intro _ _; rfl))) (de_b (de_eff (de_var 1 (by decide) (pv 1))))) (fun h1 h2 => ps_asg h1 (pg_sub h2 pe_int set_list)))
    (dss_one (ds_ret (de_eff (de_var 2 (by decide) (pv 2))))))) dss_nil)
    (dss_cons (ds_sprPut (de_eff (de_var 0 (by decide) (pv 0))) (de_bin op_addA s_add (de_b (de_spr (de_eff (de_var 0 (by decide) (pv 0))) (by intro _ _; rfl))) (de_b (de_eff de_int))) (fun h1 h2 => ps_asg h1 (pg_sub h2 pe_int set_list)))
    (dss_cons (ds_set (by decide) hN rfl (.inl rfl) (de_bin op_mod s_mod (de_b (de_bin op_mulA s_mul (de_b (de_spr (de_eff (de_var 0 (by decide) (pv 0))) (by intro _ _; rfl))) (de_b (de_spr (de_eff (de_var 0 (by decide) (pv 0))) (by intro _ _; rfl))))) (de_b (de_eff de_int))))
    (dss_cons (ds_sprPut (de_eff (de_var 0 (by decide) (pv 0))) (de_bin op_mod s_mod (de_b (de_bin op_addA s_add (de_b (de_bin op_addA s_add (de_b (de_eff (de_var 3 (by decide) (pv 3)))) (de_b (de_bin op_mulA s_mul (de_b (de_bin op_mulA s_mul (de_b (de_eff de_int)) (de_b (de_spr (de_eff (de_var 0 (by decide) (pv 0))) (by intro _ _; rfl))))) (de_b (de_spr (de_eff (de_var 0 (by decide) (pv 0))) (by intro _ _; rfl))))))) (de_b (de_eff de_int)))) (de_b (de_eff de_int))) (fun h1 h2 => ps_asg h1 (pg_sub h2 pe_int set_list)))
    (dss_one (ds_ret (de_bin op_mod s_mod (de_b (de_bin op_fdiv s_div (de_b (de_spr (de_eff (de_var 0 (by decide) (pv 0))) (by intro _ _; rfl))) (de_b (de_eff de_int)))) (de_b (de_eff (de_var 1 (by decide) (pv 1)))))))))))
theorem c__law_draw_2 (T : Txt K mg) : CalG P w K mg base (L2.CX P w) 1 "_law_draw" (spW K mg false w__law_draw) [] [] := (t__law_draw T).call fun _ _ _ _ _ _ us hl => match us, hl with | [_, _], _ => rfl
def N__law_mapping : List Str := ["_law_spring_here", "_law_own", "_law_other", "_law_left", "_law_found", "_law_symbol"]
theorem sc__law_mapping : FnScope N__law_mapping ["_law_spring_here", "_law_own", "_law_other"] (defScope s__law_mapping) := ⟨rfl, rfl, rfl, by decide +kernel, rfl, by decide +kernel, by decide +kernel⟩
def w__law_mapping : Fn := fnW 3 6
    (gSeq (gAsg (eNewObj (eLstRg (eVar 2))) (gtName 3))
    (gSeq (gAsg (eLst aNil) (gtName 4))
    (gSeq (gFor (iRng1 (eVar 1)) (gtName 5) (gIf (tAnd (tE (eObjL dNe (eVar 3) (eLst aNil))) (tE (eBin dGt (eCall w__law_draw (aDef (aCons (eVar 0) (aCons (eC (.int 3)) aNil)) [])) (eC (.int 0))))) (gOwn 4 isLst oAppend (aCons (eTup (aCons (eVar 5) (aCons (eObjPop (eVar 3) (eCall w__law_draw (aDef (aCons (eVar 0) (aCons (eObjLen (eVar 3)) aNil)) []))) aNil))) aNil)) gNext))
    (gRet (eVar 4)))))
theorem t__law_mapping (T : Txt K mg) : FnT P w K mg base (L2.CX P w) 2 "_law_mapping" "_law_mapping" s__law_mapping [] ["_law_spring_here", "_law_own", "_law_other"] (spW K mg false w__law_mapping) :=
  T.d__law_mapping.fn (N := N__law_mapping) (O := [4]) (On := [4]) (L := [4]) (k := 1) sc__law_mapping (by decide) fun f cdv A outer s H E hgu hr =>
    have hN : N__law_mapping.Nodup := sc__law_mapping.nd
    (dss_cons (ds_set (by decide) hN rfl (.inl rfl) (de_newObj (dn_lstRg (by rfl) (by rfl) T.n_list (by rfl) T.n_range (de_eff (de_var 2 (by decide) (pv 2))))))
    (dss_cons (ds_own (by decide) hN rfl (.inl rfl) (dn_lst (da_eff da_nil)))
    (dss_cons (ds_for (passes_of rfl) rfl (di_rng1 (by rfl) T.n_range (de_eff (de_var 1 (by decide) (pv 1)))) (dg_name (by decide) (pg_name hN rfl (.inl rfl))) (dss_one (ds_if (dt_w (dw_and (dt_objL (op_neA hr.units) s_ne (de_eff (de_var 3 (by decide) (pv 3))) (de_b (dn_e (dn_lst (da_eff da_nil)))) rfl) (dw_and1 (dt_cmp op_gt (s_cmp _) (de_b (ce_call (c__law_draw_2 T) hgu (hr.mono (by decide)) (by rfl) (passes_call (takes_of rfl rfl rfl rfl) fun _ _ _ _ h => h) (da_cons (de_eff (de_var 0 (by decide) (pv 0))) (da_cons (de_eff de_int) (da_eff da_nil))))) (de_b (de_eff de_int)) rfl)))) (dss_one (ds_ownM (by decide) o_append tyo_lst (pv 4) (da_cons (de_tup (da_cons (de_eff (de_var 5 (by decide) (pv 5))) (da_cons (de_objPop (de_eff (de_var 3 (by decide) (pv 3))) (ce_call (c__law_draw_2 T) hgu (hr.mono (by decide)) (by rfl) (passes_call (takes_of rfl rfl rfl rfl) fun _ _ _ _ h => h) (da_cons (de_eff (de_var 0 (by decide) (pv 0))) (da_cons (de_objLen rfl (by rfl) T.n_len boot_len (de_eff (de_var 3 (by decide) (pv 3)))) (da_eff da_nil)))) (fun h h2 => pe_bm PySem.F.plainAttrs_list PySem.F.slot_list_pop PySem.F.type_list_pop mt_popAt h2 h)) (da_eff da_nil)))) (da_eff da_nil)) (fun h h2 => pe_bm PySem.F.plainAttrs_list PySem.F.slot_list_append PySem.F.type_list_append mt_append h2 h))) dss_nil)))
    (dss_freeze 4 (dss_one (ds_ret (de_eff (de_var 4 (by decide) (pv 4)))))))))
theorem u__law_mapping (T : Txt K mg) : FnT P w K mg base (L2.CX P w) 2 "_law_mapping" "_law_mapping" s__law_mapping [] ["_law_spring_here", "_law_own", "_law_other"] (spW K mg false (fnSub w__law_mapping)) := (t__law_mapping T).imp spW_sub
theorem c__law_mapping_3 (T : Txt K mg) : CalG P w K mg base (L2.CX P w) 2 "_law_mapping" (spW K mg false (fnSub w__law_mapping)) [] [] := (u__law_mapping T).call fun _ _ _ _ _ _ us hl => match us, hl with | [_, _, _], _ => rfl
def N__law_symbols : List Str := ["_law_spring_here", "_law_most", "_law_kinds", "_law_length", "_law_word", "_law_way", "_law_found", "_law_shift", "_law_k", "_law_symbol"]
theorem sc__law_symbols : FnScope N__law_symbols ["_law_spring_here", "_law_most"] (defScope s__law_symbols) := ⟨rfl, rfl, rfl, by decide +kernel, rfl, by decide +kernel, by decide +kernel⟩
def w__law_symbols : Fn := fnW 2 10
    (gSeq (gAsg (eBin dAdd (eC (.int 1)) (eCall w__law_draw (aDef (aCons (eVar 0) (aCons (eBin dIx (eLst (aCons (eC (.int 2)) (aCons (eC (.int 4)) (aCons (eC (.int 9)) aNil)))) (eCall w__law_draw (aDef (aCons (eVar 0) (aCons (eC (.int 3)) aNil)) []))) aNil)) []))) (gtName 2))
    (gSeq (gAsg (eCall w__law_draw (aDef (aCons (eVar 0) (aCons (eBin dAdd (eVar 1) (eC (.int 1))) aNil)) [])) (gtName 3))
    (gSeq (gAsg (eLc (iRng1 (eBin dAdd (eC (.int 1)) (eCall w__law_draw (aDef (aCons (eVar 0) (aCons (eC (.int 6)) aNil)) [])))) [8] (gtName 8) tYes (eCall w__law_draw (aDef (aCons (eVar 0) (aCons (eVar 2) aNil)) []))) (gtName 4))
    (gSeq (gAsg (eCall w__law_draw (aDef (aCons (eVar 0) (aCons (eC (.int 3)) aNil)) [])) (gtName 5))
    (gSeq (gIf (tE (eBin dEq (eVar 5) (eC (.int 0)))) (gRet (eLc (iRng1 (eVar 3)) [8] (gtName 8) tYes (eCall w__law_draw (aDef (aCons (eVar 0) (aCons (eVar 2) aNil)) [])))) gNext)
    (gSeq (gIf (tE (eBin dEq (eVar 5) (eC (.int 1)))) (gRet (eSl (eBin dMul (eVar 4) (eBin dAdd (eBin dDiv (eVar 3) (eFn fLen (aCons (eVar 4) aNil))) (eC (.int 1)))) oNone (oSome (eVar 3)))) gNext)
    (gSeq (gAsg (eLst aNil) (gtName 6))
    (gSeq (gWhile (tE (eBin dLt (eFn fLen (aCons (eVar 6) aNil)) (eVar 3))) (gSeq (gAsg (eCall w__law_draw (aDef (aCons (eVar 0) (aCons (eC (.int 3)) aNil)) [])) (gtName 7))
    (gSeq (gOwn 6 isLst oExtend (aCons (eLc (iSeq (eVar 4)) [9] (gtName 9) tYes (eBin dMod (eBin dAdd (eVar 9) (eVar 7)) (eC (.int 9)))) aNil))
    (gIf (tE (eBin dEq (eCall w__law_draw (aDef (aCons (eVar 0) (aCons (eC (.int 3)) aNil)) [])) (eC (.int 0)))) (gOwn 6 isLst oAppend (aCons (eCall w__law_draw (aDef (aCons (eVar 0) (aCons (eVar 2) aNil)) [])) aNil)) gNext))))
    (gRet (eSl (eVar 6) oNone (oSome (eVar 3))))))))))))
theorem t__law_symbols (T : Txt K mg) : FnT P w K mg base (L2.CX P w) 2 "_law_symbols" "_law_symbols" s__law_symbols [] ["_law_spring_here", "_law_most"] (spW K mg false w__law_symbols) :=
  T.d__law_symbols.fn (N := N__law_symbols) (O := [6]) (On := [6]) (L := [6]) (k := 1) sc__law_symbols (by decide) fun f cdv A outer s H E hgu hr =>
    have hN : N__law_symbols.Nodup := sc__law_symbols.nd
    (dss_cons (ds_set (by decide) hN rfl (.inr rfl) (de_bin op_addA s_add (de_b (de_eff de_int)) (de_b (ce_call (c__law_draw_2 T) hgu (hr.mono (by decide)) (by rfl) (passes_call (takes_of rfl rfl rfl rfl) fun _ _ _ _ h => h) (da_cons (de_eff (de_var 0 (by decide) (pv 0))) (da_cons (de_ix ix_seq s_ix (de_b (dn_e (dn_lst (da_cons (de_eff de_int) (da_cons (de_eff de_int) (da_cons (de_eff de_int) (da_eff da_nil))))))) (de_b (ce_call (c__law_draw_2 T) hgu (hr.mono (by decide)) (by rfl) (passes_call (takes_of rfl rfl rfl rfl) fun _ _ _ _ h => h) (da_cons (de_eff (de_var 0 (by decide) (pv 0))) (da_cons (de_eff de_int) (da_eff da_nil))))) (by intro _ _; rfl)) (da_eff da_nil)))))))
    (dss_cons (ds_set (by decide) hN rfl (.inl rfl) (ce_call (c__law_draw_2 T) hgu (hr.mono (by decide)) (by rfl) (passes_call (takes_of rfl rfl rfl rfl) fun _ _ _ _ h => h) (da_cons (de_eff (de_var 0 (by decide) (pv 0))) (da_cons (de_bin op_addA s_add (de_b (de_eff (de_var 1 (by decide) (pv 1)))) (de_b (de_eff de_int))) (da_eff da_nil)))))
    (dss_cons (ds_setLc (ownN := [("_law_k", 8)]) (E1 := E0) rfl hN rfl rfl (sw_true rfl rfl rfl (by decide +kernel)) (di_rng1 (by rfl) T.n_range (de_bin op_addA s_add (de_b (de_eff de_int)) (de_b (ce_call (c__law_draw_2 T) hgu (hr.mono (by decide)) (by rfl) (passes_call (takes_of rfl rfl rfl rfl) fun _ _ _ _ h => h) (da_cons (de_eff (de_var 0 (by decide) (pv 0))) (da_cons (de_eff de_int) (da_eff da_nil))))))) (blkOk_by (N := N__law_symbols) (sc := defScope s__law_symbols) (by decide +kernel)) rfl (by decide) (fun _ _ _ _ _ => (dgc_name (by decide) (by decide) (pg_name hN rfl (.inl rfl)))) (fun _ _ _ _ _ => dts_nil) (fun _ _ _ _ _ => (ce_call (c__law_draw_2 T) hgu (hr.mono (by decide)) (by rfl) passC (da_cons (de_eff (de_var 0 (by decide) (pv 0))) (da_cons (de_eff (de_var 2 (by decide) (pv 2))) (da_eff da_nil))))))
    (dss_cons (ds_set (by decide) hN rfl (.inl rfl) (ce_call (c__law_draw_2 T) hgu (hr.mono (by decide)) (by rfl) (passes_call (takes_of rfl rfl rfl rfl) fun _ _ _ _ h => h) (da_cons (de_eff (de_var 0 (by decide) (pv 0))) (da_cons (de_eff de_int) (da_eff da_nil)))))
    (dss_cons (ds_if (dt_cmp (op_eqA hr.units) s_eq (de_b (de_eff (de_var 5 (by decide) (pv 5)))) (de_b (de_eff de_int)) rfl) (dss_one (ds_ret (dn_e (dn_lc (ownN := [("_law_k", 8)]) (E1 := E0) rfl hN (di_rng1 (by rfl) T.n_range (de_eff (de_var 3 (by decide) (pv 3)))) (blkOk_by (N := N__law_symbols) (sc := defScope s__law_symbols) (by decide +kernel)) rfl (by decide) (fun _ _ _ _ _ => (dgc_name (by decide) (by decide) (pg_name hN rfl (.inl rfl)))) (fun _ _ _ _ _ => dts_nil) (fun _ _ _ _ _ => (ce_call (c__law_draw_2 T) hgu (hr.mono (by decide)) (by rfl) passC (da_cons (de_eff (de_var 0 (by decide) (pv 0))) (da_cons (de_eff (de_var 2 (by decide) (pv 2))) (da_eff da_nil))))))))) dss_nil)
    (dss_cons (ds_if (dt_cmp (op_eqA hr.units) s_eq (de_b (de_eff (de_var 5 (by decide) (pv 5)))) (de_b (de_eff de_int)) rfl) (dss_one (ds_ret (de_sl (de_b (de_bin op_mulA s_mul (de_b (de_eff (de_var 4 (by decide) (pv 4)))) (de_b (de_bin op_addA s_add (de_b (de_bin op_fdiv s_div (de_b (de_eff (de_var 3 (by decide) (pv 3)))) (de_b (de_blt call_lenA s_len (by rfl) T.n_len boot_len (dab_cons (de_b (de_eff (de_var 4 (by decide) (pv 4)))) (dab_eff dab_nil)))))) (de_b (de_eff de_int)))))) (do_eff do_none) (do_some (de_eff (de_var 3 (by decide) (pv 3))))))) dss_nil)
    (dss_cons (ds_own (by decide) hN rfl (.inl rfl) (dn_lst (da_eff da_nil)))
    (dss_cons (ds_while (passes_of rfl) (dt_cmp op_lt (s_cmp _) (de_b (de_blt call_lenA s_len (by rfl) T.n_len boot_len (dab_cons (db_eff (db_var 6 (by decide) (pv 6))) (dab_eff dab_nil)))) (de_b (de_eff (de_var 3 (by decide) (pv 3)))) rfl) (dss_cons (ds_set (by decide) hN rfl (.inr rfl) (ce_call (c__law_draw_2 T) hgu (hr.mono (by decide)) (by rfl) (passes_call (takes_of rfl rfl rfl rfl) fun _ _ _ _ h => h) (da_cons (de_eff (de_var 0 (by decide) (pv 0))) (da_cons (de_eff de_int) (da_eff da_nil)))))
    (dss_cons (ds_ownM (by decide) o_extend tyo_lst (pv 6) (da_cons (dn_e (dn_lc (ownN := [("_law_symbol", 9)]) (E1 := E0) rfl hN (di_seq (de_eff (de_var 4 (by decide) (pv 4)))) (blkOk_by (N := N__law_symbols) (sc := defScope s__law_symbols) (by decide +kernel)) rfl (by decide) (fun _ _ _ _ _ => (dgc_name (by decide) (by decide) (pg_name hN rfl (.inl rfl)))) (fun _ _ _ _ _ => dts_nil) (fun _ _ _ _ _ => (de_bin op_mod s_mod (de_b (de_bin op_addA s_add (de_b (de_eff (de_var 9 (by decide) (pv 9)))) (de_b (de_eff (de_var 7 (by decide) (pv 7)))))) (de_b (de_eff de_int)))))) (da_eff da_nil)) (fun h h2 => pe_bm PySem.F.plainAttrs_list PySem.F.slot_list_extend PySem.F.type_list_extend mt_extend h2 h))
    (dss_one (ds_if (dt_cmp (op_eqA hr.units) s_eq (de_b (ce_call (c__law_draw_2 T) hgu (hr.mono (by decide)) (by rfl) (passes_call (takes_of rfl rfl rfl rfl) fun _ _ _ _ h => h) (da_cons (de_eff (de_var 0 (by decide) (pv 0))) (da_cons (de_eff de_int) (da_eff da_nil))))) (de_b (de_eff de_int)) rfl) (dss_one (ds_ownM (by decide) o_append tyo_lst (pv 6) (da_cons (ce_call (c__law_draw_2 T) hgu (hr.mono (by decide)) (by rfl) (passes_call (takes_of rfl rfl rfl rfl) fun _ _ _ _ h => h) (da_cons (de_eff (de_var 0 (by decide) (pv 0))) (da_cons (de_eff (de_var 2 (by decide) (pv 2))) (da_eff da_nil)))) (da_eff da_nil)) (fun h h2 => pe_bm PySem.F.plainAttrs_list PySem.F.slot_list_append PySem.F.type_list_append mt_append h2 h))) dss_nil)))))
    (dss_one (ds_ret (de_sl (db_eff (db_var 6 (by decide) (pv 6))) (do_eff do_none) (do_some (de_eff (de_var 3 (by decide) (pv 3)))))))))))))))
theorem c__law_symbols_2 (T : Txt K mg) : CalG P w K mg base (L2.CX P w) 2 "_law_symbols" (spW K mg false w__law_symbols) [] [] := (t__law_symbols T).call fun _ _ _ _ _ _ us hl => match us, hl with | [_, _], _ => rfl
def N__law_distances : List Str := ["_law_symbols_here", "_law_found", "_law_last", "_law_position", "_law_symbol"]
theorem sc__law_distances : FnScope N__law_distances ["_law_symbols_here"] (defScope s__law_distances) := ⟨rfl, rfl, rfl, by decide +kernel, rfl, by decide +kernel, by decide +kernel⟩
def w__law_distances : Fn := fnW 1 5
    (gSeq (gAsg (eLst aNil) (gtName 1))
    (gSeq (gAsg (eC (.dct [])) (gtName 2))
    (gSeq (gFor (iEnum (eVar 0)) (gtTup 2 (gtCons (gtName 3) (gtCons (gtName 4) gtNil))) (gSeq (gOwn 1 isLst oAppend (aCons (eBin dSub (eVar 3) (eGet2 (eVar 2) (eVar 4) (eVar 3))) aNil))
    (gDPut 2 (eVar 3) (eVar 4))))
    (gRet (eVar 1)))))
theorem t__law_distances (T : Txt K mg) : FnT P w K mg base (L2.CX P w) 1 "_law_distances" "_law_distances" s__law_distances [] ["_law_symbols_here"] (spW K mg false w__law_distances) :=
  T.d__law_distances.fn (N := N__law_distances) (O := [1, 2]) (On := [1, 2]) (L := [1, 2]) (k := 0) sc__law_distances (by decide) fun f cdv A outer s H E hgu hr =>
    have hN : N__law_distances.Nodup := sc__law_distances.nd
    (dss_cons (ds_own (by decide) hN rfl (.inl rfl) (dn_lst (da_eff da_nil)))
    (dss_cons (ds_own (by decide) hN rfl (.inl rfl) (dn_eff dn_dict0))
    (dss_cons (ds_for (passes_of rfl) rfl (di_enum (by rfl) T.n_enumerate (de_eff (de_var 0 (by decide) (pv 0)))) (dg_tup rfl (dgs_cons (dg_name (by decide) (pg_name hN rfl (.inl rfl))) (dgs_cons (dg_name (by decide) (pg_name hN rfl (.inl rfl))) dgs_nil))) (dss_cons (ds_ownM (by decide) o_append tyo_lst (pv 1) (da_cons (de_bin op_sub s_sub (de_b (de_eff (de_var 3 (by decide) (pv 3)))) (de_b (de_get2 (hu_of hr) (db_eff (db_var 2 (by decide) (pv 2))) (de_eff (de_var 4 (by decide) (pv 4))) (de_eff (de_var 3 (by decide) (pv 3))) ⟨rfl, rfl, rfl, rfl⟩))) (da_eff da_nil)) (fun h h2 => pe_bm PySem.F.plainAttrs_list PySem.F.slot_list_append PySem.F.type_list_append mt_append h2 h))
    (dss_one (ds_dput (by decide) (de_eff (de_var 3 (by decide) (pv 3))) (pv 2) (de_eff (de_var 4 (by decide) (pv 4))) (fun h1 h2 h3 => ps_dput (hu_of hr) h2 h3 h1 rfl)))))
    (dss_freeze 1 (dss_one (ds_ret (de_eff (de_var 1 (by decide) (pv 1)))))))))
theorem c__law_distances_1 (T : Txt K mg) : CalG P w K mg base (L2.CX P w) 1 "_law_distances" (spW K mg false w__law_distances) [] [] := (t__law_distances T).call fun _ _ _ _ _ _ us hl => match us, hl with | [_], _ => rfl
def N__law_sequence : List Str := ["_law_spring_here", "_law_most", "_law_found", "_law_before", "_law_turn", "_law_symbols_here", "_law_own", "_law_count", "_law_link", "_law_again", "_law_place"]
theorem sc__law_sequence : FnScope N__law_sequence ["_law_spring_here", "_law_most"] (defScope s__law_sequence) := ⟨rfl, rfl, rfl, by decide +kernel, rfl, by decide +kernel, by decide +kernel⟩
def w__law_sequence_rest : WS :=
    (gSeq (gAsg (eUn dLenSet (eVar 5)) (gtName 6))
    (gSeq (gAsg (eBin dIx (eLst (aCons (eC (.int 1)) (aCons (eC (.int 2)) (aCons (eBin dAdd (eC (.int 1)) (eCall w__law_draw (aDef (aCons (eVar 0) (aCons (eC (.int 99)) aNil)) []))) (aCons (eBin dPow (eC (.int 10)) (eC (.int 30))) aNil))))) (eCall w__law_draw (aDef (aCons (eVar 0) (aCons (eC (.int 4)) aNil)) []))) (gtName 7))
    (gSeq (gAsg (eCall (fnSub w__law_mapping) (aDef (aCons (eVar 0) (aCons (eVar 6) (aCons (eVar 3) aNil))) [])) (gtName 8))
    (gSeq (gAsg (eCall (fnSub w__law_mapping) (aDef (aCons (eVar 0) (aCons (eVar 6) (aCons (eVar 6) aNil))) [])) (gtName 9))
    (gSeq (gOwn 2 isLst oAppend (aCons (eTup (aCons (eCallP w__law_distances (aDef (aCons (eVar 5) aNil) [])) (aCons (eVar 8) (aCons (eVar 9) (aCons (eVar 7) aNil))))) aNil))
    (gAsg (eVar 6) (gtName 3)))))))
def w__law_sequence_mid : WS :=
    (gSeq (gIf (tE (eBin dEq (eCall w__law_draw (aDef (aCons (eVar 0) (aCons (eC (.int 6)) aNil)) [])) (eC (.int 0)))) (gAsg (eBin dIx (eLst (aCons (eLstRg (eC (.int 40))) (aCons (eLc (iRng1 (eC (.int 40))) [10] (gtName 10) tYes (eCall w__law_draw (aDef (aCons (eVar 0) (aCons (eC (.int 40)) aNil)) []))) aNil))) (eCall w__law_draw (aDef (aCons (eVar 0) (aCons (eC (.int 2)) aNil)) []))) (gtName 5)) gNext)
    w__law_sequence_rest)
def w__law_sequence : Fn := fnW 2 11
    (gSeq (gAsg (eLst aNil) (gtName 2))
    (gSeq (gAsg (eC (.int 0)) (gtName 3))
    (gSeq (gFor (iRng1 (eBin dAdd (eC (.int 1)) (eCall w__law_draw (aDef (aCons (eVar 0) (aCons (eVar 1) aNil)) [])))) (gtName 4) (gSeq (gAsg (eOrT (eCall w__law_symbols (aDef (aCons (eVar 0) (aCons (eBin dIx (eLst (aCons (eC (.int 3)) (aCons (eC (.int 8)) (aCons (eC (.int 40)) aNil)))) (eCall w__law_draw (aDef (aCons (eVar 0) (aCons (eC (.int 3)) aNil)) []))) aNil)) [])) (eLst (aCons (eC (.int 0)) aNil))) (gtName 5))
    w__law_sequence_mid))
    (gRet (eVar 2)))))
theorem t__law_sequence (T : Txt K mg) : FnT P w K mg base (L2.CX P w) 3 "_law_sequence" "_law_sequence" s__law_sequence [] ["_law_spring_here", "_law_most"] (spW K mg false w__law_sequence) :=
  T.d__law_sequence.fn (N := N__law_sequence) (O := [2]) (On := [2]) (L := [2]) (k := 2) sc__law_sequence (by decide) fun f cdv A outer s H E hgu hr =>
    have hN : N__law_sequence.Nodup := sc__law_sequence.nd
    (dss_cons (ds_own (by decide) hN rfl (.inl rfl) (dn_lst (da_eff da_nil)))
    (dss_cons (ds_set (by decide) hN rfl (.inl rfl) (de_eff de_int))
    (dss_cons (ds_for (passes_of rfl) rfl (di_rng1 (by rfl) T.n_range (de_bin op_addA s_add (de_b (de_eff de_int)) (de_b (ce_call (c__law_draw_2 T) hgu (hr.mono (by decide)) (by rfl) (passes_call (takes_of rfl rfl rfl rfl) fun _ _ _ _ h => h) (da_cons (de_eff (de_var 0 (by decide) (pv 0))) (da_cons (de_eff (de_var 1 (by decide) (pv 1))) (da_eff da_nil))))))) (dg_name (by decide) (pg_name hN rfl (.inl rfl))) (dss_cons (ds_set (by decide) hN rfl (.inl rfl) (de_orT (ce_call (c__law_symbols_2 T) hgu (hr.mono (by decide)) (by rfl) (passes_call (takes_of rfl rfl rfl rfl) fun _ _ _ _ h => h) (da_cons (de_eff (de_var 0 (by decide) (pv 0))) (da_cons (de_ix ix_seq s_ix (de_b (dn_e (dn_lst (da_cons (de_eff de_int) (da_cons (de_eff de_int) (da_cons (de_eff de_int) (da_eff da_nil))))))) (de_b (ce_call (c__law_draw_2 T) hgu (hr.mono (by decide)) (by rfl) (passes_call (takes_of rfl rfl rfl rfl) fun _ _ _ _ h => h) (da_cons (de_eff (de_var 0 (by decide) (pv 0))) (da_cons (de_eff de_int) (da_eff da_nil))))) (by intro _ _; rfl)) (da_eff da_nil)))) (de_one (dn_e (dn_lst (da_cons (de_eff de_int) (da_eff da_nil)))))))
    (dss_cons (ds_if (dt_cmp (op_eqA hr.units) s_eq (de_b (ce_call (c__law_draw_2 T) hgu (hr.mono (by decide)) (by rfl) (passes_call (takes_of rfl rfl rfl rfl) fun _ _ _ _ h => h) (da_cons (de_eff (de_var 0 (by decide) (pv 0))) (da_cons (de_eff de_int) (da_eff da_nil))))) (de_b (de_eff de_int)) rfl) (dss_one (ds_set (by decide) hN rfl (.inl rfl) (de_ix ix_seq s_ix (de_b (dn_e (dn_lst (da_cons (dn_e (dn_lstRg (by rfl) (by rfl) T.n_list (by rfl) T.n_range (de_eff de_int))) (da_cons (dn_e (dn_lc (ownN := [("_law_place", 10)]) (E1 := E0) rfl hN (di_rng1 (by rfl) T.n_range (de_eff de_int)) (blkOk_by (N := N__law_sequence) (sc := defScope s__law_sequence) (by decide +kernel)) rfl (by decide) (fun _ _ _ _ _ => (dgc_name (by decide) (by decide) (pg_name hN rfl (.inl rfl)))) (fun _ _ _ _ _ => dts_nil) (fun _ _ _ _ _ => (ce_call (c__law_draw_2 T) hgu (hr.mono (by decide)) (by rfl) passC (da_cons (de_eff (de_var 0 (by decide) (pv 0))) (da_cons (de_eff de_int) (da_eff da_nil))))))) (da_eff da_nil)))))) (de_b (ce_call (c__law_draw_2 T) hgu (hr.mono (by decide)) (by rfl) (passes_call (takes_of rfl rfl rfl rfl) fun _ _ _ _ h => h) (da_cons (de_eff (de_var 0 (by decide) (pv 0))) (da_cons (de_eff de_int) (da_eff da_nil))))) (by intro _ _; rfl)))) dss_nil)
    (dss_cons (ds_set (by decide) hN rfl (.inl rfl) (de_lenSet (by rfl) T.n_len (by rfl) T.n_set rfl (de_b (de_eff (de_var 5 (by decide) (pv 5))))))
    (dss_cons (ds_set (by decide) hN rfl (.inl rfl) (de_ix ix_seq s_ix (de_b (dn_e (dn_lst (da_cons (de_eff de_int) (da_cons (de_eff de_int) (da_cons (de_bin op_addA s_add (de_b (de_eff de_int)) (de_b (ce_call (c__law_draw_2 T) hgu (hr.mono (by decide)) (by rfl) (passes_call (takes_of rfl rfl rfl rfl) fun _ _ _ _ h => h) (da_cons (de_eff (de_var 0 (by decide) (pv 0))) (da_cons (de_eff de_int) (da_eff da_nil)))))) (da_cons (de_bin op_pow s_pow (de_b (de_eff de_int)) (de_b (de_eff de_int))) (da_eff da_nil)))))))) (de_b (ce_call (c__law_draw_2 T) hgu (hr.mono (by decide)) (by rfl) (passes_call (takes_of rfl rfl rfl rfl) fun _ _ _ _ h => h) (da_cons (de_eff (de_var 0 (by decide) (pv 0))) (da_cons (de_eff de_int) (da_eff da_nil))))) (by intro _ _; rfl)))
    (dss_cons (ds_set (by decide) hN rfl (.inl rfl) (ce_call (c__law_mapping_3 T) hgu (hr.mono (by decide)) (by rfl) (passes_call (takes_of rfl rfl rfl rfl) fun _ _ _ _ h => h) (da_cons (de_eff (de_var 0 (by decide) (pv 0))) (da_cons (de_eff (de_var 6 (by decide) (pv 6))) (da_cons (de_eff (de_var 3 (by decide) (pv 3))) (da_eff da_nil))))))
    (dss_cons (ds_set (by decide) hN rfl (.inl rfl) (ce_call (c__law_mapping_3 T) hgu (hr.mono (by decide)) (by rfl) (passes_call (takes_of rfl rfl rfl rfl) fun _ _ _ _ h => h) (da_cons (de_eff (de_var 0 (by decide) (pv 0))) (da_cons (de_eff (de_var 6 (by decide) (pv 6))) (da_cons (de_eff (de_var 6 (by decide) (pv 6))) (da_eff da_nil))))))
    (dss_cons (ds_ownM (by decide) o_append tyo_lst (pv 2) (da_cons (de_tup (da_cons (ce_callP (c__law_distances_1 T) hgu (hr.mono (by decide)) (by rfl) (passes_call (takes_of rfl rfl rfl rfl) fun _ _ _ _ h => h) (da_cons (de_eff (de_var 5 (by decide) (pv 5))) (da_eff da_nil))) (da_cons (de_eff (de_var 8 (by decide) (pv 8))) (da_cons (de_eff (de_var 9 (by decide) (pv 9))) (da_cons (de_eff (de_var 7 (by decide) (pv 7))) (da_eff da_nil)))))) (da_eff da_nil)) (fun h h2 => pe_bm PySem.F.plainAttrs_list PySem.F.slot_list_append PySem.F.type_list_append mt_append h2 h))
    (dss_one (ds_set (by decide) hN rfl (.inl rfl) (de_eff (de_var 6 (by decide) (pv 6)))))))))))))
    (dss_freeze 2 (dss_one (ds_ret (de_eff (de_var 2 (by decide) (pv 2)))))))))
theorem c__law_sequence_2 (T : Txt K mg) : CalG P w K mg base (L2.CX P w) 3 "_law_sequence" (spW K mg false w__law_sequence) [] [] := (t__law_sequence T).call fun _ _ _ _ _ _ us hl => match us, hl with | [_, _], _ => rfl
def N__law_no_distances : List Str := ["_law_spring_here", "_law_some"]
theorem sc__law_no_distances : FnScope N__law_no_distances ["_law_spring_here"] (defScope s__law_no_distances) := ⟨rfl, rfl, rfl, by decide +kernel, rfl, by decide +kernel, by decide +kernel⟩
def w__law_no_distances : Fn := fnW 1 2
    (gSeq (gAsg (eLst (aCons (eC .non) (aCons (eC (.int 0)) (aCons (eC (.str "0 0")) (aCons (eC (.dct [])) (aCons (eLst (aCons (eC (.int 1)) aNil)) (aCons (eLst (aCons (eC (.int 0)) (aCons (eC (.int 2)) aNil))) (aCons (eLst (aCons (eC (.int 0)) (aCons (eC (.int 0)) (aCons (eC (.int 1)) (aCons (eC (.int 2)) aNil))))) (aCons (eLst (aCons (eC (.int 0)) (aCons (eC (.int 1)) (aCons (eC (.int 2)) aNil)))) (aCons (eLst (aCons (eC (.int 0)) (aCons (eUn dNeg (eC (.int 1))) aNil))) (aCons (eLst (aCons (eC (.int 0)) (aCons (eC (.bl true)) aNil))) aNil))))))))))) (gtName 1))
    (gSeq (gAsg (eBin dAdd (eVar 1) (eLst (aCons (eLst (aCons (eC (.int 0)) (aCons (eC .non) aNil))) (aCons (eLst (aCons (eC (.int 0)) (aCons (eC (.str "1")) aNil))) (aCons (eC (.bl true)) (aCons (eLst (aCons (eLst (aCons (eC (.int 0)) aNil)) aNil)) (aCons (eTup (aCons (eC (.int 0)) (aCons (eC (.int 3)) aNil))) (aCons (eLst (aCons (eC (.bl false)) aNil)) (aCons (eLst (aCons (eC (.int 0)) (aCons (eC (.int 0)) (aCons (eC (.int 0)) (aCons (eC (.int 2)) (aCons (eC (.int 3)) aNil)))))) (aCons (eLst (aCons (eC (.str "0")) aNil)) (aCons (eBin dMul (eLst (aCons (eC (.int 0)) aNil)) (eC (.int 401))) (aCons (eTup (aCons (eC (.int 1)) aNil)) aNil)))))))))))) (gtName 1))
    (gRet (eBin dIx (eVar 1) (eCall w__law_draw (aDef (aCons (eVar 0) (aCons (eC (.int 20)) aNil)) []))))))
theorem t__law_no_distances (T : Txt K mg) : FnT P w K mg base (L2.CX P w) 2 "_law_no_distances" "_law_no_distances" s__law_no_distances [] ["_law_spring_here"] (spW K mg false w__law_no_distances) :=
  T.d__law_no_distances.fn (N := N__law_no_distances) (O := []) (On := []) (L := []) (k := 1) sc__law_no_distances (by decide) fun f cdv A outer s H E hgu hr =>
    have hN : N__law_no_distances.Nodup := sc__law_no_distances.nd
    (dss_cons (ds_set (by decide) hN rfl (.inl rfl) (dn_e (dn_lst (da_cons (de_eff de_non) (da_cons (de_eff de_int) (da_cons (de_eff de_str) (da_cons (dn_e (dn_eff dn_dict0)) (da_cons (dn_e (dn_lst (da_cons (de_eff de_int) (da_eff da_nil)))) (da_cons (dn_e (dn_lst (da_cons (de_eff de_int) (da_cons (de_eff de_int) (da_eff da_nil))))) (da_cons (dn_e (dn_lst (da_cons (de_eff de_int) (da_cons (de_eff de_int) (da_cons (de_eff de_int) (da_cons (de_eff de_int) (da_eff da_nil))))))) (da_cons (dn_e (dn_lst (da_cons (de_eff de_int) (da_cons (de_eff de_int) (da_cons (de_eff de_int) (da_eff da_nil)))))) (da_cons (dn_e (dn_lst (da_cons (de_eff de_int) (da_cons (de_un un_neg s_neg (de_b (de_eff de_int))) (da_eff da_nil))))) (da_cons (dn_e (dn_lst (da_cons (de_eff de_int) (da_cons (de_eff de_bl) (da_eff da_nil))))) (da_eff da_nil))))))))))))))
    (dss_cons (ds_set (by decide) hN rfl (.inl rfl) (de_bin op_addA s_add (de_b (de_eff (de_var 1 (by decide) (pv 1)))) (de_b (dn_e (dn_lst (da_cons (dn_e (dn_lst (da_cons (de_eff de_int) (da_cons (de_eff de_non) (da_eff da_nil))))) (da_cons (dn_e (dn_lst (da_cons (de_eff de_int) (da_cons (de_eff de_str) (da_eff da_nil))))) (da_cons (de_eff de_bl) (da_cons (dn_e (dn_lst (da_cons (dn_e (dn_lst (da_cons (de_eff de_int) (da_eff da_nil)))) (da_eff da_nil)))) (da_cons (de_tup (da_cons (de_eff de_int) (da_cons (de_eff de_int) (da_eff da_nil)))) (da_cons (dn_e (dn_lst (da_cons (de_eff de_bl) (da_eff da_nil)))) (da_cons (dn_e (dn_lst (da_cons (de_eff de_int) (da_cons (de_eff de_int) (da_cons (de_eff de_int) (da_cons (de_eff de_int) (da_cons (de_eff de_int) (da_eff da_nil)))))))) (da_cons (dn_e (dn_lst (da_cons (de_eff de_str) (da_eff da_nil)))) (da_cons (de_bin op_mulA s_mul (de_b (dn_e (dn_lst (da_cons (de_eff de_int) (da_eff da_nil))))) (de_b (de_eff de_int))) (da_cons (de_tup (da_cons (de_eff de_int) (da_eff da_nil))) (da_eff da_nil))))))))))))))))
    (dss_one (ds_ret (de_ix ix_seq s_ix (de_b (de_eff (de_var 1 (by decide) (pv 1)))) (de_b (ce_call (c__law_draw_2 T) hgu (hr.mono (by decide)) (by rfl) (passes_call (takes_of rfl rfl rfl rfl) fun _ _ _ _ h => h) (da_cons (de_eff (de_var 0 (by decide) (pv 0))) (da_cons (de_eff de_int) (da_eff da_nil))))) (by intro _ _; rfl))))))
theorem c__law_no_distances_1 (T : Txt K mg) : CalG P w K mg base (L2.CX P w) 2 "_law_no_distances" (spW K mg false w__law_no_distances) [] [] := (t__law_no_distances T).call fun _ _ _ _ _ _ us hl => match us, hl with | [_], _ => rfl
def N__law_changed : List Str := ["_law_spring_here", "_law_sequence_here", "_law_at", "_law_distances_here", "_law_link", "_law_turn", "_law_count", "_law_odd", "_law_some", "_law_k"]
theorem sc__law_changed : FnScope N__law_changed ["_law_spring_here", "_law_sequence_here"] (defScope s__law_changed) := ⟨rfl, rfl, rfl, by decide +kernel, rfl, by decide +kernel, by decide +kernel⟩
def w__law_changed : Fn := fnW 2 10
    (gSeq (gAsg (eCall w__law_draw (aDef (aCons (eVar 0) (aCons (eFn fLen (aCons (eVar 1) aNil)) aNil)) [])) (gtName 2))
    (gSeq (gAsg (eBin dIx (eVar 1) (eVar 2)) (gtTup 4 (gtCons (gtName 3) (gtCons (gtName 4) (gtCons (gtName 5) (gtCons (gtName 6) gtNil))))))
    (gSeq (gAsg (eLst (aCons (eTup (aCons (eVar 3) (aCons (eVar 4) (aCons (eVar 5) aNil)))) (aCons (eTup (aCons (eVar 3) (aCons (eVar 4) (aCons (eVar 5) (aCons (eC (.int 0)) aNil))))) (aCons (eTup (aCons (eVar 3) (aCons (eVar 4) (aCons (eVar 5) (aCons (eBin dAdd (eBin dPow (eC (.int 10)) (eC (.int 30))) (eC (.int 1))) aNil))))) aNil)))) (gtName 7))
    (gSeq (gAsg (eBin dCat (eVar 7) (eLst (aCons (eTup (aCons (eLst aNil) (aCons (eLst aNil) (aCons (eLst aNil) (aCons (eC (.int 1)) aNil))))) (aCons (eTup (aCons (eVar 3) (aCons (eVar 4) (aCons (eVar 5) (aCons (eC (.bl true)) aNil))))) (aCons (eTup (aCons (eVar 3) (aCons (eVar 4) (aCons (eVar 5) (aCons (eC .non) aNil))))) aNil))))) (gtName 7))
    (gSeq (gAsg (eBin dCat (eVar 7) (eLst (aCons (eTup (aCons (eBin dMul (eLst (aCons (eC (.int 0)) aNil)) (eC (.int 41))) (aCons (eLst aNil) (aCons (eLst aNil) (aCons (eC (.int 1)) aNil))))) (aCons (eC .non) (aCons (eC (.str "block")) aNil))))) (gtName 7))
    (gSeq (gAsg (eBin dCat (eVar 7) (eLst (aCons (eTup (aCons (eVar 3) (aCons (eVar 4) (aCons (eLst (aCons (eTup (aCons (eC (.int 0)) (aCons (eC (.int 99)) aNil))) aNil)) (aCons (eVar 6) aNil))))) (aCons (eTup (aCons (eVar 3) (aCons (eVar 4) (aCons (eLst (aCons (eTup (aCons (eC (.int 0)) (aCons (eC (.int 0)) aNil))) (aCons (eTup (aCons (eC (.int 0)) (aCons (eC (.int 0)) aNil))) aNil))) (aCons (eVar 6) aNil))))) (aCons (eTup (aCons (eLst (aCons (eC (.int 1)) aNil)) (aCons (eLst aNil) (aCons (eLst aNil) (aCons (eC (.int 1)) aNil))))) aNil))))) (gtName 7))
    (gSeq (gAsg (eBin dCat (eVar 7) (eLst (aCons (eTup (aCons (eVar 3) (aCons (eLst (aCons (eTup (aCons (eC (.int 0)) (aCons (eC (.int 99)) aNil))) aNil)) (aCons (eVar 5) (aCons (eVar 6) aNil))))) (aCons (eTup (aCons (eVar 3) (aCons (eVar 4) (aCons (eLst (aCons (eTup (aCons (eC (.int 0)) aNil)) aNil)) (aCons (eVar 6) aNil))))) (aCons (eTup (aCons (eVar 3) (aCons (eC .non) (aCons (eVar 5) (aCons (eVar 6) aNil))))) aNil))))) (gtName 7))
    (gSeq (gAsg (eBin dCat (eVar 7) (eLst (aCons (eTup (aCons (eLst (aCons (eC (.int 0)) (aCons (eC (.int 0)) aNil))) (aCons (eLst aNil) (aCons (eLst (aCons (eTup (aCons (eC (.int 1)) (aCons (eC (.int 0)) aNil))) (aCons (eTup (aCons (eC (.int 0)) (aCons (eC (.int 1)) aNil))) aNil))) (aCons (eC (.int 1)) aNil))))) (aCons (eTup (aCons (eLst (aCons (eC (.int 0)) (aCons (eC (.int 0)) aNil))) (aCons (eLst aNil) (aCons (eLst (aCons (eTup (aCons (eC (.int 0)) (aCons (eC (.int 0)) aNil))) (aCons (eTup (aCons (eC (.int 1)) (aCons (eC (.int 0)) aNil))) aNil))) (aCons (eC (.int 1)) aNil))))) aNil)))) (gtName 7))
    (gSeq (gOwn 7 isLst oAppend (aCons (eTup (aCons (eVar 3) (aCons (eVar 4) (aCons (eVar 5) (aCons (eVar 6) (aCons (eC (.int 0)) aNil)))))) aNil))
    (gSeq (gAsg (eLc (iRng1 (eC (.int 4))) [9] (gtName 9) tYes (eBin dAdd (eBin dAdd (eSl (eVar 1) oNone (oSome (eVar 2))) (eLst (aCons (eBin dIx (eVar 7) (eCall w__law_draw (aDef (aCons (eVar 0) (aCons (eC (.int 18)) aNil)) []))) aNil))) (eSl (eVar 1) (oSome (eBin dAdd (eVar 2) (eC (.int 1)))) oNone))) (gtName 8))
    (gSeq (gAsg (eBin dAdd (eVar 8) (eLst (aCons (eC .non) (aCons (eC (.int 0)) (aCons (eLst aNil) (aCons (eTup aNil) (aCons (eC (.dct [])) (aCons (eC (.str "0 / - / - x 1")) (aCons (eLst (aCons (eVar 1) aNil)) (aCons (eBin dMul (eLst (aCons (eTup (aCons (eLst (aCons (eC (.int 0)) aNil)) (aCons (eLst aNil) (aCons (eLst aNil) (aCons (eC (.int 1)) aNil))))) aNil)) (eC (.int 9))) (aCons (eC (.bl true)) aNil))))))))))) (gtName 8))
    (gRet (eBin dIx (eBin dAdd (eVar 8) (eLst (aCons (eLst (aCons (eTup (aCons (eLst (aCons (eC (.int 0)) aNil)) (aCons (eLst (aCons (eTup (aCons (eC (.int 0)) (aCons (eC (.int 0)) aNil))) aNil)) (aCons (eLst aNil) (aCons (eC (.int 1)) aNil))))) aNil)) aNil))) (eCall w__law_draw (aDef (aCons (eVar 0) (aCons (eC (.int 14)) aNil)) [])))))))))))))))
theorem t__law_changed (T : Txt K mg) : FnT P w K mg base (L2.CX P w) 2 "_law_changed" "_law_changed" s__law_changed [] ["_law_spring_here", "_law_sequence_here"] (spW K mg false w__law_changed) :=
  T.d__law_changed.fn (N := N__law_changed) (O := [7]) (On := [7]) (L := [7]) (k := 1) sc__law_changed (by decide) fun f cdv A outer s H E hgu hr =>
    have hN : N__law_changed.Nodup := sc__law_changed.nd
    (dss_cons (ds_set (by decide) hN rfl (.inr rfl) (ce_call (c__law_draw_2 T) hgu (hr.mono (by decide)) (by rfl) (passes_call (takes_of rfl rfl rfl rfl) fun _ _ _ _ h => h) (da_cons (de_eff (de_var 0 (by decide) (pv 0))) (da_cons (de_blt call_lenA s_len (by rfl) T.n_len boot_len (dab_cons (de_b (de_eff (de_var 1 (by decide) (pv 1)))) (dab_eff dab_nil))) (da_eff da_nil)))))
    (dss_cons (ds_asg (de_ix ix_seq s_ix (de_b (de_eff (de_var 1 (by decide) (pv 1)))) (de_b (de_eff (de_var 2 (by decide) (pv 2)))) (by intro _ _; rfl)) (dg_tup rfl (dgs_cons (dg_name (by decide) (pg_name hN rfl (.inl rfl))) (dgs_cons (dg_name (by decide) (pg_name hN rfl (.inl rfl))) (dgs_cons (dg_name (by decide) (pg_name hN rfl (.inl rfl))) (dgs_cons (dg_name (by decide) (pg_name hN rfl (.inl rfl))) dgs_nil))))))
    (dss_cons (ds_own (by decide) hN rfl (.inr rfl) (dn_lst (da_cons (de_tup (da_cons (de_eff (de_var 3 (by decide) (pv 3))) (da_cons (de_eff (de_var 4 (by decide) (pv 4))) (da_cons (de_eff (de_var 5 (by decide) (pv 5))) (da_eff da_nil))))) (da_cons (de_tup (da_cons (de_eff (de_var 3 (by decide) (pv 3))) (da_cons (de_eff (de_var 4 (by decide) (pv 4))) (da_cons (de_eff (de_var 5 (by decide) (pv 5))) (da_cons (de_eff de_int) (da_eff da_nil)))))) (da_cons (de_tup (da_cons (de_eff (de_var 3 (by decide) (pv 3))) (da_cons (de_eff (de_var 4 (by decide) (pv 4))) (da_cons (de_eff (de_var 5 (by decide) (pv 5))) (da_cons (de_bin op_addA s_add (de_b (de_bin op_pow s_pow (de_b (de_eff de_int)) (de_b (de_eff de_int)))) (de_b (de_eff de_int))) (da_eff da_nil)))))) (da_eff da_nil))))))
    (dss_cons (ds_own (by decide) hN rfl (.inr rfl) (dn_cat (db_eff (db_var 7 (by decide) (pv 7))) (de_b (dn_e (dn_lst (da_cons (de_tup (da_cons (dn_e (dn_lst (da_eff da_nil))) (da_cons (dn_e (dn_lst (da_eff da_nil))) (da_cons (dn_e (dn_lst (da_eff da_nil))) (da_cons (de_eff de_int) (da_eff da_nil)))))) (da_cons (de_tup (da_cons (de_eff (de_var 3 (by decide) (pv 3))) (da_cons (de_eff (de_var 4 (by decide) (pv 4))) (da_cons (de_eff (de_var 5 (by decide) (pv 5))) (da_cons (de_eff de_bl) (da_eff da_nil)))))) (da_cons (de_tup (da_cons (de_eff (de_var 3 (by decide) (pv 3))) (da_cons (de_eff (de_var 4 (by decide) (pv 4))) (da_cons (de_eff (de_var 5 (by decide) (pv 5))) (da_cons (de_eff de_non) (da_eff da_nil)))))) (da_eff da_nil)))))))))
    (dss_cons (ds_own (by decide) hN rfl (.inr rfl) (dn_cat (db_eff (db_var 7 (by decide) (pv 7))) (de_b (dn_e (dn_lst (da_cons (de_tup (da_cons (de_bin op_mulA s_mul (de_b (dn_e (dn_lst (da_cons (de_eff de_int) (da_eff da_nil))))) (de_b (de_eff de_int))) (da_cons (dn_e (dn_lst (da_eff da_nil))) (da_cons (dn_e (dn_lst (da_eff da_nil))) (da_cons (de_eff de_int) (da_eff da_nil)))))) (da_cons (de_eff de_non) (da_cons (de_eff de_str) (da_eff da_nil)))))))))
    (dss_cons (ds_own (by decide) hN rfl (.inr rfl) (dn_cat (db_eff (db_var 7 (by decide) (pv 7))) (de_b (dn_e (dn_lst (da_cons (de_tup (da_cons (de_eff (de_var 3 (by decide) (pv 3))) (da_cons (de_eff (de_var 4 (by decide) (pv 4))) (da_cons (dn_e (dn_lst (da_cons (de_tup (da_cons (de_eff de_int) (da_cons (de_eff de_int) (da_eff da_nil)))) (da_eff da_nil)))) (da_cons (de_eff (de_var 6 (by decide) (pv 6))) (da_eff da_nil)))))) (da_cons (de_tup (da_cons (de_eff (de_var 3 (by decide) (pv 3))) (da_cons (de_eff (de_var 4 (by decide) (pv 4))) (da_cons (dn_e (dn_lst (da_cons (de_tup (da_cons (de_eff de_int) (da_cons (de_eff de_int) (da_eff da_nil)))) (da_cons (de_tup (da_cons (de_eff de_int) (da_cons (de_eff de_int) (da_eff da_nil)))) (da_eff da_nil))))) (da_cons (de_eff (de_var 6 (by decide) (pv 6))) (da_eff da_nil)))))) (da_cons (de_tup (da_cons (dn_e (dn_lst (da_cons (de_eff de_int) (da_eff da_nil)))) (da_cons (dn_e (dn_lst (da_eff da_nil))) (da_cons (dn_e (dn_lst (da_eff da_nil))) (da_cons (de_eff de_int) (da_eff da_nil)))))) (da_eff da_nil)))))))))
    (dss_cons (ds_own (by decide) hN rfl (.inr rfl) (dn_cat (db_eff (db_var 7 (by decide) (pv 7))) (de_b (dn_e (dn_lst (da_cons (de_tup (da_cons (de_eff (de_var 3 (by decide) (pv 3))) (da_cons (dn_e (dn_lst (da_cons (de_tup (da_cons (de_eff de_int) (da_cons (de_eff de_int) (da_eff da_nil)))) (da_eff da_nil)))) (da_cons (de_eff (de_var 5 (by decide) (pv 5))) (da_cons (de_eff (de_var 6 (by decide) (pv 6))) (da_eff da_nil)))))) (da_cons (de_tup (da_cons (de_eff (de_var 3 (by decide) (pv 3))) (da_cons (de_eff (de_var 4 (by decide) (pv 4))) (da_cons (dn_e (dn_lst (da_cons (de_tup (da_cons (de_eff de_int) (da_eff da_nil))) (da_eff da_nil)))) (da_cons (de_eff (de_var 6 (by decide) (pv 6))) (da_eff da_nil)))))) (da_cons (de_tup (da_cons (de_eff (de_var 3 (by decide) (pv 3))) (da_cons (de_eff de_non) (da_cons (de_eff (de_var 5 (by decide) (pv 5))) (da_cons (de_eff (de_var 6 (by decide) (pv 6))) (da_eff da_nil)))))) (da_eff da_nil)))))))))
    (dss_cons (ds_own (by decide) hN rfl (.inr rfl) (dn_cat (db_eff (db_var 7 (by decide) (pv 7))) (de_b (dn_e (dn_lst (da_cons (de_tup (da_cons (dn_e (dn_lst (da_cons (de_eff de_int) (da_cons (de_eff de_int) (da_eff da_nil))))) (da_cons (dn_e (dn_lst (da_eff da_nil))) (da_cons (dn_e (dn_lst (da_cons (de_tup (da_cons (de_eff de_int) (da_cons (de_eff de_int) (da_eff da_nil)))) (da_cons (de_tup (da_cons (de_eff de_int) (da_cons (de_eff de_int) (da_eff da_nil)))) (da_eff da_nil))))) (da_cons (de_eff de_int) (da_eff da_nil)))))) (da_cons (de_tup (da_cons (dn_e (dn_lst (da_cons (de_eff de_int) (da_cons (de_eff de_int) (da_eff da_nil))))) (da_cons (dn_e (dn_lst (da_eff da_nil))) (da_cons (dn_e (dn_lst (da_cons (de_tup (da_cons (de_eff de_int) (da_cons (de_eff de_int) (da_eff da_nil)))) (da_cons (de_tup (da_cons (de_eff de_int) (da_cons (de_eff de_int) (da_eff da_nil)))) (da_eff da_nil))))) (da_cons (de_eff de_int) (da_eff da_nil)))))) (da_eff da_nil))))))))
    (dss_cons (ds_ownM (by decide) o_append tyo_lst (pv 7) (da_cons (de_tup (da_cons (de_eff (de_var 3 (by decide) (pv 3))) (da_cons (de_eff (de_var 4 (by decide) (pv 4))) (da_cons (de_eff (de_var 5 (by decide) (pv 5))) (da_cons (de_eff (de_var 6 (by decide) (pv 6))) (da_cons (de_eff de_int) (da_eff da_nil))))))) (da_eff da_nil)) (fun h h2 => pe_bm PySem.F.plainAttrs_list PySem.F.slot_list_append PySem.F.type_list_append mt_append h2 h))
    (dss_cons (ds_setLc (ownN := [("_law_k", 9)]) (E1 := E0) rfl hN rfl rfl (sw_true rfl rfl rfl (by decide +kernel)) (di_rng1 (by rfl) T.n_range (de_eff de_int)) (blkOk_by (N := N__law_changed) (sc := defScope s__law_changed) (by decide +kernel)) rfl (by decide) (fun _ _ _ _ _ => (dgc_name (by decide) (by decide) (pg_name hN rfl (.inl rfl)))) (fun _ _ _ _ _ => dts_nil) (fun _ _ _ _ _ => (de_bin op_addA s_add (de_b (de_bin op_addA s_add (de_b (de_sl (de_b (de_eff (de_var 1 (by decide) (pv 1)))) (do_eff do_none) (do_some (de_eff (de_var 2 (by decide) (pv 2)))))) (de_b (dn_e (dn_lst (da_cons (de_ix ix_seq s_ix (db_eff (db_var 7 (by decide) (pv 7))) (de_b (ce_call (c__law_draw_2 T) hgu (hr.mono (by decide)) (by rfl) passC (da_cons (de_eff (de_var 0 (by decide) (pv 0))) (da_cons (de_eff de_int) (da_eff da_nil))))) (by intro _ _; rfl)) (da_eff da_nil))))))) (de_b (de_sl (de_b (de_eff (de_var 1 (by decide) (pv 1)))) (do_some (de_bin op_addA s_add (de_b (de_eff (de_var 2 (by decide) (pv 2)))) (de_b (de_eff de_int)))) (do_eff do_none))))))
    (dss_cons (ds_set (by decide) hN rfl (.inl rfl) (de_bin op_addA s_add (de_b (de_eff (de_var 8 (by decide) (pv 8)))) (de_b (dn_e (dn_lst (da_cons (de_eff de_non) (da_cons (de_eff de_int) (da_cons (dn_e (dn_lst (da_eff da_nil))) (da_cons (de_tup (da_eff da_nil)) (da_cons (dn_e (dn_eff dn_dict0)) (da_cons (de_eff de_str) (da_cons (dn_e (dn_lst (da_cons (de_eff (de_var 1 (by decide) (pv 1))) (da_eff da_nil)))) (da_cons (de_bin op_mulA s_mul (de_b (dn_e (dn_lst (da_cons (de_tup (da_cons (dn_e (dn_lst (da_cons (de_eff de_int) (da_eff da_nil)))) (da_cons (dn_e (dn_lst (da_eff da_nil))) (da_cons (dn_e (dn_lst (da_eff da_nil))) (da_cons (de_eff de_int) (da_eff da_nil)))))) (da_eff da_nil))))) (de_b (de_eff de_int))) (da_cons (de_eff de_bl) (da_eff da_nil)))))))))))))))
    (dss_one (ds_ret (de_ix ix_seq s_ix (de_b (de_bin op_addA s_add (de_b (de_eff (de_var 8 (by decide) (pv 8)))) (de_b (dn_e (dn_lst (da_cons (dn_e (dn_lst (da_cons (de_tup (da_cons (dn_e (dn_lst (da_cons (de_eff de_int) (da_eff da_nil)))) (da_cons (dn_e (dn_lst (da_cons (de_tup (da_cons (de_eff de_int) (da_cons (de_eff de_int) (da_eff da_nil)))) (da_eff da_nil)))) (da_cons (dn_e (dn_lst (da_eff da_nil))) (da_cons (de_eff de_int) (da_eff da_nil)))))) (da_eff da_nil)))) (da_eff da_nil))))))) (de_b (ce_call (c__law_draw_2 T) hgu (hr.mono (by decide)) (by rfl) (passes_call (takes_of rfl rfl rfl rfl) fun _ _ _ _ h => h) (da_cons (de_eff (de_var 0 (by decide) (pv 0))) (da_cons (de_eff de_int) (da_eff da_nil))))) (by intro _ _; rfl)))))))))))))))
theorem c__law_changed_2 (T : Txt K mg) : CalG P w K mg base (L2.CX P w) 2 "_law_changed" (spW K mg false w__law_changed) [] [] := (t__law_changed T).call fun _ _ _ _ _ _ us hl => match us, hl with | [_, _], _ => rfl
def N__law_class : List Str := ["_law_caught", "_law_found", "_law_is_base"]
theorem sc__law_class : FnScope N__law_class ["_law_caught"] (defScope s__law_class) := ⟨rfl, rfl, rfl, by decide +kernel, rfl, by decide +kernel, by decide +kernel⟩
def w__law_class : Fn := fnW 1 3
    (gSeq (gAsg (eLst aNil) (gtName 1))
    (gSeq (gIf (tE (eIsE q_Inconsistent (eVar 0))) (gOwn 1 isLst oAppend (aCons (eC (.str "Inconsistent")) aNil)) gNext)
    (gSeq (gIf (tE (eIsE q_InvalidDistances (eVar 0))) (gOwn 1 isLst oAppend (aCons (eC (.str "InvalidDistances")) aNil)) gNext)
    (gSeq (gIf (tE (eIsE q_InvalidFacts (eVar 0))) (gOwn 1 isLst oAppend (aCons (eC (.str "InvalidFacts")) aNil)) gNext)
    (gSeq (gIf (tE (eIsE q_InvalidNumber (eVar 0))) (gOwn 1 isLst oAppend (aCons (eC (.str "InvalidNumber")) aNil)) gNext)
    (gSeq (gIf (tE (eIsE q_InvalidPosition (eVar 0))) (gOwn 1 isLst oAppend (aCons (eC (.str "InvalidPosition")) aNil)) gNext)
    (gSeq (gIf (tE (eIsE q_InvalidSequence (eVar 0))) (gOwn 1 isLst oAppend (aCons (eC (.str "InvalidSequence")) aNil)) gNext)
    (gSeq (gIf (tE (eIsE q_ParseError (eVar 0))) (gOwn 1 isLst oAppend (aCons eNever aNil)) gNext)
    (gSeq (gIf (tE (eIsE q_tup7 (eVar 0))) (gOwn 1 isLst oAppend (aCons (eC (.str "odd")) aNil)) gNext)
    (gSeq (gIf (tE (eIsE q_tup8 (eVar 0))) (gOwn 1 isLst oAppend (aCons (eC (.str "odd")) aNil)) gNext)
    (gSeq (gAsg (eAnd (eIsE q_HowFarBackError (eVar 0)) (eIsE q_ValueError (eVar 0))) (gtName 2))
    (gRet (eIf (tAnd (tTru (eVar 2)) (tE (eBin dEq (eFn fLen (aCons (eVar 1) aNil)) (eC (.int 1))))) (eBin dIx (eVar 1) (eC (.int 0))) (eC (.str "odd")))))))))))))))
theorem t__law_class (T : Txt K mg) : FnT P w K mg base (L2.CX P w) 1 "_law_class" "_law_class" s__law_class [] ["_law_caught"] (spW K mg false w__law_class) :=
  T.d__law_class.fn (N := N__law_class) (O := [1]) (On := [1]) (L := [1]) (k := 0) sc__law_class (by decide) fun f cdv A outer s H E hgu hr =>
    have hN : N__law_class.Nodup := sc__law_class.nd
    (dss_cons (ds_own (by decide) hN rfl (.inl rfl) (dn_lst (da_eff da_nil)))
    (dss_cons (ds_if (dt_val (de_isEN (by rfl) T.n_isinstance (de_eff (de_var 0 (by decide) (pv 0))) T.i_Inconsistent (by rfl))) (dss_one (ds_ownM (by decide) o_append tyo_lst (pv 1) (da_cons (de_eff de_str) (da_eff da_nil)) (fun h h2 => pe_bm PySem.F.plainAttrs_list PySem.F.slot_list_append PySem.F.type_list_append mt_append h2 h))) dss_nil)
    (dss_cons (ds_if (dt_val (de_isEN (by rfl) T.n_isinstance (de_eff (de_var 0 (by decide) (pv 0))) T.i_InvalidDistances (by rfl))) (dss_one (ds_ownM (by decide) o_append tyo_lst (pv 1) (da_cons (de_eff de_str) (da_eff da_nil)) (fun h h2 => pe_bm PySem.F.plainAttrs_list PySem.F.slot_list_append PySem.F.type_list_append mt_append h2 h))) dss_nil)
    (dss_cons (ds_if (dt_val (de_isEN (by rfl) T.n_isinstance (de_eff (de_var 0 (by decide) (pv 0))) T.i_InvalidFacts (by rfl))) (dss_one (ds_ownM (by decide) o_append tyo_lst (pv 1) (da_cons (de_eff de_str) (da_eff da_nil)) (fun h h2 => pe_bm PySem.F.plainAttrs_list PySem.F.slot_list_append PySem.F.type_list_append mt_append h2 h))) dss_nil)
    (dss_cons (ds_if (dt_val (de_isEN (by rfl) T.n_isinstance (de_eff (de_var 0 (by decide) (pv 0))) T.i_InvalidNumber (by rfl))) (dss_one (ds_ownM (by decide) o_append tyo_lst (pv 1) (da_cons (de_eff de_str) (da_eff da_nil)) (fun h h2 => pe_bm PySem.F.plainAttrs_list PySem.F.slot_list_append PySem.F.type_list_append mt_append h2 h))) dss_nil)
    (dss_cons (ds_if (dt_val (de_isEN (by rfl) T.n_isinstance (de_eff (de_var 0 (by decide) (pv 0))) T.i_InvalidPosition (by rfl))) (dss_one (ds_ownM (by decide) o_append tyo_lst (pv 1) (da_cons (de_eff de_str) (da_eff da_nil)) (fun h h2 => pe_bm PySem.F.plainAttrs_list PySem.F.slot_list_append PySem.F.type_list_append mt_append h2 h))) dss_nil)
    (dss_cons (ds_if (dt_val (de_isEN (by rfl) T.n_isinstance (de_eff (de_var 0 (by decide) (pv 0))) T.i_InvalidSequence (by rfl))) (dss_one (ds_ownM (by decide) o_append tyo_lst (pv 1) (da_cons (de_eff de_str) (da_eff da_nil)) (fun h h2 => pe_bm PySem.F.plainAttrs_list PySem.F.slot_list_append PySem.F.type_list_append mt_append h2 h))) dss_nil)
    (dss_cons (ds_if (dt_val (de_isEN (by rfl) T.n_isinstance (de_eff (de_var 0 (by decide) (pv 0))) T.i_ParseError (by rfl))) (dss_one (ds_ownM (by decide) o_append tyo_lst (pv 1) (da_cons de_never (da_eff da_nil)) (fun h h2 => pe_bm PySem.F.plainAttrs_list PySem.F.slot_list_append PySem.F.type_list_append mt_append h2 h))) dss_nil)
    (dss_cons (ds_if (dt_val (de_isETN (by rfl) T.n_isinstance (de_eff (de_var 0 (by decide) (pv 0))) T.i_tup7 (.cons (by rfl) (by decide) (.cons (by rfl) (by decide) (.cons (by rfl) (by decide) (.cons (by rfl) (by decide) (.cons (by rfl) (by decide) .nil))))) (by decide))) (dss_one (ds_ownM (by decide) o_append tyo_lst (pv 1) (da_cons (de_eff de_str) (da_eff da_nil)) (fun h h2 => pe_bm PySem.F.plainAttrs_list PySem.F.slot_list_append PySem.F.type_list_append mt_append h2 h))) dss_nil)
    (dss_cons (ds_if (dt_val (de_isETN (by rfl) T.n_isinstance (de_eff (de_var 0 (by decide) (pv 0))) T.i_tup8 (.cons (by rfl) (by decide) (.cons (by rfl) (by decide) (.cons (by rfl) (by decide) (.cons (by rfl) (by decide) .nil)))) (by decide))) (dss_one (ds_ownM (by decide) o_append tyo_lst (pv 1) (da_cons (de_eff de_str) (da_eff da_nil)) (fun h h2 => pe_bm PySem.F.plainAttrs_list PySem.F.slot_list_append PySem.F.type_list_append mt_append h2 h))) dss_nil)
    (dss_cons (ds_set (by decide) hN rfl (.inl rfl) (de_and (de_isEN (by rfl) T.n_isinstance (de_eff (de_var 0 (by decide) (pv 0))) T.i_HowFarBackError (by rfl)) (de_one (de_isE (by rfl) T.n_isinstance (de_eff (de_var 0 (by decide) (pv 0))) (pe_bltn (v := .ty "ValueError") (by rfl) T.n_ValueError (by decide +kernel) rfl) (.ty "ValueError") T.i_ValueError))))
    (dss_one (ds_ret (de_if (dt_w (dw_and (dt_tru (de_b (de_eff (de_var 2 (by decide) (pv 2))))) (dw_and1 (dt_cmp (op_eqA hr.units) s_eq (de_b (de_blt call_lenA s_len (by rfl) T.n_len boot_len (dab_cons (db_eff (db_var 1 (by decide) (pv 1))) (dab_eff dab_nil)))) (de_b (de_eff de_int)) rfl)))) (de_ix ix_seq s_ix (db_eff (db_var 1 (by decide) (pv 1))) (de_b (de_eff de_int)) (by intro _ _; rfl)) (de_eff de_str)))))))))))))))
theorem c__law_class_1 (T : Txt K mg) : CalG P w K mg base (L2.CX P w) 1 "_law_class" (spW K mg false w__law_class) [] [] := (t__law_class T).call fun _ _ _ _ _ _ us hl => match us, hl with | [_], _ => rfl
def N_list_text : List Str := ["distances", "back"]
theorem sc_list_text : FnScope N_list_text ["distances"] (defScope s_list_text) := ⟨rfl, rfl, rfl, by decide +kernel, rfl, by decide +kernel, by decide +kernel⟩
def w_list_text : Fn := fnW 1 2
    (gRet (eIf (tE (eBin dGt (eFn fLen (aCons (eVar 0) aNil)) (eC (.int 0)))) (eMt isStr mJoin (eC (.str " ")) (aCons (eLc (iSeq (eVar 0)) [1] (gtName 1) tYes (eFn fStr (aCons (eVar 1) aNil))) aNil)) (eC g_EMPTY_LIST)))
theorem t_list_text (T : Txt K mg) : FnT P w K mg base (L2.CX P w) 1 "list_text" "list_text" s_list_text [] ["distances"] (spW K mg false w_list_text) :=
  T.d_list_text.fn (N := N_list_text) (O := []) (On := []) (L := []) (k := 0) sc_list_text (by decide) fun f cdv A outer s H E hgu hr =>
    have hN : N_list_text.Nodup := sc_list_text.nd
    (dss_one (ds_ret (de_if (dt_cmp op_gt (s_cmp _) (de_b (de_blt call_lenA s_len (by rfl) T.n_len boot_len (dab_cons (de_b (de_eff (de_var 0 (by decide) (pv 0)))) (dab_eff dab_nil)))) (de_b (de_eff de_int)) rfl) (de_mt PySem.F.plainAttrs_str PySem.F.slot_str_join PySem.F.type_str_join mt_join s_join ty_str (de_b (de_eff de_str)) (dab_cons (de_b (dn_e (dn_lc (ownN := [("back", 1)]) (E1 := E0) rfl hN (di_seq (de_eff (de_var 0 (by decide) (pv 0)))) (blkOk_by (N := N_list_text) (sc := defScope s_list_text) (by decide +kernel)) rfl (by decide) (fun _ _ _ _ _ => (dgc_name (by decide) (by decide) (pg_name hN rfl (.inl rfl)))) (fun _ _ _ _ _ => dts_nil) (fun _ _ _ _ _ => (de_ty (call_str_int.or SkE.call_str_str) s_str (by rfl) T.n_str boot_str (dab_cons (de_b (de_eff (de_var 1 (by decide) (pv 1)))) (dab_eff dab_nil))))))) (dab_eff dab_nil)) (fun h _ h2 => pe_bm PySem.F.plainAttrs_str PySem.F.slot_str_join PySem.F.type_str_join mt_join h2 h)) (de_eff (de_globT (by rfl) T.g_EMPTY_LIST)))))
theorem c_list_text_1 (T : Txt K mg) : CalG P w K mg base (L2.CX P w) 1 "list_text" (spW K mg false w_list_text) [] [] := (t_list_text T).call fun _ _ _ _ _ _ us hl => match us, hl with | [_], _ => rfl
def N_is_sequence : List Str := ["value"]
theorem sc_is_sequence : FnScope N_is_sequence ["value"] (defScope s_is_sequence) := ⟨rfl, rfl, rfl, by decide +kernel, rfl, by decide +kernel, by decide +kernel⟩
def w_is_sequence : Fn := fnW 1 1
    (gRet (eIsI [.list, .tuple] (eVar 0)))
theorem t_is_sequence (T : Txt K mg) : FnT P w K mg base (L2.CX P w) 1 "is_sequence" "is_sequence" s_is_sequence [] ["value"] (spW K mg false w_is_sequence) :=
  T.d_is_sequence.fn (N := N_is_sequence) (O := []) (On := []) (L := []) (k := 0) sc_is_sequence (by decide) fun f cdv A outer s H E hgu hr =>
    have hN : N_is_sequence.Nodup := sc_is_sequence.nd
    (dss_one (ds_ret (de_isiT (Ts := [.list, .tuple]) (by rfl) T.n_isinstance (de_b (de_eff (de_var 0 (by decide) (pv 0)))) (pa_cons (pe_bltn (v := .ty "list") (by rfl) T.n_list boot_list rfl) (pa_cons (pe_bltn (v := .ty "tuple") (by rfl) T.n_tuple boot_tuple rfl) pa_nil)) (by decide) (by simp))))
theorem c_is_sequence_1 (T : Txt K mg) : CalG P w K mg base (L2.CX P w) 1 "is_sequence" (spW K mg false w_is_sequence) [] [] := (t_is_sequence T).call fun _ _ _ _ _ _ us hl => match us, hl with | [_], _ => rfl
def N_is_integer : List Str := ["value", "lowest", "highest"]
theorem sc_is_integer : FnScope N_is_integer ["value", "lowest", "highest"] (defScope s_is_integer) := ⟨rfl, rfl, rfl, by decide +kernel, rfl, by decide +kernel, by decide +kernel⟩
def w_is_integer : Fn := fnW 3 3
    (gSeq (gIf (tOr (tNot (tE (eIsI [.int] (eVar 0)))) (tE (eIsI [.bool] (eVar 0)))) (gRet (eC (.bl false))) gNext)
    (gRet (eAnd (eBin dGe (eVar 0) (eVar 1)) (eOr (eBin dIs (eVar 2) (eC .non)) (eBin dLe (eVar 0) (eVar 2))))))
theorem t_is_integer (T : Txt K mg) : FnT P w K mg base (L2.CX P w) 1 "is_integer" "is_integer" s_is_integer [.non] ["value", "lowest", "highest"] (spW K mg false w_is_integer) :=
  T.d_is_integer.fn (N := N_is_integer) (O := []) (On := []) (L := []) (k := 0) sc_is_integer (by decide) fun f cdv A outer s H E hgu hr =>
    have hN : N_is_integer.Nodup := sc_is_integer.nd
    (dss_cons (ds_if (dt_w (dw_or (dt_not (dt_val (de_isi (T := .int) (by rfl) T.n_isinstance (de_b (de_eff (de_var 0 (by decide) (pv 0)))) (pe_bltn (v := .ty "int") (by rfl) T.n_int boot_int rfl)))) (dw_or1 (dt_val (de_isi (T := .bool) (by rfl) T.n_isinstance (de_b (de_eff (de_var 0 (by decide) (pv 0)))) (pe_bltn (v := .ty "bool") (by rfl) T.n_bool boot_bool rfl)))))) (dss_one (ds_ret (de_eff de_bl))) dss_nil)
    (dss_one (ds_ret (de_and (de_cmp op_ge (s_cmp _) (de_b (de_eff (de_var 0 (by decide) (pv 0)))) (de_b (de_eff (de_var 1 (by decide) (pv 1)))) rfl) (de_one (de_or (de_cmp op_isA s_is (de_b (de_eff (de_var 2 (by decide) (pv 2)))) (de_b (de_eff de_non)) rfl) (de_one (de_cmp op_le (s_cmp _) (de_b (de_eff (de_var 0 (by decide) (pv 0)))) (de_b (de_eff (de_var 2 (by decide) (pv 2)))) rfl))))))))
theorem c_is_integer_3 (T : Txt K mg) : CalG P w K mg base (L2.CX P w) 1 "is_integer" (spW K mg false w_is_integer) [] [] := (t_is_integer T).callD 3 1 (by decide) rfl (fun _ _ _ _ _ _ _ us its hl hi => match us, its, hl, hi with | [_, _, _], [_], _, _ => ⟨_, rfl, rfl⟩) fun _ => .nil
def N_is_distances : List Str := ["value", "targets", "position", "entry"]
theorem sc_is_distances : FnScope N_is_distances ["value"] (defScope s_is_distances) := ⟨rfl, rfl, rfl, by decide +kernel, rfl, by decide +kernel, by decide +kernel⟩
def w_is_distances : Fn := fnW 1 4
    (gSeq (gIf (tOr (tNot (tE (eCallP w_is_sequence (aDef (aCons (eVar 0) aNil) [])))) (tE (eBin dGt (eFn fLen (aCons (eVar 0) aNil)) (eC g_MAX_POSITIONS)))) (gRet (eC (.bl false))) gNext)
    (gSeq (gIf (tNot (tE (eFn fAll (aCons (eLc (iEnum (eVar 0)) [2, 3] (gtTup 2 (gtCons (gtName 2) (gtCons (gtName 3) gtNil))) tYes (eCallP w_is_integer (aDef (aCons (eVar 3) (aCons (eC (.int 0)) (aCons (eVar 2) aNil))) []))) aNil)))) (gRet (eC (.bl false))) gNext)
    (gSeq (gAsg (eLc (iEnum (eVar 0)) [2, 3] (gtTup 2 (gtCons (gtName 2) (gtCons (gtName 3) gtNil))) (tE (eBin dGt (eVar 3) (eC (.int 0)))) (eBin dSub (eVar 2) (eVar 3))) (gtName 1))
    (gRet (eBin dEq (eUn dLenSet (eVar 1)) (eFn fLen (aCons (eVar 1) aNil)))))))
theorem t_is_distances (T : Txt K mg) : FnT P w K mg base (L2.CX P w) 2 "is_distances" "is_distances" s_is_distances [] ["value"] (spW K mg false w_is_distances) :=
  T.d_is_distances.fn (N := N_is_distances) (O := []) (On := []) (L := []) (k := 1) sc_is_distances (by decide) fun f cdv A outer s H E hgu hr =>
    have hN : N_is_distances.Nodup := sc_is_distances.nd
    (dss_cons (ds_if (dt_w (dw_or (dt_not (dt_val (ce_callP (c_is_sequence_1 T) hgu (hr.mono (by decide)) (by rfl) (passes_call (takes_of rfl rfl rfl rfl) fun _ _ _ _ h => h) (da_cons (de_eff (de_var 0 (by decide) (pv 0))) (da_eff da_nil))))) (dw_or1 (dt_cmp op_gt (s_cmp _) (de_b (de_blt call_lenA s_len (by rfl) T.n_len boot_len (dab_cons (de_b (de_eff (de_var 0 (by decide) (pv 0)))) (dab_eff dab_nil)))) (de_b (de_eff (de_globT (by rfl) T.g_MAX_POSITIONS))) rfl)))) (dss_one (ds_ret (de_eff de_bl))) dss_nil)
    (dss_cons (ds_if (dt_not (dt_val (de_blt (cr_all rfl) s_all (by rfl) T.n_all (by decide +kernel) (dab_cons (de_b (dn_e (dn_lc (ownN := [("position", 2), ("entry", 3)]) (E1 := E0) rfl hN (di_enum (by rfl) T.n_enumerate (de_eff (de_var 0 (by decide) (pv 0)))) (blkOk_by (N := N_is_distances) (sc := defScope s_is_distances) (by decide +kernel)) rfl (by decide) (fun _ _ _ _ _ => (dgc_tup rfl (dgcs_cons (dgc_name (by decide) (by decide) (pg_name hN rfl (.inl rfl))) (dgcs_cons (dgc_name (by decide) (by decide) (pg_name hN rfl (.inl rfl))) dgcs_nil)))) (fun _ _ _ _ _ => dts_nil) (fun _ _ _ _ _ => (ce_callP (c_is_integer_3 T) hgu (hr.mono (by decide)) (by rfl) passC (da_cons (de_eff (de_var 3 (by decide) (pv 3))) (da_cons (de_eff de_int) (da_cons (de_eff (de_var 2 (by decide) (pv 2))) (da_eff da_nil))))))))) (dab_eff dab_nil))))) (dss_one (ds_ret (de_eff de_bl))) dss_nil)
    (dss_cons (ds_setLc (ownN := [("position", 2), ("entry", 3)]) (E1 := E0) rfl hN rfl rfl (sw_true rfl rfl rfl (by decide +kernel)) (di_enum (by rfl) T.n_enumerate (de_eff (de_var 0 (by decide) (pv 0)))) (blkOk_by (N := N_is_distances) (sc := defScope s_is_distances) (by decide +kernel)) rfl (by decide) (fun _ _ _ _ _ => (dgc_tup rfl (dgcs_cons (dgc_name (by decide) (by decide) (pg_name hN rfl (.inl rfl))) (dgcs_cons (dgc_name (by decide) (by decide) (pg_name hN rfl (.inl rfl))) dgcs_nil)))) (fun _ _ _ _ _ => (dts_one (dt_cmp op_gt (s_cmp _) (de_b (de_eff (de_var 3 (by decide) (pv 3)))) (de_b (de_eff de_int)) rfl))) (fun _ _ _ _ _ => (de_bin op_sub s_sub (de_b (de_eff (de_var 2 (by decide) (pv 2)))) (de_b (de_eff (de_var 3 (by decide) (pv 3)))))))
    (dss_one (ds_ret (de_cmp (op_eqA hr.units) s_eq (de_b (de_lenSet (by rfl) T.n_len (by rfl) T.n_set rfl (de_b (de_eff (de_var 1 (by decide) (pv 1)))))) (de_b (de_blt call_lenA s_len (by rfl) T.n_len boot_len (dab_cons (de_b (de_eff (de_var 1 (by decide) (pv 1)))) (dab_eff dab_nil)))) rfl))))))
theorem c_is_distances_1 (T : Txt K mg) : CalG P w K mg base (L2.CX P w) 2 "is_distances" (spW K mg false w_is_distances) [] [] := (t_is_distances T).call fun _ _ _ _ _ _ us hl => match us, hl with | [_], _ => rfl
def N_format_distances : List Str := ["distances"]
theorem sc_format_distances : FnScope N_format_distances ["distances"] (defScope s_format_distances) := ⟨rfl, rfl, rfl, by decide +kernel, rfl, by decide +kernel, by decide +kernel⟩
def w_format_distances : Fn := fnW 1 1
    (gSeq (gIf (tNot (tE (eCallP w_is_distances (aDef (aCons (eVar 0) aNil) [])))) (gRaise "InvalidDistances") gNext)
    (gRet (eCallP w_list_text (aDef (aCons (eVar 0) aNil) []))))
theorem t_format_distances (T : Txt K mg) : FnT P w K mg base (L2.CX P w) 3 "format_distances" "format_distances" s_format_distances [] ["distances"] (spW K mg false w_format_distances) :=
  T.d_format_distances.fn (N := N_format_distances) (O := []) (On := []) (L := []) (k := 2) sc_format_distances (by decide) fun f cdv A outer s H E hgu hr =>
    have hN : N_format_distances.Nodup := sc_format_distances.nd
    (dss_cons (ds_if (dt_not (dt_val (ce_callP (c_is_distances_1 T) hgu (hr.mono (by decide)) (by rfl) (passes_call (takes_of rfl rfl rfl rfl) fun _ _ _ _ h => h) (da_cons (de_eff (de_var 0 (by decide) (pv 0))) (da_eff da_nil))))) (dss_one (ds_raise T.x_InvalidDistances (by rfl) (takes_of rfl rfl rfl rfl) (by rfl))) dss_nil)
    (dss_one (ds_ret (ce_callP (c_list_text_1 T) hgu (hr.mono (by decide)) (by rfl) (passes_call (takes_of rfl rfl rfl rfl) fun _ _ _ _ h => h) (da_cons (de_eff (de_var 0 (by decide) (pv 0))) (da_eff da_nil))))))
theorem c_format_distances_1 (T : Txt K mg) : CalG P w K mg base (L2.CX P w) 3 "format_distances" (spW K mg false w_format_distances) [] [] := (t_format_distances T).call fun _ _ _ _ _ _ us hl => match us, hl with | [_], _ => rfl
def N_is_pair : List Str := ["value", "own_count", "other_count"]
theorem sc_is_pair : FnScope N_is_pair ["value", "own_count", "other_count"] (defScope s_is_pair) := ⟨rfl, rfl, rfl, by decide +kernel, rfl, by decide +kernel, by decide +kernel⟩
def w_is_pair : Fn := fnW 3 3
    (gSeq (gIf (tOr (tNot (tE (eCallP w_is_sequence (aDef (aCons (eVar 0) aNil) [])))) (tE (eBin dNe (eFn fLen (aCons (eVar 0) aNil)) (eC (.int 2))))) (gRet (eC (.bl false))) gNext)
    (gRet (eAnd (eCallP w_is_integer (aDef (aCons (eBin dIx (eVar 0) (eC (.int 0))) (aCons (eC (.int 0)) (aCons (eBin dSub (eVar 1) (eC (.int 1))) aNil))) [])) (eCallP w_is_integer (aDef (aCons (eBin dIx (eVar 0) (eC (.int 1))) (aCons (eC (.int 0)) (aCons (eBin dSub (eVar 2) (eC (.int 1))) aNil))) [])))))
theorem t_is_pair (T : Txt K mg) : FnT P w K mg base (L2.CX P w) 2 "is_pair" "is_pair" s_is_pair [] ["value", "own_count", "other_count"] (spW K mg false w_is_pair) :=
  T.d_is_pair.fn (N := N_is_pair) (O := []) (On := []) (L := []) (k := 1) sc_is_pair (by decide) fun f cdv A outer s H E hgu hr =>
    have hN : N_is_pair.Nodup := sc_is_pair.nd
    (dss_cons (ds_if (dt_w (dw_or (dt_not (dt_val (ce_callP (c_is_sequence_1 T) hgu (hr.mono (by decide)) (by rfl) (passes_call (takes_of rfl rfl rfl rfl) fun _ _ _ _ h => h) (da_cons (de_eff (de_var 0 (by decide) (pv 0))) (da_eff da_nil))))) (dw_or1 (dt_cmp (op_neA hr.units) s_ne (de_b (de_blt call_lenA s_len (by rfl) T.n_len boot_len (dab_cons (de_b (de_eff (de_var 0 (by decide) (pv 0)))) (dab_eff dab_nil)))) (de_b (de_eff de_int)) rfl)))) (dss_one (ds_ret (de_eff de_bl))) dss_nil)
    (dss_one (ds_ret (de_and (ce_callP (c_is_integer_3 T) hgu (hr.mono (by decide)) (by rfl) (passes_call (takes_of rfl rfl rfl rfl) fun _ _ _ _ h => h) (da_cons (de_ix ix_seq s_ix (de_b (de_eff (de_var 0 (by decide) (pv 0)))) (de_b (de_eff de_int)) (by intro _ _; rfl)) (da_cons (de_eff de_int) (da_cons (de_bin op_sub s_sub (de_b (de_eff (de_var 1 (by decide) (pv 1)))) (de_b (de_eff de_int))) (da_eff da_nil))))) (de_one (ce_callP (c_is_integer_3 T) hgu (hr.mono (by decide)) (by rfl) (passes_call (takes_of rfl rfl rfl rfl) fun _ _ _ _ h => h) (da_cons (de_ix ix_seq s_ix (de_b (de_eff (de_var 0 (by decide) (pv 0)))) (de_b (de_eff de_int)) (by intro _ _; rfl)) (da_cons (de_eff de_int) (da_cons (de_bin op_sub s_sub (de_b (de_eff (de_var 2 (by decide) (pv 2)))) (de_b (de_eff de_int))) (da_eff da_nil))))))))))
theorem c_is_pair_3 (T : Txt K mg) : CalG P w K mg base (L2.CX P w) 2 "is_pair" (spW K mg false w_is_pair) [] [] := (t_is_pair T).call fun _ _ _ _ _ _ us hl => match us, hl with | [_, _, _], _ => rfl
def N_is_mapping : List Str := ["value", "own_count", "other_count", "keys", "targets", "pair", "one", "other"]
theorem sc_is_mapping : FnScope N_is_mapping ["value", "own_count", "other_count"] (defScope s_is_mapping) := ⟨rfl, rfl, rfl, by decide +kernel, rfl, by decide +kernel, by decide +kernel⟩
def w_is_mapping : Fn := fnW 3 8
    (gSeq (gIf (tOr (tNot (tE (eCallP w_is_sequence (aDef (aCons (eVar 0) aNil) [])))) (tNot (tE (eFn fAll (aCons (eLc (iSeq (eVar 0)) [5] (gtName 5) tYes (eCallP w_is_pair (aDef (aCons (eVar 5) (aCons (eVar 1) (aCons (eVar 2) aNil))) []))) aNil))))) (gRet (eC (.bl false))) gNext)
    (gSeq (gAsg (eLc (iSeq (eVar 0)) [5] (gtName 5) tYes (eBin dIx (eVar 5) (eC (.int 0)))) (gtName 3))
    (gSeq (gAsg (eLc (iSeq (eVar 0)) [5] (gtName 5) tYes (eBin dIx (eVar 5) (eC (.int 1)))) (gtName 4))
    (gRet (eAnd (eFn fAll (aCons (eLc (iZip (eVar 3) (eSl (eVar 3) (oSome (eC (.int 1))) oNone)) [6, 7] (gtTup 2 (gtCons (gtName 6) (gtCons (gtName 7) gtNil))) tYes (eBin dLt (eVar 6) (eVar 7))) aNil)) (eBin dEq (eUn dLenSet (eVar 4)) (eFn fLen (aCons (eVar 4) aNil))))))))
theorem t_is_mapping (T : Txt K mg) : FnT P w K mg base (L2.CX P w) 3 "is_mapping" "is_mapping" s_is_mapping [] ["value", "own_count", "other_count"] (spW K mg false w_is_mapping) :=
  T.d_is_mapping.fn (N := N_is_mapping) (O := []) (On := []) (L := []) (k := 2) sc_is_mapping (by decide) fun f cdv A outer s H E hgu hr =>
    have hN : N_is_mapping.Nodup := sc_is_mapping.nd
    (dss_cons (ds_if (dt_w (dw_or (dt_not (dt_val (ce_callP (c_is_sequence_1 T) hgu (hr.mono (by decide)) (by rfl) (passes_call (takes_of rfl rfl rfl rfl) fun _ _ _ _ h => h) (da_cons (de_eff (de_var 0 (by decide) (pv 0))) (da_eff da_nil))))) (dw_or1 (dt_not (dt_val (de_blt (cr_all rfl) s_all (by rfl) T.n_all (by decide +kernel) (dab_cons (de_b (dn_e (dn_lc (ownN := [("pair", 5)]) (E1 := E0) rfl hN (di_seq (de_eff (de_var 0 (by decide) (pv 0)))) (blkOk_by (N := N_is_mapping) (sc := defScope s_is_mapping) (by decide +kernel)) rfl (by decide) (fun _ _ _ _ _ => (dgc_name (by decide) (by decide) (pg_name hN rfl (.inl rfl)))) (fun _ _ _ _ _ => dts_nil) (fun _ _ _ _ _ => (ce_callP (c_is_pair_3 T) hgu (hr.mono (by decide)) (by rfl) passC (da_cons (de_eff (de_var 5 (by decide) (pv 5))) (da_cons (de_eff (de_var 1 (by decide) (pv 1))) (da_cons (de_eff (de_var 2 (by decide) (pv 2))) (da_eff da_nil))))))))) (dab_eff dab_nil)))))))) (dss_one (ds_ret (de_eff de_bl))) dss_nil)
    (dss_cons (ds_setLc (ownN := [("pair", 5)]) (E1 := E0) rfl hN rfl rfl (sw_true rfl rfl rfl (by decide +kernel)) (di_seq (de_eff (de_var 0 (by decide) (pv 0)))) (blkOk_by (N := N_is_mapping) (sc := defScope s_is_mapping) (by decide +kernel)) rfl (by decide) (fun _ _ _ _ _ => (dgc_name (by decide) (by decide) (pg_name hN rfl (.inl rfl)))) (fun _ _ _ _ _ => dts_nil) (fun _ _ _ _ _ => (de_ix ix_seq s_ix (de_b (de_eff (de_var 5 (by decide) (pv 5)))) (de_b (de_eff de_int)) (by intro _ _; rfl))))
    (dss_cons (ds_setLc (ownN := [("pair", 5)]) (E1 := E0) rfl hN rfl rfl (sw_true rfl rfl rfl (by decide +kernel)) (di_seq (de_eff (de_var 0 (by decide) (pv 0)))) (blkOk_by (N := N_is_mapping) (sc := defScope s_is_mapping) (by decide +kernel)) rfl (by decide) (fun _ _ _ _ _ => (dgc_name (by decide) (by decide) (pg_name hN rfl (.inl rfl)))) (fun _ _ _ _ _ => dts_nil) (fun _ _ _ _ _ => (de_ix ix_seq s_ix (de_b (de_eff (de_var 5 (by decide) (pv 5)))) (de_b (de_eff de_int)) (by intro _ _; rfl))))
    (dss_one (ds_ret (de_and (de_blt (cr_all rfl) s_all (by rfl) T.n_all (by decide +kernel) (dab_cons (de_b (dn_e (dn_lc (ownN := [("one", 6), ("other", 7)]) (E1 := E0) rfl hN (di_zip (by rfl) T.n_zip (de_eff (de_var 3 (by decide) (pv 3))) (de_sl (de_b (de_eff (de_var 3 (by decide) (pv 3)))) (do_some (de_eff de_int)) (do_eff do_none))) (blkOk_by (N := N_is_mapping) (sc := defScope s_is_mapping) (by decide +kernel)) rfl (by decide) (fun _ _ _ _ _ => (dgc_tup rfl (dgcs_cons (dgc_name (by decide) (by decide) (pg_name hN rfl (.inl rfl))) (dgcs_cons (dgc_name (by decide) (by decide) (pg_name hN rfl (.inl rfl))) dgcs_nil)))) (fun _ _ _ _ _ => dts_nil) (fun _ _ _ _ _ => (de_cmp op_lt (s_cmp _) (de_b (de_eff (de_var 6 (by decide) (pv 6)))) (de_b (de_eff (de_var 7 (by decide) (pv 7)))) rfl))))) (dab_eff dab_nil))) (de_one (de_cmp (op_eqA hr.units) s_eq (de_b (de_lenSet (by rfl) T.n_len (by rfl) T.n_set rfl (de_b (de_eff (de_var 4 (by decide) (pv 4)))))) (de_b (de_blt call_lenA s_len (by rfl) T.n_len boot_len (dab_cons (de_b (de_eff (de_var 4 (by decide) (pv 4)))) (dab_eff dab_nil)))) rfl))))))))
theorem c_is_mapping_3 (T : Txt K mg) : CalG P w K mg base (L2.CX P w) 3 "is_mapping" (spW K mg false w_is_mapping) [] [] := (t_is_mapping T).call fun _ _ _ _ _ _ us hl => match us, hl with | [_, _, _], _ => rfl
def N_is_block : List Str := ["value", "previous_symbols", "symbols"]
theorem sc_is_block : FnScope N_is_block ["value", "previous_symbols"] (defScope s_is_block) := ⟨rfl, rfl, rfl, by decide +kernel, rfl, by decide +kernel, by decide +kernel⟩
def w_is_block : Fn := fnW 2 3
    (gSeq (gIf (tOr (tNot (tE (eCallP w_is_sequence (aDef (aCons (eVar 0) aNil) [])))) (tOr (tE (eBin dNe (eFn fLen (aCons (eVar 0) aNil)) (eC g_BLOCK_FIELDS))) (tNot (tE (eCallP w_is_distances (aDef (aCons (eBin dIx (eVar 0) (eC (.int 0))) aNil) [])))))) (gRet (eC (.bl false))) gNext)
    (gSeq (gIf (tNot (tE (eChain dLe dLe (eC (.int 1)) (eFn fLen (aCons (eBin dIx (eVar 0) (eC (.int 0))) aNil)) (eC g_MOST_BLOCK_LENGTH)))) (gRet (eC (.bl false))) gNext)
    (gSeq (gAsg (eMt isLst mCount (eFn fList (aCons (eBin dIx (eVar 0) (eC (.int 0))) aNil)) (aCons (eC (.int 0)) aNil)) (gtName 2))
    (gSeq (gIf (tOr (tNot (tE (eCallP w_is_mapping (aDef (aCons (eBin dIx (eVar 0) (eC (.int 1))) (aCons (eVar 2) (aCons (eVar 1) aNil))) [])))) (tNot (tE (eCallP w_is_mapping (aDef (aCons (eBin dIx (eVar 0) (eC (.int 2))) (aCons (eVar 2) (aCons (eVar 2) aNil))) []))))) (gRet (eC (.bl false))) gNext)
    (gRet (eCallP w_is_integer (aDef (aCons (eBin dIx (eVar 0) (eC (.int 3))) (aCons (eC (.int 1)) (aCons (eC g_MOST_REPETITIONS) aNil))) [])))))))
theorem t_is_block (T : Txt K mg) : FnT P w K mg base (L2.CX P w) 4 "is_block" "is_block" s_is_block [] ["value", "previous_symbols"] (spW K mg false w_is_block) :=
  T.d_is_block.fn (N := N_is_block) (O := []) (On := []) (L := []) (k := 3) sc_is_block (by decide) fun f cdv A outer s H E hgu hr =>
    have hN : N_is_block.Nodup := sc_is_block.nd
    (dss_cons (ds_if (dt_w (dw_or (dt_not (dt_val (ce_callP (c_is_sequence_1 T) hgu (hr.mono (by decide)) (by rfl) (passes_call (takes_of rfl rfl rfl rfl) fun _ _ _ _ h => h) (da_cons (de_eff (de_var 0 (by decide) (pv 0))) (da_eff da_nil))))) (dw_or (dt_cmp (op_neA hr.units) s_ne (de_b (de_blt call_lenA s_len (by rfl) T.n_len boot_len (dab_cons (de_b (de_eff (de_var 0 (by decide) (pv 0)))) (dab_eff dab_nil)))) (de_b (de_eff (de_globT (by rfl) T.g_BLOCK_FIELDS))) rfl) (dw_or1 (dt_not (dt_val (ce_callP (c_is_distances_1 T) hgu (hr.mono (by decide)) (by rfl) (passes_call (takes_of rfl rfl rfl rfl) fun _ _ _ _ h => h) (da_cons (de_ix ix_seq s_ix (de_b (de_eff (de_var 0 (by decide) (pv 0)))) (de_b (de_eff de_int)) (by intro _ _; rfl)) (da_eff da_nil))))))))) (dss_one (ds_ret (de_eff de_bl))) dss_nil)
    (dss_cons (ds_if (dt_not (dt_chain op_le (s_cmp _) op_le (s_cmp _) (de_b (de_eff de_int)) (de_b (de_blt call_lenA s_len (by rfl) T.n_len boot_len (dab_cons (de_b (de_ix ix_seq s_ix (de_b (de_eff (de_var 0 (by decide) (pv 0)))) (de_b (de_eff de_int)) (by intro _ _; rfl))) (dab_eff dab_nil)))) (de_b (de_eff (de_globT (by rfl) T.g_MOST_BLOCK_LENGTH))))) (dss_one (ds_ret (de_eff de_bl))) dss_nil)
    (dss_cons (ds_set (by decide) hN rfl (.inl rfl) (de_mt PySem.F.plainAttrs_list PySem.F.slot_list_count PySem.F.type_list_count mt_lcount s_count ty_lst (de_b (dn_e (dn_ty call_list_of n_list (by rfl) T.n_list boot_list (dab_cons (de_b (de_ix ix_seq s_ix (de_b (de_eff (de_var 0 (by decide) (pv 0)))) (de_b (de_eff de_int)) (by intro _ _; rfl))) (dab_eff dab_nil))))) (dab_cons (de_b (de_eff de_int)) (dab_eff dab_nil)) (fun h _ h2 => pe_bm PySem.F.plainAttrs_list PySem.F.slot_list_count PySem.F.type_list_count mt_lcount h2 h)))
    (dss_cons (ds_if (dt_w (dw_or (dt_not (dt_val (ce_callP (c_is_mapping_3 T) hgu (hr.mono (by decide)) (by rfl) (passes_call (takes_of rfl rfl rfl rfl) fun _ _ _ _ h => h) (da_cons (de_ix ix_seq s_ix (de_b (de_eff (de_var 0 (by decide) (pv 0)))) (de_b (de_eff de_int)) (by intro _ _; rfl)) (da_cons (de_eff (de_var 2 (by decide) (pv 2))) (da_cons (de_eff (de_var 1 (by decide) (pv 1))) (da_eff da_nil))))))) (dw_or1 (dt_not (dt_val (ce_callP (c_is_mapping_3 T) hgu (hr.mono (by decide)) (by rfl) (passes_call (takes_of rfl rfl rfl rfl) fun _ _ _ _ h => h) (da_cons (de_ix ix_seq s_ix (de_b (de_eff (de_var 0 (by decide) (pv 0)))) (de_b (de_eff de_int)) (by intro _ _; rfl)) (da_cons (de_eff (de_var 2 (by decide) (pv 2))) (da_cons (de_eff (de_var 2 (by decide) (pv 2))) (da_eff da_nil)))))))))) (dss_one (ds_ret (de_eff de_bl))) dss_nil)
    (dss_one (ds_ret (ce_callP (c_is_integer_3 T) hgu (hr.mono (by decide)) (by rfl) (passes_call (takes_of rfl rfl rfl rfl) fun _ _ _ _ h => h) (da_cons (de_ix ix_seq s_ix (de_b (de_eff (de_var 0 (by decide) (pv 0)))) (de_b (de_eff de_int)) (by intro _ _; rfl)) (da_cons (de_eff de_int) (da_cons (de_eff (de_globT (by rfl) T.g_MOST_REPETITIONS)) (da_eff da_nil)))))))))))
theorem c_is_block_2 (T : Txt K mg) : CalG P w K mg base (L2.CX P w) 4 "is_block" (spW K mg false w_is_block) [] [] := (t_is_block T).call fun _ _ _ _ _ _ us hl => match us, hl with | [_, _], _ => rfl
def N_is_compressed : List Str := ["value", "symbols", "block"]
theorem sc_is_compressed : FnScope N_is_compressed ["value"] (defScope s_is_compressed) := ⟨rfl, rfl, rfl, by decide +kernel, rfl, by decide +kernel, by decide +kernel⟩
def w_is_compressed : Fn := fnW 1 3
    (gSeq (gIf (tOr (tNot (tE (eCallP w_is_sequence (aDef (aCons (eVar 0) aNil) [])))) (tNot (tE (eChain dLe dLe (eC (.int 1)) (eFn fLen (aCons (eVar 0) aNil)) (eC g_MOST_BLOCKS))))) (gRet (eC (.bl false))) gNext)
    (gSeq (gAsg (eC (.int 0)) (gtName 1))
    (gSeq (gFor (iSeq (eVar 0)) (gtName 2) (gSeq (gIf (tNot (tE (eCallP w_is_block (aDef (aCons (eVar 2) (aCons (eVar 1) aNil)) [])))) (gRet (eC (.bl false))) gNext)
    (gAsg (eMt isLst mCount (eFn fList (aCons (eBin dIx (eVar 2) (eC (.int 0))) aNil)) (aCons (eC (.int 0)) aNil)) (gtName 1))))
    (gRet (eC (.bl true))))))
theorem t_is_compressed (T : Txt K mg) : FnT P w K mg base (L2.CX P w) 5 "is_compressed" "is_compressed" s_is_compressed [] ["value"] (spW K mg false w_is_compressed) :=
  T.d_is_compressed.fn (N := N_is_compressed) (O := []) (On := []) (L := []) (k := 4) sc_is_compressed (by decide) fun f cdv A outer s H E hgu hr =>
    have hN : N_is_compressed.Nodup := sc_is_compressed.nd
    (dss_cons (ds_if (dt_w (dw_or (dt_not (dt_val (ce_callP (c_is_sequence_1 T) hgu (hr.mono (by decide)) (by rfl) (passes_call (takes_of rfl rfl rfl rfl) fun _ _ _ _ h => h) (da_cons (de_eff (de_var 0 (by decide) (pv 0))) (da_eff da_nil))))) (dw_or1 (dt_not (dt_chain op_le (s_cmp _) op_le (s_cmp _) (de_b (de_eff de_int)) (de_b (de_blt call_lenA s_len (by rfl) T.n_len boot_len (dab_cons (de_b (de_eff (de_var 0 (by decide) (pv 0)))) (dab_eff dab_nil)))) (de_b (de_eff (de_globT (by rfl) T.g_MOST_BLOCKS)))))))) (dss_one (ds_ret (de_eff de_bl))) dss_nil)
    (dss_cons (ds_set (by decide) hN rfl (.inl rfl) (de_eff de_int))
    (dss_cons (ds_for (passes_of rfl) rfl (di_seq (de_eff (de_var 0 (by decide) (pv 0)))) (dg_name (by decide) (pg_name hN rfl (.inl rfl))) (dss_cons (ds_if (dt_not (dt_val (ce_callP (c_is_block_2 T) hgu (hr.mono (by decide)) (by rfl) (passes_call (takes_of rfl rfl rfl rfl) fun _ _ _ _ h => h) (da_cons (de_eff (de_var 2 (by decide) (pv 2))) (da_cons (de_eff (de_var 1 (by decide) (pv 1))) (da_eff da_nil)))))) (dss_one (ds_ret (de_eff de_bl))) dss_nil)
    (dss_one (ds_set (by decide) hN rfl (.inl rfl) (de_mt PySem.F.plainAttrs_list PySem.F.slot_list_count PySem.F.type_list_count mt_lcount s_count ty_lst (de_b (dn_e (dn_ty call_list_of n_list (by rfl) T.n_list boot_list (dab_cons (de_b (de_ix ix_seq s_ix (de_b (de_eff (de_var 2 (by decide) (pv 2)))) (de_b (de_eff de_int)) (by intro _ _; rfl))) (dab_eff dab_nil))))) (dab_cons (de_b (de_eff de_int)) (dab_eff dab_nil)) (fun h _ h2 => pe_bm PySem.F.plainAttrs_list PySem.F.slot_list_count PySem.F.type_list_count mt_lcount h2 h))))))
    (dss_one (ds_ret (de_eff de_bl))))))
theorem c_is_compressed_1 (T : Txt K mg) : CalG P w K mg base (L2.CX P w) 5 "is_compressed" (spW K mg false w_is_compressed) [] [] := (t_is_compressed T).call fun _ _ _ _ _ _ us hl => match us, hl with | [_], _ => rfl
def N_mapping_text : List Str := ["mapping", "own", "other"]
theorem sc_mapping_text : FnScope N_mapping_text ["mapping"] (defScope s_mapping_text) := ⟨rfl, rfl, rfl, by decide +kernel, rfl, by decide +kernel, by decide +kernel⟩
def w_mapping_text : Fn := fnW 1 3
    (gRet (eIf (tE (eBin dGt (eFn fLen (aCons (eVar 0) aNil)) (eC (.int 0)))) (eMt isStr mJoin (eC (.str " ")) (aCons (eLc (iSeq (eVar 0)) [1, 2] (gtTup 2 (gtCons (gtName 1) (gtCons (gtName 2) gtNil))) tYes (eJn [(eUn dFmt (eVar 1)), (eC (.str ">")), (eUn dFmt (eVar 2))] Str.empty)) aNil)) (eC g_EMPTY_MAPPING)))
theorem t_mapping_text (T : Txt K mg) : FnT P w K mg base (L2.CX P w) 1 "mapping_text" "mapping_text" s_mapping_text [] ["mapping"] (spW K mg false w_mapping_text) :=
  T.d_mapping_text.fn (N := N_mapping_text) (O := []) (On := []) (L := []) (k := 0) sc_mapping_text (by decide) fun f cdv A outer s H E hgu hr =>
    have hN : N_mapping_text.Nodup := sc_mapping_text.nd
    (dss_one (ds_ret (de_if (dt_cmp op_gt (s_cmp _) (de_b (de_blt call_lenA s_len (by rfl) T.n_len boot_len (dab_cons (de_b (de_eff (de_var 0 (by decide) (pv 0)))) (dab_eff dab_nil)))) (de_b (de_eff de_int)) rfl) (de_mt PySem.F.plainAttrs_str PySem.F.slot_str_join PySem.F.type_str_join mt_join s_join ty_str (de_b (de_eff de_str)) (dab_cons (de_b (dn_e (dn_lc (ownN := [("own", 1), ("other", 2)]) (E1 := E0) rfl hN (di_seq (de_eff (de_var 0 (by decide) (pv 0)))) (blkOk_by (N := N_mapping_text) (sc := defScope s_mapping_text) (by decide +kernel)) rfl (by decide) (fun _ _ _ _ _ => (dgc_tup rfl (dgcs_cons (dgc_name (by decide) (by decide) (pg_name hN rfl (.inl rfl))) (dgcs_cons (dgc_name (by decide) (by decide) (pg_name hN rfl (.inl rfl))) dgcs_nil)))) (fun _ _ _ _ _ => dts_nil) (fun _ _ _ _ _ => (de_joined (.cons (de_fmt (de_eff (de_var 1 (by decide) (pv 1)))) (.cons (de_eff de_str) (.cons (de_fmt (de_eff (de_var 2 (by decide) (pv 2)))) .nil)))))))) (dab_eff dab_nil)) (fun h _ h2 => pe_bm PySem.F.plainAttrs_str PySem.F.slot_str_join PySem.F.type_str_join mt_join h2 h)) (de_eff (de_globT (by rfl) T.g_EMPTY_MAPPING)))))
theorem c_mapping_text_1 (T : Txt K mg) : CalG P w K mg base (L2.CX P w) 1 "mapping_text" (spW K mg false w_mapping_text) [] [] := (t_mapping_text T).call fun _ _ _ _ _ _ us hl => match us, hl with | [_], _ => rfl
def N_block_text : List Str := ["block", "distances", "link", "turn", "count"]
theorem sc_block_text : FnScope N_block_text ["block"] (defScope s_block_text) := ⟨rfl, rfl, rfl, by decide +kernel, rfl, by decide +kernel, by decide +kernel⟩
def w_block_text : Fn := fnW 1 5
    (gSeq (gAsg (eVar 0) (gtTup 4 (gtCons (gtName 1) (gtCons (gtName 2) (gtCons (gtName 3) (gtCons (gtName 4) gtNil))))))
    (gRet (eJn [(eUn dFmt (eCallP w_list_text (aDef (aCons (eVar 1) aNil) []))), (eC (.str " / ")), (eUn dFmt (eCallP w_mapping_text (aDef (aCons (eVar 2) aNil) []))), (eC (.str " / ")), (eUn dFmt (eCallP w_mapping_text (aDef (aCons (eVar 3) aNil) []))), (eC (.str " x ")), (eUn dFmt (eVar 4))] Str.empty)))
theorem t_block_text (T : Txt K mg) : FnT P w K mg base (L2.CX P w) 2 "block_text" "block_text" s_block_text [] ["block"] (spW K mg false w_block_text) :=
  T.d_block_text.fn (N := N_block_text) (O := []) (On := []) (L := []) (k := 1) sc_block_text (by decide) fun f cdv A outer s H E hgu hr =>
    have hN : N_block_text.Nodup := sc_block_text.nd
    (dss_cons (ds_asg (de_eff (de_var 0 (by decide) (pv 0))) (dg_tup rfl (dgs_cons (dg_name (by decide) (pg_name hN rfl (.inl rfl))) (dgs_cons (dg_name (by decide) (pg_name hN rfl (.inl rfl))) (dgs_cons (dg_name (by decide) (pg_name hN rfl (.inl rfl))) (dgs_cons (dg_name (by decide) (pg_name hN rfl (.inl rfl))) dgs_nil))))))
    (dss_one (ds_ret (de_joined (.cons (de_fmt (ce_callP (c_list_text_1 T) hgu (hr.mono (by decide)) (by rfl) (passes_call (takes_of rfl rfl rfl rfl) fun _ _ _ _ h => h) (da_cons (de_eff (de_var 1 (by decide) (pv 1))) (da_eff da_nil)))) (.cons (de_eff de_str) (.cons (de_fmt (ce_callP (c_mapping_text_1 T) hgu (hr.mono (by decide)) (by rfl) (passes_call (takes_of rfl rfl rfl rfl) fun _ _ _ _ h => h) (da_cons (de_eff (de_var 2 (by decide) (pv 2))) (da_eff da_nil)))) (.cons (de_eff de_str) (.cons (de_fmt (ce_callP (c_mapping_text_1 T) hgu (hr.mono (by decide)) (by rfl) (passes_call (takes_of rfl rfl rfl rfl) fun _ _ _ _ h => h) (da_cons (de_eff (de_var 3 (by decide) (pv 3))) (da_eff da_nil)))) (.cons (de_eff de_str) (.cons (de_fmt (de_eff (de_var 4 (by decide) (pv 4)))) .nil)))))))))))
theorem c_block_text_1 (T : Txt K mg) : CalG P w K mg base (L2.CX P w) 2 "block_text" (spW K mg false w_block_text) [] [] := (t_block_text T).call fun _ _ _ _ _ _ us hl => match us, hl with | [_], _ => rfl
def N_format_sequence : List Str := ["sequence", "block"]
theorem sc_format_sequence : FnScope N_format_sequence ["sequence"] (defScope s_format_sequence) := ⟨rfl, rfl, rfl, by decide +kernel, rfl, by decide +kernel, by decide +kernel⟩
def w_format_sequence : Fn := fnW 1 2
    (gSeq (gIf (tNot (tE (eCallP w_is_compressed (aDef (aCons (eVar 0) aNil) [])))) (gRaise "InvalidSequence") gNext)
    (gRet (eMt isStr mJoin (eC (.str "; ")) (aCons (eLc (iSeq (eVar 0)) [1] (gtName 1) tYes (eCallP w_block_text (aDef (aCons (eVar 1) aNil) []))) aNil))))
theorem t_format_sequence (T : Txt K mg) : FnT P w K mg base (L2.CX P w) 6 "format_sequence" "format_sequence" s_format_sequence [] ["sequence"] (spW K mg false w_format_sequence) :=
  T.d_format_sequence.fn (N := N_format_sequence) (O := []) (On := []) (L := []) (k := 5) sc_format_sequence (by decide) fun f cdv A outer s H E hgu hr =>
    have hN : N_format_sequence.Nodup := sc_format_sequence.nd
    (dss_cons (ds_if (dt_not (dt_val (ce_callP (c_is_compressed_1 T) hgu (hr.mono (by decide)) (by rfl) (passes_call (takes_of rfl rfl rfl rfl) fun _ _ _ _ h => h) (da_cons (de_eff (de_var 0 (by decide) (pv 0))) (da_eff da_nil))))) (dss_one (ds_raise T.x_InvalidSequence (by rfl) (takes_of rfl rfl rfl rfl) (by rfl))) dss_nil)
    (dss_one (ds_ret (de_mt PySem.F.plainAttrs_str PySem.F.slot_str_join PySem.F.type_str_join mt_join s_join ty_str (de_b (de_eff de_str)) (dab_cons (de_b (dn_e (dn_lc (ownN := [("block", 1)]) (E1 := E0) rfl hN (di_seq (de_eff (de_var 0 (by decide) (pv 0)))) (blkOk_by (N := N_format_sequence) (sc := defScope s_format_sequence) (by decide +kernel)) rfl (by decide) (fun _ _ _ _ _ => (dgc_name (by decide) (by decide) (pg_name hN rfl (.inl rfl)))) (fun _ _ _ _ _ => dts_nil) (fun _ _ _ _ _ => (ce_callP (c_block_text_1 T) hgu (hr.mono (by decide)) (by rfl) passC (da_cons (de_eff (de_var 1 (by decide) (pv 1))) (da_eff da_nil))))))) (dab_eff dab_nil)) (fun h _ h2 => pe_bm PySem.F.plainAttrs_str PySem.F.slot_str_join PySem.F.type_str_join mt_join h2 h)))))
theorem c_format_sequence_1 (T : Txt K mg) : CalG P w K mg base (L2.CX P w) 6 "format_sequence" (spW K mg false w_format_sequence) [] [] := (t_format_sequence T).call fun _ _ _ _ _ _ us hl => match us, hl with | [_], _ => rfl
def N__law_asked : List Str := ["_law_value", "_law_is_list", "_law_caught", "e"]
theorem sc__law_asked : FnScope N__law_asked ["_law_value", "_law_is_list"] (defScope s__law_asked) := ⟨rfl, rfl, rfl, by decide +kernel, rfl, by decide +kernel, by decide +kernel⟩
def w__law_asked : Fn := fnW 2 4
    (gSeq (gAsg (eC .non) (gtName 2))
    (gSeq (gTry (gIf (tTru (eVar 1)) (gExpr (eCallP w_format_distances (aDef (aCons (eVar 0) aNil) []))) (gExpr (eCallP w_format_sequence (aDef (aCons (eVar 0) aNil) [])))) 3 m_HowFarBackError (gAsg (eVar 3) (gtName 2)))
    (gRet (eIf (tE (eBin dIs (eVar 2) (eC .non))) (eC (.str "none")) (eCall w__law_class (aDef (aCons (eVar 2) aNil) []))))))
theorem t__law_asked (T : Txt K mg) : FnT P w K mg base (L2.CX P w) 7 "_law_asked" "_law_asked" s__law_asked [] ["_law_value", "_law_is_list"] (spW K mg false w__law_asked) :=
  T.d__law_asked.fn (N := N__law_asked) (O := []) (On := []) (L := []) (k := 6) sc__law_asked (by decide) fun f cdv A outer s H E hgu hr =>
    have hN : N__law_asked.Nodup := sc__law_asked.nd
    (dss_cons (ds_set (by decide) hN rfl (.inl rfl) (de_eff de_non))
    (dss_cons (ds_tryN rfl rfl rfl hN rfl rfl T.m_HowFarBackError (by rfl) (takes_of rfl rfl rfl rfl) (fun W pn xe tk _ => (dssv_one (dsv_if (dt_tru (de_b (de_eff (de_var 1 (by decide) (pv 1))))) (dssv_one (dsv_expr (cev_callP (c_format_distances_1 T) hgu (hr.mono (by decide)) (by rfl) (fun σ => passAt tk σ) (da_cons (de_eff (de_var 0 (by decide) (pv 0))) (da_eff da_nil))))) (dssv_one (dsv_expr (cev_callP (c_format_sequence_1 T) hgu (hr.mono (by decide)) (by rfl) (fun σ => passAt tk σ) (da_cons (de_eff (de_var 0 (by decide) (pv 0))) (da_eff da_nil)))))))) (fun a pn => (dss_one (ds_set (by decide) hN rfl (.inl rfl) (de_eff (de_var 3 (by decide) (pv 3)))))))
    (dss_one (ds_ret (de_if (dt_cmp op_isA s_is (de_b (de_eff (de_var 2 (by decide) (pv 2)))) (de_b (de_eff de_non)) rfl) (de_eff de_str) (ce_call (c__law_class_1 T) hgu (hr.mono (by decide)) (by rfl) (passes_call (takes_of rfl rfl rfl rfl) fun _ _ _ _ h => h) (da_cons (de_eff (de_var 2 (by decide) (pv 2))) (da_eff da_nil))))))))
theorem u__law_asked (T : Txt K mg) : FnT P w K mg base (L2.CX P w) 7 "_law_asked" "_law_asked" s__law_asked [] ["_law_value", "_law_is_list"] (spW K mg false (fnSub w__law_asked)) := (t__law_asked T).imp spW_sub
theorem c__law_asked_2 (T : Txt K mg) : CalG P w K mg base (L2.CX P w) 7 "_law_asked" (spW K mg false (fnSub w__law_asked)) [] [] := (u__law_asked T).call fun _ _ _ _ _ _ us hl => match us, hl with | [_, _], _ => rfl
def N_law : List Str := ["_law_script", "_law_spring_here", "_law_turn", "_law_again", "_law_sequence_here", "_law_values", "_law_before", "_law_value", "_law_is_list", "_law_due"]
theorem sc_law : FnScope N_law ["_law_script"] (defScope s_law) := ⟨rfl, rfl, rfl, by decide +kernel, rfl, by decide +kernel, by decide +kernel⟩
def w_law : Fn := fnW 1 10
    (gSeq (gAsg (eCall (sprBox w__law_spring) (aDef (aCons (eVar 0) aNil) [])) (gtName 1))
    (gSeq (gFor (iRng1 (eBin dAdd (eC (.int 2)) (eFn fMin (aCons (eFn fLen (aCons (eVar 0) aNil)) (aCons (eC (.int 8)) aNil))))) (gtName 2) (gFor (iRng1 (eC (.int 4))) (gtName 3) (gDrop [5] (gSeq (gAsg (eCall w__law_sequence (aDef (aCons (eVar 1) (aCons (eC (.int 4)) aNil)) [])) (gtName 4))
    (gSeq (gAsg (eLst (aCons (eTup (aCons (eCall w__law_no_distances (aDef (aCons (eVar 1) aNil) [])) (aCons (eC (.bl true)) (aCons (eC (.str "InvalidDistances")) aNil)))) (aCons (eTup (aCons (eVar 4) (aCons (eC (.bl false)) (aCons (eC (.str "none")) aNil)))) aNil))) (gtName 5))
    (gSeq (gOwn 5 isLst oAppend (aCons (eTup (aCons (eCall w__law_changed (aDef (aCons (eVar 1) (aCons (eVar 4) aNil)) [])) (aCons (eC (.bl false)) (aCons (eC (.str "InvalidSequence")) aNil)))) aNil))
    (gSeq (gOwn 5 isLst oAppend (aCons (eTup (aCons (eCallP w__law_distances (aDef (aCons (eCall w__law_symbols (aDef (aCons (eVar 1) (aCons (eC (.int 9)) aNil)) [])) aNil) [])) (aCons (eC (.bl true)) (aCons (eC (.str "none")) aNil)))) aNil))
    (gSeq (gAsg (eFn fReprX (aCons (eVar 5) aNil)) (gtName 6))
    (gFor (iSeq (eVar 5)) (gtTup 3 (gtCons (gtName 7) (gtCons (gtName 8) (gtCons (gtName 9) gtNil)))) (gIf (tOr (tE (eBin dNe (eCall (fnSub w__law_asked) (aDef (aCons (eVar 7) (aCons (eVar 8) aNil)) [])) (eVar 9))) (tE (eBin dNe (eFn fReprX (aCons (eVar 5) aNil)) (eVar 6)))) (gRet (eC (.bl false))) gNext))))))))))
    (gRet (eC (.bl true)))))
theorem t_law (T : Txt K mg) : FnT P w K mg base (L2.CX P w) 8 "law" "law" s_law [] ["_law_script"] (spW K mg false w_law) :=
  T.d_law.fn (N := N_law) (O := [5]) (On := [5]) (L := [5]) (k := 7) sc_law (by decide) fun f cdv A outer s H E hgu hr =>
    have hN : N_law.Nodup := sc_law.nd
    (dss_cons (ds_set (by decide) hN rfl (.inl rfl) (ce_call (c__law_spring_1 T) hgu (hr.mono (by decide)) (by rfl) (passes_call (takes_of rfl rfl rfl rfl) fun _ _ _ _ h => h) (da_cons (de_eff (de_var 0 (by decide) (pv 0))) (da_eff da_nil))))
    (dss_cons (ds_for (passes_of rfl) rfl (di_rng1 (by rfl) T.n_range (de_bin op_addA s_add (de_b (de_eff de_int)) (de_b (de_blt (call_min2 rfl) s_min (by rfl) T.n_min (by decide +kernel) (dab_cons (de_b (de_blt call_lenA s_len (by rfl) T.n_len boot_len (dab_cons (de_b (de_eff (de_var 0 (by decide) (pv 0)))) (dab_eff dab_nil)))) (dab_cons (de_b (de_eff de_int)) (dab_eff dab_nil))))))) (dg_name (by decide) (pg_name hN rfl (.inl rfl))) (dss_one (ds_for (passes_of rfl) rfl (di_rng1 (by rfl) T.n_range (de_eff de_int)) (dg_name (by decide) (pg_name hN rfl (.inl rfl))) (dss_drop [5] (by intro i hi; simp [drp] at *; try omega) (by intro i hi; simp [drp] at *; try omega) rfl (dss_cons (ds_set (by decide) hN rfl (.inl rfl) (ce_call (c__law_sequence_2 T) hgu (hr.mono (by decide)) (by rfl) (passes_call (takes_of rfl rfl rfl rfl) fun _ _ _ _ h => h) (da_cons (de_eff (de_var 1 (by decide) (pv 1))) (da_cons (de_eff de_int) (da_eff da_nil)))))
    (dss_cons (ds_own (by decide) hN rfl (.inl rfl) (dn_lst (da_cons (de_tup (da_cons (ce_call (c__law_no_distances_1 T) hgu (hr.mono (by decide)) (by rfl) (passes_call (takes_of rfl rfl rfl rfl) fun _ _ _ _ h => h) (da_cons (de_eff (de_var 1 (by decide) (pv 1))) (da_eff da_nil))) (da_cons (de_eff de_bl) (da_cons (de_eff de_str) (da_eff da_nil))))) (da_cons (de_tup (da_cons (de_eff (de_var 4 (by decide) (pv 4))) (da_cons (de_eff de_bl) (da_cons (de_eff de_str) (da_eff da_nil))))) (da_eff da_nil)))))
    (dss_cons (ds_ownM (by decide) o_append tyo_lst (pv 5) (da_cons (de_tup (da_cons (ce_call (c__law_changed_2 T) hgu (hr.mono (by decide)) (by rfl) (passes_call (takes_of rfl rfl rfl rfl) fun _ _ _ _ h => h) (da_cons (de_eff (de_var 1 (by decide) (pv 1))) (da_cons (de_eff (de_var 4 (by decide) (pv 4))) (da_eff da_nil)))) (da_cons (de_eff de_bl) (da_cons (de_eff de_str) (da_eff da_nil))))) (da_eff da_nil)) (fun h h2 => pe_bm PySem.F.plainAttrs_list PySem.F.slot_list_append PySem.F.type_list_append mt_append h2 h))
    (dss_cons (ds_ownM (by decide) o_append tyo_lst (pv 5) (da_cons (de_tup (da_cons (ce_callP (c__law_distances_1 T) hgu (hr.mono (by decide)) (by rfl) (passes_call (takes_of rfl rfl rfl rfl) fun _ _ _ _ h => h) (da_cons (ce_call (c__law_symbols_2 T) hgu (hr.mono (by decide)) (by rfl) (passes_call (takes_of rfl rfl rfl rfl) fun _ _ _ _ h => h) (da_cons (de_eff (de_var 1 (by decide) (pv 1))) (da_cons (de_eff de_int) (da_eff da_nil)))) (da_eff da_nil))) (da_cons (de_eff de_bl) (da_cons (de_eff de_str) (da_eff da_nil))))) (da_eff da_nil)) (fun h h2 => pe_bm PySem.F.plainAttrs_list PySem.F.slot_list_append PySem.F.type_list_append mt_append h2 h))
    (dss_cons (ds_set (by decide) hN rfl (.inl rfl) (de_blt (call_reprX hgu hr.u70) s_reprX (by rfl) T.n_repr (by decide +kernel) (dab_cons (db_eff (db_var 5 (by decide) (pv 5))) (dab_eff dab_nil))))
    (dss_freeze 5 (dss_one (ds_for (passes_of rfl) rfl (di_seq (de_eff (de_var 5 (by decide) (pv 5)))) (dg_tup rfl (dgs_cons (dg_name (by decide) (pg_name hN rfl (.inl rfl))) (dgs_cons (dg_name (by decide) (pg_name hN rfl (.inl rfl))) (dgs_cons (dg_name (by decide) (pg_name hN rfl (.inl rfl))) dgs_nil)))) (dss_one (ds_if (dt_w (dw_or (dt_cmp (op_neA hr.units) s_ne (de_b (ce_call (c__law_asked_2 T) hgu (hr.mono (by decide)) (by rfl) (passes_call (takes_of rfl rfl rfl rfl) fun _ _ _ _ h => h) (da_cons (de_eff (de_var 7 (by decide) (pv 7))) (da_cons (de_eff (de_var 8 (by decide) (pv 8))) (da_eff da_nil))))) (de_b (de_eff (de_var 9 (by decide) (pv 9)))) rfl) (dw_or1 (dt_cmp (op_neA hr.units) s_ne (de_b (de_blt (call_reprX hgu hr.u70) s_reprX (by rfl) T.n_repr (by decide +kernel) (dab_cons (de_b (de_eff (de_var 5 (by decide) (pv 5)))) (dab_eff dab_nil)))) (de_b (de_eff (de_var 6 (by decide) (pv 6)))) rfl)))) (dss_one (ds_ret (de_eff de_bl))) dss_nil))))))))))))))
    (dss_one (ds_ret (de_eff de_bl)))))
end
theorem all_mk {K : PySem.W.Frag} {h : Heap} {mg : Str → Option Value} (X : K.In h) (G : h.Ns mainGlobals mg)
    {f_x__law_spring : Addr} {o1_x__law_spring o3_x__law_spring : Option Addr} {o2_x__law_spring : Array (Option Value)} {v1_x__law_spring v2_x__law_spring v3_x__law_spring v4_x__law_spring v5_x__law_spring v6_x__law_spring : Value}
    (a_x__law_spring : PySem.W.nsIn K mainGlobals "_law_spring" = some (some (.ref f_x__law_spring)))
    (l_x__law_spring : K.lookup f_x__law_spring = some ⟨v1_x__law_spring, o1_x__law_spring, .func (PySem.W.fnOf "_law_spring" "_law_spring" (defArgs s__law_spring) (defBody s__law_spring) (defScope s__law_spring) .none v2_x__law_spring v3_x__law_spring v4_x__law_spring o3_x__law_spring v5_x__law_spring v6_x__law_spring), o2_x__law_spring⟩)
    (c_x__law_spring : PySem.W.codeIn K v5_x__law_spring "_law_spring" = true)
    (k_x__law_spring : PySem.W.keepIn K (.ref f_x__law_spring) = true)
    {f_x__law_draw : Addr} {o1_x__law_draw o3_x__law_draw : Option Addr} {o2_x__law_draw : Array (Option Value)} {v1_x__law_draw v2_x__law_draw v3_x__law_draw v4_x__law_draw v5_x__law_draw v6_x__law_draw : Value}
    (a_x__law_draw : PySem.W.nsIn K mainGlobals "_law_draw" = some (some (.ref f_x__law_draw)))
    (l_x__law_draw : K.lookup f_x__law_draw = some ⟨v1_x__law_draw, o1_x__law_draw, .func (PySem.W.fnOf "_law_draw" "_law_draw" (defArgs s__law_draw) (defBody s__law_draw) (defScope s__law_draw) .none v2_x__law_draw v3_x__law_draw v4_x__law_draw o3_x__law_draw v5_x__law_draw v6_x__law_draw), o2_x__law_draw⟩)
    (c_x__law_draw : PySem.W.codeIn K v5_x__law_draw "_law_draw" = true)
    (k_x__law_draw : PySem.W.keepIn K (.ref f_x__law_draw) = true)
    {f_x__law_mapping : Addr} {o1_x__law_mapping o3_x__law_mapping : Option Addr} {o2_x__law_mapping : Array (Option Value)} {v1_x__law_mapping v2_x__law_mapping v3_x__law_mapping v4_x__law_mapping v5_x__law_mapping v6_x__law_mapping : Value}
    (a_x__law_mapping : PySem.W.nsIn K mainGlobals "_law_mapping" = some (some (.ref f_x__law_mapping)))
    (l_x__law_mapping : K.lookup f_x__law_mapping = some ⟨v1_x__law_mapping, o1_x__law_mapping, .func (PySem.W.fnOf "_law_mapping" "_law_mapping" (defArgs s__law_mapping) (defBody s__law_mapping) (defScope s__law_mapping) .none v2_x__law_mapping v3_x__law_mapping v4_x__law_mapping o3_x__law_mapping v5_x__law_mapping v6_x__law_mapping), o2_x__law_mapping⟩)
    (c_x__law_mapping : PySem.W.codeIn K v5_x__law_mapping "_law_mapping" = true)
    (k_x__law_mapping : PySem.W.keepIn K (.ref f_x__law_mapping) = true)
    {f_x__law_symbols : Addr} {o1_x__law_symbols o3_x__law_symbols : Option Addr} {o2_x__law_symbols : Array (Option Value)} {v1_x__law_symbols v2_x__law_symbols v3_x__law_symbols v4_x__law_symbols v5_x__law_symbols v6_x__law_symbols : Value}
    (a_x__law_symbols : PySem.W.nsIn K mainGlobals "_law_symbols" = some (some (.ref f_x__law_symbols)))
    (l_x__law_symbols : K.lookup f_x__law_symbols = some ⟨v1_x__law_symbols, o1_x__law_symbols, .func (PySem.W.fnOf "_law_symbols" "_law_symbols" (defArgs s__law_symbols) (defBody s__law_symbols) (defScope s__law_symbols) .none v2_x__law_symbols v3_x__law_symbols v4_x__law_symbols o3_x__law_symbols v5_x__law_symbols v6_x__law_symbols), o2_x__law_symbols⟩)
    (c_x__law_symbols : PySem.W.codeIn K v5_x__law_symbols "_law_symbols" = true)
    (k_x__law_symbols : PySem.W.keepIn K (.ref f_x__law_symbols) = true)
    {f_x__law_distances : Addr} {o1_x__law_distances o3_x__law_distances : Option Addr} {o2_x__law_distances : Array (Option Value)} {v1_x__law_distances v2_x__law_distances v3_x__law_distances v4_x__law_distances v5_x__law_distances v6_x__law_distances : Value}
    (a_x__law_distances : PySem.W.nsIn K mainGlobals "_law_distances" = some (some (.ref f_x__law_distances)))
    (l_x__law_distances : K.lookup f_x__law_distances = some ⟨v1_x__law_distances, o1_x__law_distances, .func (PySem.W.fnOf "_law_distances" "_law_distances" (defArgs s__law_distances) (defBody s__law_distances) (defScope s__law_distances) .none v2_x__law_distances v3_x__law_distances v4_x__law_distances o3_x__law_distances v5_x__law_distances v6_x__law_distances), o2_x__law_distances⟩)
    (c_x__law_distances : PySem.W.codeIn K v5_x__law_distances "_law_distances" = true)
    (k_x__law_distances : PySem.W.keepIn K (.ref f_x__law_distances) = true)
    {f_x__law_sequence : Addr} {o1_x__law_sequence o3_x__law_sequence : Option Addr} {o2_x__law_sequence : Array (Option Value)} {v1_x__law_sequence v2_x__law_sequence v3_x__law_sequence v4_x__law_sequence v5_x__law_sequence v6_x__law_sequence : Value}
    (a_x__law_sequence : PySem.W.nsIn K mainGlobals "_law_sequence" = some (some (.ref f_x__law_sequence)))
    (l_x__law_sequence : K.lookup f_x__law_sequence = some ⟨v1_x__law_sequence, o1_x__law_sequence, .func (PySem.W.fnOf "_law_sequence" "_law_sequence" (defArgs s__law_sequence) (defBody s__law_sequence) (defScope s__law_sequence) .none v2_x__law_sequence v3_x__law_sequence v4_x__law_sequence o3_x__law_sequence v5_x__law_sequence v6_x__law_sequence), o2_x__law_sequence⟩)
    (c_x__law_sequence : PySem.W.codeIn K v5_x__law_sequence "_law_sequence" = true)
    (k_x__law_sequence : PySem.W.keepIn K (.ref f_x__law_sequence) = true)
    {f_x__law_no_distances : Addr} {o1_x__law_no_distances o3_x__law_no_distances : Option Addr} {o2_x__law_no_distances : Array (Option Value)} {v1_x__law_no_distances v2_x__law_no_distances v3_x__law_no_distances v4_x__law_no_distances v5_x__law_no_distances v6_x__law_no_distances : Value}
    (a_x__law_no_distances : PySem.W.nsIn K mainGlobals "_law_no_distances" = some (some (.ref f_x__law_no_distances)))
    (l_x__law_no_distances : K.lookup f_x__law_no_distances = some ⟨v1_x__law_no_distances, o1_x__law_no_distances, .func (PySem.W.fnOf "_law_no_distances" "_law_no_distances" (defArgs s__law_no_distances) (defBody s__law_no_distances) (defScope s__law_no_distances) .none v2_x__law_no_distances v3_x__law_no_distances v4_x__law_no_distances o3_x__law_no_distances v5_x__law_no_distances v6_x__law_no_distances), o2_x__law_no_distances⟩)
    (c_x__law_no_distances : PySem.W.codeIn K v5_x__law_no_distances "_law_no_distances" = true)
    (k_x__law_no_distances : PySem.W.keepIn K (.ref f_x__law_no_distances) = true)
    {f_x__law_changed : Addr} {o1_x__law_changed o3_x__law_changed : Option Addr} {o2_x__law_changed : Array (Option Value)} {v1_x__law_changed v2_x__law_changed v3_x__law_changed v4_x__law_changed v5_x__law_changed v6_x__law_changed : Value}
    (a_x__law_changed : PySem.W.nsIn K mainGlobals "_law_changed" = some (some (.ref f_x__law_changed)))
    (l_x__law_changed : K.lookup f_x__law_changed = some ⟨v1_x__law_changed, o1_x__law_changed, .func (PySem.W.fnOf "_law_changed" "_law_changed" (defArgs s__law_changed) (defBody s__law_changed) (defScope s__law_changed) .none v2_x__law_changed v3_x__law_changed v4_x__law_changed o3_x__law_changed v5_x__law_changed v6_x__law_changed), o2_x__law_changed⟩)
    (c_x__law_changed : PySem.W.codeIn K v5_x__law_changed "_law_changed" = true)
    (k_x__law_changed : PySem.W.keepIn K (.ref f_x__law_changed) = true)
    {f_x__law_class : Addr} {o1_x__law_class o3_x__law_class : Option Addr} {o2_x__law_class : Array (Option Value)} {v1_x__law_class v2_x__law_class v3_x__law_class v4_x__law_class v5_x__law_class v6_x__law_class : Value}
    (a_x__law_class : PySem.W.nsIn K mainGlobals "_law_class" = some (some (.ref f_x__law_class)))
    (l_x__law_class : K.lookup f_x__law_class = some ⟨v1_x__law_class, o1_x__law_class, .func (PySem.W.fnOf "_law_class" "_law_class" (defArgs s__law_class) (defBody s__law_class) (defScope s__law_class) .none v2_x__law_class v3_x__law_class v4_x__law_class o3_x__law_class v5_x__law_class v6_x__law_class), o2_x__law_class⟩)
    (c_x__law_class : PySem.W.codeIn K v5_x__law_class "_law_class" = true)
    (k_x__law_class : PySem.W.keepIn K (.ref f_x__law_class) = true)
    {f_x_list_text : Addr} {o1_x_list_text o3_x_list_text : Option Addr} {o2_x_list_text : Array (Option Value)} {v1_x_list_text v2_x_list_text v3_x_list_text v4_x_list_text v5_x_list_text v6_x_list_text : Value}
    (a_x_list_text : PySem.W.nsIn K mainGlobals "list_text" = some (some (.ref f_x_list_text)))
    (l_x_list_text : K.lookup f_x_list_text = some ⟨v1_x_list_text, o1_x_list_text, .func (PySem.W.fnOf "list_text" "list_text" (defArgs s_list_text) (defBody s_list_text) (defScope s_list_text) .none v2_x_list_text v3_x_list_text v4_x_list_text o3_x_list_text v5_x_list_text v6_x_list_text), o2_x_list_text⟩)
    (c_x_list_text : PySem.W.codeIn K v5_x_list_text "list_text" = true)
    (k_x_list_text : PySem.W.keepIn K (.ref f_x_list_text) = true)
    {f_x_is_sequence : Addr} {o1_x_is_sequence o3_x_is_sequence : Option Addr} {o2_x_is_sequence : Array (Option Value)} {v1_x_is_sequence v2_x_is_sequence v3_x_is_sequence v4_x_is_sequence v5_x_is_sequence v6_x_is_sequence : Value}
    (a_x_is_sequence : PySem.W.nsIn K mainGlobals "is_sequence" = some (some (.ref f_x_is_sequence)))
    (l_x_is_sequence : K.lookup f_x_is_sequence = some ⟨v1_x_is_sequence, o1_x_is_sequence, .func (PySem.W.fnOf "is_sequence" "is_sequence" (defArgs s_is_sequence) (defBody s_is_sequence) (defScope s_is_sequence) .none v2_x_is_sequence v3_x_is_sequence v4_x_is_sequence o3_x_is_sequence v5_x_is_sequence v6_x_is_sequence), o2_x_is_sequence⟩)
    (c_x_is_sequence : PySem.W.codeIn K v5_x_is_sequence "is_sequence" = true)
    (k_x_is_sequence : PySem.W.keepIn K (.ref f_x_is_sequence) = true)
    {f_x_is_integer : Addr} {o1_x_is_integer o3_x_is_integer : Option Addr} {o2_x_is_integer : Array (Option Value)} {v1_x_is_integer v2_x_is_integer v3_x_is_integer v4_x_is_integer v5_x_is_integer v6_x_is_integer : Value} {t_x_is_integer : Addr} {oc_x_is_integer : Value} {od_x_is_integer : Option Addr} {n_x_is_integer : Nat} {os_x_is_integer : Array (Option Value)}
    (a_x_is_integer : PySem.W.nsIn K mainGlobals "is_integer" = some (some (.ref f_x_is_integer)))
    (l_x_is_integer : K.lookup f_x_is_integer = some ⟨v1_x_is_integer, o1_x_is_integer, .func (PySem.W.fnOf "is_integer" "is_integer" (defArgs s_is_integer) (defBody s_is_integer) (defScope s_is_integer) (.ref t_x_is_integer) v2_x_is_integer v3_x_is_integer v4_x_is_integer o3_x_is_integer v5_x_is_integer v6_x_is_integer), o2_x_is_integer⟩)
    (d_x_is_integer : K.lookup t_x_is_integer = some ⟨oc_x_is_integer, od_x_is_integer, .seq #[.none] n_x_is_integer, os_x_is_integer⟩)
    (c_x_is_integer : PySem.W.codeIn K v5_x_is_integer "is_integer" = true)
    (k_x_is_integer : PySem.W.keepIn K (.ref f_x_is_integer) = true)
    {f_x_is_distances : Addr} {o1_x_is_distances o3_x_is_distances : Option Addr} {o2_x_is_distances : Array (Option Value)} {v1_x_is_distances v2_x_is_distances v3_x_is_distances v4_x_is_distances v5_x_is_distances v6_x_is_distances : Value}
    (a_x_is_distances : PySem.W.nsIn K mainGlobals "is_distances" = some (some (.ref f_x_is_distances)))
    (l_x_is_distances : K.lookup f_x_is_distances = some ⟨v1_x_is_distances, o1_x_is_distances, .func (PySem.W.fnOf "is_distances" "is_distances" (defArgs s_is_distances) (defBody s_is_distances) (defScope s_is_distances) .none v2_x_is_distances v3_x_is_distances v4_x_is_distances o3_x_is_distances v5_x_is_distances v6_x_is_distances), o2_x_is_distances⟩)
    (c_x_is_distances : PySem.W.codeIn K v5_x_is_distances "is_distances" = true)
    (k_x_is_distances : PySem.W.keepIn K (.ref f_x_is_distances) = true)
    {f_x_format_distances : Addr} {o1_x_format_distances o3_x_format_distances : Option Addr} {o2_x_format_distances : Array (Option Value)} {v1_x_format_distances v2_x_format_distances v3_x_format_distances v4_x_format_distances v5_x_format_distances v6_x_format_distances : Value}
    (a_x_format_distances : PySem.W.nsIn K mainGlobals "format_distances" = some (some (.ref f_x_format_distances)))
    (l_x_format_distances : K.lookup f_x_format_distances = some ⟨v1_x_format_distances, o1_x_format_distances, .func (PySem.W.fnOf "format_distances" "format_distances" (defArgs s_format_distances) (defBody s_format_distances) (defScope s_format_distances) .none v2_x_format_distances v3_x_format_distances v4_x_format_distances o3_x_format_distances v5_x_format_distances v6_x_format_distances), o2_x_format_distances⟩)
    (c_x_format_distances : PySem.W.codeIn K v5_x_format_distances "format_distances" = true)
    (k_x_format_distances : PySem.W.keepIn K (.ref f_x_format_distances) = true)
    {f_x_is_pair : Addr} {o1_x_is_pair o3_x_is_pair : Option Addr} {o2_x_is_pair : Array (Option Value)} {v1_x_is_pair v2_x_is_pair v3_x_is_pair v4_x_is_pair v5_x_is_pair v6_x_is_pair : Value}
    (a_x_is_pair : PySem.W.nsIn K mainGlobals "is_pair" = some (some (.ref f_x_is_pair)))
    (l_x_is_pair : K.lookup f_x_is_pair = some ⟨v1_x_is_pair, o1_x_is_pair, .func (PySem.W.fnOf "is_pair" "is_pair" (defArgs s_is_pair) (defBody s_is_pair) (defScope s_is_pair) .none v2_x_is_pair v3_x_is_pair v4_x_is_pair o3_x_is_pair v5_x_is_pair v6_x_is_pair), o2_x_is_pair⟩)
    (c_x_is_pair : PySem.W.codeIn K v5_x_is_pair "is_pair" = true)
    (k_x_is_pair : PySem.W.keepIn K (.ref f_x_is_pair) = true)
    {f_x_is_mapping : Addr} {o1_x_is_mapping o3_x_is_mapping : Option Addr} {o2_x_is_mapping : Array (Option Value)} {v1_x_is_mapping v2_x_is_mapping v3_x_is_mapping v4_x_is_mapping v5_x_is_mapping v6_x_is_mapping : Value}
    (a_x_is_mapping : PySem.W.nsIn K mainGlobals "is_mapping" = some (some (.ref f_x_is_mapping)))
    (l_x_is_mapping : K.lookup f_x_is_mapping = some ⟨v1_x_is_mapping, o1_x_is_mapping, .func (PySem.W.fnOf "is_mapping" "is_mapping" (defArgs s_is_mapping) (defBody s_is_mapping) (defScope s_is_mapping) .none v2_x_is_mapping v3_x_is_mapping v4_x_is_mapping o3_x_is_mapping v5_x_is_mapping v6_x_is_mapping), o2_x_is_mapping⟩)
    (c_x_is_mapping : PySem.W.codeIn K v5_x_is_mapping "is_mapping" = true)
    (k_x_is_mapping : PySem.W.keepIn K (.ref f_x_is_mapping) = true)
    {f_x_is_block : Addr} {o1_x_is_block o3_x_is_block : Option Addr} {o2_x_is_block : Array (Option Value)} {v1_x_is_block v2_x_is_block v3_x_is_block v4_x_is_block v5_x_is_block v6_x_is_block : Value}
    (a_x_is_block : PySem.W.nsIn K mainGlobals "is_block" = some (some (.ref f_x_is_block)))
    (l_x_is_block : K.lookup f_x_is_block = some ⟨v1_x_is_block, o1_x_is_block, .func (PySem.W.fnOf "is_block" "is_block" (defArgs s_is_block) (defBody s_is_block) (defScope s_is_block) .none v2_x_is_block v3_x_is_block v4_x_is_block o3_x_is_block v5_x_is_block v6_x_is_block), o2_x_is_block⟩)
    (c_x_is_block : PySem.W.codeIn K v5_x_is_block "is_block" = true)
    (k_x_is_block : PySem.W.keepIn K (.ref f_x_is_block) = true)
    {f_x_is_compressed : Addr} {o1_x_is_compressed o3_x_is_compressed : Option Addr} {o2_x_is_compressed : Array (Option Value)} {v1_x_is_compressed v2_x_is_compressed v3_x_is_compressed v4_x_is_compressed v5_x_is_compressed v6_x_is_compressed : Value}
    (a_x_is_compressed : PySem.W.nsIn K mainGlobals "is_compressed" = some (some (.ref f_x_is_compressed)))
    (l_x_is_compressed : K.lookup f_x_is_compressed = some ⟨v1_x_is_compressed, o1_x_is_compressed, .func (PySem.W.fnOf "is_compressed" "is_compressed" (defArgs s_is_compressed) (defBody s_is_compressed) (defScope s_is_compressed) .none v2_x_is_compressed v3_x_is_compressed v4_x_is_compressed o3_x_is_compressed v5_x_is_compressed v6_x_is_compressed), o2_x_is_compressed⟩)
    (c_x_is_compressed : PySem.W.codeIn K v5_x_is_compressed "is_compressed" = true)
    (k_x_is_compressed : PySem.W.keepIn K (.ref f_x_is_compressed) = true)
    {f_x_mapping_text : Addr} {o1_x_mapping_text o3_x_mapping_text : Option Addr} {o2_x_mapping_text : Array (Option Value)} {v1_x_mapping_text v2_x_mapping_text v3_x_mapping_text v4_x_mapping_text v5_x_mapping_text v6_x_mapping_text : Value}
    (a_x_mapping_text : PySem.W.nsIn K mainGlobals "mapping_text" = some (some (.ref f_x_mapping_text)))
    (l_x_mapping_text : K.lookup f_x_mapping_text = some ⟨v1_x_mapping_text, o1_x_mapping_text, .func (PySem.W.fnOf "mapping_text" "mapping_text" (defArgs s_mapping_text) (defBody s_mapping_text) (defScope s_mapping_text) .none v2_x_mapping_text v3_x_mapping_text v4_x_mapping_text o3_x_mapping_text v5_x_mapping_text v6_x_mapping_text), o2_x_mapping_text⟩)
    (c_x_mapping_text : PySem.W.codeIn K v5_x_mapping_text "mapping_text" = true)
    (k_x_mapping_text : PySem.W.keepIn K (.ref f_x_mapping_text) = true)
    {f_x_block_text : Addr} {o1_x_block_text o3_x_block_text : Option Addr} {o2_x_block_text : Array (Option Value)} {v1_x_block_text v2_x_block_text v3_x_block_text v4_x_block_text v5_x_block_text v6_x_block_text : Value}
    (a_x_block_text : PySem.W.nsIn K mainGlobals "block_text" = some (some (.ref f_x_block_text)))
    (l_x_block_text : K.lookup f_x_block_text = some ⟨v1_x_block_text, o1_x_block_text, .func (PySem.W.fnOf "block_text" "block_text" (defArgs s_block_text) (defBody s_block_text) (defScope s_block_text) .none v2_x_block_text v3_x_block_text v4_x_block_text o3_x_block_text v5_x_block_text v6_x_block_text), o2_x_block_text⟩)
    (c_x_block_text : PySem.W.codeIn K v5_x_block_text "block_text" = true)
    (k_x_block_text : PySem.W.keepIn K (.ref f_x_block_text) = true)
    {f_x_format_sequence : Addr} {o1_x_format_sequence o3_x_format_sequence : Option Addr} {o2_x_format_sequence : Array (Option Value)} {v1_x_format_sequence v2_x_format_sequence v3_x_format_sequence v4_x_format_sequence v5_x_format_sequence v6_x_format_sequence : Value}
    (a_x_format_sequence : PySem.W.nsIn K mainGlobals "format_sequence" = some (some (.ref f_x_format_sequence)))
    (l_x_format_sequence : K.lookup f_x_format_sequence = some ⟨v1_x_format_sequence, o1_x_format_sequence, .func (PySem.W.fnOf "format_sequence" "format_sequence" (defArgs s_format_sequence) (defBody s_format_sequence) (defScope s_format_sequence) .none v2_x_format_sequence v3_x_format_sequence v4_x_format_sequence o3_x_format_sequence v5_x_format_sequence v6_x_format_sequence), o2_x_format_sequence⟩)
    (c_x_format_sequence : PySem.W.codeIn K v5_x_format_sequence "format_sequence" = true)
    (k_x_format_sequence : PySem.W.keepIn K (.ref f_x_format_sequence) = true)
    {f_x__law_asked : Addr} {o1_x__law_asked o3_x__law_asked : Option Addr} {o2_x__law_asked : Array (Option Value)} {v1_x__law_asked v2_x__law_asked v3_x__law_asked v4_x__law_asked v5_x__law_asked v6_x__law_asked : Value}
    (a_x__law_asked : PySem.W.nsIn K mainGlobals "_law_asked" = some (some (.ref f_x__law_asked)))
    (l_x__law_asked : K.lookup f_x__law_asked = some ⟨v1_x__law_asked, o1_x__law_asked, .func (PySem.W.fnOf "_law_asked" "_law_asked" (defArgs s__law_asked) (defBody s__law_asked) (defScope s__law_asked) .none v2_x__law_asked v3_x__law_asked v4_x__law_asked o3_x__law_asked v5_x__law_asked v6_x__law_asked), o2_x__law_asked⟩)
    (c_x__law_asked : PySem.W.codeIn K v5_x__law_asked "_law_asked" = true)
    (k_x__law_asked : PySem.W.keepIn K (.ref f_x__law_asked) = true)
    {f_x_law : Addr} {o1_x_law o3_x_law : Option Addr} {o2_x_law : Array (Option Value)} {v1_x_law v2_x_law v3_x_law v4_x_law v5_x_law v6_x_law : Value}
    (a_x_law : PySem.W.nsIn K mainGlobals "law" = some (some (.ref f_x_law)))
    (l_x_law : K.lookup f_x_law = some ⟨v1_x_law, o1_x_law, .func (PySem.W.fnOf "law" "law" (defArgs s_law) (defBody s_law) (defScope s_law) .none v2_x_law v3_x_law v4_x_law o3_x_law v5_x_law v6_x_law), o2_x_law⟩)
    (c_x_law : PySem.W.codeIn K v5_x_law "law" = true)
    (k_x_law : PySem.W.keepIn K (.ref f_x_law) = true)
    {t_g_BLOCK_FIELDS : Tok} (g_BLOCK_FIELDS : PySem.W.nsIn K mainGlobals "BLOCK_FIELDS" = some (some (.int 4 t_g_BLOCK_FIELDS)))
    {t_g_EMPTY_LIST : Tok} (g_EMPTY_LIST : PySem.W.nsIn K mainGlobals "EMPTY_LIST" = some (some (.str "none" t_g_EMPTY_LIST)))
    {t_g_EMPTY_MAPPING : Tok} (g_EMPTY_MAPPING : PySem.W.nsIn K mainGlobals "EMPTY_MAPPING" = some (some (.str "-" t_g_EMPTY_MAPPING)))
    {t_g_MAX_POSITIONS : Tok} (g_MAX_POSITIONS : PySem.W.nsIn K mainGlobals "MAX_POSITIONS" = some (some (.int 400 t_g_MAX_POSITIONS)))
    {t_g_MOST_BLOCKS : Tok} (g_MOST_BLOCKS : PySem.W.nsIn K mainGlobals "MOST_BLOCKS" = some (some (.int 8 t_g_MOST_BLOCKS)))
    {t_g_MOST_BLOCK_LENGTH : Tok} (g_MOST_BLOCK_LENGTH : PySem.W.nsIn K mainGlobals "MOST_BLOCK_LENGTH" = some (some (.int 40 t_g_MOST_BLOCK_LENGTH)))
    {t_g_MOST_REPETITIONS : Tok} (g_MOST_REPETITIONS : PySem.W.nsIn K mainGlobals "MOST_REPETITIONS" = some (some (.int 1000000000000000000000000000000 t_g_MOST_REPETITIONS)))
    {x_InvalidDistances : Addr} (a_x_InvalidDistances : PySem.W.nsIn K mainGlobals "InvalidDistances" = some (some (.ref x_InvalidDistances)))
    {x_InvalidSequence : Addr} (a_x_InvalidSequence : PySem.W.nsIn K mainGlobals "InvalidSequence" = some (some (.ref x_InvalidSequence)))
    {x_Inconsistent : Addr} (a_x_Inconsistent : PySem.W.nsIn K mainGlobals "Inconsistent" = some (some (.ref x_Inconsistent)))
    {x_InvalidFacts : Addr} (a_x_InvalidFacts : PySem.W.nsIn K mainGlobals "InvalidFacts" = some (some (.ref x_InvalidFacts)))
    {x_InvalidNumber : Addr} (a_x_InvalidNumber : PySem.W.nsIn K mainGlobals "InvalidNumber" = some (some (.ref x_InvalidNumber)))
    {x_InvalidPosition : Addr} (a_x_InvalidPosition : PySem.W.nsIn K mainGlobals "InvalidPosition" = some (some (.ref x_InvalidPosition)))
    {x_ParseError : Addr} (a_x_ParseError : PySem.W.nsIn K mainGlobals "ParseError" = some (some (.ref x_ParseError)))
    {x_InvalidCommand : Addr} (a_x_InvalidCommand : PySem.W.nsIn K mainGlobals "InvalidCommand" = some (some (.ref x_InvalidCommand)))
    {x_InvalidMapping : Addr} (a_x_InvalidMapping : PySem.W.nsIn K mainGlobals "InvalidMapping" = some (some (.ref x_InvalidMapping)))
    {x_InvalidPattern : Addr} (a_x_InvalidPattern : PySem.W.nsIn K mainGlobals "InvalidPattern" = some (some (.ref x_InvalidPattern)))
    {x_InvalidRanks : Addr} (a_x_InvalidRanks : PySem.W.nsIn K mainGlobals "InvalidRanks" = some (some (.ref x_InvalidRanks)))
    {x_InvalidSymbols : Addr} (a_x_InvalidSymbols : PySem.W.nsIn K mainGlobals "InvalidSymbols" = some (some (.ref x_InvalidSymbols)))
    {x_NothingToUndo : Addr} (a_x_NothingToUndo : PySem.W.nsIn K mainGlobals "NothingToUndo" = some (some (.ref x_NothingToUndo)))
    {x_TooLong : Addr} (a_x_TooLong : PySem.W.nsIn K mainGlobals "TooLong" = some (some (.ref x_TooLong)))
    {x_UnknownMark : Addr} (a_x_UnknownMark : PySem.W.nsIn K mainGlobals "UnknownMark" = some (some (.ref x_UnknownMark)))
    {x_UnknownSymbol : Addr} (a_x_UnknownSymbol : PySem.W.nsIn K mainGlobals "UnknownSymbol" = some (some (.ref x_UnknownSymbol)))
    {x_HowFarBackError : Addr} (a_x_HowFarBackError : PySem.W.nsIn K mainGlobals "HowFarBackError" = some (some (.ref x_HowFarBackError)))
    (xe_InvalidDistances : PySem.W.excIn K x_InvalidDistances HandSPX.veTail "ValueError.__new__" = true)
    (e1_InvalidDistances : PySem.W.keepIn K (.ref x_InvalidDistances) = true)
    (e2_InvalidDistances : PySem.W.subIn K (.ref x_InvalidDistances) (.type "BaseException") = some true)
    (e3_InvalidDistances : PySem.W.typeIn K (.ref x_InvalidDistances) = some (.type "type"))
    (f1_InvalidDistances : PySem.W.findIn K (.ref x_InvalidDistances) "__getattribute__" = some (some (.builtin "BaseException.__getattribute__")))
    (f2_InvalidDistances : PySem.W.findIn K (.ref x_InvalidDistances) "__getattr__" = some none)
    (f4_InvalidDistances : PySem.W.hasDictIn K x_InvalidDistances = true)
    (f5_InvalidDistances : PySem.W.findIn K (.ref x_InvalidDistances) "__class__" = some (some (.builtin "object.__class__")))
    (f8_InvalidDistances : PySem.W.mroIn K x_InvalidDistances (.type "object") = some true)
    (xe_InvalidSequence : PySem.W.excIn K x_InvalidSequence HandSPX.veTail "ValueError.__new__" = true)
    (e1_InvalidSequence : PySem.W.keepIn K (.ref x_InvalidSequence) = true)
    (e2_InvalidSequence : PySem.W.subIn K (.ref x_InvalidSequence) (.type "BaseException") = some true)
    (e3_InvalidSequence : PySem.W.typeIn K (.ref x_InvalidSequence) = some (.type "type"))
    (f1_InvalidSequence : PySem.W.findIn K (.ref x_InvalidSequence) "__getattribute__" = some (some (.builtin "BaseException.__getattribute__")))
    (f2_InvalidSequence : PySem.W.findIn K (.ref x_InvalidSequence) "__getattr__" = some none)
    (f4_InvalidSequence : PySem.W.hasDictIn K x_InvalidSequence = true)
    (f5_InvalidSequence : PySem.W.findIn K (.ref x_InvalidSequence) "__class__" = some (some (.builtin "object.__class__")))
    (f8_InvalidSequence : PySem.W.mroIn K x_InvalidSequence (.type "object") = some true)
    (fn_ : PySem.W.specialIn K (.builtin "object.__class__") "__get__" = some (some (.builtin "getset_descriptor.__get__")))
    (ft_ : PySem.W.takesIn K (.builtin "object.__class__") = some true)
    (k_Inconsistent_InvalidSequence : PySem.W.kitOne K (.ref x_InvalidSequence) (.ref x_Inconsistent) = some false)
    (k_Inconsistent_InvalidDistances : PySem.W.kitOne K (.ref x_InvalidDistances) (.ref x_Inconsistent) = some false)
    (k_InvalidDistances_InvalidSequence : PySem.W.kitOne K (.ref x_InvalidSequence) (.ref x_InvalidDistances) = some false)
    (k_InvalidDistances_InvalidDistances : PySem.W.kitOne K (.ref x_InvalidDistances) (.ref x_InvalidDistances) = some true)
    (k_InvalidFacts_InvalidSequence : PySem.W.kitOne K (.ref x_InvalidSequence) (.ref x_InvalidFacts) = some false)
    (k_InvalidFacts_InvalidDistances : PySem.W.kitOne K (.ref x_InvalidDistances) (.ref x_InvalidFacts) = some false)
    (k_InvalidNumber_InvalidSequence : PySem.W.kitOne K (.ref x_InvalidSequence) (.ref x_InvalidNumber) = some false)
    (k_InvalidNumber_InvalidDistances : PySem.W.kitOne K (.ref x_InvalidDistances) (.ref x_InvalidNumber) = some false)
    (k_InvalidPosition_InvalidSequence : PySem.W.kitOne K (.ref x_InvalidSequence) (.ref x_InvalidPosition) = some false)
    (k_InvalidPosition_InvalidDistances : PySem.W.kitOne K (.ref x_InvalidDistances) (.ref x_InvalidPosition) = some false)
    (k_InvalidSequence_InvalidSequence : PySem.W.kitOne K (.ref x_InvalidSequence) (.ref x_InvalidSequence) = some true)
    (k_InvalidSequence_InvalidDistances : PySem.W.kitOne K (.ref x_InvalidDistances) (.ref x_InvalidSequence) = some false)
    (k_ParseError_InvalidSequence : PySem.W.kitOne K (.ref x_InvalidSequence) (.ref x_ParseError) = some false)
    (k_ParseError_InvalidDistances : PySem.W.kitOne K (.ref x_InvalidDistances) (.ref x_ParseError) = some false)
    (k_tup7_InvalidSequence : PySem.W.kitAny K (.ref x_InvalidSequence) [.ref x_InvalidCommand, .ref x_InvalidMapping, .ref x_InvalidPattern, .ref x_InvalidRanks, .ref x_InvalidSymbols] = some false)
    (k_tup7_InvalidDistances : PySem.W.kitAny K (.ref x_InvalidDistances) [.ref x_InvalidCommand, .ref x_InvalidMapping, .ref x_InvalidPattern, .ref x_InvalidRanks, .ref x_InvalidSymbols] = some false)
    (k_tup8_InvalidSequence : PySem.W.kitAny K (.ref x_InvalidSequence) [.ref x_NothingToUndo, .ref x_TooLong, .ref x_UnknownMark, .ref x_UnknownSymbol] = some false)
    (k_tup8_InvalidDistances : PySem.W.kitAny K (.ref x_InvalidDistances) [.ref x_NothingToUndo, .ref x_TooLong, .ref x_UnknownMark, .ref x_UnknownSymbol] = some false)
    (k_ValueError_InvalidSequence : PySem.W.kitOne K (.ref x_InvalidSequence) (.type "ValueError") = some true)
    (k_ValueError_InvalidDistances : PySem.W.kitOne K (.ref x_InvalidDistances) (.type "ValueError") = some true)
    (k_HowFarBackError_InvalidSequence : PySem.W.kitOne K (.ref x_InvalidSequence) (.ref x_HowFarBackError) = some true)
    (k_HowFarBackError_InvalidDistances : PySem.W.kitOne K (.ref x_InvalidDistances) (.ref x_HowFarBackError) = some true)
    (d1_HowFarBackError : PySem.W.subIn K (.ref x_HowFarBackError) (.type "BaseException") = some true)
    (d2_HowFarBackError : PySem.W.hasDictIn K x_HowFarBackError = true)
    (d3_HowFarBackError : PySem.W.typeIn K (.ref x_HowFarBackError) = some (.type "type"))
    (d4_HowFarBackError_InvalidSequence : PySem.W.subIn K (.ref x_InvalidSequence) (.ref x_HowFarBackError) = some true)
    (d4_HowFarBackError_InvalidDistances : PySem.W.subIn K (.ref x_InvalidDistances) (.ref x_HowFarBackError) = some true)
    (z_ValueError : PySem.W.nsIn K mainGlobals "ValueError" = some none)
    (z_abs : PySem.W.nsIn K mainGlobals "abs" = some none)
    (z_all : PySem.W.nsIn K mainGlobals "all" = some none)
    (z_bool : PySem.W.nsIn K mainGlobals "bool" = some none)
    (z_enumerate : PySem.W.nsIn K mainGlobals "enumerate" = some none)
    (z_int : PySem.W.nsIn K mainGlobals "int" = some none)
    (z_isinstance : PySem.W.nsIn K mainGlobals "isinstance" = some none)
    (z_len : PySem.W.nsIn K mainGlobals "len" = some none)
    (z_list : PySem.W.nsIn K mainGlobals "list" = some none)
    (z_min : PySem.W.nsIn K mainGlobals "min" = some none)
    (z_range : PySem.W.nsIn K mainGlobals "range" = some none)
    (z_repr : PySem.W.nsIn K mainGlobals "repr" = some none)
    (z_set : PySem.W.nsIn K mainGlobals "set" = some none)
    (z_str : PySem.W.nsIn K mainGlobals "str" = some none)
    (z_tuple : PySem.W.nsIn K mainGlobals "tuple" = some none)
    (z_zip : PySem.W.nsIn K mainGlobals "zip" = some none) : Txt K mg :=
  ⟨⟨⟨_, _, ⟨⟨_, _, _, _, _, _, _, _, _, _, rfl, l_x__law_spring, c_x__law_spring, .inl ⟨rfl, rfl⟩, .inl rfl⟩, k_x__law_spring⟩, PySem.W.mg_of X G a_x__law_spring⟩⟩,
   ⟨⟨_, _, ⟨⟨_, _, _, _, _, _, _, _, _, _, rfl, l_x__law_draw, c_x__law_draw, .inl ⟨rfl, rfl⟩, .inl rfl⟩, k_x__law_draw⟩, PySem.W.mg_of X G a_x__law_draw⟩⟩,
   ⟨⟨_, _, ⟨⟨_, _, _, _, _, _, _, _, _, _, rfl, l_x__law_mapping, c_x__law_mapping, .inl ⟨rfl, rfl⟩, .inl rfl⟩, k_x__law_mapping⟩, PySem.W.mg_of X G a_x__law_mapping⟩⟩,
   ⟨⟨_, _, ⟨⟨_, _, _, _, _, _, _, _, _, _, rfl, l_x__law_symbols, c_x__law_symbols, .inl ⟨rfl, rfl⟩, .inl rfl⟩, k_x__law_symbols⟩, PySem.W.mg_of X G a_x__law_symbols⟩⟩,
   ⟨⟨_, _, ⟨⟨_, _, _, _, _, _, _, _, _, _, rfl, l_x__law_distances, c_x__law_distances, .inl ⟨rfl, rfl⟩, .inl rfl⟩, k_x__law_distances⟩, PySem.W.mg_of X G a_x__law_distances⟩⟩,
   ⟨⟨_, _, ⟨⟨_, _, _, _, _, _, _, _, _, _, rfl, l_x__law_sequence, c_x__law_sequence, .inl ⟨rfl, rfl⟩, .inl rfl⟩, k_x__law_sequence⟩, PySem.W.mg_of X G a_x__law_sequence⟩⟩,
   ⟨⟨_, _, ⟨⟨_, _, _, _, _, _, _, _, _, _, rfl, l_x__law_no_distances, c_x__law_no_distances, .inl ⟨rfl, rfl⟩, .inl rfl⟩, k_x__law_no_distances⟩, PySem.W.mg_of X G a_x__law_no_distances⟩⟩,
   ⟨⟨_, _, ⟨⟨_, _, _, _, _, _, _, _, _, _, rfl, l_x__law_changed, c_x__law_changed, .inl ⟨rfl, rfl⟩, .inl rfl⟩, k_x__law_changed⟩, PySem.W.mg_of X G a_x__law_changed⟩⟩,
   ⟨⟨_, _, ⟨⟨_, _, _, _, _, _, _, _, _, _, rfl, l_x__law_class, c_x__law_class, .inl ⟨rfl, rfl⟩, .inl rfl⟩, k_x__law_class⟩, PySem.W.mg_of X G a_x__law_class⟩⟩,
   ⟨⟨_, _, ⟨⟨_, _, _, _, _, _, _, _, _, _, rfl, l_x_list_text, c_x_list_text, .inl ⟨rfl, rfl⟩, .inl rfl⟩, k_x_list_text⟩, PySem.W.mg_of X G a_x_list_text⟩⟩,
   ⟨⟨_, _, ⟨⟨_, _, _, _, _, _, _, _, _, _, rfl, l_x_is_sequence, c_x_is_sequence, .inl ⟨rfl, rfl⟩, .inl rfl⟩, k_x_is_sequence⟩, PySem.W.mg_of X G a_x_is_sequence⟩⟩,
   ⟨⟨_, _, ⟨⟨_, _, _, _, _, _, _, _, _, _, rfl, l_x_is_integer, c_x_is_integer, .inr ⟨by simp, t_x_is_integer, _, [.none], n_x_is_integer, rfl, d_x_is_integer, rfl, (.cons rfl .nil)⟩, .inl rfl⟩, k_x_is_integer⟩, PySem.W.mg_of X G a_x_is_integer⟩⟩,
   ⟨⟨_, _, ⟨⟨_, _, _, _, _, _, _, _, _, _, rfl, l_x_is_distances, c_x_is_distances, .inl ⟨rfl, rfl⟩, .inl rfl⟩, k_x_is_distances⟩, PySem.W.mg_of X G a_x_is_distances⟩⟩,
   ⟨⟨_, _, ⟨⟨_, _, _, _, _, _, _, _, _, _, rfl, l_x_format_distances, c_x_format_distances, .inl ⟨rfl, rfl⟩, .inl rfl⟩, k_x_format_distances⟩, PySem.W.mg_of X G a_x_format_distances⟩⟩,
   ⟨⟨_, _, ⟨⟨_, _, _, _, _, _, _, _, _, _, rfl, l_x_is_pair, c_x_is_pair, .inl ⟨rfl, rfl⟩, .inl rfl⟩, k_x_is_pair⟩, PySem.W.mg_of X G a_x_is_pair⟩⟩,
   ⟨⟨_, _, ⟨⟨_, _, _, _, _, _, _, _, _, _, rfl, l_x_is_mapping, c_x_is_mapping, .inl ⟨rfl, rfl⟩, .inl rfl⟩, k_x_is_mapping⟩, PySem.W.mg_of X G a_x_is_mapping⟩⟩,
   ⟨⟨_, _, ⟨⟨_, _, _, _, _, _, _, _, _, _, rfl, l_x_is_block, c_x_is_block, .inl ⟨rfl, rfl⟩, .inl rfl⟩, k_x_is_block⟩, PySem.W.mg_of X G a_x_is_block⟩⟩,
   ⟨⟨_, _, ⟨⟨_, _, _, _, _, _, _, _, _, _, rfl, l_x_is_compressed, c_x_is_compressed, .inl ⟨rfl, rfl⟩, .inl rfl⟩, k_x_is_compressed⟩, PySem.W.mg_of X G a_x_is_compressed⟩⟩,
   ⟨⟨_, _, ⟨⟨_, _, _, _, _, _, _, _, _, _, rfl, l_x_mapping_text, c_x_mapping_text, .inl ⟨rfl, rfl⟩, .inl rfl⟩, k_x_mapping_text⟩, PySem.W.mg_of X G a_x_mapping_text⟩⟩,
   ⟨⟨_, _, ⟨⟨_, _, _, _, _, _, _, _, _, _, rfl, l_x_block_text, c_x_block_text, .inl ⟨rfl, rfl⟩, .inl rfl⟩, k_x_block_text⟩, PySem.W.mg_of X G a_x_block_text⟩⟩,
   ⟨⟨_, _, ⟨⟨_, _, _, _, _, _, _, _, _, _, rfl, l_x_format_sequence, c_x_format_sequence, .inl ⟨rfl, rfl⟩, .inl rfl⟩, k_x_format_sequence⟩, PySem.W.mg_of X G a_x_format_sequence⟩⟩,
   ⟨⟨_, _, ⟨⟨_, _, _, _, _, _, _, _, _, _, rfl, l_x__law_asked, c_x__law_asked, .inl ⟨rfl, rfl⟩, .inl rfl⟩, k_x__law_asked⟩, PySem.W.mg_of X G a_x__law_asked⟩⟩,
   ⟨⟨_, _, ⟨⟨_, _, _, _, _, _, _, _, _, _, rfl, l_x_law, c_x_law, .inl ⟨rfl, rfl⟩, .inl rfl⟩, k_x_law⟩, PySem.W.mg_of X G a_x_law⟩⟩,
   ⟨.int 4, _, PySem.W.mg_of X G g_BLOCK_FIELDS, ⟨_, rfl⟩, fun _ => .int _⟩,
   ⟨.str "none", _, PySem.W.mg_of X G g_EMPTY_LIST, ⟨_, rfl⟩, fun _ => .str _⟩,
   ⟨.str "-", _, PySem.W.mg_of X G g_EMPTY_MAPPING, ⟨_, rfl⟩, fun _ => .str _⟩,
   ⟨.int 400, _, PySem.W.mg_of X G g_MAX_POSITIONS, ⟨_, rfl⟩, fun _ => .int _⟩,
   ⟨.int 8, _, PySem.W.mg_of X G g_MOST_BLOCKS, ⟨_, rfl⟩, fun _ => .int _⟩,
   ⟨.int 40, _, PySem.W.mg_of X G g_MOST_BLOCK_LENGTH, ⟨_, rfl⟩, fun _ => .int _⟩,
   ⟨.int 1000000000000000000000000000000, _, PySem.W.mg_of X G g_MOST_REPETITIONS, ⟨_, rfl⟩, fun _ => .int _⟩,
   ⟨x_InvalidDistances, a_x_InvalidDistances, PySem.W.mg_of X G a_x_InvalidDistances, xe_InvalidDistances, e1_InvalidDistances, e2_InvalidDistances, e3_InvalidDistances, ⟨f1_InvalidDistances, f2_InvalidDistances, e2_InvalidDistances, f4_InvalidDistances, f5_InvalidDistances, fn_, ft_, f8_InvalidDistances⟩⟩,
   ⟨x_InvalidSequence, a_x_InvalidSequence, PySem.W.mg_of X G a_x_InvalidSequence, xe_InvalidSequence, e1_InvalidSequence, e2_InvalidSequence, e3_InvalidSequence, ⟨f1_InvalidSequence, f2_InvalidSequence, e2_InvalidSequence, f4_InvalidSequence, f5_InvalidSequence, fn_, ft_, f8_InvalidSequence⟩⟩,
   ⟨x_Inconsistent, PySem.W.mg_of X G a_x_Inconsistent, (isq_cons a_x_InvalidDistances ⟨f1_InvalidDistances, f2_InvalidDistances, e2_InvalidDistances, f4_InvalidDistances, f5_InvalidDistances, fn_, ft_, f8_InvalidDistances⟩ k_Inconsistent_InvalidDistances (isq_cons a_x_InvalidSequence ⟨f1_InvalidSequence, f2_InvalidSequence, e2_InvalidSequence, f4_InvalidSequence, f5_InvalidSequence, fn_, ft_, f8_InvalidSequence⟩ k_Inconsistent_InvalidSequence isq_nil))⟩,
   ⟨x_InvalidDistances, PySem.W.mg_of X G a_x_InvalidDistances, (isq_cons a_x_InvalidDistances ⟨f1_InvalidDistances, f2_InvalidDistances, e2_InvalidDistances, f4_InvalidDistances, f5_InvalidDistances, fn_, ft_, f8_InvalidDistances⟩ k_InvalidDistances_InvalidDistances (isq_cons a_x_InvalidSequence ⟨f1_InvalidSequence, f2_InvalidSequence, e2_InvalidSequence, f4_InvalidSequence, f5_InvalidSequence, fn_, ft_, f8_InvalidSequence⟩ k_InvalidDistances_InvalidSequence isq_nil))⟩,
   ⟨x_InvalidFacts, PySem.W.mg_of X G a_x_InvalidFacts, (isq_cons a_x_InvalidDistances ⟨f1_InvalidDistances, f2_InvalidDistances, e2_InvalidDistances, f4_InvalidDistances, f5_InvalidDistances, fn_, ft_, f8_InvalidDistances⟩ k_InvalidFacts_InvalidDistances (isq_cons a_x_InvalidSequence ⟨f1_InvalidSequence, f2_InvalidSequence, e2_InvalidSequence, f4_InvalidSequence, f5_InvalidSequence, fn_, ft_, f8_InvalidSequence⟩ k_InvalidFacts_InvalidSequence isq_nil))⟩,
   ⟨x_InvalidNumber, PySem.W.mg_of X G a_x_InvalidNumber, (isq_cons a_x_InvalidDistances ⟨f1_InvalidDistances, f2_InvalidDistances, e2_InvalidDistances, f4_InvalidDistances, f5_InvalidDistances, fn_, ft_, f8_InvalidDistances⟩ k_InvalidNumber_InvalidDistances (isq_cons a_x_InvalidSequence ⟨f1_InvalidSequence, f2_InvalidSequence, e2_InvalidSequence, f4_InvalidSequence, f5_InvalidSequence, fn_, ft_, f8_InvalidSequence⟩ k_InvalidNumber_InvalidSequence isq_nil))⟩,
   ⟨x_InvalidPosition, PySem.W.mg_of X G a_x_InvalidPosition, (isq_cons a_x_InvalidDistances ⟨f1_InvalidDistances, f2_InvalidDistances, e2_InvalidDistances, f4_InvalidDistances, f5_InvalidDistances, fn_, ft_, f8_InvalidDistances⟩ k_InvalidPosition_InvalidDistances (isq_cons a_x_InvalidSequence ⟨f1_InvalidSequence, f2_InvalidSequence, e2_InvalidSequence, f4_InvalidSequence, f5_InvalidSequence, fn_, ft_, f8_InvalidSequence⟩ k_InvalidPosition_InvalidSequence isq_nil))⟩,
   ⟨x_InvalidSequence, PySem.W.mg_of X G a_x_InvalidSequence, (isq_cons a_x_InvalidDistances ⟨f1_InvalidDistances, f2_InvalidDistances, e2_InvalidDistances, f4_InvalidDistances, f5_InvalidDistances, fn_, ft_, f8_InvalidDistances⟩ k_InvalidSequence_InvalidDistances (isq_cons a_x_InvalidSequence ⟨f1_InvalidSequence, f2_InvalidSequence, e2_InvalidSequence, f4_InvalidSequence, f5_InvalidSequence, fn_, ft_, f8_InvalidSequence⟩ k_InvalidSequence_InvalidSequence isq_nil))⟩,
   ⟨x_ParseError, PySem.W.mg_of X G a_x_ParseError, (isq_cons a_x_InvalidDistances ⟨f1_InvalidDistances, f2_InvalidDistances, e2_InvalidDistances, f4_InvalidDistances, f5_InvalidDistances, fn_, ft_, f8_InvalidDistances⟩ k_ParseError_InvalidDistances (isq_cons a_x_InvalidSequence ⟨f1_InvalidSequence, f2_InvalidSequence, e2_InvalidSequence, f4_InvalidSequence, f5_InvalidSequence, fn_, ft_, f8_InvalidSequence⟩ k_ParseError_InvalidSequence isq_nil))⟩,
   ⟨[x_InvalidCommand, x_InvalidMapping, x_InvalidPattern, x_InvalidRanks, x_InvalidSymbols], (.cons (PySem.W.mg_of X G a_x_InvalidCommand) (.cons (PySem.W.mg_of X G a_x_InvalidMapping) (.cons (PySem.W.mg_of X G a_x_InvalidPattern) (.cons (PySem.W.mg_of X G a_x_InvalidRanks) (.cons (PySem.W.mg_of X G a_x_InvalidSymbols) .nil))))), (isqt_cons a_x_InvalidDistances ⟨f1_InvalidDistances, f2_InvalidDistances, e2_InvalidDistances, f4_InvalidDistances, f5_InvalidDistances, fn_, ft_, f8_InvalidDistances⟩ k_tup7_InvalidDistances (isqt_cons a_x_InvalidSequence ⟨f1_InvalidSequence, f2_InvalidSequence, e2_InvalidSequence, f4_InvalidSequence, f5_InvalidSequence, fn_, ft_, f8_InvalidSequence⟩ k_tup7_InvalidSequence isqt_nil))⟩,
   ⟨[x_NothingToUndo, x_TooLong, x_UnknownMark, x_UnknownSymbol], (.cons (PySem.W.mg_of X G a_x_NothingToUndo) (.cons (PySem.W.mg_of X G a_x_TooLong) (.cons (PySem.W.mg_of X G a_x_UnknownMark) (.cons (PySem.W.mg_of X G a_x_UnknownSymbol) .nil)))), (isqt_cons a_x_InvalidDistances ⟨f1_InvalidDistances, f2_InvalidDistances, e2_InvalidDistances, f4_InvalidDistances, f5_InvalidDistances, fn_, ft_, f8_InvalidDistances⟩ k_tup8_InvalidDistances (isqt_cons a_x_InvalidSequence ⟨f1_InvalidSequence, f2_InvalidSequence, e2_InvalidSequence, f4_InvalidSequence, f5_InvalidSequence, fn_, ft_, f8_InvalidSequence⟩ k_tup8_InvalidSequence isqt_nil))⟩,
   (isq_cons a_x_InvalidDistances ⟨f1_InvalidDistances, f2_InvalidDistances, e2_InvalidDistances, f4_InvalidDistances, f5_InvalidDistances, fn_, ft_, f8_InvalidDistances⟩ k_ValueError_InvalidDistances (isq_cons a_x_InvalidSequence ⟨f1_InvalidSequence, f2_InvalidSequence, e2_InvalidSequence, f4_InvalidSequence, f5_InvalidSequence, fn_, ft_, f8_InvalidSequence⟩ k_ValueError_InvalidSequence isq_nil)),
   ⟨x_HowFarBackError, PySem.W.mg_of X G a_x_HowFarBackError, (isq_cons a_x_InvalidDistances ⟨f1_InvalidDistances, f2_InvalidDistances, e2_InvalidDistances, f4_InvalidDistances, f5_InvalidDistances, fn_, ft_, f8_InvalidDistances⟩ k_HowFarBackError_InvalidDistances (isq_cons a_x_InvalidSequence ⟨f1_InvalidSequence, f2_InvalidSequence, e2_InvalidSequence, f4_InvalidSequence, f5_InvalidSequence, fn_, ft_, f8_InvalidSequence⟩ k_HowFarBackError_InvalidSequence isq_nil))⟩,
   ⟨x_HowFarBackError, PySem.W.mg_of X G a_x_HowFarBackError, (exq_cons a_x_InvalidDistances (PySem.W.exm_ref d1_HowFarBackError d2_HowFarBackError d3_HowFarBackError d4_HowFarBackError_InvalidDistances) (exq_cons a_x_InvalidSequence (PySem.W.exm_ref d1_HowFarBackError d2_HowFarBackError d3_HowFarBackError d4_HowFarBackError_InvalidSequence) exq_nil))⟩,
   PySem.W.mg_none_of X G z_ValueError,
   PySem.W.mg_none_of X G z_abs,
   PySem.W.mg_none_of X G z_all,
   PySem.W.mg_none_of X G z_bool,
   PySem.W.mg_none_of X G z_enumerate,
   PySem.W.mg_none_of X G z_int,
   PySem.W.mg_none_of X G z_isinstance,
   PySem.W.mg_none_of X G z_len,
   PySem.W.mg_none_of X G z_list,
   PySem.W.mg_none_of X G z_min,
   PySem.W.mg_none_of X G z_range,
   PySem.W.mg_none_of X G z_repr,
   PySem.W.mg_none_of X G z_set,
   PySem.W.mg_none_of X G z_str,
   PySem.W.mg_none_of X G z_tuple,
   PySem.W.mg_none_of X G z_zip⟩
end K57
namespace K57
open PySem DL SPG SQF
theorem p_format_distances {d : D} {xs : List Int} {S : Sto} {P : D → Sto → Prop} {R : RX} (hd : isSq d = some ((dist xs).map D.int)) (hp : pl d = true) (hl : xs.length ≤ 400) (h : P (.str (txt (dist xs))) S) : w_format_distances [d] S P R := by
  have hds : isDs d = true := by
    have := isDs_ints (VD_dist hl)
    unfold isDs at this ⊢
    rw [hd]
    exact this
  simp only [w_format_distances, gSeq, gRet, gRetN, gExpr, gAsg, gIf, gNext, gKill, gDrop, gBrk, gCnt, gNever, gFor, gAug, gOwn, gPut, gDPut, gSprPut, gObjPut, gPar, eObj, eRev, gtName, gtTup, gtCons, gtNil, seqOf, eC, eVar, eUn, eBin, eChain, eAnd, eOr, eNot, eOrT, eIf, tE, tTru, DL.tAnd, DL.tOr, DL.tNot, DL.tYes, aNil, aCons, eLst, eTup, eCall, eCallP, eCallB, aDef, eFn, eIsI, eMt, eGet2, eSpr, oNone, oSome, eSl, eSlX, eSlN, gLPut, gTPut, gOwnAsg, gObjApp, gObjIns, eNewObj, eObjPop, eObjR, eObjL, eObjLen, eObjEnd, eSort, eSortSet, eLstRg, gPar0, sIn, eLc, iSeq, DL.iRng1, DL.iRng2, DL.iEnum, DL.iZip, DL.iStr, killL, fnW, fnWo, eIsE, gTry, gRaise, eJn, eNever, tNever, List.getElem?_cons_zero, List.getElem?_cons_succ, List.set_cons_zero, List.set_cons_succ, List.map_cons, List.map_nil, List.cons_append, List.nil_append, List.append_nil, List.replicate_succ, List.replicate_zero, List.length_cons, List.length_nil, List.foldl_cons, List.foldl_nil, Nat.zero_add, Nat.reduceAdd, Nat.reduceSub, ex_some, ex_bl, ex_int, ex_obj, ex_str, ex_lst, ex_cons, true_and, and_true, dAdd_int, dSub_int, dCmp_int, dNeg_int, Option.some.injEq, exists_eq_left', exists_eq_left]
  refine SPG.p_is_distances hp ⟨_, rfl, ?_⟩
  rw [hds]
  simp only [Bool.not_true, Bool.false_eq_true, if_false]
  exact SQF.p_list_text (sq_cases hd) (VD_dist hl) h
theorem p_format_distances_bad {d : D} {S : Sto} {P : D → Sto → Prop} {R : RX} (hp : pl d = true) (hd : isDs d = false) (h : R ⟨"InvalidDistances", []⟩ S) : w_format_distances [d] S P R := by
  simp only [w_format_distances, gSeq, gRet, gRetN, gExpr, gAsg, gIf, gNext, gKill, gDrop, gBrk, gCnt, gNever, gFor, gAug, gOwn, gPut, gDPut, gSprPut, gObjPut, gPar, eObj, eRev, gtName, gtTup, gtCons, gtNil, seqOf, eC, eVar, eUn, eBin, eChain, eAnd, eOr, eNot, eOrT, eIf, tE, tTru, DL.tAnd, DL.tOr, DL.tNot, DL.tYes, aNil, aCons, eLst, eTup, eCall, eCallP, eCallB, aDef, eFn, eIsI, eMt, eGet2, eSpr, oNone, oSome, eSl, eSlX, eSlN, gLPut, gTPut, gOwnAsg, gObjApp, gObjIns, eNewObj, eObjPop, eObjR, eObjL, eObjLen, eObjEnd, eSort, eSortSet, eLstRg, gPar0, sIn, eLc, iSeq, DL.iRng1, DL.iRng2, DL.iEnum, DL.iZip, DL.iStr, killL, fnW, fnWo, eIsE, gTry, gRaise, eJn, eNever, tNever, List.getElem?_cons_zero, List.getElem?_cons_succ, List.set_cons_zero, List.set_cons_succ, List.map_cons, List.map_nil, List.cons_append, List.nil_append, List.append_nil, List.replicate_succ, List.replicate_zero, List.length_cons, List.length_nil, List.foldl_cons, List.foldl_nil, Nat.zero_add, Nat.reduceAdd, Nat.reduceSub, ex_some, ex_bl, ex_int, ex_obj, ex_str, ex_lst, ex_cons, true_and, and_true, dAdd_int, dSub_int, dCmp_int, dNeg_int, Option.some.injEq, exists_eq_left', exists_eq_left]
  refine SPG.p_is_distances hp ⟨_, rfl, ?_⟩
  rw [hd]
  simpa using h
theorem p_format_sequence {d : D} {bs : List Blk} {S : Sto} {P : D → Sto → Prop} {R : RX} (hp : pl d = true) (hz : Szd d) (hc : compOk d = true) (hi : SeqIn bs d) (ok : SeqOk 0 bs) (h8 : bs.length ≤ 8) (h : P (.str (seqT bs)) S) : w_format_sequence [d] S P R := by
  have hline := line_eq
  obtain ⟨ds, hs, hpr⟩ := hi
  have hlen := SQF.paired_len hpr
  simp only [w_format_sequence, gSeq, gRet, gRetN, gExpr, gAsg, gIf, gNext, gKill, gDrop, gBrk, gCnt, gNever, gFor, gAug, gOwn, gPut, gDPut, gSprPut, gObjPut, gPar, eObj, eRev, gtName, gtTup, gtCons, gtNil, seqOf, eC, eVar, eUn, eBin, eChain, eAnd, eOr, eNot, eOrT, eIf, tE, tTru, DL.tAnd, DL.tOr, DL.tNot, DL.tYes, aNil, aCons, eLst, eTup, eCall, eCallP, eCallB, aDef, eFn, eIsI, eMt, eGet2, eSpr, oNone, oSome, eSl, eSlX, eSlN, gLPut, gTPut, gOwnAsg, gObjApp, gObjIns, eNewObj, eObjPop, eObjR, eObjL, eObjLen, eObjEnd, eSort, eSortSet, eLstRg, gPar0, sIn, eLc, iSeq, DL.iRng1, DL.iRng2, DL.iEnum, DL.iZip, DL.iStr, killL, fnW, fnWo, eIsE, gTry, gRaise, eJn, eNever, tNever, List.getElem?_cons_zero, List.getElem?_cons_succ, List.set_cons_zero, List.set_cons_succ, List.map_cons, List.map_nil, List.cons_append, List.nil_append, List.append_nil, List.replicate_succ, List.replicate_zero, List.length_cons, List.length_nil, List.foldl_cons, List.foldl_nil, Nat.zero_add, Nat.reduceAdd, Nat.reduceSub, ex_some, ex_bl, ex_int, ex_obj, ex_str, ex_lst, ex_cons, true_and, and_true, dAdd_int, dSub_int, dCmp_int, dNeg_int, Option.some.injEq, exists_eq_left', exists_eq_left]
  refine SQF.p_is_compressed hp hz ⟨_, rfl, ?_⟩
  rw [hc]
  simp only [Bool.not_true, Bool.false_eq_true, if_false, items_sq hs, List.getElem?_cons_zero, List.getElem?_cons_succ, List.set_cons_zero, List.set_cons_succ, List.map_cons, List.map_nil, List.cons_append, List.nil_append, List.append_nil, List.replicate_succ, List.replicate_zero, List.length_cons, List.length_nil, List.foldl_cons, List.foldl_nil, Nat.zero_add, Nat.reduceAdd, Nat.reduceSub, ex_some, ex_bl, ex_int, ex_obj, ex_str, ex_lst, ex_cons, true_and, and_true, dAdd_int, dSub_int, dCmp_int, dNeg_int, Option.some.injEq, exists_eq_left', exists_eq_left]
  refine ⟨rfl, by omega, ?_⟩
  refine lcL_rel (fun b => .str (blkT b)) hpr (fun x b hx hb hxb Q hQ => ?_) ?_
  · obtain ⟨q, hq, hq2⟩ := seqOk_ok ok (by decide) hb
    simp only [gSeq, gRet, gRetN, gExpr, gAsg, gIf, gNext, gKill, gDrop, gBrk, gCnt, gNever, gFor, gAug, gOwn, gPut, gDPut, gSprPut, gObjPut, gPar, eObj, eRev, gtName, gtTup, gtCons, gtNil, seqOf, eC, eVar, eUn, eBin, eChain, eAnd, eOr, eNot, eOrT, eIf, tE, tTru, DL.tAnd, DL.tOr, DL.tNot, DL.tYes, aNil, aCons, eLst, eTup, eCall, eCallP, eCallB, aDef, eFn, eIsI, eMt, eGet2, eSpr, oNone, oSome, eSl, eSlX, eSlN, gLPut, gTPut, gOwnAsg, gObjApp, gObjIns, eNewObj, eObjPop, eObjR, eObjL, eObjLen, eObjEnd, eSort, eSortSet, eLstRg, gPar0, sIn, eLc, iSeq, DL.iRng1, DL.iRng2, DL.iEnum, DL.iZip, DL.iStr, killL, fnW, fnWo, eIsE, gTry, gRaise, eJn, eNever, tNever, List.getElem?_cons_zero, List.getElem?_cons_succ, List.set_cons_zero, List.set_cons_succ, List.map_cons, List.map_nil, List.cons_append, List.nil_append, List.append_nil, List.replicate_succ, List.replicate_zero, List.length_cons, List.length_nil, List.foldl_cons, List.foldl_nil, Nat.zero_add, Nat.reduceAdd, Nat.reduceSub, ex_some, ex_bl, ex_int, ex_obj, ex_str, ex_lst, ex_cons, true_and, and_true, dAdd_int, dSub_int, dCmp_int, dNeg_int, Option.some.injEq, exists_eq_left', exists_eq_left]
    exact SQF.p_block_text hq hq2 hxb hQ
  · rw [List.nil_append, join_blks ok (by omega)]
    exact ⟨_, rfl, h⟩
theorem p_format_sequence_bad {d : D} {S : Sto} {P : D → Sto → Prop} {R : RX} (hp : pl d = true) (hz : Szd d) (hc : compOk d = false) (h : R ⟨"InvalidSequence", []⟩ S) : w_format_sequence [d] S P R := by
  simp only [w_format_sequence, gSeq, gRet, gRetN, gExpr, gAsg, gIf, gNext, gKill, gDrop, gBrk, gCnt, gNever, gFor, gAug, gOwn, gPut, gDPut, gSprPut, gObjPut, gPar, eObj, eRev, gtName, gtTup, gtCons, gtNil, seqOf, eC, eVar, eUn, eBin, eChain, eAnd, eOr, eNot, eOrT, eIf, tE, tTru, DL.tAnd, DL.tOr, DL.tNot, DL.tYes, aNil, aCons, eLst, eTup, eCall, eCallP, eCallB, aDef, eFn, eIsI, eMt, eGet2, eSpr, oNone, oSome, eSl, eSlX, eSlN, gLPut, gTPut, gOwnAsg, gObjApp, gObjIns, eNewObj, eObjPop, eObjR, eObjL, eObjLen, eObjEnd, eSort, eSortSet, eLstRg, gPar0, sIn, eLc, iSeq, DL.iRng1, DL.iRng2, DL.iEnum, DL.iZip, DL.iStr, killL, fnW, fnWo, eIsE, gTry, gRaise, eJn, eNever, tNever, List.getElem?_cons_zero, List.getElem?_cons_succ, List.set_cons_zero, List.set_cons_succ, List.map_cons, List.map_nil, List.cons_append, List.nil_append, List.append_nil, List.replicate_succ, List.replicate_zero, List.length_cons, List.length_nil, List.foldl_cons, List.foldl_nil, Nat.zero_add, Nat.reduceAdd, Nat.reduceSub, ex_some, ex_bl, ex_int, ex_obj, ex_str, ex_lst, ex_cons, true_and, and_true, dAdd_int, dSub_int, dCmp_int, dNeg_int, Option.some.injEq, exists_eq_left', exists_eq_left]
  refine SQF.p_is_compressed hp hz ⟨_, rfl, ?_⟩
  rw [hc]
  simpa using h
theorem step_no {a : Nat} {nm : Str} {cls : Value} {q : Str → Option Bool} {g k : WS} {Δ : DL.Env} {S : Sto} {B : EndsD} {R : RX} (hΔ : Δ[0]? = some (some (.obj a))) (hs : S a = some (.exc nm cls)) (hq : q nm = some false) (h : k Δ S B R) : gSeq (gIf (tE (eIsE q (eVar 0))) g gNext) k Δ S B R :=
  ⟨_, hΔ, a, nm, cls, false, rfl, hs, hq, false, rfl, Eq.mpr (if_neg (by decide)) h⟩
theorem step_yes {a : Nat} {nm : Str} {cls : Value} {q : Str → Option Bool} {g k : WS} {Δ : DL.Env} {S : Sto} {B : EndsD} {R : RX} (hΔ : Δ[0]? = some (some (.obj a))) (hs : S a = some (.exc nm cls)) (hq : q nm = some true) (h : g Δ S { B with nx := fun Δ1 S1 => k Δ1 S1 B R } R) : gSeq (gIf (tE (eIsE q (eVar 0))) g gNext) k Δ S B R :=
  ⟨_, hΔ, a, nm, cls, true, rfl, hs, hq, true, rfl, Eq.mpr (if_pos rfl) h⟩
theorem p__law_class {a : Nat} {nm : Str} {cls : Value} {S : Sto} {P : D → Sto → Prop} {R : RX} (hs : S a = some (.exc nm cls)) (hn : nm = "InvalidDistances" ∨ nm = "InvalidSequence") (h : P (.str nm) S) : w__law_class [.obj a] S P R := by
  have hline := line_eq
  have happ : oAppend (.lst []) [.str nm] = some (.lst [.str nm], .non) := by
    show (if 0 < LINE then some (D.lst ([] ++ [D.str nm]), D.non) else none) = _
    rw [if_pos (by omega)]
    rfl
  have fin : ∀ (B : EndsD), B.rt = P → q_HowFarBackError nm = some true → q_ValueError nm = some true → (gSeq (gAsg (eAnd (eIsE q_HowFarBackError (eVar 0)) (eIsE q_ValueError (eVar 0))) (gtName 2))
    (gRet (eIf (tAnd (tTru (eVar 2)) (tE (eBin dEq (eFn fLen (aCons (eVar 1) aNil)) (eC (.int 1))))) (eBin dIx (eVar 1) (eC (.int 0))) (eC (.str "odd"))))) [some (.obj a), some (.lst [.str nm]), none] S B R := by
    intro B hB h1 h2
    refine ⟨_, rfl, a, nm, cls, true, rfl, hs, h1, true, rfl, ?_⟩
    rw [if_pos rfl]
    refine ⟨_, rfl, a, nm, cls, true, rfl, hs, h2, ?_⟩
    refine ⟨_, rfl, true, rfl, ?_⟩
    dsimp only
    rw [if_pos rfl]
    refine ⟨_, rfl, _, rfl, _, rfl, true, rfl, ?_⟩
    dsimp only
    rw [if_pos rfl]
    refine ⟨_, rfl, _, rfl, ?_⟩
    rw [hB]
    exact h
  refine ⟨rfl, Nat.zero_le _, ?_⟩
  rcases hn with rfl | rfl
  · refine step_no (Δ := [some (.obj a), some (.lst []), none]) rfl hs (by decide) ?_
    refine step_yes rfl hs (by decide) ?_
    refine ⟨_, rfl, rfl, _, _, happ, ?_⟩
    refine step_no (Δ := [some (.obj a), some (.lst [.str "InvalidDistances"]), none]) rfl hs (by decide) ?_
    refine step_no rfl hs (by decide) ?_
    refine step_no rfl hs (by decide) ?_
    refine step_no rfl hs (by decide) ?_
    refine step_no rfl hs (by decide) ?_
    refine step_no rfl hs (by decide) ?_
    refine step_no rfl hs (by decide) ?_
    exact fin _ rfl (by decide) (by decide)
  · refine step_no (Δ := [some (.obj a), some (.lst []), none]) rfl hs (by decide) ?_
    refine step_no rfl hs (by decide) ?_
    refine step_no rfl hs (by decide) ?_
    refine step_no rfl hs (by decide) ?_
    refine step_no rfl hs (by decide) ?_
    refine step_yes rfl hs (by decide) ?_
    refine ⟨_, rfl, rfl, _, _, happ, ?_⟩
    refine step_no (Δ := [some (.obj a), some (.lst [.str "InvalidSequence"]), none]) rfl hs (by decide) ?_
    refine step_no rfl hs (by decide) ?_
    refine step_no rfl hs (by decide) ?_
    exact fin _ rfl (by decide) (by decide)
/-- what is asked ends so -/
theorem p_asked {v : D} {isl : Bool} {w : Str} {S : Sto} {P : D → Sto → Prop} {R : RX}
    (hv : (w = "none" ∧ ∀ (P : D → Sto → Prop) (R : RX), (∀ x, P x noS) → (if isl = true then w_format_distances [v] noS P R else w_format_sequence [v] noS P R)) ∨
      ((w = "InvalidDistances" ∨ w = "InvalidSequence") ∧ ∀ (P : D → Sto → Prop) (R : RX), R ⟨w, []⟩ noS → (if isl = true then w_format_distances [v] noS P R else w_format_sequence [v] noS P R)))
    (h : P (.str w) S) : fnSub w__law_asked [v, .bl isl] S P R := by
  unfold fnSub
  simp only [w__law_asked, gSeq, gRet, gRetN, gExpr, gAsg, gIf, gNext, gKill, gDrop, gBrk, gCnt, gNever, gFor, gAug, gOwn, gPut, gDPut, gSprPut, gObjPut, gPar, eObj, eRev, gtName, gtTup, gtCons, gtNil, seqOf, eC, eVar, eUn, eBin, eChain, eAnd, eOr, eNot, eOrT, eIf, tE, tTru, DL.tAnd, DL.tOr, DL.tNot, DL.tYes, aNil, aCons, eLst, eTup, eCall, eCallP, eCallB, aDef, eFn, eIsI, eMt, eGet2, eSpr, oNone, oSome, eSl, eSlX, eSlN, gLPut, gTPut, gOwnAsg, gObjApp, gObjIns, eNewObj, eObjPop, eObjR, eObjL, eObjLen, eObjEnd, eSort, eSortSet, eLstRg, gPar0, sIn, eLc, iSeq, DL.iRng1, DL.iRng2, DL.iEnum, DL.iZip, DL.iStr, killL, fnW, fnWo, eIsE, gTry, gRaise, eJn, eNever, tNever, List.getElem?_cons_zero, List.getElem?_cons_succ, List.set_cons_zero, List.set_cons_succ, List.map_cons, List.map_nil, List.cons_append, List.nil_append, List.append_nil, List.replicate_succ, List.replicate_zero, List.length_cons, List.length_nil, List.foldl_cons, List.foldl_nil, Nat.zero_add, Nat.reduceAdd, Nat.reduceSub, ex_some, ex_bl, ex_int, ex_obj, ex_str, ex_lst, ex_cons, true_and, and_true, dAdd_int, dSub_int, dCmp_int, dNeg_int, Option.some.injEq, exists_eq_left', exists_eq_left, dTru]
  rcases hv with ⟨rfl, hv⟩ | ⟨hw, hv⟩
  · cases isl with
    | true =>
      simp only [if_true] at hv ⊢
      refine hv _ _ fun x => ?_
      simp only [dIs, isNonD, List.getElem?_cons_zero, List.getElem?_cons_succ, List.set_cons_zero, List.set_cons_succ, List.map_cons, List.map_nil, List.cons_append, List.nil_append, List.append_nil, List.replicate_succ, List.replicate_zero, List.length_cons, List.length_nil, List.foldl_cons, List.foldl_nil, Nat.zero_add, Nat.reduceAdd, Nat.reduceSub, ex_some, ex_bl, ex_int, ex_obj, ex_str, ex_lst, ex_cons, true_and, and_true, dAdd_int, dSub_int, dCmp_int, dNeg_int, Option.some.injEq, exists_eq_left', exists_eq_left, if_true]
      exact ⟨S, SubS.refl S, h⟩
    | false =>
      simp only [Bool.false_eq_true, if_false] at hv ⊢
      refine hv _ _ fun x => ?_
      simp only [dIs, isNonD, List.getElem?_cons_zero, List.getElem?_cons_succ, List.set_cons_zero, List.set_cons_succ, List.map_cons, List.map_nil, List.cons_append, List.nil_append, List.append_nil, List.replicate_succ, List.replicate_zero, List.length_cons, List.length_nil, List.foldl_cons, List.foldl_nil, Nat.zero_add, Nat.reduceAdd, Nat.reduceSub, ex_some, ex_bl, ex_int, ex_obj, ex_str, ex_lst, ex_cons, true_and, and_true, dAdd_int, dSub_int, dCmp_int, dNeg_int, Option.some.injEq, exists_eq_left', exists_eq_left, if_true]
      exact ⟨S, SubS.refl S, h⟩
  · have ex : ∀ w : Str, (w = "InvalidDistances" ∨ w = "InvalidSequence") → m_HowFarBackError w = some true := fun w hw => by
      rcases hw with rfl | rfl <;> decide
    have tail : ∀ (b : Nat) (cls : Value), S b = none → w__law_class [.obj b] (S.upd b (.exc w cls)) (fun d S1 => ∃ S2, SubS S2 S1 ∧ P d S2) R := fun b cls hb =>
      p__law_class (Sto.upd_same _ _ _) hw ⟨S, SubS.upd hb, h⟩
    cases isl with
    | true =>
      simp only [if_true] at hv ⊢
      refine hv _ _ ⟨true, ex w hw, ?_⟩
      intro b cls hb
      simp only [dIs, isNonD, List.getElem?_cons_zero, List.getElem?_cons_succ, List.set_cons_zero, List.set_cons_succ, List.map_cons, List.map_nil, List.cons_append, List.nil_append, List.append_nil, List.replicate_succ, List.replicate_zero, List.length_cons, List.length_nil, List.foldl_cons, List.foldl_nil, Nat.zero_add, Nat.reduceAdd, Nat.reduceSub, ex_some, ex_bl, ex_int, ex_obj, ex_str, ex_lst, ex_cons, true_and, and_true, dAdd_int, dSub_int, dCmp_int, dNeg_int, Option.some.injEq, exists_eq_left', exists_eq_left, Bool.false_eq_true, if_false]
      exact tail b cls hb
    | false =>
      simp only [Bool.false_eq_true, if_false] at hv ⊢
      refine hv _ _ ⟨true, ex w hw, ?_⟩
      intro b cls hb
      simp only [dIs, isNonD, List.getElem?_cons_zero, List.getElem?_cons_succ, List.set_cons_zero, List.set_cons_succ, List.map_cons, List.map_nil, List.cons_append, List.nil_append, List.append_nil, List.replicate_succ, List.replicate_zero, List.length_cons, List.length_nil, List.foldl_cons, List.foldl_nil, Nat.zero_add, Nat.reduceAdd, Nat.reduceSub, ex_some, ex_bl, ex_int, ex_obj, ex_str, ex_lst, ex_cons, true_and, and_true, dAdd_int, dSub_int, dCmp_int, dNeg_int, Option.some.injEq, exists_eq_left', exists_eq_left, Bool.false_eq_true, if_false]
      exact tail b cls hb
/-! ### what is not a sequence -/
structure Gi (x : D) : Prop where
  gd : Gd 20000 3 x
  ln : ∀ zs, isSq x = some zs → zs.length ≤ 100000
structure BadB (o : D) : Prop where
  gd : Gd 100020 4 o
  sz : SzB o
  no : ∀ p : Int, 0 ≤ p → p ≤ 40 → blkOk p o = false
theorem badB_tup {xs : List D} (h : ∀ x ∈ xs, Gi x) (hl : xs.length ≤ 5) (no : ∀ p : Int, 0 ≤ p → p ≤ 40 → blkOk p (.tup xs) = false) : BadB (.tup xs) :=
  ⟨(gd_tup (fun x hx => (h x hx).gd) hl).mono (by decide) (by decide), fun ys hys x hx zs hzs => by
    have e : ys = xs := (Option.some.inj hys).symm
    subst e
    exact (h x hx).ln zs hzs, no⟩
theorem goC_bad : ∀ {bs : List Blk} {p : Int} {o : D} {r : List D}, SeqOk p bs → 0 ≤ p → p ≤ 40 → (∀ q : Int, 0 ≤ q → q ≤ 40 → blkOk q o = false) → goC p (bs.map Blk.d ++ o :: r) = false
  | [], p, o, r, _, h0, h1, h => by
    rw [List.map_nil, List.nil_append, goC, h p h0 h1]
    rfl
  | b :: bs, p, o, r, ⟨h1, h2⟩, _, _, h => by
    have hw := own_pos h1
    rw [List.map_cons, List.cons_append, goC, blkOk_blk h1]
    have e : zcB b.d = b.own := zc_blk b
    rw [e, goC_bad h2 (by omega) hw.2 h]
    rfl
structure Bad (d : D) : Prop where
  gd : Gd 510000 6 d
  sz : Szd d
  no : compOk d = false
theorem gi_of {x : D} (h : gdB 20000 3 x = true) (hl : (match isSq x with | some zs => decide (zs.length ≤ 100000) | none => true) = true) : Gi x :=
  ⟨Gd.of h, fun zs hz => by rw [hz] at hl; simpa using hl⟩
def oddB (b : Blk) : List D :=
  let a := D.lst ((dist b.xs).map D.int); let l := pairs b.lk; let t := pairs b.tn; let c := D.int b.ct
  [.tup [a, l, t], .tup [a, l, t, .int 0], .tup [a, l, t, .int (10 ^ 30 + 1)], .tup [.lst [], .lst [], .lst [], .int 1], .tup [a, l, t, .bl true], .tup [a, l, t, .non], .tup [.lst (List.replicate 41 (.int 0)), .lst [], .lst [], .int 1], .non, .str "block",
    .tup [a, l, .lst [.tup [.int 0, .int 99]], c], .tup [a, l, .lst [.tup [.int 0, .int 0], .tup [.int 0, .int 0]], c], .tup [.lst [.int 1], .lst [], .lst [], .int 1], .tup [a, .lst [.tup [.int 0, .int 99]], t, c], .tup [a, l, .lst [.tup [.int 0]], c], .tup [a, .non, t, c],
    .tup [.lst [.int 0, .int 0], .lst [], .lst [.tup [.int 1, .int 0], .tup [.int 0, .int 1]], .int 1], .tup [.lst [.int 0, .int 0], .lst [], .lst [.tup [.int 0, .int 0], .tup [.int 1, .int 0]], .int 1], .tup [a, l, t, c, .int 0]]
theorem oddB_bad {b : Blk} {p : Int} (hb : b.ok p) (hp : p ≤ 40) : ∀ o ∈ oddB b, BadB o := by
  have hw := own_pos hb
  have h2 := hb.l2
  have ga : Gi (.lst ((dist b.xs).map D.int)) := ⟨(gd_dist (by omega)).mono (by decide) (by decide), fun zs hz => by
    have e : zs = (dist b.xs).map D.int := (Option.some.inj hz).symm
    rw [e, List.length_map, dist_len]; omega⟩
  have gl : Gi (pairs b.lk) := ⟨(gd_pairs hb.lk hw.2 hp).mono (by decide) (by decide), fun zs hz => by
    have e : zs = b.lk.map fun p => D.tup [.int p.1, .int p.2] := (Option.some.inj hz).symm
    have := ln_pairs hb.lk hw.2
    rw [e, List.length_map]; omega⟩
  have gt : Gi (pairs b.tn) := ⟨(gd_pairs hb.tn hw.2 hw.2).mono (by decide) (by decide), fun zs hz => by
    have e : zs = b.tn.map fun p => D.tup [.int p.1, .int p.2] := (Option.some.inj hz).symm
    have := ln_pairs hb.tn hw.2
    rw [e, List.length_map]; omega⟩
  have gc : Gi (.int b.ct) := ⟨(gd_int (by have := hb.c1; omega) (by have := hb.c2; omega)).mono (by decide) (by decide), fun zs hz => nomatch hz⟩
  intro o ho
  unfold oddB at ho
  simp only [List.mem_cons, List.not_mem_nil, or_false] at ho
  have four : ∀ (x y z w : D) (p : Int), blkOk p (.tup [x, y, z, w]) = (isDs x && (lenIn 1 40 x && (mapOk (zc x) p y && (mapOk (zc x) (zc x) z && isIx 1 (10 ^ 30) w)))) := fun _ _ _ _ _ => rfl
  have gin : ∀ {xs : List D}, (∀ x ∈ xs, Gi x) → ∀ x ∈ xs, Gi x := fun h => h
  rcases ho with rfl | rfl | rfl | rfl | rfl | rfl | rfl | rfl | rfl | rfl | rfl | rfl | rfl | rfl | rfl | rfl | rfl | rfl
  · exact badB_tup (by simp only [List.mem_cons, List.not_mem_nil, or_false]; rintro x (rfl | rfl | rfl) <;> assumption) (by simp) fun _ _ _ => rfl
  · refine badB_tup (by simp only [List.mem_cons, List.not_mem_nil, or_false]; rintro x (rfl | rfl | rfl | rfl) <;> first | assumption | exact gi_of (by decide +kernel) (by decide +kernel)) (by simp) fun _ _ _ => ?_
    rw [four]; simp [isIx]
  · refine badB_tup (by simp only [List.mem_cons, List.not_mem_nil, or_false]; rintro x (rfl | rfl | rfl | rfl) <;> first | assumption | exact gi_of (by decide +kernel) (by decide +kernel)) (by simp) fun _ _ _ => ?_
    rw [four]; simp [isIx]
  · refine badB_tup (by simp only [List.mem_cons, List.not_mem_nil, or_false]; rintro x (rfl | rfl | rfl | rfl) <;> first | assumption | exact gi_of (by decide +kernel) (by decide +kernel)) (by simp) fun _ _ _ => ?_
    rw [four]; simp [lenIn, isSq]
  · refine badB_tup (by simp only [List.mem_cons, List.not_mem_nil, or_false]; rintro x (rfl | rfl | rfl | rfl) <;> first | assumption | exact gi_of (by decide +kernel) (by decide +kernel)) (by simp) fun _ _ _ => ?_
    rw [four]; simp [isIx]
  · refine badB_tup (by simp only [List.mem_cons, List.not_mem_nil, or_false]; rintro x (rfl | rfl | rfl | rfl) <;> first | assumption | exact gi_of (by decide +kernel) (by decide +kernel)) (by simp) fun _ _ _ => ?_
    rw [four]; simp [isIx]
  · refine badB_tup (by simp only [List.mem_cons, List.not_mem_nil, or_false]; rintro x (rfl | rfl | rfl | rfl) <;> first | assumption | exact gi_of (by decide +kernel) (by decide +kernel)) (by simp) fun _ _ _ => ?_
    rw [four]; simp [lenIn, isSq]
  · exact ⟨Gd.of (by decide +kernel), (fun ys h => nomatch h), fun _ _ _ => rfl⟩
  · exact ⟨Gd.of (by decide +kernel), (fun ys h => nomatch h), fun _ _ _ => rfl⟩
  · refine badB_tup (by simp only [List.mem_cons, List.not_mem_nil, or_false]; rintro x (rfl | rfl | rfl | rfl) <;> first | assumption | exact gi_of (by decide +kernel) (by decide +kernel)) (by simp) fun _ _ _ => ?_
    rw [four, zc_blk]
    have e : mapOk b.own b.own (.lst [.tup [.int 0, .int 99]]) = false := by
      have : isIx 0 (b.own - 1) (.int 99) = false := by simp [isIx]; omega
      simp [mapOk, isSq, pairOk, this]
    simp [e]
  · refine badB_tup (by simp only [List.mem_cons, List.not_mem_nil, or_false]; rintro x (rfl | rfl | rfl | rfl) <;> first | assumption | exact gi_of (by decide +kernel) (by decide +kernel)) (by simp) fun _ _ _ => ?_
    rw [four, zc_blk]
    have e : mapOk b.own b.own (.lst [.tup [.int 0, .int 0], .tup [.int 0, .int 0]]) = false := by
      simp [mapOk, isSq, prOf, ascI]
    simp [e]
  · refine badB_tup (by simp only [List.mem_cons, List.not_mem_nil, or_false]; rintro x (rfl | rfl | rfl | rfl) <;> first | assumption | exact gi_of (by decide +kernel) (by decide +kernel)) (by simp) fun _ _ _ => ?_
    rw [four]
    have e : isDs (.lst [.int 1]) = false := by decide +kernel
    simp [e]
  · refine badB_tup (by simp only [List.mem_cons, List.not_mem_nil, or_false]; rintro x (rfl | rfl | rfl | rfl) <;> first | assumption | exact gi_of (by decide +kernel) (by decide +kernel)) (by simp) fun q h0 h1 => ?_
    rw [four]
    have e : mapOk (zc (.lst ((dist b.xs).map D.int))) q (.lst [.tup [.int 0, .int 99]]) = false := by
      have : isIx 0 (q - 1) (.int 99) = false := by simp [isIx]; omega
      simp [mapOk, isSq, pairOk, this]
    simp [e]
  · refine badB_tup (by simp only [List.mem_cons, List.not_mem_nil, or_false]; rintro x (rfl | rfl | rfl | rfl) <;> first | assumption | exact gi_of (by decide +kernel) (by decide +kernel)) (by simp) fun _ _ _ => ?_
    rw [four]
    have e : mapOk (zc (.lst ((dist b.xs).map D.int))) (zc (.lst ((dist b.xs).map D.int))) (.lst [.tup [.int 0]]) = false := by
      simp [mapOk, isSq, pairOk]
    simp [e]
  · refine badB_tup (by simp only [List.mem_cons, List.not_mem_nil, or_false]; rintro x (rfl | rfl | rfl | rfl) <;> first | assumption | exact gi_of (by decide +kernel) (by decide +kernel)) (by simp) fun _ _ _ => ?_
    rw [four]
    simp [mapOk, isSq]
  · refine badB_tup (by simp only [List.mem_cons, List.not_mem_nil, or_false]; rintro x (rfl | rfl | rfl | rfl) <;> first | assumption | exact gi_of (by decide +kernel) (by decide +kernel)) (by simp) fun _ _ _ => ?_
    rw [four]
    have e : mapOk (zc (.lst [.int 0, .int 0])) (zc (.lst [.int 0, .int 0])) (.lst [.tup [.int 1, .int 0], .tup [.int 0, .int 1]]) = false := by decide +kernel
    simp [e]
  · refine badB_tup (by simp only [List.mem_cons, List.not_mem_nil, or_false]; rintro x (rfl | rfl | rfl | rfl) <;> first | assumption | exact gi_of (by decide +kernel) (by decide +kernel)) (by simp) fun _ _ _ => ?_
    rw [four]
    have e : mapOk (zc (.lst [.int 0, .int 0])) (zc (.lst [.int 0, .int 0])) (.lst [.tup [.int 0, .int 0], .tup [.int 1, .int 0]]) = false := by decide +kernel
    simp [e]
  · exact badB_tup (by simp only [List.mem_cons, List.not_mem_nil, or_false]; rintro x (rfl | rfl | rfl | rfl | rfl) <;> first | assumption | exact gi_of (by decide +kernel) (by decide +kernel)) (by simp) fun _ _ _ => rfl
/-- a block of a valid sequence is changed -/
theorem bad_at {bs : List Blk} {k : Nat} {o : D} (ok : SeqOk 0 bs) (h4 : bs.length ≤ 4) (hk : k < bs.length) (ho : BadB o) : Bad (.lst ((bs.take k).map Blk.d ++ o :: (bs.drop (k + 1)).map Blk.d)) := by
  have okt : SeqOk 0 (bs.take k) := by
    have gen : ∀ (bs : List Blk) (p : Int) (k : Nat), SeqOk p bs → SeqOk p (bs.take k) := by
      intro bs
      induction bs with
      | nil => intro p k _; rw [List.take_nil]; trivial
      | cons b bs ih =>
        intro p k h
        cases k with
        | zero => trivial
        | succ k => exact ⟨h.1, ih _ k h.2⟩
    exact gen bs 0 k ok
  have hg := gd_blks ok (by decide)
  have hz := szB_blks ok
  have hin : ∀ x ∈ (bs.take k).map Blk.d ++ o :: (bs.drop (k + 1)).map Blk.d, x = o ∨ x ∈ bs.map Blk.d := fun x hx => by
    rcases List.mem_append.mp hx with hx | hx
    · obtain ⟨b, hb, rfl⟩ := List.mem_map.mp hx
      exact .inr (List.mem_map_of_mem (List.mem_of_mem_take hb))
    · rcases List.mem_cons.mp hx with rfl | hx
      · exact .inl rfl
      · obtain ⟨b, hb, rfl⟩ := List.mem_map.mp hx
        exact .inr (List.mem_map_of_mem (List.mem_of_mem_drop hb))
  have hlen : ((bs.take k).map Blk.d ++ o :: (bs.drop (k + 1)).map Blk.d).length ≤ 5 := by
    rw [List.length_append, List.length_map, List.length_cons, List.length_map, List.length_take, List.length_drop]
    omega
  refine ⟨(gd_lst (n := 100020) (k := 4) (m := 5) (fun x hx => ?_) hlen).mono (by decide) (by decide), szd_lst fun x hx => ?_, ?_⟩
  · rcases hin x hx with rfl | hx
    · exact ho.gd
    · exact (hg x hx).mono (by decide) (by decide)
  · rcases hin x hx with rfl | hx
    · exact ho.sz
    · exact hz x hx
  · have e := goC_bad (r := (bs.drop (k + 1)).map Blk.d) okt (by decide) (by decide) ho.no
    show (decide _ && (decide _ && goC 0 _)) = false
    rw [e]
    simp

theorem dCat_l {a b : List D} (h : a.length + b.length ≤ 100000) : dCat (.lst a) (.lst b) = some (.lst (a ++ b)) := by
  have hline := line_eq
  exact if_pos (by omega)
theorem dMul_z {k : Nat} {a : D} (h : k ≤ 100000) : dMul (.lst [a]) (.int (k : Int)) = some (.lst (List.replicate k a)) := SPG.dMul_z h
theorem bad_comp {d : D} {b : Bool} (h : compOk d = b) : compOk d = b := h
theorem seqList_bad {bs : List Blk} (ok : SeqOk 0 bs) (h1 : 1 ≤ bs.length) (h4 : bs.length ≤ 4) : Bad (.lst [.lst (bs.map Blk.d)]) := by
  have hg := gd_blks ok (by decide)
  refine ⟨(gd_lst (n := 400012) (k := 4) (m := 1) (fun x hx => ?_) (by simp)).mono (by decide) (by decide), ?_, ?_⟩
  · rw [List.mem_singleton.mp hx]
    exact (gd_lst (n := 100000) (k := 3) (m := 4) hg (by rw [List.length_map]; exact h4)).mono (by decide) (by decide)
  · refine szd_lst fun x hx => ?_
    rw [List.mem_singleton.mp hx]
    intro ys hys y hy zs hzs
    have e : ys = bs.map Blk.d := (Option.some.inj hys).symm
    subst e
    obtain ⟨b, hb, rfl⟩ := List.mem_map.mp hy
    have e2 : zs = [.lst ((dist b.xs).map D.int), pairs b.lk, pairs b.tn, .int b.ct] := (Option.some.inj hzs).symm
    rw [e2]
    simp
  · have hb : ∀ p, blkOk p (.lst (bs.map Blk.d)) = false := fun p => by
      cases bs with
      | nil => simp at h1
      | cons b r =>
        have hd : isDs b.d = false := by
          have e : isSq b.d = some [.lst ((dist b.xs).map D.int), pairs b.lk, pairs b.tn, .int b.ct] := rfl
          unfold isDs
          rw [e]
          show (decide _ && ((isIx 0 0 (.lst ((dist b.xs).map D.int)) && _) && _)) = false
          simp [isIx]
        unfold blkOk
        show (match some (b.d :: r.map Blk.d) with | some [a, b, c, e] => _ | _ => false) = false
        match r.map Blk.d with
        | [] => rfl
        | [_] => rfl
        | [_, _] => rfl
        | [x, y, z] => simp [hd]
        | _ :: _ :: _ :: _ :: _ => rfl
    have e : goC 0 [.lst (bs.map Blk.d)] = false := by rw [goC, hb 0]; rfl
    show (decide (1 ≤ [D.lst (bs.map Blk.d)].length) && (decide ([D.lst (bs.map Blk.d)].length ≤ 8) && goC 0 [.lst (bs.map Blk.d)])) = false
    rw [e]
    simp
theorem p_changed {a : Nat} {bs : List Blk} {S : Sto} {P : D → Sto → Prop} {R : RX} (hs : S a = some .spr) (ok : SeqOk 0 bs) (h1 : 1 ≤ bs.length) (h4 : bs.length ≤ 4) (h : ∀ d, Bad d → P d S) : w__law_changed [.obj a, .lst (bs.map Blk.d)] S P R := by
  have hline := line_eq
  have hfl : fLen [.lst (bs.map Blk.d)] = some (.int (bs.length : Int)) := by simp [fLen, dLen]
  obtain ⟨Z, hZ⟩ : ∃ Z, Z = List.replicate 41 (D.int 0) := ⟨_, rfl⟩
  have hm : dMul (.lst [.int 0]) (.int 41) = some (.lst Z) := by rw [hZ]; exact dMul_z (k := 41) (by decide)
  obtain ⟨N9, hN9⟩ : ∃ Z, Z = List.replicate 9 (D.tup [.lst [.int 0], .lst [], .lst [], .int 1]) := ⟨_, rfl⟩
  have hm9 : dMul (.lst [.tup [.lst [.int 0], .lst [], .lst [], .int 1]]) (.int 9) = some (.lst N9) := by rw [hN9]; exact dMul_z (k := 9) (by decide)
  simp only [w__law_changed, gSeq, gRet, gRetN, gExpr, gAsg, gIf, gNext, gKill, gDrop, gBrk, gCnt, gNever, gFor, gAug, gOwn, gPut, gDPut, gSprPut, gObjPut, gPar, eObj, eRev, gtName, gtTup, gtCons, gtNil, seqOf, eC, eVar, eUn, eBin, eChain, eAnd, eOr, eNot, eOrT, eIf, tE, tTru, DL.tAnd, DL.tOr, DL.tNot, DL.tYes, aNil, aCons, eLst, eTup, eCall, eCallP, eCallB, aDef, eFn, eIsI, eMt, eGet2, eSpr, oNone, oSome, eSl, eSlX, eSlN, gLPut, gTPut, gOwnAsg, gObjApp, gObjIns, eNewObj, eObjPop, eObjR, eObjL, eObjLen, eObjEnd, eSort, eSortSet, eLstRg, gPar0, sIn, eLc, iSeq, DL.iRng1, DL.iRng2, DL.iEnum, DL.iZip, DL.iStr, killL, fnW, fnWo, eIsE, gTry, gRaise, eJn, eNever, tNever, List.getElem?_cons_zero, List.getElem?_cons_succ, List.set_cons_zero, List.set_cons_succ, List.map_cons, List.map_nil, List.cons_append, List.nil_append, List.append_nil, List.replicate_succ, List.replicate_zero, List.length_cons, List.length_nil, List.foldl_cons, List.foldl_nil, Nat.zero_add, Nat.reduceAdd, Nat.reduceSub, ex_some, ex_bl, ex_int, ex_obj, ex_str, ex_lst, ex_cons, true_and, and_true, dAdd_int, dSub_int, dCmp_int, dNeg_int, Option.some.injEq, exists_eq_left', exists_eq_left, hfl, dPow30, hm, hm9]
  refine p_draw hs (by omega) (by omega) fun k k0 k1 => ?_
  obtain ⟨kN, rfl⟩ := Int.eq_ofNat_of_zero_le k0
  have hk : kN < bs.length := by omega
  have hix : dIx (.lst (bs.map Blk.d)) (.int (kN : Int)) = some bs[kN].d := atI_nat (by rw [List.getElem?_map, List.getElem?_eq_getElem hk]; rfl)
  rw [hix]
  generalize hb : bs[kN] = b
  obtain ⟨q, hq, hq2⟩ := seqOk_ok ok (by decide) (List.getElem_mem hk)
  rw [hb] at hq
  have hodd := oddB_bad hq hq2
  simp only [List.getElem?_cons_zero, List.getElem?_cons_succ, List.set_cons_zero, List.set_cons_succ, List.map_cons, List.map_nil, List.cons_append, List.nil_append, List.append_nil, List.replicate_succ, List.replicate_zero, List.length_cons, List.length_nil, List.foldl_cons, List.foldl_nil, Nat.zero_add, Nat.reduceAdd, Nat.reduceSub, ex_some, ex_bl, ex_int, ex_obj, ex_str, ex_lst, ex_cons, true_and, and_true, dAdd_int, dSub_int, dCmp_int, dNeg_int, Option.some.injEq, exists_eq_left', exists_eq_left]
  refine ⟨_, rfl, rfl, ?_⟩
  simp only [List.getElem?_cons_zero, List.getElem?_cons_succ, List.set_cons_zero, List.set_cons_succ, List.map_cons, List.map_nil, List.cons_append, List.nil_append, List.append_nil, List.replicate_succ, List.replicate_zero, List.length_cons, List.length_nil, List.foldl_cons, List.foldl_nil, Nat.zero_add, Nat.reduceAdd, Nat.reduceSub, ex_some, ex_bl, ex_int, ex_obj, ex_str, ex_lst, ex_cons, true_and, and_true, dAdd_int, dSub_int, dCmp_int, dNeg_int, Option.some.injEq, exists_eq_left', exists_eq_left]
  repeat (first | refine ⟨by omega, ?_⟩ | refine ⟨_, dCat_l (by simp), ?_⟩)
  simp only [List.getElem?_cons_zero, List.getElem?_cons_succ, List.set_cons_zero, List.set_cons_succ, List.map_cons, List.map_nil, List.cons_append, List.nil_append, List.append_nil, List.replicate_succ, List.replicate_zero, List.length_cons, List.length_nil, List.foldl_cons, List.foldl_nil, Nat.zero_add, Nat.reduceAdd, Nat.reduceSub, ex_some, ex_bl, ex_int, ex_obj, ex_str, ex_lst, ex_cons, true_and, and_true, dAdd_int, dSub_int, dCmp_int, dNeg_int, Option.some.injEq, exists_eq_left', exists_eq_left]
  have hol : (oddB b).length = 18 := rfl
  refine ⟨rfl, by omega, .lst (oddB b), .non, ?_, by decide, by decide, by rw [rngD_len]; simp only [line_eq]; decide, ?_⟩
  · rw [hZ]
    exact oApp (by simp)
  refine lcL_all (p := Bad) (fun x hx Q hQ => ?_) fun ds hl hd => ?_
  · have hs1 : dSl (.lst (bs.map Blk.d)) none (some (kN : Int)) = some (.lst ((bs.take kN).map Blk.d)) := by
      show some (D.lst (cutD _ none (some (kN : Int)))) = _
      rw [cutD_take _ (Int.natCast_nonneg _), Int.toNat_natCast, List.map_take]
    have hs2 : dSl (.lst (bs.map Blk.d)) (some ((kN : Int) + 1)) none = some (.lst ((bs.drop (kN + 1)).map Blk.d)) := by
      show some (D.lst (cutD _ (some (((kN + 1 : Nat)) : Int)) none)) = _
      unfold cutD
      rw [HT.sIx_nat, HT.sIx_none, Nat.min_eq_left (by rw [List.length_map]; omega), List.take_of_length_le (by rw [List.length_drop]; exact Nat.le_refl _), List.map_drop]
    simp only [gSeq, gRet, gRetN, gExpr, gAsg, gIf, gNext, gKill, gDrop, gBrk, gCnt, gNever, gFor, gAug, gOwn, gPut, gDPut, gSprPut, gObjPut, gPar, eObj, eRev, gtName, gtTup, gtCons, gtNil, seqOf, eC, eVar, eUn, eBin, eChain, eAnd, eOr, eNot, eOrT, eIf, tE, tTru, DL.tAnd, DL.tOr, DL.tNot, DL.tYes, aNil, aCons, eLst, eTup, eCall, eCallP, eCallB, aDef, eFn, eIsI, eMt, eGet2, eSpr, oNone, oSome, eSl, eSlX, eSlN, gLPut, gTPut, gOwnAsg, gObjApp, gObjIns, eNewObj, eObjPop, eObjR, eObjL, eObjLen, eObjEnd, eSort, eSortSet, eLstRg, gPar0, sIn, eLc, iSeq, DL.iRng1, DL.iRng2, DL.iEnum, DL.iZip, DL.iStr, killL, fnW, fnWo, eIsE, gTry, gRaise, eJn, eNever, tNever, List.getElem?_cons_zero, List.getElem?_cons_succ, List.set_cons_zero, List.set_cons_succ, List.map_cons, List.map_nil, List.cons_append, List.nil_append, List.append_nil, List.replicate_succ, List.replicate_zero, List.length_cons, List.length_nil, List.foldl_cons, List.foldl_nil, Nat.zero_add, Nat.reduceAdd, Nat.reduceSub, ex_some, ex_bl, ex_int, ex_obj, ex_str, ex_lst, ex_cons, true_and, and_true, dAdd_int, dSub_int, dCmp_int, dNeg_int, Option.some.injEq, exists_eq_left', exists_eq_left, hs1]
    refine p_draw hs (by decide) (by decide) fun j j0 j1 => ?_
    obtain ⟨o, ho, hio⟩ := dIx_mem (xs := oddB b) (k := j) j0 (by rw [hol]; exact j1)
    refine ⟨o, hio, by omega, _, dAdd_l (by simp; omega), ?_⟩
    simp only [List.getElem?_cons_zero, List.getElem?_cons_succ, List.set_cons_zero, List.set_cons_succ, List.map_cons, List.map_nil, List.cons_append, List.nil_append, List.append_nil, List.replicate_succ, List.replicate_zero, List.length_cons, List.length_nil, List.foldl_cons, List.foldl_nil, Nat.zero_add, Nat.reduceAdd, Nat.reduceSub, ex_some, ex_bl, ex_int, ex_obj, ex_str, ex_lst, ex_cons, true_and, and_true, dAdd_int, dSub_int, dCmp_int, dNeg_int, Option.some.injEq, exists_eq_left', exists_eq_left, hs2]
    refine ⟨_, dAdd_l (by simp; omega), ?_⟩
    have hbad := bad_at ok h4 hk (hodd o ho)
    rw [List.append_assoc]
    exact hQ _ hbad
  · rw [List.nil_append]
    rw [rngD_len] at hl
    have hl4 : ds.length = 4 := hl
    repeat (first | refine ⟨by omega, ?_⟩ | refine ⟨_, dAdd_l (by simp; omega), ?_⟩)
    refine p_draw hs (by decide) (by decide) fun j j0 j1 => ?_
    obtain ⟨z, hz, hiz⟩ := dIx_mem (xs := ds ++ [D.non, D.int 0, D.lst [], D.tup [], D.dct [], D.str "0 / - / - x 1", D.lst [D.lst (bs.map Blk.d)], D.lst N9, D.bl true] ++ [D.lst [D.tup [D.lst [D.int 0], D.lst [D.tup [D.int 0, D.int 0]], D.lst [], D.int 1]]]) (k := j) j0 (by simp [hl4]; omega)
    refine ⟨z, hiz, h z ?_⟩
    rw [List.mem_append, List.mem_append] at hz
    rcases hz with (hz | hz) | hz
    · exact hd z hz
    · simp only [List.mem_cons, List.not_mem_nil, or_false] at hz
      rcases hz with rfl | rfl | rfl | rfl | rfl | rfl | rfl | rfl | rfl
      · exact ⟨Gd.of (by decide +kernel), (fun ys h => nomatch h), rfl⟩
      · exact ⟨Gd.of (by decide +kernel), (fun ys h => nomatch h), rfl⟩
      · exact ⟨Gd.of (by decide +kernel), (fun ys h b hb => by cases h; simp at hb), by decide +kernel⟩
      · exact ⟨Gd.of (by decide +kernel), (fun ys h b hb => by cases h; simp at hb), by decide +kernel⟩
      · exact ⟨Gd.of (by decide +kernel), (fun ys h => nomatch h), rfl⟩
      · exact ⟨Gd.of (by decide +kernel), (fun ys h => nomatch h), rfl⟩
      · exact seqList_bad ok h1 h4
      · refine ⟨Gd.of (by rw [hN9]; decide +kernel), szd_lst fun x hx => ?_, by rw [hN9]; decide +kernel⟩
        rw [hN9] at hx
        rw [List.eq_of_mem_replicate hx]
        intro ys hys y hy zs hzs
        cases hys
        simp only [List.mem_cons, List.not_mem_nil, or_false] at hy
        rcases hy with rfl | rfl | rfl | rfl
        · cases hzs; simp
        · cases hzs; simp
        · cases hzs; simp
        · cases hzs
      · exact ⟨Gd.of (by decide +kernel), (fun ys h => nomatch h), rfl⟩
    · rw [List.mem_singleton.mp hz]
      refine ⟨Gd.of (by decide +kernel), szd_lst fun x hx => ?_, by decide +kernel⟩
      rw [List.mem_singleton.mp hx]
      intro ys hys y hy zs hzs
      cases hys
      simp only [List.mem_cons, List.not_mem_nil, or_false] at hy
      rcases hy with rfl | rfl | rfl | rfl
      · cases hzs; simp
      · cases hzs; simp
      · cases hzs; simp
      · cases hzs
theorem p_no_distances2 {a : Nat} {S : Sto} {P : D → Sto → Prop} {R : RX} (hs : S a = some .spr) (h : ∀ d, Gd 20000 2 d → isDs d = false → P d S) : w__law_no_distances [.obj a] S P R := by
  have hline := line_eq
  obtain ⟨Z, hZ⟩ : ∃ Z, Z = List.replicate 401 (D.int 0) := ⟨_, rfl⟩
  have hm : dMul (.lst [.int 0]) (.int 401) = some (.lst Z) := by rw [hZ]; exact dMul_z (k := 401) (by decide)
  simp only [w__law_no_distances, gSeq, gRet, gRetN, gExpr, gAsg, gIf, gNext, gKill, gDrop, gBrk, gCnt, gNever, gFor, gAug, gOwn, gPut, gDPut, gSprPut, gObjPut, gPar, eObj, eRev, gtName, gtTup, gtCons, gtNil, seqOf, eC, eVar, eUn, eBin, eChain, eAnd, eOr, eNot, eOrT, eIf, tE, tTru, DL.tAnd, DL.tOr, DL.tNot, DL.tYes, aNil, aCons, eLst, eTup, eCall, eCallP, eCallB, aDef, eFn, eIsI, eMt, eGet2, eSpr, oNone, oSome, eSl, eSlX, eSlN, gLPut, gTPut, gOwnAsg, gObjApp, gObjIns, eNewObj, eObjPop, eObjR, eObjL, eObjLen, eObjEnd, eSort, eSortSet, eLstRg, gPar0, sIn, eLc, iSeq, DL.iRng1, DL.iRng2, DL.iEnum, DL.iZip, DL.iStr, killL, fnW, fnWo, eIsE, gTry, gRaise, eJn, eNever, tNever, List.getElem?_cons_zero, List.getElem?_cons_succ, List.set_cons_zero, List.set_cons_succ, List.map_cons, List.map_nil, List.cons_append, List.nil_append, List.append_nil, List.replicate_succ, List.replicate_zero, List.length_cons, List.length_nil, List.foldl_cons, List.foldl_nil, Nat.zero_add, Nat.reduceAdd, Nat.reduceSub, ex_some, ex_bl, ex_int, ex_obj, ex_str, ex_lst, ex_cons, true_and, and_true, dAdd_int, dSub_int, dCmp_int, dNeg_int, Option.some.injEq, exists_eq_left', exists_eq_left, hm]
  refine ⟨by omega, by omega, by omega, by omega, by omega, by omega, by omega, by omega, by omega, by omega, by omega, by omega, by omega, by omega, by omega, by omega, ?_⟩
  rw [dAdd_l (by simp)]
  simp only [List.getElem?_cons_zero, List.getElem?_cons_succ, List.set_cons_zero, List.set_cons_succ, List.map_cons, List.map_nil, List.cons_append, List.nil_append, List.append_nil, List.replicate_succ, List.replicate_zero, List.length_cons, List.length_nil, List.foldl_cons, List.foldl_nil, Nat.zero_add, Nat.reduceAdd, Nat.reduceSub, ex_some, ex_bl, ex_int, ex_obj, ex_str, ex_lst, ex_cons, true_and, and_true, dAdd_int, dSub_int, dCmp_int, dNeg_int, Option.some.injEq, exists_eq_left', exists_eq_left]
  refine ⟨by omega, by omega, ?_⟩
  refine p_draw hs (by decide) (by decide) fun k hk0 hk1 => ?_
  obtain ⟨z, hz, hi⟩ := dIx_mem (xs := [D.non, D.int 0, D.str "0 0", D.dct [], D.lst [D.int 1], D.lst [D.int 0, D.int 2],
                      D.lst [D.int 0, D.int 0, D.int 1, D.int 2], D.lst [D.int 0, D.int 1, D.int 2],
                      D.lst [D.int 0, D.int (-1)], D.lst [D.int 0, D.bl true], D.lst [D.int 0, D.non],
                      D.lst [D.int 0, D.str "1"], D.bl true, D.lst [D.lst [D.int 0]],
                      D.tup [D.int 0, D.int 3], D.lst [D.bl false], D.lst [D.int 0, D.int 0, D.int 0, D.int 2, D.int 3],
                      D.lst [D.str "0"], D.lst Z, D.tup [D.int 1]]) (k := k) hk0 hk1
  refine ⟨z, hi, ?_⟩
  simp only [List.mem_cons, List.not_mem_nil, or_false] at hz
  have hzz : Gd 20000 2 (.lst Z) := by
    have e : Z = (List.replicate 401 (0 : Int)).map D.int := by rw [hZ, List.map_replicate]
    rw [e]
    exact (gd_ints (fun n hn => by rw [List.eq_of_mem_replicate hn]; decide) (by rw [List.length_replicate]; decide)).1.mono (by decide) (by decide)
  rcases hz with rfl | rfl | rfl | rfl | rfl | rfl | rfl | rfl | rfl | rfl | rfl | rfl | rfl | rfl | rfl | rfl | rfl | rfl | rfl | rfl
  all_goals first | exact h _ (Gd.of (by decide +kernel)) (by decide +kernel) | exact h _ hzz (by rw [hZ]; decide +kernel)
theorem law_ok (ns : List Int) (hl : ns.length ≤ 63) : w_law [.scr ns] noS (fun d _ => d = .bl true) noR := by
  have hline := line_eq
  simp only [w_law, gSeq, gRet, gRetN, gExpr, gAsg, gIf, gNext, gKill, gDrop, gBrk, gCnt, gNever, gFor, gAug, gOwn, gPut, gDPut, gSprPut, gObjPut, gPar, eObj, eRev, gtName, gtTup, gtCons, gtNil, seqOf, eC, eVar, eUn, eBin, eChain, eAnd, eOr, eNot, eOrT, eIf, tE, tTru, DL.tAnd, DL.tOr, DL.tNot, DL.tYes, aNil, aCons, eLst, eTup, eCall, eCallP, eCallB, aDef, eFn, eIsI, eMt, eGet2, eSpr, oNone, oSome, eSl, eSlX, eSlN, gLPut, gTPut, gOwnAsg, gObjApp, gObjIns, eNewObj, eObjPop, eObjR, eObjL, eObjLen, eObjEnd, eSort, eSortSet, eLstRg, gPar0, sIn, eLc, iSeq, DL.iRng1, DL.iRng2, DL.iEnum, DL.iZip, DL.iStr, killL, fnW, fnWo, eIsE, gTry, gRaise, eJn, eNever, tNever, List.getElem?_cons_zero, List.getElem?_cons_succ, List.set_cons_zero, List.set_cons_succ, List.map_cons, List.map_nil, List.cons_append, List.nil_append, List.append_nil, List.replicate_succ, List.replicate_zero, List.length_cons, List.length_nil, List.foldl_cons, List.foldl_nil, Nat.zero_add, Nat.reduceAdd, Nat.reduceSub, ex_some, ex_bl, ex_int, ex_obj, ex_str, ex_lst, ex_cons, true_and, and_true, dAdd_int, dSub_int, dCmp_int, dNeg_int, Option.some.injEq, exists_eq_left', exists_eq_left]
  refine SPG.p_spring fun a ha => ?_
  generalize hS : (noS.upd a .spr) = S
  have hs : S a = some .spr := by rw [← hS]; unfold Sto.upd; rw [if_pos rfl]
  simp only [List.getElem?_cons_zero, List.getElem?_cons_succ, List.set_cons_zero, List.set_cons_succ, List.map_cons, List.map_nil, List.cons_append, List.nil_append, List.append_nil, List.replicate_succ, List.replicate_zero, List.length_cons, List.length_nil, List.foldl_cons, List.foldl_nil, Nat.zero_add, Nat.reduceAdd, Nat.reduceSub, ex_some, ex_bl, ex_int, ex_obj, ex_str, ex_lst, ex_cons, true_and, and_true, dAdd_int, dSub_int, dCmp_int, dNeg_int, Option.some.injEq, exists_eq_left', exists_eq_left, fLen, dLen, fMin_int]
  generalize hb : (2 + if (8 : Int) < (ns.length : Int) then 8 else (ns.length : Int)) = b
  have hb2 : b ≤ 70 := by rw [← hb]; split <;> omega
  have hb0 : 0 ≤ b := by rw [← hb]; split <;> omega
  refine ⟨by omega, by omega, ?_⟩
  refine forL_inv (fun i Δ S' => S' = S ∧ ∃ c2 c3 c4 c6 c7 c8 c9 : Option D, Δ = [some (.scr ns), some (.obj a), c2, c3, c4, none, c6, c7, c8, c9]) ⟨rfl, _, _, _, _, _, _, _, rfl⟩ ?_ ?_
  · rintro i x Δ S' Nx hx ⟨rfl, c2, c3, c4, c6, c7, c8, c9, rfl⟩ hN
    simp only [gSeq, gRet, gRetN, gExpr, gAsg, gIf, gNext, gKill, gDrop, gBrk, gCnt, gNever, gFor, gAug, gOwn, gPut, gDPut, gSprPut, gObjPut, gPar, eObj, eRev, gtName, gtTup, gtCons, gtNil, seqOf, eC, eVar, eUn, eBin, eChain, eAnd, eOr, eNot, eOrT, eIf, tE, tTru, DL.tAnd, DL.tOr, DL.tNot, DL.tYes, aNil, aCons, eLst, eTup, eCall, eCallP, eCallB, aDef, eFn, eIsI, eMt, eGet2, eSpr, oNone, oSome, eSl, eSlX, eSlN, gLPut, gTPut, gOwnAsg, gObjApp, gObjIns, eNewObj, eObjPop, eObjR, eObjL, eObjLen, eObjEnd, eSort, eSortSet, eLstRg, gPar0, sIn, eLc, iSeq, DL.iRng1, DL.iRng2, DL.iEnum, DL.iZip, DL.iStr, killL, fnW, fnWo, eIsE, gTry, gRaise, eJn, eNever, tNever, List.getElem?_cons_zero, List.getElem?_cons_succ, List.set_cons_zero, List.set_cons_succ, List.map_cons, List.map_nil, List.cons_append, List.nil_append, List.append_nil, List.replicate_succ, List.replicate_zero, List.length_cons, List.length_nil, List.foldl_cons, List.foldl_nil, Nat.zero_add, Nat.reduceAdd, Nat.reduceSub, ex_some, ex_bl, ex_int, ex_obj, ex_str, ex_lst, ex_cons, true_and, and_true, dAdd_int, dSub_int, dCmp_int, dNeg_int, Option.some.injEq, exists_eq_left', exists_eq_left]
    refine ⟨by decide, by decide, ?_⟩
    refine forL_inv (fun i Δ S2 => S2 = S' ∧ ∃ c3 c4 c6 c7 c8 c9 : Option D, Δ = [some (.scr ns), some (.obj a), some x, c3, c4, none, c6, c7, c8, c9]) ⟨rfl, _, _, _, _, _, _, rfl⟩ ?_ ?_
    · rintro j y Δ2 S2 Nx2 hy ⟨rfl, c3, c4, c6, c7, c8, c9, rfl⟩ hN2
      simp only [gSeq, gRet, gRetN, gExpr, gAsg, gIf, gNext, gKill, gDrop, gBrk, gCnt, gNever, gFor, gAug, gOwn, gPut, gDPut, gSprPut, gObjPut, gPar, eObj, eRev, gtName, gtTup, gtCons, gtNil, seqOf, eC, eVar, eUn, eBin, eChain, eAnd, eOr, eNot, eOrT, eIf, tE, tTru, DL.tAnd, DL.tOr, DL.tNot, DL.tYes, aNil, aCons, eLst, eTup, eCall, eCallP, eCallB, aDef, eFn, eIsI, eMt, eGet2, eSpr, oNone, oSome, eSl, eSlX, eSlN, gLPut, gTPut, gOwnAsg, gObjApp, gObjIns, eNewObj, eObjPop, eObjR, eObjL, eObjLen, eObjEnd, eSort, eSortSet, eLstRg, gPar0, sIn, eLc, iSeq, DL.iRng1, DL.iRng2, DL.iEnum, DL.iZip, DL.iStr, killL, fnW, fnWo, eIsE, gTry, gRaise, eJn, eNever, tNever, List.getElem?_cons_zero, List.getElem?_cons_succ, List.set_cons_zero, List.set_cons_succ, List.map_cons, List.map_nil, List.cons_append, List.nil_append, List.append_nil, List.replicate_succ, List.replicate_zero, List.length_cons, List.length_nil, List.foldl_cons, List.foldl_nil, Nat.zero_add, Nat.reduceAdd, Nat.reduceSub, ex_some, ex_bl, ex_int, ex_obj, ex_str, ex_lst, ex_cons, true_and, and_true, dAdd_int, dSub_int, dCmp_int, dNeg_int, Option.some.injEq, exists_eq_left', exists_eq_left]
      refine SQF.p_sequence hs (by decide) (by decide) fun bs ok hb1 hb4 => ?_
      have hb4 : bs.length ≤ 4 := by omega
      refine p_no_distances2 hs fun v1 g1 d1 => ?_
      refine ⟨by omega, by omega, by omega, rfl, ?_⟩
      refine p_changed hs ok hb1 hb4 fun v2 hv2 => ?_
      refine ⟨by omega, ?_⟩
      rw [oApp (by simp)]
      refine ⟨_, _, rfl, rfl, ?_⟩
      refine SQF.p_symbols hs (by decide) (by decide) fun us hul hur => ?_
      have hul9 : us.length ≤ 9 := by omega
      refine SPG.p_distances (by omega) ?_
      refine ⟨by omega, ?_⟩
      rw [oApp (by simp)]
      refine ⟨_, _, rfl, ?_⟩
      simp only [List.getElem?_cons_zero, List.getElem?_cons_succ, List.set_cons_zero, List.set_cons_succ, List.map_cons, List.map_nil, List.cons_append, List.nil_append, List.append_nil, List.replicate_succ, List.replicate_zero, List.length_cons, List.length_nil, List.foldl_cons, List.foldl_nil, Nat.zero_add, Nat.reduceAdd, Nat.reduceSub, ex_some, ex_bl, ex_int, ex_obj, ex_str, ex_lst, ex_cons, true_and, and_true, dAdd_int, dSub_int, dCmp_int, dNeg_int, Option.some.injEq, exists_eq_left', exists_eq_left]
      have gseq : Gd 500000 4 (.lst (bs.map Blk.d)) := (gd_lst (n := 100000) (k := 3) (m := 4) (gd_blks ok (by decide)) (by rw [List.length_map]; exact hb4)).mono (by decide) (by decide)
      have hg : ∀ v ∈ [D.tup [v1, .bl true, .str "InvalidDistances"], .tup [.lst (bs.map Blk.d), .bl false, .str "none"], .tup [v2, .bl false, .str "InvalidSequence"], .tup [.lst ((dist us).map D.int), .bl true, .str "none"]], ∃ (u : D) (il : Bool) (w : Str), v = .tup [u, .bl il, .str w] ∧ Gd 1600000 7 v ∧
          ((w = "none" ∧ ∀ (P : D → Sto → Prop) (R : RX), (∀ x, P x noS) → (if il = true then w_format_distances [u] noS P R else w_format_sequence [u] noS P R)) ∨
            ((w = "InvalidDistances" ∨ w = "InvalidSequence") ∧ ∀ (P : D → Sto → Prop) (R : RX), R ⟨w, []⟩ noS → (if il = true then w_format_distances [u] noS P R else w_format_sequence [u] noS P R))) := by
        have gd3 : ∀ (u : D) (il : Bool) (w : Str), Gd 510000 6 u → gdB 100 1 (.str w) = true → Gd 1600000 7 (.tup [u, .bl il, .str w]) := fun u il w gu gw => by
          refine (gd_tup (n := 510000) (k := 6) (m := 3) (fun x hx => ?_) (by simp)).mono (by decide) (by decide)
          simp only [List.mem_cons, List.not_mem_nil, or_false] at hx
          rcases hx with rfl | rfl | rfl
          · exact gu
          · cases il
            · exact (Gd.of (n := 100) (k := 1) (by decide +kernel)).mono (by decide) (by decide)
            · exact (Gd.of (n := 100) (k := 1) (by decide +kernel)).mono (by decide) (by decide)
          · exact (Gd.of gw).mono (by decide) (by decide)
        intro v hv
        simp only [List.mem_cons, List.not_mem_nil, or_false] at hv
        rcases hv with rfl | rfl | rfl | rfl
        · exact ⟨v1, true, _, rfl, gd3 _ _ _ (g1.mono (by decide) (by decide)) (by decide +kernel), .inr ⟨.inl rfl, fun P R h => by rw [if_pos rfl]; exact p_format_distances_bad g1.pl d1 h⟩⟩
        · exact ⟨_, false, _, rfl, gd3 _ _ _ (gseq.mono (by decide) (by decide)) (by decide +kernel), .inl ⟨rfl, fun P R h => by
            rw [if_neg (by decide)]
            exact p_format_sequence (pl_blks bs) (szd_lst (szB_blks ok)) (compOk_blks ok hb1 (by omega)) (seqIn_d bs) ok (by omega) (h _)⟩⟩
        · exact ⟨v2, false, _, rfl, gd3 _ _ _ hv2.gd (by decide +kernel), .inr ⟨.inr rfl, fun P R h => by rw [if_neg (by decide)]; exact p_format_sequence_bad hv2.gd.pl hv2.sz hv2.no h⟩⟩
        · exact ⟨_, true, _, rfl, gd3 _ _ _ ((gd_dist (xs := us) (by omega)).mono (by decide) (by decide)) (by decide +kernel), .inl ⟨rfl, fun P R h => by rw [if_pos rfl]; exact p_format_distances rfl (pl_ints _) (by omega) (h _)⟩⟩
      generalize hvs : [D.tup [v1, .bl true, .str "InvalidDistances"], .tup [.lst (bs.map Blk.d), .bl false, .str "none"], .tup [v2, .bl false, .str "InvalidSequence"], .tup [.lst ((dist us).map D.int), .bl true, .str "none"]] = vs at hg ⊢
      have hvl : vs.length = 4 := by rw [← hvs]; rfl
      have hrp : fReprX [.lst vs] = some (.str (PyData.shown (toPy (.lst vs)))) := by
        refine repr_gd (n := 7000000) (k := 8) ((gd_lst (n := 1600000) (k := 7) (m := 4) (fun x hx => ?_) (by omega)).mono (by decide) (by decide)) (by decide) (by decide)
        obtain ⟨_, _, _, _, g, _⟩ := hg x hx
        exact g
      rw [hrp]
      simp only [List.getElem?_cons_zero, List.getElem?_cons_succ, List.set_cons_zero, List.set_cons_succ, List.map_cons, List.map_nil, List.cons_append, List.nil_append, List.append_nil, List.replicate_succ, List.replicate_zero, List.length_cons, List.length_nil, List.foldl_cons, List.foldl_nil, Nat.zero_add, Nat.reduceAdd, Nat.reduceSub, ex_some, ex_bl, ex_int, ex_obj, ex_str, ex_lst, ex_cons, true_and, and_true, dAdd_int, dSub_int, dCmp_int, dNeg_int, Option.some.injEq, exists_eq_left', exists_eq_left]
      refine ⟨vs, rfl, ?_⟩
      refine forL_inv (fun m Δ S3 => S3 = S2 ∧ ∃ c7 c8 c9 : Option D, Δ = [some (.scr ns), some (.obj a), some x, some y, some (.lst (bs.map Blk.d)), some (.lst vs), some (.str (PyData.shown (toPy (.lst vs)))), c7, c8, c9]) ⟨rfl, _, _, _, rfl⟩ ?_ ?_
      · rintro m z Δ3 S3 Nx3 hz ⟨rfl, c7, c8, c9, rfl⟩ hN3
        obtain ⟨u, il, w, rfl, _, hask⟩ := hg z (List.mem_of_getElem? hz)
        simp only [gSeq, gRet, gRetN, gExpr, gAsg, gIf, gNext, gKill, gDrop, gBrk, gCnt, gNever, gFor, gAug, gOwn, gPut, gDPut, gSprPut, gObjPut, gPar, eObj, eRev, gtName, gtTup, gtCons, gtNil, seqOf, eC, eVar, eUn, eBin, eChain, eAnd, eOr, eNot, eOrT, eIf, tE, tTru, DL.tAnd, DL.tOr, DL.tNot, DL.tYes, aNil, aCons, eLst, eTup, eCall, eCallP, eCallB, aDef, eFn, eIsI, eMt, eGet2, eSpr, oNone, oSome, eSl, eSlX, eSlN, gLPut, gTPut, gOwnAsg, gObjApp, gObjIns, eNewObj, eObjPop, eObjR, eObjL, eObjLen, eObjEnd, eSort, eSortSet, eLstRg, gPar0, sIn, eLc, iSeq, DL.iRng1, DL.iRng2, DL.iEnum, DL.iZip, DL.iStr, killL, fnW, fnWo, eIsE, gTry, gRaise, eJn, eNever, tNever, List.getElem?_cons_zero, List.getElem?_cons_succ, List.set_cons_zero, List.set_cons_succ, List.map_cons, List.map_nil, List.cons_append, List.nil_append, List.append_nil, List.replicate_succ, List.replicate_zero, List.length_cons, List.length_nil, List.foldl_cons, List.foldl_nil, Nat.zero_add, Nat.reduceAdd, Nat.reduceSub, ex_some, ex_bl, ex_int, ex_obj, ex_str, ex_lst, ex_cons, true_and, and_true, dAdd_int, dSub_int, dCmp_int, dNeg_int, Option.some.injEq, exists_eq_left', exists_eq_left]
        refine p_asked hask ?_
        rw [dNe_str]
        simp only [List.getElem?_cons_zero, List.getElem?_cons_succ, List.set_cons_zero, List.set_cons_succ, List.map_cons, List.map_nil, List.cons_append, List.nil_append, List.append_nil, List.replicate_succ, List.replicate_zero, List.length_cons, List.length_nil, List.foldl_cons, List.foldl_nil, Nat.zero_add, Nat.reduceAdd, Nat.reduceSub, ex_some, ex_bl, ex_int, ex_obj, ex_str, ex_lst, ex_cons, true_and, and_true, dAdd_int, dSub_int, dCmp_int, dNeg_int, Option.some.injEq, exists_eq_left', exists_eq_left, decide_true, Bool.not_true, Bool.false_eq_true, if_false, hrp, dNe_str]
        exact hN3 _ _ ⟨rfl, _, _, _, rfl⟩
      · rintro Δ3 S3 ⟨rfl, c7, c8, c9, rfl⟩
        exact hN2 _ _ ⟨rfl, _, _, _, _, _, _, rfl⟩
    · rintro Δ2 S2 ⟨rfl, c3, c4, c6, c7, c8, c9, rfl⟩
      exact hN _ _ ⟨rfl, _, _, _, _, _, _, _, rfl⟩
  · rintro Δ S' ⟨rfl, c2, c3, c4, c6, c7, c8, c9, rfl⟩
    simp only [gSeq, gRet, gRetN, gExpr, gAsg, gIf, gNext, gKill, gDrop, gBrk, gCnt, gNever, gFor, gAug, gOwn, gPut, gDPut, gSprPut, gObjPut, gPar, eObj, eRev, gtName, gtTup, gtCons, gtNil, seqOf, eC, eVar, eUn, eBin, eChain, eAnd, eOr, eNot, eOrT, eIf, tE, tTru, DL.tAnd, DL.tOr, DL.tNot, DL.tYes, aNil, aCons, eLst, eTup, eCall, eCallP, eCallB, aDef, eFn, eIsI, eMt, eGet2, eSpr, oNone, oSome, eSl, eSlX, eSlN, gLPut, gTPut, gOwnAsg, gObjApp, gObjIns, eNewObj, eObjPop, eObjR, eObjL, eObjLen, eObjEnd, eSort, eSortSet, eLstRg, gPar0, sIn, eLc, iSeq, DL.iRng1, DL.iRng2, DL.iEnum, DL.iZip, DL.iStr, killL, fnW, fnWo, eIsE, gTry, gRaise, eJn, eNever, tNever, List.getElem?_cons_zero, List.getElem?_cons_succ, List.set_cons_zero, List.set_cons_succ, List.map_cons, List.map_nil, List.cons_append, List.nil_append, List.append_nil, List.replicate_succ, List.replicate_zero, List.length_cons, List.length_nil, List.foldl_cons, List.foldl_nil, Nat.zero_add, Nat.reduceAdd, Nat.reduceSub, ex_some, ex_bl, ex_int, ex_obj, ex_str, ex_lst, ex_cons, true_and, and_true, dAdd_int, dSub_int, dCmp_int, dNeg_int, Option.some.injEq, exists_eq_left', exists_eq_left]
end K57

namespace K57
open PySem PySem.Spec PyProof.Rows L2 DL
theorem all_fin {l : PySem.W.OpenLaw} {w : World} {K : PySem.W.Frag} {h : Heap} {mg : Str → Option Value} {fa : Addr} (X : K.In h) (G : h.Ns mainGlobals mg) (hfa : mg "law" = some (.ref fa))
    {f_x__law_spring : Addr} {o1_x__law_spring o3_x__law_spring : Option Addr} {o2_x__law_spring : Array (Option Value)} {v1_x__law_spring v2_x__law_spring v3_x__law_spring v4_x__law_spring v5_x__law_spring v6_x__law_spring : Value}
    (a_x__law_spring : PySem.W.nsIn K mainGlobals "_law_spring" = some (some (.ref f_x__law_spring)))
    (l_x__law_spring : K.lookup f_x__law_spring = some ⟨v1_x__law_spring, o1_x__law_spring, .func (PySem.W.fnOf "_law_spring" "_law_spring" (defArgs s__law_spring) (defBody s__law_spring) (defScope s__law_spring) .none v2_x__law_spring v3_x__law_spring v4_x__law_spring o3_x__law_spring v5_x__law_spring v6_x__law_spring), o2_x__law_spring⟩)
    (c_x__law_spring : PySem.W.codeIn K v5_x__law_spring "_law_spring" = true)
    (k_x__law_spring : PySem.W.keepIn K (.ref f_x__law_spring) = true)
    {f_x__law_draw : Addr} {o1_x__law_draw o3_x__law_draw : Option Addr} {o2_x__law_draw : Array (Option Value)} {v1_x__law_draw v2_x__law_draw v3_x__law_draw v4_x__law_draw v5_x__law_draw v6_x__law_draw : Value}
    (a_x__law_draw : PySem.W.nsIn K mainGlobals "_law_draw" = some (some (.ref f_x__law_draw)))
    (l_x__law_draw : K.lookup f_x__law_draw = some ⟨v1_x__law_draw, o1_x__law_draw, .func (PySem.W.fnOf "_law_draw" "_law_draw" (defArgs s__law_draw) (defBody s__law_draw) (defScope s__law_draw) .none v2_x__law_draw v3_x__law_draw v4_x__law_draw o3_x__law_draw v5_x__law_draw v6_x__law_draw), o2_x__law_draw⟩)
    (c_x__law_draw : PySem.W.codeIn K v5_x__law_draw "_law_draw" = true)
    (k_x__law_draw : PySem.W.keepIn K (.ref f_x__law_draw) = true)
    {f_x__law_mapping : Addr} {o1_x__law_mapping o3_x__law_mapping : Option Addr} {o2_x__law_mapping : Array (Option Value)} {v1_x__law_mapping v2_x__law_mapping v3_x__law_mapping v4_x__law_mapping v5_x__law_mapping v6_x__law_mapping : Value}
    (a_x__law_mapping : PySem.W.nsIn K mainGlobals "_law_mapping" = some (some (.ref f_x__law_mapping)))
    (l_x__law_mapping : K.lookup f_x__law_mapping = some ⟨v1_x__law_mapping, o1_x__law_mapping, .func (PySem.W.fnOf "_law_mapping" "_law_mapping" (defArgs s__law_mapping) (defBody s__law_mapping) (defScope s__law_mapping) .none v2_x__law_mapping v3_x__law_mapping v4_x__law_mapping o3_x__law_mapping v5_x__law_mapping v6_x__law_mapping), o2_x__law_mapping⟩)
    (c_x__law_mapping : PySem.W.codeIn K v5_x__law_mapping "_law_mapping" = true)
    (k_x__law_mapping : PySem.W.keepIn K (.ref f_x__law_mapping) = true)
    {f_x__law_symbols : Addr} {o1_x__law_symbols o3_x__law_symbols : Option Addr} {o2_x__law_symbols : Array (Option Value)} {v1_x__law_symbols v2_x__law_symbols v3_x__law_symbols v4_x__law_symbols v5_x__law_symbols v6_x__law_symbols : Value}
    (a_x__law_symbols : PySem.W.nsIn K mainGlobals "_law_symbols" = some (some (.ref f_x__law_symbols)))
    (l_x__law_symbols : K.lookup f_x__law_symbols = some ⟨v1_x__law_symbols, o1_x__law_symbols, .func (PySem.W.fnOf "_law_symbols" "_law_symbols" (defArgs s__law_symbols) (defBody s__law_symbols) (defScope s__law_symbols) .none v2_x__law_symbols v3_x__law_symbols v4_x__law_symbols o3_x__law_symbols v5_x__law_symbols v6_x__law_symbols), o2_x__law_symbols⟩)
    (c_x__law_symbols : PySem.W.codeIn K v5_x__law_symbols "_law_symbols" = true)
    (k_x__law_symbols : PySem.W.keepIn K (.ref f_x__law_symbols) = true)
    {f_x__law_distances : Addr} {o1_x__law_distances o3_x__law_distances : Option Addr} {o2_x__law_distances : Array (Option Value)} {v1_x__law_distances v2_x__law_distances v3_x__law_distances v4_x__law_distances v5_x__law_distances v6_x__law_distances : Value}
    (a_x__law_distances : PySem.W.nsIn K mainGlobals "_law_distances" = some (some (.ref f_x__law_distances)))
    (l_x__law_distances : K.lookup f_x__law_distances = some ⟨v1_x__law_distances, o1_x__law_distances, .func (PySem.W.fnOf "_law_distances" "_law_distances" (defArgs s__law_distances) (defBody s__law_distances) (defScope s__law_distances) .none v2_x__law_distances v3_x__law_distances v4_x__law_distances o3_x__law_distances v5_x__law_distances v6_x__law_distances), o2_x__law_distances⟩)
    (c_x__law_distances : PySem.W.codeIn K v5_x__law_distances "_law_distances" = true)
    (k_x__law_distances : PySem.W.keepIn K (.ref f_x__law_distances) = true)
    {f_x__law_sequence : Addr} {o1_x__law_sequence o3_x__law_sequence : Option Addr} {o2_x__law_sequence : Array (Option Value)} {v1_x__law_sequence v2_x__law_sequence v3_x__law_sequence v4_x__law_sequence v5_x__law_sequence v6_x__law_sequence : Value}
    (a_x__law_sequence : PySem.W.nsIn K mainGlobals "_law_sequence" = some (some (.ref f_x__law_sequence)))
    (l_x__law_sequence : K.lookup f_x__law_sequence = some ⟨v1_x__law_sequence, o1_x__law_sequence, .func (PySem.W.fnOf "_law_sequence" "_law_sequence" (defArgs s__law_sequence) (defBody s__law_sequence) (defScope s__law_sequence) .none v2_x__law_sequence v3_x__law_sequence v4_x__law_sequence o3_x__law_sequence v5_x__law_sequence v6_x__law_sequence), o2_x__law_sequence⟩)
    (c_x__law_sequence : PySem.W.codeIn K v5_x__law_sequence "_law_sequence" = true)
    (k_x__law_sequence : PySem.W.keepIn K (.ref f_x__law_sequence) = true)
    {f_x__law_no_distances : Addr} {o1_x__law_no_distances o3_x__law_no_distances : Option Addr} {o2_x__law_no_distances : Array (Option Value)} {v1_x__law_no_distances v2_x__law_no_distances v3_x__law_no_distances v4_x__law_no_distances v5_x__law_no_distances v6_x__law_no_distances : Value}
    (a_x__law_no_distances : PySem.W.nsIn K mainGlobals "_law_no_distances" = some (some (.ref f_x__law_no_distances)))
    (l_x__law_no_distances : K.lookup f_x__law_no_distances = some ⟨v1_x__law_no_distances, o1_x__law_no_distances, .func (PySem.W.fnOf "_law_no_distances" "_law_no_distances" (defArgs s__law_no_distances) (defBody s__law_no_distances) (defScope s__law_no_distances) .none v2_x__law_no_distances v3_x__law_no_distances v4_x__law_no_distances o3_x__law_no_distances v5_x__law_no_distances v6_x__law_no_distances), o2_x__law_no_distances⟩)
    (c_x__law_no_distances : PySem.W.codeIn K v5_x__law_no_distances "_law_no_distances" = true)
    (k_x__law_no_distances : PySem.W.keepIn K (.ref f_x__law_no_distances) = true)
    {f_x__law_changed : Addr} {o1_x__law_changed o3_x__law_changed : Option Addr} {o2_x__law_changed : Array (Option Value)} {v1_x__law_changed v2_x__law_changed v3_x__law_changed v4_x__law_changed v5_x__law_changed v6_x__law_changed : Value}
    (a_x__law_changed : PySem.W.nsIn K mainGlobals "_law_changed" = some (some (.ref f_x__law_changed)))
    (l_x__law_changed : K.lookup f_x__law_changed = some ⟨v1_x__law_changed, o1_x__law_changed, .func (PySem.W.fnOf "_law_changed" "_law_changed" (defArgs s__law_changed) (defBody s__law_changed) (defScope s__law_changed) .none v2_x__law_changed v3_x__law_changed v4_x__law_changed o3_x__law_changed v5_x__law_changed v6_x__law_changed), o2_x__law_changed⟩)
    (c_x__law_changed : PySem.W.codeIn K v5_x__law_changed "_law_changed" = true)
    (k_x__law_changed : PySem.W.keepIn K (.ref f_x__law_changed) = true)
    {f_x__law_class : Addr} {o1_x__law_class o3_x__law_class : Option Addr} {o2_x__law_class : Array (Option Value)} {v1_x__law_class v2_x__law_class v3_x__law_class v4_x__law_class v5_x__law_class v6_x__law_class : Value}
    (a_x__law_class : PySem.W.nsIn K mainGlobals "_law_class" = some (some (.ref f_x__law_class)))
    (l_x__law_class : K.lookup f_x__law_class = some ⟨v1_x__law_class, o1_x__law_class, .func (PySem.W.fnOf "_law_class" "_law_class" (defArgs s__law_class) (defBody s__law_class) (defScope s__law_class) .none v2_x__law_class v3_x__law_class v4_x__law_class o3_x__law_class v5_x__law_class v6_x__law_class), o2_x__law_class⟩)
    (c_x__law_class : PySem.W.codeIn K v5_x__law_class "_law_class" = true)
    (k_x__law_class : PySem.W.keepIn K (.ref f_x__law_class) = true)
    {f_x_list_text : Addr} {o1_x_list_text o3_x_list_text : Option Addr} {o2_x_list_text : Array (Option Value)} {v1_x_list_text v2_x_list_text v3_x_list_text v4_x_list_text v5_x_list_text v6_x_list_text : Value}
    (a_x_list_text : PySem.W.nsIn K mainGlobals "list_text" = some (some (.ref f_x_list_text)))
    (l_x_list_text : K.lookup f_x_list_text = some ⟨v1_x_list_text, o1_x_list_text, .func (PySem.W.fnOf "list_text" "list_text" (defArgs s_list_text) (defBody s_list_text) (defScope s_list_text) .none v2_x_list_text v3_x_list_text v4_x_list_text o3_x_list_text v5_x_list_text v6_x_list_text), o2_x_list_text⟩)
    (c_x_list_text : PySem.W.codeIn K v5_x_list_text "list_text" = true)
    (k_x_list_text : PySem.W.keepIn K (.ref f_x_list_text) = true)
    {f_x_is_sequence : Addr} {o1_x_is_sequence o3_x_is_sequence : Option Addr} {o2_x_is_sequence : Array (Option Value)} {v1_x_is_sequence v2_x_is_sequence v3_x_is_sequence v4_x_is_sequence v5_x_is_sequence v6_x_is_sequence : Value}
    (a_x_is_sequence : PySem.W.nsIn K mainGlobals "is_sequence" = some (some (.ref f_x_is_sequence)))
    (l_x_is_sequence : K.lookup f_x_is_sequence = some ⟨v1_x_is_sequence, o1_x_is_sequence, .func (PySem.W.fnOf "is_sequence" "is_sequence" (defArgs s_is_sequence) (defBody s_is_sequence) (defScope s_is_sequence) .none v2_x_is_sequence v3_x_is_sequence v4_x_is_sequence o3_x_is_sequence v5_x_is_sequence v6_x_is_sequence), o2_x_is_sequence⟩)
    (c_x_is_sequence : PySem.W.codeIn K v5_x_is_sequence "is_sequence" = true)
    (k_x_is_sequence : PySem.W.keepIn K (.ref f_x_is_sequence) = true)
    {f_x_is_integer : Addr} {o1_x_is_integer o3_x_is_integer : Option Addr} {o2_x_is_integer : Array (Option Value)} {v1_x_is_integer v2_x_is_integer v3_x_is_integer v4_x_is_integer v5_x_is_integer v6_x_is_integer : Value} {t_x_is_integer : Addr} {oc_x_is_integer : Value} {od_x_is_integer : Option Addr} {n_x_is_integer : Nat} {os_x_is_integer : Array (Option Value)}
    (a_x_is_integer : PySem.W.nsIn K mainGlobals "is_integer" = some (some (.ref f_x_is_integer)))
    (l_x_is_integer : K.lookup f_x_is_integer = some ⟨v1_x_is_integer, o1_x_is_integer, .func (PySem.W.fnOf "is_integer" "is_integer" (defArgs s_is_integer) (defBody s_is_integer) (defScope s_is_integer) (.ref t_x_is_integer) v2_x_is_integer v3_x_is_integer v4_x_is_integer o3_x_is_integer v5_x_is_integer v6_x_is_integer), o2_x_is_integer⟩)
    (d_x_is_integer : K.lookup t_x_is_integer = some ⟨oc_x_is_integer, od_x_is_integer, .seq #[.none] n_x_is_integer, os_x_is_integer⟩)
    (c_x_is_integer : PySem.W.codeIn K v5_x_is_integer "is_integer" = true)
    (k_x_is_integer : PySem.W.keepIn K (.ref f_x_is_integer) = true)
    {f_x_is_distances : Addr} {o1_x_is_distances o3_x_is_distances : Option Addr} {o2_x_is_distances : Array (Option Value)} {v1_x_is_distances v2_x_is_distances v3_x_is_distances v4_x_is_distances v5_x_is_distances v6_x_is_distances : Value}
    (a_x_is_distances : PySem.W.nsIn K mainGlobals "is_distances" = some (some (.ref f_x_is_distances)))
    (l_x_is_distances : K.lookup f_x_is_distances = some ⟨v1_x_is_distances, o1_x_is_distances, .func (PySem.W.fnOf "is_distances" "is_distances" (defArgs s_is_distances) (defBody s_is_distances) (defScope s_is_distances) .none v2_x_is_distances v3_x_is_distances v4_x_is_distances o3_x_is_distances v5_x_is_distances v6_x_is_distances), o2_x_is_distances⟩)
    (c_x_is_distances : PySem.W.codeIn K v5_x_is_distances "is_distances" = true)
    (k_x_is_distances : PySem.W.keepIn K (.ref f_x_is_distances) = true)
    {f_x_format_distances : Addr} {o1_x_format_distances o3_x_format_distances : Option Addr} {o2_x_format_distances : Array (Option Value)} {v1_x_format_distances v2_x_format_distances v3_x_format_distances v4_x_format_distances v5_x_format_distances v6_x_format_distances : Value}
    (a_x_format_distances : PySem.W.nsIn K mainGlobals "format_distances" = some (some (.ref f_x_format_distances)))
    (l_x_format_distances : K.lookup f_x_format_distances = some ⟨v1_x_format_distances, o1_x_format_distances, .func (PySem.W.fnOf "format_distances" "format_distances" (defArgs s_format_distances) (defBody s_format_distances) (defScope s_format_distances) .none v2_x_format_distances v3_x_format_distances v4_x_format_distances o3_x_format_distances v5_x_format_distances v6_x_format_distances), o2_x_format_distances⟩)
    (c_x_format_distances : PySem.W.codeIn K v5_x_format_distances "format_distances" = true)
    (k_x_format_distances : PySem.W.keepIn K (.ref f_x_format_distances) = true)
    {f_x_is_pair : Addr} {o1_x_is_pair o3_x_is_pair : Option Addr} {o2_x_is_pair : Array (Option Value)} {v1_x_is_pair v2_x_is_pair v3_x_is_pair v4_x_is_pair v5_x_is_pair v6_x_is_pair : Value}
    (a_x_is_pair : PySem.W.nsIn K mainGlobals "is_pair" = some (some (.ref f_x_is_pair)))
    (l_x_is_pair : K.lookup f_x_is_pair = some ⟨v1_x_is_pair, o1_x_is_pair, .func (PySem.W.fnOf "is_pair" "is_pair" (defArgs s_is_pair) (defBody s_is_pair) (defScope s_is_pair) .none v2_x_is_pair v3_x_is_pair v4_x_is_pair o3_x_is_pair v5_x_is_pair v6_x_is_pair), o2_x_is_pair⟩)
    (c_x_is_pair : PySem.W.codeIn K v5_x_is_pair "is_pair" = true)
    (k_x_is_pair : PySem.W.keepIn K (.ref f_x_is_pair) = true)
    {f_x_is_mapping : Addr} {o1_x_is_mapping o3_x_is_mapping : Option Addr} {o2_x_is_mapping : Array (Option Value)} {v1_x_is_mapping v2_x_is_mapping v3_x_is_mapping v4_x_is_mapping v5_x_is_mapping v6_x_is_mapping : Value}
    (a_x_is_mapping : PySem.W.nsIn K mainGlobals "is_mapping" = some (some (.ref f_x_is_mapping)))
    (l_x_is_mapping : K.lookup f_x_is_mapping = some ⟨v1_x_is_mapping, o1_x_is_mapping, .func (PySem.W.fnOf "is_mapping" "is_mapping" (defArgs s_is_mapping) (defBody s_is_mapping) (defScope s_is_mapping) .none v2_x_is_mapping v3_x_is_mapping v4_x_is_mapping o3_x_is_mapping v5_x_is_mapping v6_x_is_mapping), o2_x_is_mapping⟩)
    (c_x_is_mapping : PySem.W.codeIn K v5_x_is_mapping "is_mapping" = true)
    (k_x_is_mapping : PySem.W.keepIn K (.ref f_x_is_mapping) = true)
    {f_x_is_block : Addr} {o1_x_is_block o3_x_is_block : Option Addr} {o2_x_is_block : Array (Option Value)} {v1_x_is_block v2_x_is_block v3_x_is_block v4_x_is_block v5_x_is_block v6_x_is_block : Value}
    (a_x_is_block : PySem.W.nsIn K mainGlobals "is_block" = some (some (.ref f_x_is_block)))
    (l_x_is_block : K.lookup f_x_is_block = some ⟨v1_x_is_block, o1_x_is_block, .func (PySem.W.fnOf "is_block" "is_block" (defArgs s_is_block) (defBody s_is_block) (defScope s_is_block) .none v2_x_is_block v3_x_is_block v4_x_is_block o3_x_is_block v5_x_is_block v6_x_is_block), o2_x_is_block⟩)
    (c_x_is_block : PySem.W.codeIn K v5_x_is_block "is_block" = true)
    (k_x_is_block : PySem.W.keepIn K (.ref f_x_is_block) = true)
    {f_x_is_compressed : Addr} {o1_x_is_compressed o3_x_is_compressed : Option Addr} {o2_x_is_compressed : Array (Option Value)} {v1_x_is_compressed v2_x_is_compressed v3_x_is_compressed v4_x_is_compressed v5_x_is_compressed v6_x_is_compressed : Value}
    (a_x_is_compressed : PySem.W.nsIn K mainGlobals "is_compressed" = some (some (.ref f_x_is_compressed)))
    (l_x_is_compressed : K.lookup f_x_is_compressed = some ⟨v1_x_is_compressed, o1_x_is_compressed, .func (PySem.W.fnOf "is_compressed" "is_compressed" (defArgs s_is_compressed) (defBody s_is_compressed) (defScope s_is_compressed) .none v2_x_is_compressed v3_x_is_compressed v4_x_is_compressed o3_x_is_compressed v5_x_is_compressed v6_x_is_compressed), o2_x_is_compressed⟩)
    (c_x_is_compressed : PySem.W.codeIn K v5_x_is_compressed "is_compressed" = true)
    (k_x_is_compressed : PySem.W.keepIn K (.ref f_x_is_compressed) = true)
    {f_x_mapping_text : Addr} {o1_x_mapping_text o3_x_mapping_text : Option Addr} {o2_x_mapping_text : Array (Option Value)} {v1_x_mapping_text v2_x_mapping_text v3_x_mapping_text v4_x_mapping_text v5_x_mapping_text v6_x_mapping_text : Value}
    (a_x_mapping_text : PySem.W.nsIn K mainGlobals "mapping_text" = some (some (.ref f_x_mapping_text)))
    (l_x_mapping_text : K.lookup f_x_mapping_text = some ⟨v1_x_mapping_text, o1_x_mapping_text, .func (PySem.W.fnOf "mapping_text" "mapping_text" (defArgs s_mapping_text) (defBody s_mapping_text) (defScope s_mapping_text) .none v2_x_mapping_text v3_x_mapping_text v4_x_mapping_text o3_x_mapping_text v5_x_mapping_text v6_x_mapping_text), o2_x_mapping_text⟩)
    (c_x_mapping_text : PySem.W.codeIn K v5_x_mapping_text "mapping_text" = true)
    (k_x_mapping_text : PySem.W.keepIn K (.ref f_x_mapping_text) = true)
    {f_x_block_text : Addr} {o1_x_block_text o3_x_block_text : Option Addr} {o2_x_block_text : Array (Option Value)} {v1_x_block_text v2_x_block_text v3_x_block_text v4_x_block_text v5_x_block_text v6_x_block_text : Value}
    (a_x_block_text : PySem.W.nsIn K mainGlobals "block_text" = some (some (.ref f_x_block_text)))
    (l_x_block_text : K.lookup f_x_block_text = some ⟨v1_x_block_text, o1_x_block_text, .func (PySem.W.fnOf "block_text" "block_text" (defArgs s_block_text) (defBody s_block_text) (defScope s_block_text) .none v2_x_block_text v3_x_block_text v4_x_block_text o3_x_block_text v5_x_block_text v6_x_block_text), o2_x_block_text⟩)
    (c_x_block_text : PySem.W.codeIn K v5_x_block_text "block_text" = true)
    (k_x_block_text : PySem.W.keepIn K (.ref f_x_block_text) = true)
    {f_x_format_sequence : Addr} {o1_x_format_sequence o3_x_format_sequence : Option Addr} {o2_x_format_sequence : Array (Option Value)} {v1_x_format_sequence v2_x_format_sequence v3_x_format_sequence v4_x_format_sequence v5_x_format_sequence v6_x_format_sequence : Value}
    (a_x_format_sequence : PySem.W.nsIn K mainGlobals "format_sequence" = some (some (.ref f_x_format_sequence)))
    (l_x_format_sequence : K.lookup f_x_format_sequence = some ⟨v1_x_format_sequence, o1_x_format_sequence, .func (PySem.W.fnOf "format_sequence" "format_sequence" (defArgs s_format_sequence) (defBody s_format_sequence) (defScope s_format_sequence) .none v2_x_format_sequence v3_x_format_sequence v4_x_format_sequence o3_x_format_sequence v5_x_format_sequence v6_x_format_sequence), o2_x_format_sequence⟩)
    (c_x_format_sequence : PySem.W.codeIn K v5_x_format_sequence "format_sequence" = true)
    (k_x_format_sequence : PySem.W.keepIn K (.ref f_x_format_sequence) = true)
    {f_x__law_asked : Addr} {o1_x__law_asked o3_x__law_asked : Option Addr} {o2_x__law_asked : Array (Option Value)} {v1_x__law_asked v2_x__law_asked v3_x__law_asked v4_x__law_asked v5_x__law_asked v6_x__law_asked : Value}
    (a_x__law_asked : PySem.W.nsIn K mainGlobals "_law_asked" = some (some (.ref f_x__law_asked)))
    (l_x__law_asked : K.lookup f_x__law_asked = some ⟨v1_x__law_asked, o1_x__law_asked, .func (PySem.W.fnOf "_law_asked" "_law_asked" (defArgs s__law_asked) (defBody s__law_asked) (defScope s__law_asked) .none v2_x__law_asked v3_x__law_asked v4_x__law_asked o3_x__law_asked v5_x__law_asked v6_x__law_asked), o2_x__law_asked⟩)
    (c_x__law_asked : PySem.W.codeIn K v5_x__law_asked "_law_asked" = true)
    (k_x__law_asked : PySem.W.keepIn K (.ref f_x__law_asked) = true)
    {f_x_law : Addr} {o1_x_law o3_x_law : Option Addr} {o2_x_law : Array (Option Value)} {v1_x_law v2_x_law v3_x_law v4_x_law v5_x_law v6_x_law : Value}
    (a_x_law : PySem.W.nsIn K mainGlobals "law" = some (some (.ref f_x_law)))
    (l_x_law : K.lookup f_x_law = some ⟨v1_x_law, o1_x_law, .func (PySem.W.fnOf "law" "law" (defArgs s_law) (defBody s_law) (defScope s_law) .none v2_x_law v3_x_law v4_x_law o3_x_law v5_x_law v6_x_law), o2_x_law⟩)
    (c_x_law : PySem.W.codeIn K v5_x_law "law" = true)
    (k_x_law : PySem.W.keepIn K (.ref f_x_law) = true)
    {t_g_BLOCK_FIELDS : Tok} (g_BLOCK_FIELDS : PySem.W.nsIn K mainGlobals "BLOCK_FIELDS" = some (some (.int 4 t_g_BLOCK_FIELDS)))
    {t_g_EMPTY_LIST : Tok} (g_EMPTY_LIST : PySem.W.nsIn K mainGlobals "EMPTY_LIST" = some (some (.str "none" t_g_EMPTY_LIST)))
    {t_g_EMPTY_MAPPING : Tok} (g_EMPTY_MAPPING : PySem.W.nsIn K mainGlobals "EMPTY_MAPPING" = some (some (.str "-" t_g_EMPTY_MAPPING)))
    {t_g_MAX_POSITIONS : Tok} (g_MAX_POSITIONS : PySem.W.nsIn K mainGlobals "MAX_POSITIONS" = some (some (.int 400 t_g_MAX_POSITIONS)))
    {t_g_MOST_BLOCKS : Tok} (g_MOST_BLOCKS : PySem.W.nsIn K mainGlobals "MOST_BLOCKS" = some (some (.int 8 t_g_MOST_BLOCKS)))
    {t_g_MOST_BLOCK_LENGTH : Tok} (g_MOST_BLOCK_LENGTH : PySem.W.nsIn K mainGlobals "MOST_BLOCK_LENGTH" = some (some (.int 40 t_g_MOST_BLOCK_LENGTH)))
    {t_g_MOST_REPETITIONS : Tok} (g_MOST_REPETITIONS : PySem.W.nsIn K mainGlobals "MOST_REPETITIONS" = some (some (.int 1000000000000000000000000000000 t_g_MOST_REPETITIONS)))
    {x_InvalidDistances : Addr} (a_x_InvalidDistances : PySem.W.nsIn K mainGlobals "InvalidDistances" = some (some (.ref x_InvalidDistances)))
    {x_InvalidSequence : Addr} (a_x_InvalidSequence : PySem.W.nsIn K mainGlobals "InvalidSequence" = some (some (.ref x_InvalidSequence)))
    {x_Inconsistent : Addr} (a_x_Inconsistent : PySem.W.nsIn K mainGlobals "Inconsistent" = some (some (.ref x_Inconsistent)))
    {x_InvalidFacts : Addr} (a_x_InvalidFacts : PySem.W.nsIn K mainGlobals "InvalidFacts" = some (some (.ref x_InvalidFacts)))
    {x_InvalidNumber : Addr} (a_x_InvalidNumber : PySem.W.nsIn K mainGlobals "InvalidNumber" = some (some (.ref x_InvalidNumber)))
    {x_InvalidPosition : Addr} (a_x_InvalidPosition : PySem.W.nsIn K mainGlobals "InvalidPosition" = some (some (.ref x_InvalidPosition)))
    {x_ParseError : Addr} (a_x_ParseError : PySem.W.nsIn K mainGlobals "ParseError" = some (some (.ref x_ParseError)))
    {x_InvalidCommand : Addr} (a_x_InvalidCommand : PySem.W.nsIn K mainGlobals "InvalidCommand" = some (some (.ref x_InvalidCommand)))
    {x_InvalidMapping : Addr} (a_x_InvalidMapping : PySem.W.nsIn K mainGlobals "InvalidMapping" = some (some (.ref x_InvalidMapping)))
    {x_InvalidPattern : Addr} (a_x_InvalidPattern : PySem.W.nsIn K mainGlobals "InvalidPattern" = some (some (.ref x_InvalidPattern)))
    {x_InvalidRanks : Addr} (a_x_InvalidRanks : PySem.W.nsIn K mainGlobals "InvalidRanks" = some (some (.ref x_InvalidRanks)))
    {x_InvalidSymbols : Addr} (a_x_InvalidSymbols : PySem.W.nsIn K mainGlobals "InvalidSymbols" = some (some (.ref x_InvalidSymbols)))
    {x_NothingToUndo : Addr} (a_x_NothingToUndo : PySem.W.nsIn K mainGlobals "NothingToUndo" = some (some (.ref x_NothingToUndo)))
    {x_TooLong : Addr} (a_x_TooLong : PySem.W.nsIn K mainGlobals "TooLong" = some (some (.ref x_TooLong)))
    {x_UnknownMark : Addr} (a_x_UnknownMark : PySem.W.nsIn K mainGlobals "UnknownMark" = some (some (.ref x_UnknownMark)))
    {x_UnknownSymbol : Addr} (a_x_UnknownSymbol : PySem.W.nsIn K mainGlobals "UnknownSymbol" = some (some (.ref x_UnknownSymbol)))
    {x_HowFarBackError : Addr} (a_x_HowFarBackError : PySem.W.nsIn K mainGlobals "HowFarBackError" = some (some (.ref x_HowFarBackError)))
    (xe_InvalidDistances : PySem.W.excIn K x_InvalidDistances HandSPX.veTail "ValueError.__new__" = true)
    (e1_InvalidDistances : PySem.W.keepIn K (.ref x_InvalidDistances) = true)
    (e2_InvalidDistances : PySem.W.subIn K (.ref x_InvalidDistances) (.type "BaseException") = some true)
    (e3_InvalidDistances : PySem.W.typeIn K (.ref x_InvalidDistances) = some (.type "type"))
    (f1_InvalidDistances : PySem.W.findIn K (.ref x_InvalidDistances) "__getattribute__" = some (some (.builtin "BaseException.__getattribute__")))
    (f2_InvalidDistances : PySem.W.findIn K (.ref x_InvalidDistances) "__getattr__" = some none)
    (f4_InvalidDistances : PySem.W.hasDictIn K x_InvalidDistances = true)
    (f5_InvalidDistances : PySem.W.findIn K (.ref x_InvalidDistances) "__class__" = some (some (.builtin "object.__class__")))
    (f8_InvalidDistances : PySem.W.mroIn K x_InvalidDistances (.type "object") = some true)
    (xe_InvalidSequence : PySem.W.excIn K x_InvalidSequence HandSPX.veTail "ValueError.__new__" = true)
    (e1_InvalidSequence : PySem.W.keepIn K (.ref x_InvalidSequence) = true)
    (e2_InvalidSequence : PySem.W.subIn K (.ref x_InvalidSequence) (.type "BaseException") = some true)
    (e3_InvalidSequence : PySem.W.typeIn K (.ref x_InvalidSequence) = some (.type "type"))
    (f1_InvalidSequence : PySem.W.findIn K (.ref x_InvalidSequence) "__getattribute__" = some (some (.builtin "BaseException.__getattribute__")))
    (f2_InvalidSequence : PySem.W.findIn K (.ref x_InvalidSequence) "__getattr__" = some none)
    (f4_InvalidSequence : PySem.W.hasDictIn K x_InvalidSequence = true)
    (f5_InvalidSequence : PySem.W.findIn K (.ref x_InvalidSequence) "__class__" = some (some (.builtin "object.__class__")))
    (f8_InvalidSequence : PySem.W.mroIn K x_InvalidSequence (.type "object") = some true)
    (fn_ : PySem.W.specialIn K (.builtin "object.__class__") "__get__" = some (some (.builtin "getset_descriptor.__get__")))
    (ft_ : PySem.W.takesIn K (.builtin "object.__class__") = some true)
    (k_Inconsistent_InvalidSequence : PySem.W.kitOne K (.ref x_InvalidSequence) (.ref x_Inconsistent) = some false)
    (k_Inconsistent_InvalidDistances : PySem.W.kitOne K (.ref x_InvalidDistances) (.ref x_Inconsistent) = some false)
    (k_InvalidDistances_InvalidSequence : PySem.W.kitOne K (.ref x_InvalidSequence) (.ref x_InvalidDistances) = some false)
    (k_InvalidDistances_InvalidDistances : PySem.W.kitOne K (.ref x_InvalidDistances) (.ref x_InvalidDistances) = some true)
    (k_InvalidFacts_InvalidSequence : PySem.W.kitOne K (.ref x_InvalidSequence) (.ref x_InvalidFacts) = some false)
    (k_InvalidFacts_InvalidDistances : PySem.W.kitOne K (.ref x_InvalidDistances) (.ref x_InvalidFacts) = some false)
    (k_InvalidNumber_InvalidSequence : PySem.W.kitOne K (.ref x_InvalidSequence) (.ref x_InvalidNumber) = some false)
    (k_InvalidNumber_InvalidDistances : PySem.W.kitOne K (.ref x_InvalidDistances) (.ref x_InvalidNumber) = some false)
    (k_InvalidPosition_InvalidSequence : PySem.W.kitOne K (.ref x_InvalidSequence) (.ref x_InvalidPosition) = some false)
    (k_InvalidPosition_InvalidDistances : PySem.W.kitOne K (.ref x_InvalidDistances) (.ref x_InvalidPosition) = some false)
    (k_InvalidSequence_InvalidSequence : PySem.W.kitOne K (.ref x_InvalidSequence) (.ref x_InvalidSequence) = some true)
    (k_InvalidSequence_InvalidDistances : PySem.W.kitOne K (.ref x_InvalidDistances) (.ref x_InvalidSequence) = some false)
    (k_ParseError_InvalidSequence : PySem.W.kitOne K (.ref x_InvalidSequence) (.ref x_ParseError) = some false)
    (k_ParseError_InvalidDistances : PySem.W.kitOne K (.ref x_InvalidDistances) (.ref x_ParseError) = some false)
    (k_tup7_InvalidSequence : PySem.W.kitAny K (.ref x_InvalidSequence) [.ref x_InvalidCommand, .ref x_InvalidMapping, .ref x_InvalidPattern, .ref x_InvalidRanks, .ref x_InvalidSymbols] = some false)
    (k_tup7_InvalidDistances : PySem.W.kitAny K (.ref x_InvalidDistances) [.ref x_InvalidCommand, .ref x_InvalidMapping, .ref x_InvalidPattern, .ref x_InvalidRanks, .ref x_InvalidSymbols] = some false)
    (k_tup8_InvalidSequence : PySem.W.kitAny K (.ref x_InvalidSequence) [.ref x_NothingToUndo, .ref x_TooLong, .ref x_UnknownMark, .ref x_UnknownSymbol] = some false)
    (k_tup8_InvalidDistances : PySem.W.kitAny K (.ref x_InvalidDistances) [.ref x_NothingToUndo, .ref x_TooLong, .ref x_UnknownMark, .ref x_UnknownSymbol] = some false)
    (k_ValueError_InvalidSequence : PySem.W.kitOne K (.ref x_InvalidSequence) (.type "ValueError") = some true)
    (k_ValueError_InvalidDistances : PySem.W.kitOne K (.ref x_InvalidDistances) (.type "ValueError") = some true)
    (k_HowFarBackError_InvalidSequence : PySem.W.kitOne K (.ref x_InvalidSequence) (.ref x_HowFarBackError) = some true)
    (k_HowFarBackError_InvalidDistances : PySem.W.kitOne K (.ref x_InvalidDistances) (.ref x_HowFarBackError) = some true)
    (d1_HowFarBackError : PySem.W.subIn K (.ref x_HowFarBackError) (.type "BaseException") = some true)
    (d2_HowFarBackError : PySem.W.hasDictIn K x_HowFarBackError = true)
    (d3_HowFarBackError : PySem.W.typeIn K (.ref x_HowFarBackError) = some (.type "type"))
    (d4_HowFarBackError_InvalidSequence : PySem.W.subIn K (.ref x_InvalidSequence) (.ref x_HowFarBackError) = some true)
    (d4_HowFarBackError_InvalidDistances : PySem.W.subIn K (.ref x_InvalidDistances) (.ref x_HowFarBackError) = some true)
    (z_ValueError : PySem.W.nsIn K mainGlobals "ValueError" = some none)
    (z_abs : PySem.W.nsIn K mainGlobals "abs" = some none)
    (z_all : PySem.W.nsIn K mainGlobals "all" = some none)
    (z_bool : PySem.W.nsIn K mainGlobals "bool" = some none)
    (z_enumerate : PySem.W.nsIn K mainGlobals "enumerate" = some none)
    (z_int : PySem.W.nsIn K mainGlobals "int" = some none)
    (z_isinstance : PySem.W.nsIn K mainGlobals "isinstance" = some none)
    (z_len : PySem.W.nsIn K mainGlobals "len" = some none)
    (z_list : PySem.W.nsIn K mainGlobals "list" = some none)
    (z_min : PySem.W.nsIn K mainGlobals "min" = some none)
    (z_range : PySem.W.nsIn K mainGlobals "range" = some none)
    (z_repr : PySem.W.nsIn K mainGlobals "repr" = some none)
    (z_set : PySem.W.nsIn K mainGlobals "set" = some none)
    (z_str : PySem.W.nsIn K mainGlobals "str" = some none)
    (z_tuple : PySem.W.nsIn K mainGlobals "tuple" = some none)
    (z_zip : PySem.W.nsIn K mainGlobals "zip" = some none) :
    ∃ fd : FuncData, (∀ (s : Shared) (u : Value), BindsTo s fd ⟨[u], []⟩ [("_law_script", u)]) ∧ ∀ base : Heap, K.In base → base.Ns mainGlobals mg → FnG l.prog w K mg base (L2.CX l.prog w) 8 fa fd ["_law_script"] (spW K mg false w_law) :=
  have T : Txt K mg := all_mk X G a_x__law_spring l_x__law_spring c_x__law_spring k_x__law_spring a_x__law_draw l_x__law_draw c_x__law_draw k_x__law_draw a_x__law_mapping l_x__law_mapping c_x__law_mapping k_x__law_mapping a_x__law_symbols l_x__law_symbols c_x__law_symbols k_x__law_symbols a_x__law_distances l_x__law_distances c_x__law_distances k_x__law_distances a_x__law_sequence l_x__law_sequence c_x__law_sequence k_x__law_sequence a_x__law_no_distances l_x__law_no_distances c_x__law_no_distances k_x__law_no_distances a_x__law_changed l_x__law_changed c_x__law_changed k_x__law_changed a_x__law_class l_x__law_class c_x__law_class k_x__law_class a_x_list_text l_x_list_text c_x_list_text k_x_list_text a_x_is_sequence l_x_is_sequence c_x_is_sequence k_x_is_sequence a_x_is_integer l_x_is_integer d_x_is_integer c_x_is_integer k_x_is_integer a_x_is_distances l_x_is_distances c_x_is_distances k_x_is_distances a_x_format_distances l_x_format_distances c_x_format_distances k_x_format_distances a_x_is_pair l_x_is_pair c_x_is_pair k_x_is_pair a_x_is_mapping l_x_is_mapping c_x_is_mapping k_x_is_mapping a_x_is_block l_x_is_block c_x_is_block k_x_is_block a_x_is_compressed l_x_is_compressed c_x_is_compressed k_x_is_compressed a_x_mapping_text l_x_mapping_text c_x_mapping_text k_x_mapping_text a_x_block_text l_x_block_text c_x_block_text k_x_block_text a_x_format_sequence l_x_format_sequence c_x_format_sequence k_x_format_sequence a_x__law_asked l_x__law_asked c_x__law_asked k_x__law_asked a_x_law l_x_law c_x_law k_x_law g_BLOCK_FIELDS g_EMPTY_LIST g_EMPTY_MAPPING g_MAX_POSITIONS g_MOST_BLOCKS g_MOST_BLOCK_LENGTH g_MOST_REPETITIONS a_x_InvalidDistances a_x_InvalidSequence a_x_Inconsistent a_x_InvalidFacts a_x_InvalidNumber a_x_InvalidPosition a_x_ParseError a_x_InvalidCommand a_x_InvalidMapping a_x_InvalidPattern a_x_InvalidRanks a_x_InvalidSymbols a_x_NothingToUndo a_x_TooLong a_x_UnknownMark a_x_UnknownSymbol a_x_HowFarBackError xe_InvalidDistances e1_InvalidDistances e2_InvalidDistances e3_InvalidDistances f1_InvalidDistances f2_InvalidDistances f4_InvalidDistances f5_InvalidDistances f8_InvalidDistances xe_InvalidSequence e1_InvalidSequence e2_InvalidSequence e3_InvalidSequence f1_InvalidSequence f2_InvalidSequence f4_InvalidSequence f5_InvalidSequence f8_InvalidSequence fn_ ft_ k_Inconsistent_InvalidSequence k_Inconsistent_InvalidDistances k_InvalidDistances_InvalidSequence k_InvalidDistances_InvalidDistances k_InvalidFacts_InvalidSequence k_InvalidFacts_InvalidDistances k_InvalidNumber_InvalidSequence k_InvalidNumber_InvalidDistances k_InvalidPosition_InvalidSequence k_InvalidPosition_InvalidDistances k_InvalidSequence_InvalidSequence k_InvalidSequence_InvalidDistances k_ParseError_InvalidSequence k_ParseError_InvalidDistances k_tup7_InvalidSequence k_tup7_InvalidDistances k_tup8_InvalidSequence k_tup8_InvalidDistances k_ValueError_InvalidSequence k_ValueError_InvalidDistances k_HowFarBackError_InvalidSequence k_HowFarBackError_InvalidDistances d1_HowFarBackError d2_HowFarBackError d3_HowFarBackError d4_HowFarBackError_InvalidSequence d4_HowFarBackError_InvalidDistances z_ValueError z_abs z_all z_bool z_enumerate z_int z_isinstance z_len z_list z_min z_range z_repr z_set z_str z_tuple z_zip
  law_fin (x := "_law_script") T.d_law hfa (fun _ _ _ _ _ _ _ => rfl) fun base => t_law T
theorem walk {l : PySem.W.OpenLaw} {q : Program} {loose : List Str} {XP : (Str → Option Value) → Heap → Prop} {YP : World → Heap → Prop} {d : DefRec} {K : Params → PySem.W.Frag} (hn : l.most = some 63) (hdf : d.params.defaults = [])
    (hY : ∀ (w : World) (h : Heap), YP w h → (K w.params).In h)
    (F : ∀ (w : World) (mg : Str → Option Value) (fa : Addr) (h : Heap), (K w.params).In h → h.Ns mainGlobals mg → mg d.name = some (.ref fa) →
      ∃ fd : FuncData, (∀ (s : Shared) (u : Value), BindsTo s fd ⟨[u], []⟩ [("_law_script", u)]) ∧ ∀ base : Heap, (K w.params).In base → base.Ns mainGlobals mg → FnG l.prog w (K w.params) mg base (L2.CX l.prog w) 8 fa fd ["_law_script"] (spW (K w.params) mg false w_law)) :
    PySem.W.WalkO q loose XP YP l.row.toRowW d [] (fun f vs => PySem.call f vs) :=
  DL.walkGw (fun w => L2.CX l.prog w) (n := 63) (k := 8) (x := "_law_script") (f := w_law) hn (by decide) hdf ⟨rfl, by decide, by decide⟩ hY F law_ok (fun _ _ _ _ _ z => by obtain ⟨_, _, _, _, _, _, _, _, _, _, _, _, z⟩ := z; exact z)
end K57

open PySem PySem.W PyProof.Rows
set_option maxRecDepth 100000 in
set_option maxHeartbeats 0 in
theorem PySem.Challenge.cw_howfarback_k57_format_errors_holds : PySem.Challenge.rw_howfarback_k57_format_errors.Holds := by
  w_on; o_law; k_head; (case hw => w_witness2)
  k_fill
  refine K57.walk (l := PySem.Challenge.rw_howfarback_k57_format_errors) rfl rfl (fun w h Y => PySem.W.kIn_of Y) ?F
  case F =>
    intro w mg fa h KX G hmg
    refine' K57.all_fin KX G hmg ?a_x__law_spring ?l_x__law_spring ?c_x__law_spring ?k_x__law_spring ?a_x__law_draw ?l_x__law_draw ?c_x__law_draw ?k_x__law_draw ?a_x__law_mapping ?l_x__law_mapping ?c_x__law_mapping ?k_x__law_mapping ?a_x__law_symbols ?l_x__law_symbols ?c_x__law_symbols ?k_x__law_symbols ?a_x__law_distances ?l_x__law_distances ?c_x__law_distances ?k_x__law_distances ?a_x__law_sequence ?l_x__law_sequence ?c_x__law_sequence ?k_x__law_sequence ?a_x__law_no_distances ?l_x__law_no_distances ?c_x__law_no_distances ?k_x__law_no_distances ?a_x__law_changed ?l_x__law_changed ?c_x__law_changed ?k_x__law_changed ?a_x__law_class ?l_x__law_class ?c_x__law_class ?k_x__law_class ?a_x_list_text ?l_x_list_text ?c_x_list_text ?k_x_list_text ?a_x_is_sequence ?l_x_is_sequence ?c_x_is_sequence ?k_x_is_sequence ?a_x_is_integer ?l_x_is_integer ?d_x_is_integer ?c_x_is_integer ?k_x_is_integer ?a_x_is_distances ?l_x_is_distances ?c_x_is_distances ?k_x_is_distances ?a_x_format_distances ?l_x_format_distances ?c_x_format_distances ?k_x_format_distances ?a_x_is_pair ?l_x_is_pair ?c_x_is_pair ?k_x_is_pair ?a_x_is_mapping ?l_x_is_mapping ?c_x_is_mapping ?k_x_is_mapping ?a_x_is_block ?l_x_is_block ?c_x_is_block ?k_x_is_block ?a_x_is_compressed ?l_x_is_compressed ?c_x_is_compressed ?k_x_is_compressed ?a_x_mapping_text ?l_x_mapping_text ?c_x_mapping_text ?k_x_mapping_text ?a_x_block_text ?l_x_block_text ?c_x_block_text ?k_x_block_text ?a_x_format_sequence ?l_x_format_sequence ?c_x_format_sequence ?k_x_format_sequence ?a_x__law_asked ?l_x__law_asked ?c_x__law_asked ?k_x__law_asked ?a_x_law ?l_x_law ?c_x_law ?k_x_law ?g_BLOCK_FIELDS ?g_EMPTY_LIST ?g_EMPTY_MAPPING ?g_MAX_POSITIONS ?g_MOST_BLOCKS ?g_MOST_BLOCK_LENGTH ?g_MOST_REPETITIONS ?a_x_InvalidDistances ?a_x_InvalidSequence ?a_x_Inconsistent ?a_x_InvalidFacts ?a_x_InvalidNumber ?a_x_InvalidPosition ?a_x_ParseError ?a_x_InvalidCommand ?a_x_InvalidMapping ?a_x_InvalidPattern ?a_x_InvalidRanks ?a_x_InvalidSymbols ?a_x_NothingToUndo ?a_x_TooLong ?a_x_UnknownMark ?a_x_UnknownSymbol ?a_x_HowFarBackError ?xe_InvalidDistances ?e1_InvalidDistances ?e2_InvalidDistances ?e3_InvalidDistances ?f1_InvalidDistances ?f2_InvalidDistances ?f4_InvalidDistances ?f5_InvalidDistances ?f8_InvalidDistances ?xe_InvalidSequence ?e1_InvalidSequence ?e2_InvalidSequence ?e3_InvalidSequence ?f1_InvalidSequence ?f2_InvalidSequence ?f4_InvalidSequence ?f5_InvalidSequence ?f8_InvalidSequence ?fn_ ?ft_ ?k_Inconsistent_InvalidSequence ?k_Inconsistent_InvalidDistances ?k_InvalidDistances_InvalidSequence ?k_InvalidDistances_InvalidDistances ?k_InvalidFacts_InvalidSequence ?k_InvalidFacts_InvalidDistances ?k_InvalidNumber_InvalidSequence ?k_InvalidNumber_InvalidDistances ?k_InvalidPosition_InvalidSequence ?k_InvalidPosition_InvalidDistances ?k_InvalidSequence_InvalidSequence ?k_InvalidSequence_InvalidDistances ?k_ParseError_InvalidSequence ?k_ParseError_InvalidDistances ?k_tup7_InvalidSequence ?k_tup7_InvalidDistances ?k_tup8_InvalidSequence ?k_tup8_InvalidDistances ?k_ValueError_InvalidSequence ?k_ValueError_InvalidDistances ?k_HowFarBackError_InvalidSequence ?k_HowFarBackError_InvalidDistances ?d1_HowFarBackError ?d2_HowFarBackError ?d3_HowFarBackError ?d4_HowFarBackError_InvalidSequence ?d4_HowFarBackError_InvalidDistances ?z_ValueError ?z_abs ?z_all ?z_bool ?z_enumerate ?z_int ?z_isinstance ?z_len ?z_list ?z_min ?z_range ?z_repr ?z_set ?z_str ?z_tuple ?z_zip
    (case a_x__law_spring => k_is)
    (case l_x__law_spring => k_is)
    (case c_x__law_spring => k_is)
    (case k_x__law_spring => k_is)
    (case a_x__law_draw => k_is)
    (case l_x__law_draw => k_is)
    (case c_x__law_draw => k_is)
    (case k_x__law_draw => k_is)
    (case a_x__law_mapping => k_is)
    (case l_x__law_mapping => k_is)
    (case c_x__law_mapping => k_is)
    (case k_x__law_mapping => k_is)
    (case a_x__law_symbols => k_is)
    (case l_x__law_symbols => k_is)
    (case c_x__law_symbols => k_is)
    (case k_x__law_symbols => k_is)
    (case a_x__law_distances => k_is)
    (case l_x__law_distances => k_is)
    (case c_x__law_distances => k_is)
    (case k_x__law_distances => k_is)
    (case a_x__law_sequence => k_is)
    (case l_x__law_sequence => k_is)
    (case c_x__law_sequence => k_is)
    (case k_x__law_sequence => k_is)
    (case a_x__law_no_distances => k_is)
    (case l_x__law_no_distances => k_is)
    (case c_x__law_no_distances => k_is)
    (case k_x__law_no_distances => k_is)
    (case a_x__law_changed => k_is)
    (case l_x__law_changed => k_is)
    (case c_x__law_changed => k_is)
    (case k_x__law_changed => k_is)
    (case a_x__law_class => k_is)
    (case l_x__law_class => k_is)
    (case c_x__law_class => k_is)
    (case k_x__law_class => k_is)
    (case a_x_list_text => k_is)
    (case l_x_list_text => k_is)
    (case c_x_list_text => k_is)
    (case k_x_list_text => k_is)
    (case a_x_is_sequence => k_is)
    (case l_x_is_sequence => k_is)
    (case c_x_is_sequence => k_is)
    (case k_x_is_sequence => k_is)
    (case a_x_is_integer => k_is)
    (case l_x_is_integer => k_is)
    (case d_x_is_integer => k_is)
    (case c_x_is_integer => k_is)
    (case k_x_is_integer => k_is)
    (case a_x_is_distances => k_is)
    (case l_x_is_distances => k_is)
    (case c_x_is_distances => k_is)
    (case k_x_is_distances => k_is)
    (case a_x_format_distances => k_is)
    (case l_x_format_distances => k_is)
    (case c_x_format_distances => k_is)
    (case k_x_format_distances => k_is)
    (case a_x_is_pair => k_is)
    (case l_x_is_pair => k_is)
    (case c_x_is_pair => k_is)
    (case k_x_is_pair => k_is)
    (case a_x_is_mapping => k_is)
    (case l_x_is_mapping => k_is)
    (case c_x_is_mapping => k_is)
    (case k_x_is_mapping => k_is)
    (case a_x_is_block => k_is)
    (case l_x_is_block => k_is)
    (case c_x_is_block => k_is)
    (case k_x_is_block => k_is)
    (case a_x_is_compressed => k_is)
    (case l_x_is_compressed => k_is)
    (case c_x_is_compressed => k_is)
    (case k_x_is_compressed => k_is)
    (case a_x_mapping_text => k_is)
    (case l_x_mapping_text => k_is)
    (case c_x_mapping_text => k_is)
    (case k_x_mapping_text => k_is)
    (case a_x_block_text => k_is)
    (case l_x_block_text => k_is)
    (case c_x_block_text => k_is)
    (case k_x_block_text => k_is)
    (case a_x_format_sequence => k_is)
    (case l_x_format_sequence => k_is)
    (case c_x_format_sequence => k_is)
    (case k_x_format_sequence => k_is)
    (case a_x__law_asked => k_is)
    (case l_x__law_asked => k_is)
    (case c_x__law_asked => k_is)
    (case k_x__law_asked => k_is)
    (case a_x_law => k_is)
    (case l_x_law => k_is)
    (case c_x_law => k_is)
    (case k_x_law => k_is)
    (case g_BLOCK_FIELDS => k_is)
    (case g_EMPTY_LIST => k_is)
    (case g_EMPTY_MAPPING => k_is)
    (case g_MAX_POSITIONS => k_is)
    (case g_MOST_BLOCKS => k_is)
    (case g_MOST_BLOCK_LENGTH => k_is)
    (case g_MOST_REPETITIONS => k_is)
    (case a_x_InvalidDistances => k_is)
    (case a_x_InvalidSequence => k_is)
    (case a_x_Inconsistent => k_is)
    (case a_x_InvalidFacts => k_is)
    (case a_x_InvalidNumber => k_is)
    (case a_x_InvalidPosition => k_is)
    (case a_x_ParseError => k_is)
    (case a_x_InvalidCommand => k_is)
    (case a_x_InvalidMapping => k_is)
    (case a_x_InvalidPattern => k_is)
    (case a_x_InvalidRanks => k_is)
    (case a_x_InvalidSymbols => k_is)
    (case a_x_NothingToUndo => k_is)
    (case a_x_TooLong => k_is)
    (case a_x_UnknownMark => k_is)
    (case a_x_UnknownSymbol => k_is)
    (case a_x_HowFarBackError => k_is)
    (case xe_InvalidDistances => k_exc)
    (case e1_InvalidDistances => k_is)
    (case e2_InvalidDistances => k_is)
    (case e3_InvalidDistances => k_is)
    (case f1_InvalidDistances => k_is)
    (case f2_InvalidDistances => k_is)
    (case f4_InvalidDistances => k_is)
    (case f5_InvalidDistances => k_is)
    (case f8_InvalidDistances => k_is)
    (case xe_InvalidSequence => k_exc)
    (case e1_InvalidSequence => k_is)
    (case e2_InvalidSequence => k_is)
    (case e3_InvalidSequence => k_is)
    (case f1_InvalidSequence => k_is)
    (case f2_InvalidSequence => k_is)
    (case f4_InvalidSequence => k_is)
    (case f5_InvalidSequence => k_is)
    (case f8_InvalidSequence => k_is)
    (case fn_ => k_is)
    (case ft_ => k_is)
    (case k_Inconsistent_InvalidSequence => kit_is)
    (case k_Inconsistent_InvalidDistances => kit_is)
    (case k_InvalidDistances_InvalidSequence => kit_is)
    (case k_InvalidDistances_InvalidDistances => kit_is)
    (case k_InvalidFacts_InvalidSequence => kit_is)
    (case k_InvalidFacts_InvalidDistances => kit_is)
    (case k_InvalidNumber_InvalidSequence => kit_is)
    (case k_InvalidNumber_InvalidDistances => kit_is)
    (case k_InvalidPosition_InvalidSequence => kit_is)
    (case k_InvalidPosition_InvalidDistances => kit_is)
    (case k_InvalidSequence_InvalidSequence => kit_is)
    (case k_InvalidSequence_InvalidDistances => kit_is)
    (case k_ParseError_InvalidSequence => kit_is)
    (case k_ParseError_InvalidDistances => kit_is)
    (case k_tup7_InvalidSequence => kit_is)
    (case k_tup7_InvalidDistances => kit_is)
    (case k_tup8_InvalidSequence => kit_is)
    (case k_tup8_InvalidDistances => kit_is)
    (case k_ValueError_InvalidSequence => kit_is)
    (case k_ValueError_InvalidDistances => kit_is)
    (case k_HowFarBackError_InvalidSequence => kit_is)
    (case k_HowFarBackError_InvalidDistances => kit_is)
    (case d1_HowFarBackError => k_is)
    (case d2_HowFarBackError => k_is)
    (case d3_HowFarBackError => k_is)
    (case d4_HowFarBackError_InvalidSequence => k_is)
    (case d4_HowFarBackError_InvalidDistances => k_is)
    (case z_ValueError => k_is)
    (case z_abs => k_is)
    (case z_all => k_is)
    (case z_bool => k_is)
    (case z_enumerate => k_is)
    (case z_int => k_is)
    (case z_isinstance => k_is)
    (case z_len => k_is)
    (case z_list => k_is)
    (case z_min => k_is)
    (case z_range => k_is)
    (case z_repr => k_is)
    (case z_set => k_is)
    (case z_str => k_is)
    (case z_tuple => k_is)
    (case z_zip => k_is)
