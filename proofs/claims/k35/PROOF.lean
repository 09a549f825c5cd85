import PyProof.Rows.All
import Wide.All
import OpenK.AllK
import Wide.FinOn
import HandS.ForMost
import HandS.Exc
import HandS.ExcOwn
import HandS.Lambda
import HandS.Defaults
import HandS.IsInst
import HandS.Deep
import HandS.TupAny
import HandS.TupLe
import HandS.Style
import HandS.Wide
import HandS.WideBits
import HandS.ExcInit
import HandS.WordsExc
import HandS.ClsMeth
import HandS.TryMany
import HandS.ExcField
import HandS.ExcIs
import KE.GoesMore
import KE.GoesEnum
import HandS.Iter
import HandS.DictComp
import HandS.Text
import HandS.Ends
import HandS.HeadEnd
import KE.KEqNest
import KE.KStateDown
import Lean
import HandS.Head0
import HandS.Head1
import HandS.Head2
import HandS.HeadHook1
import HandS.HeadHook2
import PySem.Challenge.RW_walkasks_k35_whole_folds
set_option Elab.async false
section T_Mir
set_option Elab.async false
set_option linter.all false
/-! Mir: the mirror language. Values, a store of the objects that are changed, results, the words of expressions and statements. -/
namespace Mi
open PySem L2

inductive Dv where
  | non | bl (b : Bool) | int (i : Int) | str (x : Str)
  | tup (xs : List Dv)
  /-- a list | a dict that nobody changes any more -/
  | lst (xs : List Dv) | dct (kvs : List (Key × Dv))
  /-- a list of the text's, or the script -/
  | con (xs : List Dv)
  /-- an object of the store -/
  | loc (n : Nat)
instance : Inhabited Dv := ⟨.non⟩
/-- an exception of an own class: its class's name, its fields -/
structure Exn where
  cls : Str
  fs : List (Str × Dv)
inductive Ob where
  | lst (xs : List Dv) | dK (kvs : List (Key × Dv)) | dT (kvs : List (List Key × Dv))
abbrev Sto := List Ob
abbrev En := List (Option Dv)
inductive Res (α : Type) where
  | ok (a : α) (S : Sto) | ex (x : Exn) (S : Sto) | bad
@[reducible] def M (α : Type) := Sto → Res α
def M.bind {α β : Type} (m : M α) (k : α → M β) : M β := fun S => match m S with
  | .ok a S' => k a S'
  | .ex x S' => .ex x S'
  | .bad => .bad
def M.pure {α : Type} (a : α) : M α := fun S => .ok a S
instance : Monad M := { pure := M.pure, bind := M.bind }
def mBad {α : Type} : M α := fun _ => .bad
def mRaise {α : Type} (x : Exn) : M α := fun S => .ex x S
/-- a partial function's answer -/
def mOpt {α : Type} : Option α → M α
  | some a => M.pure a
  | none => mBad
/-- sizes -/
abbrev lim : Nat := 100000

/-! ### expressions -/
abbrev EX := En → M Dv
abbrev EB := En → M Bool
abbrev EA := En → M (List Dv)
def eVar (i : Nat) : EX := fun δ => match δ[i]? with
  | some (some d) => M.pure d
  | _ => mBad
def eC (d : Dv) : EX := fun _ => M.pure d
def e1 (f : Dv → M Dv) (a : EX) : EX := fun δ => (a δ).bind f
def e2 (f : Dv → Dv → M Dv) (a b : EX) : EX := fun δ => (a δ).bind fun x => (b δ).bind fun y => f x y
def aNil : EA := fun _ => M.pure []
def aCons (a : EX) (r : EA) : EA := fun δ => (a δ).bind fun x => (r δ).bind fun xs => M.pure (x :: xs)
def eN (f : List Dv → M Dv) (a : EA) : EX := fun δ => (a δ).bind f
def eIf (c : EB) (a b : EX) : EX := fun δ => (c δ).bind fun t => if t = true then a δ else b δ
def eAnd (a b : EX) : EX := fun δ => (a δ).bind fun x => match x with
  | .bl true => b δ
  | .bl false => M.pure (.bl false)
  | _ => mBad
def eOr (a b : EX) : EX := fun δ => (a δ).bind fun x => match x with
  | .bl true => M.pure (.bl true)
  | .bl false => b δ
  | _ => mBad
def eNot (a : EX) : EX := fun δ => (a δ).bind fun x => match x with
  | .bl b => M.pure (.bl (!b))
  | _ => mBad
/-! tests -/
def bOf (a : EX) : EB := fun δ => (a δ).bind fun x => match x with
  | .bl b => M.pure b
  | _ => mBad
def bAnd (a b : EB) : EB := fun δ => (a δ).bind fun x => if x = true then b δ else M.pure false
def bOr (a b : EB) : EB := fun δ => (a δ).bind fun x => if x = true then M.pure true else b δ
def bNot (a : EB) : EB := fun δ => (a δ).bind fun x => M.pure (!x)
/-! ### statements -/
inductive SR where
  | nx (δ : En) (S : Sto) | rt (d : Dv) (S : Sto) | bk (δ : En) (S : Sto) | ct (δ : En) (S : Sto) | ex (x : Exn) (δ : En) (S : Sto) | bad
abbrev SM := En → Sto → SR
def onOk {α : Type} (r : Res α) (δ : En) (k : α → Sto → SR) : SR := match r with
  | .ok a S => k a S
  | .ex x S => .ex x δ S
  | .bad => .bad
def sNil : SM := fun δ S => .nx δ S
def sSeq (a b : SM) : SM := fun δ S => match a δ S with
  | .nx δ' S' => b δ' S'
  | r => r
def sIf (c : EB) (a b : SM) : SM := fun δ S => onOk (c δ S) δ fun t S' => if t = true then a δ S' else b δ S'
def sSet (i : Nat) (e : EX) : SM := fun δ S => onOk (e δ S) δ fun d S' => .nx (δ.set i (some d)) S'
def sRet (e : EX) : SM := fun δ S => onOk (e δ S) δ fun d S' => .rt d S'
def sExpr (e : EX) : SM := fun δ S => onOk (e δ S) δ fun _ S' => .nx δ S'
def sBreak : SM := fun δ S => .bk δ S
def sCont : SM := fun δ S => .ct δ S
/-- a def's body as a function -/
def fnEnd (r : SR) : Res Dv := match r with
  | .nx _ S' => .ok .non S'
  | .rt d S' => .ok d S'
  | .ex x _ S' => .ex x S'
  | _ => .bad
/-- k parameters, n names -/
def fnOf (k n : Nat) (body : SM) : List Dv → M Dv := fun ds S => if ds.length = k then fnEnd (body (ds.map some ++ List.replicate (n - k) none) S) else .bad
end Mi
namespace Mi
open PySem L2
/-! ### targets, loops, comprehensions -/
abbrev TGm := Dv → En → Sto → Option (En × Sto)
def gNm (i : Nat) : TGm := fun d δ S => some (δ.set i (some d), S)
def gAll : List TGm → List Dv → En → Sto → Option (En × Sto)
  | [], [], δ, S => some (δ, S)
  | g :: gs, d :: ds, δ, S => match g d δ S with
    | some (δ', S') => gAll gs ds δ' S'
    | none => none
  | _, _, _, _ => none
/-- (a, b, ..) = a tuple -/
def gTp (gs : List TGm) : TGm := fun d δ S => match d with
  | .tup ds => gAll gs ds δ S
  | _ => none
def sAsg (g : TGm) (e : EX) : SM := fun δ S => onOk (e δ S) δ fun d S' => match g d δ S' with
  | some (δ', S'') => .nx δ' S''
  | none => .bad
/-- a, b = e1, e2: names alone -/
def setAll (δ : En) : List Nat → List Dv → Option En
  | [], [] => some δ
  | i :: is, d :: ds => setAll (δ.set i (some d)) is ds
  | _, _ => none
def sPar (is : List Nat) (a : EA) : SM := fun δ S => onOk (a δ S) δ fun ds S' => match setAll δ is ds with
  | some δ' => .nx δ' S'
  | none => .bad
def forGo (g : TGm) (body : SM) : List Dv → En → Sto → SR
  | [], δ, S => .nx δ S
  | d :: r, δ, S => match g d δ S with
    | none => .bad
    | some (δ1, S1) => match body δ1 S1 with
      | .nx δ' S' => forGo g body r δ' S'
      | .ct δ' S' => forGo g body r δ' S'
      | .bk δ' S' => .nx δ' S'
      | .rt d S' => .rt d S'
      | .ex x δ' S' => .ex x δ' S'
      | .bad => .bad
def sFor (it : EA) (g : TGm) (body : SM) : SM := fun δ S => onOk (it δ S) δ fun ds S' => forGo g body ds δ S'
def wipeD (δ : En) : List Nat → En
  | [] => δ
  | v :: vs => (wipeD δ vs).set v none
/-- a comprehension's turns; nothing may be raised in them -/
def lcGo (g : TGm) (t : EB) (e : EX) (δ : En) : List Dv → List Dv → Sto → Res (List Dv)
  | [], acc, S => .ok acc S
  | d :: r, acc, S => match g d δ S with
    | none => .bad
    | some (δ1, S1) => match t δ1 S1 with
      | .ok true S2 => (match e δ1 S2 with
        | .ok y S3 => lcGo g t e δ r (acc ++ [y]) S3
        | _ => .bad)
      | .ok false S2 => lcGo g t e δ r acc S2
      | _ => .bad
def lcOk (r : Res (List Dv)) : Res Dv := match r with
  | .ok ds S => .ok (.lst ds) S
  | _ => .bad
def lcEnd (g : TGm) (t : EB) (e : EX) (δ : En) (ds : List Dv) (S : Sto) : Res Dv := if ds.length ≤ lim then lcOk (lcGo g t e δ ds [] S) else .bad
def eLc (it : EA) (g : TGm) (t : EB) (e : EX) (vs : List Nat) : EX := fun δ => (it δ).bind fun ds => lcEnd g t e (wipeD δ vs) ds
def bYes : EB := fun _ => M.pure true
/-! a new list, tuple -/
def mTup (ds : List Dv) : M Dv := if ds.length ≤ lim then M.pure (.tup ds) else mBad
def mLst (ds : List Dv) : M Dv := if ds.length ≤ lim then M.pure (.lst ds) else mBad
/-- the items of what is walked -/
def mItems (d : Dv) : M (List Dv) := match d with
  | .lst ds => M.pure ds
  | .con ds => M.pure ds
  | .tup ds => M.pure ds
  | .str x => M.pure (x.cps.toList.map fun c => .str ⟨#[c]⟩)
  | _ => mBad
def iOf (a : EX) : EA := fun δ => (a δ).bind mItems
def mRange1 (ds : List Dv) : M (List Dv) := match ds with
  | [.int n] => if -(lim : Int) ≤ n ∧ n ≤ lim then M.pure ((List.range n.toNat).map fun i => .int (i : Nat)) else mBad
  | _ => mBad
def mRange2 (ds : List Dv) : M (List Dv) := match ds with
  | [.int a, .int b] => if -(lim : Int) ≤ a ∧ a ≤ lim ∧ -(lim : Int) ≤ b ∧ b ≤ lim then M.pure ((List.range (b - a).toNat).map fun i => .int (a + (i : Nat))) else mBad
  | _ => mBad
def iRange1 (a : EA) : EA := fun δ => (a δ).bind mRange1
def iRange2 (a : EA) : EA := fun δ => (a δ).bind mRange2
end Mi

namespace Mi
open PySem L2
/-! ### operations -/
/-- the items of a list that may be changed, of any list -/
def asL (S : Sto) : Dv → Option (List Dv)
  | .lst ds => some ds
  | .loc n => match S[n]? with
    | some (.lst ds) => some ds
    | _ => none
  | _ => none
def asC (S : Sto) : Dv → Option (List Dv)
  | .con ds => some ds
  | d => asL S d
def optAll {α : Type} : List (Option α) → Option (List α)
  | [] => some []
  | some a :: r => (optAll r).map (a :: ·)
  | none :: _ => none
def kPd : Key → PyData
  | .inl i => .int i
  | .inr x => .str x
def okSB (x : Str) : Bool := x.cps.toList.all fun c => decide (c < 0x110000)
def okKB : Key → Bool
  | .inl _ => true
  | .inr x => okSB x
/-- a value as data -/
def deep (S : Sto) : Nat → Dv → Option PyData
  | 0, _ => none
  | k + 1, d => match d with
    | .non => some .none
    | .bl b => some (.bool b)
    | .int i => some (.int i)
    | .str x => some (.str x)
    | .tup xs => (optAll (xs.map (deep S k))).map .tuple
    | .lst xs => (optAll (xs.map (deep S k))).map .list
    | .con xs => (optAll (xs.map (deep S k))).map .list
    | .dct kvs => if kvs.all (fun q => okKB q.1) = true then (optAll ((kvs.map (·.2)).map (deep S k))).map fun vs => .dict ((kvs.map fun q => kPd q.1).zip vs) else none
    | .loc n => match S[n]? with
      | some (.lst xs) => (optAll (xs.map (deep S k))).map .list
      | _ => none
abbrev dpt : Nat := 12
mutual
def noDict : PyData → Bool
  | .list xs | .tuple xs => noDictA xs
  | .dict _ => false
  | .none | .bool _ | .str _ | .int _ => true
def noDictA : List PyData → Bool
  | [] => true
  | x :: xs => noDict x && noDictA xs
end
def mEqv (k : Bool → Bool) (d e : Dv) : M Dv := fun S => match deep S dpt d, deep S dpt e with
  | some p, some q => if noDict p && noDict q then .ok (.bl (k (PyData.eqv p q))) S else .bad
  | _, _ => .bad
def mEq : Dv → Dv → M Dv := mEqv id
def mNe : Dv → Dv → M Dv := mEqv not
def mRepr (ds : List Dv) : M Dv := fun S => match ds with
  | [d] => (match deep S dpt d with
    | some p => if p.showable && p.leavesShort 400 && decide (p.bulk ≤ 30000) then .ok (.str p.shown) S else .bad
    | none => .bad)
  | _ => .bad
def mAdd (d e : Dv) : M Dv := fun S => match d, e with
  | .int i, .int j => .ok (.int (i + j)) S
  | .str x, .str y => if x.length + y.length ≤ lim then .ok (.str (x ++ y)) S else .bad
  | .tup xs, .tup ys => if xs.length + ys.length ≤ lim then .ok (.tup (xs ++ ys)) S else .bad
  | d, e => match asL S d, asL S e with
    | some xs, some ys => if xs.length + ys.length ≤ lim then .ok (.lst (xs ++ ys)) S else .bad
    | _, _ => .bad
def mSub (d e : Dv) : M Dv := match d, e with
  | .int i, .int j => M.pure (.int (i - j))
  | _, _ => mBad
def mMul (d e : Dv) : M Dv := fun S => match d, e with
  | .int i, .int j => if i.natAbs < 2 ^ 64 ∨ j.natAbs < 2 ^ 64 then .ok (.int (i * j)) S else .bad
  | .lst xs, .int j => if xs.length * j.toNat ≤ lim ∧ -(lim : Int) ≤ j ∧ j ≤ lim then .ok (.lst (List.replicate j.toNat xs).flatten) S else .bad
  | _, _ => .bad
def mFdiv (d e : Dv) : M Dv := match d, e with
  | .int i, .int j => if 0 < j ∧ j < 1073741824 then M.pure (.int (i / j)) else mBad
  | _, _ => mBad
def mMod (d e : Dv) : M Dv := match d, e with
  | .int i, .int j => if 0 < j then M.pure (.int (i % j)) else mBad
  | _, _ => mBad
def mPow (d e : Dv) : M Dv := match d, e with
  | .int i, .int j => if 0 ≤ j ∧ j ≤ 1000 ∧ i.natAbs < 2 ^ 64 then M.pure (.int (i ^ j.toNat)) else mBad
  | _, _ => mBad
def mNeg (d : Dv) : M Dv := match d with
  | .int i => M.pure (.int (-i))
  | _ => mBad
def mCmp (p : Int → Int → Bool) (d e : Dv) : M Dv := match d, e with
  | .int i, .int j => M.pure (.bl (p i j))
  | _, _ => mBad
def mLt : Dv → Dv → M Dv := mCmp fun i j => decide (i < j)
def mLe : Dv → Dv → M Dv := mCmp fun i j => decide (i ≤ j)
def mGt : Dv → Dv → M Dv := mCmp fun i j => decide (j < i)
def mGe : Dv → Dv → M Dv := mCmp fun i j => decide (j ≤ i)
/-- x in a text, a list, a tuple -/
def mInB (k : Bool → Bool) (d e : Dv) : M Dv := fun S => match d, e with
  | .str x, .str y => .ok (.bl (k (!(Builtin.Str.occurrences y x 0 y.length 1).isEmpty))) S
  | d, e => match deep S dpt d, deep S dpt e with
    | some p, some (.list ps) => if noDict p && noDictA ps then .ok (.bl (k (ps.any fun z => PyData.eqv z p))) S else .bad
    | some p, some (.tuple ps) => if noDict p && noDictA ps then .ok (.bl (k (ps.any fun z => PyData.eqv z p))) S else .bad
    | _, _ => .bad
def mIn : Dv → Dv → M Dv := mInB id
def mNotIn : Dv → Dv → M Dv := mInB not
/-- is, is not: None and truths -/
def mIsB (k : Bool → Bool) (d e : Dv) : M Dv := match d, e with
  | .non, .non => M.pure (.bl (k true))
  | _, .non => M.pure (.bl (k false))
  | .bl a, .bl b => M.pure (.bl (k (decide (a = b))))
  | _, _ => mBad
def mIs : Dv → Dv → M Dv := mIsB id
def mIsNot : Dv → Dv → M Dv := mIsB not
def mLen (ds : List Dv) : M Dv := fun S => match ds with
  | [.str x] => if x.length ≤ lim then .ok (.int x.length) S else .bad
  | [.tup xs] => .ok (.int xs.length) S
  | [d] => (match asC S d with
    | some xs => .ok (.int xs.length) S
    | none => .bad)
  | _ => .bad
def blsOf : List Dv → Option (List Bool)
  | [] => some []
  | .bl b :: r => (blsOf r).map (b :: ·)
  | _ :: _ => none
def mAllB (k : List Bool → Bool) (ds : List Dv) : M Dv := fun S => match ds with
  | [d] => (match asC S d with
    | some xs => (match blsOf xs with
      | some bs => .ok (.bl (k bs)) S
      | none => .bad)
    | none => .bad)
  | _ => .bad
def mAll : List Dv → M Dv := mAllB fun bs => bs.all id
def mAny : List Dv → M Dv := mAllB fun bs => bs.any id
def mTuple (ds : List Dv) : M Dv := fun S => match ds with
  | [.tup xs] => .ok (.tup xs) S
  | [d] => (match asC S d with
    | some xs => .ok (.tup xs) S
    | none => .bad)
  | _ => .bad
def mList (ds : List Dv) : M Dv := fun S => match ds with
  | [.tup xs] => .ok (.lst xs) S
  | [d] => (match asC S d with
    | some xs => .ok (.lst xs) S
    | none => .bad)
  | _ => .bad
def mAbs (ds : List Dv) : M Dv := match ds with
  | [.int i] => M.pure (.int (if i < 0 then -i else i))
  | _ => mBad
def mMax (ds : List Dv) : M Dv := match ds with
  | [.int i, .int j] => M.pure (.int (if j > i then j else i))
  | _ => mBad
def mMin (ds : List Dv) : M Dv := match ds with
  | [.int i, .int j] => M.pure (.int (if j < i then j else i))
  | _ => mBad
def mInt (ds : List Dv) : M Dv := match ds with
  | [.int i] => M.pure (.int i)
  | [.bl b] => M.pure (.int (if b then 1 else 0))
  | _ => mBad
def mDivmod (ds : List Dv) : M Dv := match ds with
  | [.int i, .int j] => if 0 < j ∧ j < 1073741824 then M.pure (.tup [.int (i / j), .int (i % j)]) else mBad
  | _ => mBad
/-- d[i] -/
def mIx (d e : Dv) : M Dv := fun S => match d, e with
  | .str x, .int i => if x.length ≤ lim then (match atI x.cps.toList i with
    | some c => .ok (.str ⟨#[c]⟩) S
    | none => .bad) else .bad
  | .tup xs, .int i => (match atI xs i with
    | some v => .ok v S
    | none => .bad)
  | d, .int i => (match asC S d with
    | some xs => (match atI xs i with
      | some v => .ok v S
      | none => .bad)
    | none => .bad)
  | _, _ => .bad
def cutD (xs : List Dv) (lo hi : Option Int) : List Dv := List.take (HT.sIx xs.length xs.length hi - HT.sIx xs.length 0 lo) (List.drop (HT.sIx xs.length 0 lo) xs)
def mSl (lo hi : Option Int) (d : Dv) : M Dv := fun S => match d with
  | .str x => if x.length ≤ lim then .ok (.str (cutS x lo hi)) S else .bad
  | .tup xs => .ok (.tup (cutD xs lo hi)) S
  | d => match asC S d with
    | some xs => .ok (.lst (cutD xs lo hi)) S
    | none => .bad
abbrev EO := En → M (Option Int)
def oNone : EO := fun _ => M.pure none
def oSome (a : EX) : EO := fun δ => (a δ).bind fun x => match x with
  | .int i => M.pure (some i)
  | _ => mBad
def eSl (a : EX) (lo hi : EO) : EX := fun δ => (a δ).bind fun x => (lo δ).bind fun l => (hi δ).bind fun h => mSl l h x
end Mi
namespace Mi
open PySem L2
/-! ### kinds -/
def kind (S : Sto) : Dv → Option String
  | .non => some "NoneType"
  | .bl _ => some "bool"
  | .int _ => some "int"
  | .str _ => some "str"
  | .tup _ => some "tuple"
  | .lst _ | .con _ => some "list"
  | .dct _ => some "dict"
  | .loc n => match S[n]? with
    | some (.lst _) => some "list"
    | some (.dK _) => some "dict"
    | some (.dT _) => some "dict"
    | none => none
def subK (t c : String) : Bool := t == c || (t == "bool" && c == "int")
def mIsi (c : String) (d : Dv) : M Dv := fun S => match kind S d with
  | some t => .ok (.bl (subK t c)) S
  | none => .bad
/-- isinstance(x, (c1, c2)) -/
def mIsiT (cs : List String) (d : Dv) : M Dv := fun S => match kind S d with
  | some t => .ok (.bl (cs.any fun c => subK t c)) S
  | none => .bad
/-- a r b r' c -/
def eChain (f g : Dv → Dv → M Dv) (a b c : EX) : EX := fun δ => (a δ).bind fun x => (b δ).bind fun y => (f x y).bind fun z => match z with
  | .bl true => (c δ).bind fun w => g y w
  | .bl false => M.pure (.bl false)
  | _ => mBad
/-! ### raise, try -/
def sRaise (c : Str) (fs : List Str) (a : EA) : SM := fun δ S => onOk (a δ S) δ fun ds S' => if ds.length = fs.length then .ex ⟨c, fs.zip ds⟩ δ S' else .bad
/-! ### changes -/
def mNewL (ds : List Dv) : M Dv := fun S => if ds.length ≤ lim then .ok (.loc S.length) (S ++ [.lst ds]) else .bad
def mAppend (d : Dv) (ds : List Dv) : M Dv := fun S => match d, ds with
  | .loc n, [x] => (match S[n]? with
    | some (.lst xs) => if xs.length < lim then .ok .non (S.set n (.lst (xs ++ [x]))) else .bad
    | _ => .bad)
  | _, _ => .bad
def mExtend (d : Dv) (ds : List Dv) : M Dv := fun S => match d, ds with
  | .loc n, [.lst ys] => (match S[n]? with
    | some (.lst xs) => if xs.length + ys.length < lim then .ok .non (S.set n (.lst (xs ++ ys))) else .bad
    | _ => .bad)
  | _, _ => .bad
def mClear (d : Dv) (ds : List Dv) : M Dv := fun S => match d, ds with
  | .loc n, [] => (match S[n]? with
    | some (.lst _) => .ok .non (S.set n (.lst []))
    | _ => .bad)
  | _, _ => .bad
/-- o.m(..) -/
def eMth (T : String) (f : Dv → List Dv → M Dv) (o : EX) (a : EA) : EX := fun δ => (o δ).bind fun x S => if kind S x = some T then ((a δ).bind fun ds => f x ds) S else .bad
/-- o[i] = .., o a list of the store -/
def gIx (o i : EX) : TGm := fun d δ S => match o δ S with
  | .ok (.loc n) S1 => (match i δ S1 with
    | .ok (.int k) S2 => (match S2[n]? with
      | some (.lst xs) => (match ixN xs.length k with
        | some j => some (δ, S2.set n (.lst (xs.set j d)))
        | none => none)
      | _ => none)
    | _ => none)
  | _ => none
/-- x op= e -/
def sAug (i : Nat) (f : Dv → Dv → M Dv) (e : EX) : SM := fun δ S => onOk (eVar i δ S) δ fun x S1 => onOk (e δ S1) δ fun y S2 => onOk (f x y S2) δ fun z S3 => .nx (δ.set i (some z)) S3
/-- while, n turns at most -/
def whGo (c : EB) (body : SM) : Nat → En → Sto → SR
  | 0, _, _ => .bad
  | n + 1, δ, S => onOk (c δ S) δ fun t S1 => if t = true then (match body δ S1 with
      | .nx δ' S' => whGo c body n δ' S'
      | .ct δ' S' => whGo c body n δ' S'
      | .bk δ' S' => .nx δ' S'
      | .rt d S' => .rt d S'
      | .ex x δ' S' => .ex x δ' S'
      | .bad => .bad) else .nx δ S1
def sWhile (n : Nat) (c : EB) (body : SM) : SM := fun δ S => whGo c body n δ S
/-! a new list of the store, by a comprehension -/
def eStore (e : EX) : EX := fun δ => (e δ).bind fun d => fun S => match d with
  | .lst ds => .ok (.loc S.length) (S ++ [.lst ds])
  | _ => .bad
end Mi
namespace Mi
open PySem L2
/-- behind a suite: the error's name goes; nothing may be raised in it -/
def suEnd (i : Nat) (r : SR) : SR := match r with
  | .nx δ S => .nx (δ.set i none) S
  | .bk δ S => .bk (δ.set i none) S
  | .ct δ S => .ct (δ.set i none) S
  | .rt d S => .rt d S
  | _ => .bad
/-- try: body / except c as e: suite. all: the classes of errors that are known; cs: those of them that the clause takes -/
def sTry (i : Nat) (all cs : List Str) (body : SM) (h : Exn → SM) : SM := fun δ S => match body δ S with
  | .ex x δ' S' => if x.cls ∈ all ∧ i < δ'.length then (if x.cls ∈ cs then suEnd i (h x (δ'.set i none) S') else .ex x δ' S') else .bad
  | r => r
/-- e.f within a suite -/
def eXf (x : Exn) (c f : Str) : EX := fun _ => if x.cls = c then mOpt (x.fs.lookup f) else mBad
/-- isinstance(e, ..) within a suite -/
def eXi (x : Exn) (c : Str) (b : Bool) : EX := fun _ => if x.cls = c then M.pure (.bl b) else mBad
end Mi
end T_Mir
section T_Sim
set_option Elab.async false
set_option linter.all false
set_option maxRecDepth 100000
set_option maxHeartbeats 2000000
/-! Sim: how the mirror's values and store lie in the layer's abstract heap; one rule a construct. -/
namespace Mi
open PySem PySem.Spec PyProof.Rows L2

/-- what is fixed through a law: the written part, the module's names, the tables of code objects -/
structure Gx where
  K : PySem.W.Frag
  mg : Str → Option Value
  T : List (Addr × Str)
  /-- within an except suite: the caught error's own dict, its fields, its name's slot, the error -/
  xc : Option (Addr × List (Str × Dv) × Nat × Addr) := none

def NoTbl (o : HO) : Prop := ∀ ps, o ≠ .tbl ps

/-- where the store's objects lie (s); what is tracked, but no value names it now (b: a list that a comprehension makes) -/
structure Rg where
  s : List Addr
  b : List Addr
def Out (ρ : Rg) (a : Addr) : Prop := a ∉ ρ.s ∧ a ∉ ρ.b
/-- a text's signs are signs -/
def OkS (x : Str) : Prop := ∀ c ∈ x.cps.toList, c < 0x110000
/-! ### values -/
/-- a list | a tuple of the written part -/
def KL (K : PySem.W.Frag) (a : Addr) (xs : List V) : Prop := ∃ (o : Obj) (its : Array Value) (n : Nat), K.lookup a = some o ∧ o.cls = .type "list" ∧ o.dict = none ∧ o.data = .seq its n ∧ its.size ≤ sizeLine ∧ Vals xs its.toList
def KT (K : PySem.W.Frag) (a : Addr) (xs : List V) : Prop := ∃ (o : Obj) (its : Array Value) (n : Nat), K.lookup a = some o ∧ o.cls = .type "tuple" ∧ o.data = .seq its n ∧ its.size ≤ sizeLine ∧ Vals xs its.toList
/-- .. one that stays -/
def StL (K : PySem.W.Frag) (ρ : Rg) (H : Hp) (a : Addr) (xs : List V) : Prop := (Rd H a (.lst xs) ∧ Out ρ a) ∨ KL K a xs
def StT (K : PySem.W.Frag) (ρ : Rg) (H : Hp) (a : Addr) (xs : List V) : Prop := H a = some (.tup xs) ∧ Out ρ a
theorem StL.sq {K : PySem.W.Frag} {ρ : Rg} {H : Hp} {a : Addr} {xs : List V} (h : StL K ρ H a xs) : SqL K H a xs := by
  rcases h with ⟨h, _⟩ | h
  · exact .inl h
  · exact .inr h
theorem StT.sq {K : PySem.W.Frag} {ρ : Rg} {H : Hp} {a : Addr} {xs : List V} (h : StT K ρ H a xs) : SqT K H a xs := .inl (.inl h.1)
mutual
inductive Rv (K : PySem.W.Frag) (ρ : Rg) (H : Hp) : V → Dv → Prop
  | non : Rv K ρ H .non .non
  | bl (b : Bool) : Rv K ρ H (.bl b) (.bl b)
  | int (i : Int) : Rv K ρ H (.int i) (.int i)
  | str (x : Str) (h : OkS x) : Rv K ρ H (.str x) (.str x)
  | tup {a : Addr} {vs : List V} {ds : List Dv} (h : StT K ρ H a vs) (r : RvA K ρ H vs ds) : Rv K ρ H (.ref a) (.tup ds)
  | lst {a : Addr} {vs : List V} {ds : List Dv} (h : H a = some (.lst vs)) (n : Out ρ a) (r : RvA K ρ H vs ds) : Rv K ρ H (.ref a) (.lst ds)
  | con {a : Addr} {vs : List V} {ds : List Dv} (h : StL K ρ H a vs) (r : RvA K ρ H vs ds) : Rv K ρ H (.ref a) (.con ds)
  | dct {a : Addr} {kvs : List (Key × V)} {dks : List (Key × Dv)} (h : H a = some (.dK kvs)) (n : Out ρ a) (e : kvs.map (·.1) = dks.map (·.1)) (r : RvA K ρ H (kvs.map (·.2)) (dks.map (·.2))) : Rv K ρ H (.ref a) (.dct dks)
  | loc {n : Nat} {a : Addr} (h : ρ.s[n]? = some a) : Rv K ρ H (.ref a) (.loc n)
inductive RvA (K : PySem.W.Frag) (ρ : Rg) (H : Hp) : List V → List Dv → Prop
  | nil : RvA K ρ H [] []
  | cons {v : V} {vs : List V} {d : Dv} {ds : List Dv} (h : Rv K ρ H v d) (r : RvA K ρ H vs ds) : RvA K ρ H (v :: vs) (d :: ds)
end

/-- an object of the store at a -/
def Ro (K : PySem.W.Frag) (ρ : Rg) (H : Hp) (a : Addr) : Ob → Prop
  | .lst ds => ∃ vs, H a = some (.lst vs) ∧ RvA K ρ H vs ds
  | .dK dks => ∃ kvs, H a = some (.dK kvs) ∧ kvs.map (·.1) = dks.map (·.1) ∧ RvA K ρ H (kvs.map (·.2)) (dks.map (·.2))
  | .dT dks => ∃ kvs, H a = some (.dT kvs) ∧ kvs.map (·.1) = dks.map (·.1) ∧ RvA K ρ H (kvs.map (·.2)) (dks.map (·.2))

def Xok (G : Gx) (ρ : Rg) (H : Hp) : Prop := match G.xc with
  | none => True
  | some (dd, fs, _, _) => ∃ fv : List (Str × V), H dd = some (.xd fv) ∧ Out ρ dd ∧ fv.map (·.1) = fs.map (·.1) ∧ RvA G.K ρ H (fv.map (·.2)) (fs.map (·.2))
structure RS (G : Gx) (ρ : Rg) (H : Hp) (S : Sto) : Prop where
  len : ρ.s.length = S.length
  nd : ρ.s.Nodup
  bt : ∀ a ∈ ρ.b, a ∉ ρ.s ∧ ∃ o, H a = some o
  ob : ∀ (n : Nat) (a : Addr) (o : Ob), ρ.s[n]? = some a → S[n]? = some o → Ro G.K ρ H a o
  tab : LamX.Tabs G.T H
  xok : Xok G ρ H

/-- what may have happened between two places -/
structure Stp (ρ : Rg) (H : Hp) (ρ' : Rg) (H' : Hp) : Prop where
  pre : ∃ more, ρ'.s = ρ.s ++ more ∧ ∀ a ∈ more, H a = none
  pb : ρ'.b = ρ.b
  kept : ∀ a o, H a = some o → a ∉ ρ.s → NoTbl o → H' a = some o
  there : ∀ a o, H a = some o → ∃ o', H' a = some o'

theorem Stp.refl {ρ : Rg} {H : Hp} : Stp ρ H ρ H := ⟨⟨[], by simp, fun _ h => nomatch h⟩, rfl, fun _ _ h _ _ => h, fun _ o h => ⟨o, h⟩⟩
theorem Stp.nins {ρ ρ' : Rg} {H H' : Hp} (s : Stp ρ H ρ' H') {a : Addr} {o : HO} (h : H a = some o) (n : a ∉ ρ.s) : a ∉ ρ'.s := by
  obtain ⟨more, e, f⟩ := s.pre
  rw [e]
  intro m
  rcases List.mem_append.mp m with m | m
  · exact n m
  · rw [f a m] at h
    cases h
theorem Stp.nin {ρ ρ' : Rg} {H H' : Hp} (s : Stp ρ H ρ' H') {a : Addr} {o : HO} (h : H a = some o) (n : Out ρ a) : Out ρ' a := ⟨s.nins h n.1, by rw [s.pb]; exact n.2⟩
theorem Stp.trans {ρ ρ1 ρ2 : Rg} {H H1 H2 : Hp} (s : Stp ρ H ρ1 H1) (t : Stp ρ1 H1 ρ2 H2) : Stp ρ H ρ2 H2 := by
  obtain ⟨m1, e1, f1⟩ := s.pre
  obtain ⟨m2, e2, f2⟩ := t.pre
  refine ⟨⟨m1 ++ m2, by rw [e2, e1, List.append_assoc], fun a h => ?_⟩, t.pb.trans s.pb, fun a o h n nt => t.kept a o (s.kept a o h n nt) (s.nins h n) nt, fun a o h => ?_⟩
  · rcases List.mem_append.mp h with h | h
    · exact f1 a h
    · cases q : H a with
      | none => rfl
      | some o =>
        obtain ⟨o', q'⟩ := s.there a o q
        rw [f2 a h] at q'
        cases q'
  · obtain ⟨o', h'⟩ := s.there a o h
    exact t.there a o' h'
theorem Stp.get {ρ ρ' : Rg} {H H' : Hp} (s : Stp ρ H ρ' H') {n : Nat} {a : Addr} (h : ρ.s[n]? = some a) : ρ'.s[n]? = some a := by
  obtain ⟨more, e, _⟩ := s.pre
  have hl := (List.getElem?_eq_some_iff.mp h).1
  rw [e, List.getElem?_append_left hl]
  exact h
/-- a new object outside the store -/
theorem Stp.new {ρ : Rg} {H : Hp} {p : Addr} {o : HO} (h : H p = none) : Stp ρ H ρ (upd H p o) :=
  ⟨⟨[], by simp, fun _ z => nomatch z⟩, rfl, fun a u e _ _ => by rw [upd_ne (ne_of_none e h)]; exact e, fun a u e => ⟨u, by rw [upd_ne (ne_of_none e h)]; exact e⟩⟩
/-- a new object of the store -/
def Rg.add (ρ : Rg) (p : Addr) : Rg := ⟨ρ.s ++ [p], ρ.b⟩
theorem Stp.newS {ρ : Rg} {H : Hp} {p : Addr} {o : HO} (h : H p = none) : Stp ρ H (ρ.add p) (upd H p o) :=
  ⟨⟨[p], rfl, fun a m => by rw [List.mem_singleton.mp m]; exact h⟩, rfl, fun a u e _ _ => by rw [upd_ne (ne_of_none e h)]; exact e, fun a u e => ⟨u, by rw [upd_ne (ne_of_none e h)]; exact e⟩⟩
/-- an object of the store is changed -/
theorem Stp.put {ρ : Rg} {H : Hp} {p : Addr} {o : HO} (h : p ∈ ρ.s) : Stp ρ H ρ (upd H p o) :=
  ⟨⟨[], by simp, fun _ z => nomatch z⟩, rfl, fun a u e n _ => by rw [upd_ne (fun z => n (by rw [z]; exact h))]; exact e, fun a u e => by
    by_cases z : a = p
    · exact ⟨o, by rw [z, upd_same]⟩
    · exact ⟨u, by rw [upd_ne z]; exact e⟩⟩

/-- .. where more may have been made private besides -/
structure StB (ρ : Rg) (H : Hp) (ρ' : Rg) (H' : Hp) : Prop where
  pre : ∃ more, ρ'.s = ρ.s ++ more ∧ ∀ a ∈ more, H a = none
  pb : ∃ more, ρ'.b = ρ.b ++ more ∧ ∀ a ∈ more, H a = none
  kept : ∀ a o, H a = some o → a ∉ ρ.s → NoTbl o → H' a = some o
  there : ∀ a o, H a = some o → ∃ o', H' a = some o'
theorem Stp.b {ρ ρ' : Rg} {H H' : Hp} (s : Stp ρ H ρ' H') : StB ρ H ρ' H' := ⟨s.pre, ⟨[], by rw [s.pb]; simp, fun _ h => nomatch h⟩, s.kept, s.there⟩
theorem StB.nins {ρ ρ' : Rg} {H H' : Hp} (s : StB ρ H ρ' H') {a : Addr} {o : HO} (h : H a = some o) (n : a ∉ ρ.s) : a ∉ ρ'.s := by
  obtain ⟨more, e, f⟩ := s.pre
  rw [e]
  intro m
  rcases List.mem_append.mp m with m | m
  · exact n m
  · rw [f a m] at h
    cases h
theorem StB.nin {ρ ρ' : Rg} {H H' : Hp} (s : StB ρ H ρ' H') {a : Addr} {o : HO} (h : H a = some o) (n : Out ρ a) : Out ρ' a := by
  refine ⟨s.nins h n.1, ?_⟩
  obtain ⟨more, e, f⟩ := s.pb
  rw [e]
  intro m
  rcases List.mem_append.mp m with m | m
  · exact n.2 m
  · rw [f a m] at h
    cases h
theorem StB.get {ρ ρ' : Rg} {H H' : Hp} (s : StB ρ H ρ' H') {n : Nat} {a : Addr} (h : ρ.s[n]? = some a) : ρ'.s[n]? = some a := by
  obtain ⟨more, e, _⟩ := s.pre
  have hl := (List.getElem?_eq_some_iff.mp h).1
  rw [e, List.getElem?_append_left hl]
  exact h
theorem StB.trans {ρ ρ1 ρ2 : Rg} {H H1 H2 : Hp} (s : StB ρ H ρ1 H1) (t : Stp ρ1 H1 ρ2 H2) : StB ρ H ρ2 H2 := by
  obtain ⟨m1, e1, f1⟩ := s.pre
  obtain ⟨m2, e2, f2⟩ := t.pre
  refine ⟨⟨m1 ++ m2, by rw [e2, e1, List.append_assoc], fun a h => ?_⟩, by rw [t.pb]; exact s.pb, fun a o h n nt => t.kept a o (s.kept a o h n nt) (s.nins h n) nt, fun a o h => ?_⟩
  · rcases List.mem_append.mp h with h | h
    · exact f1 a h
    · cases q : H a with
      | none => rfl
      | some o =>
        obtain ⟨o', q'⟩ := s.there a o q
        rw [f2 a h] at q'
        cases q'
  · obtain ⟨o', h'⟩ := s.there a o h
    exact t.there a o' h'
theorem StT.stepB {K : PySem.W.Frag} {ρ ρ' : Rg} {H H' : Hp} {a : Addr} {vs : List V} (s : StB ρ H ρ' H') (h : StT K ρ H a vs) : StT K ρ' H' a vs := ⟨s.kept _ _ h.1 h.2.1 (fun _ z => nomatch z), s.nin h.1 h.2⟩
theorem StL.stepB {K : PySem.W.Frag} {ρ ρ' : Rg} {H H' : Hp} {a : Addr} {vs : List V} (s : StB ρ H ρ' H') (h : StL K ρ H a vs) : StL K ρ' H' a vs := by
  rcases h with ⟨h | ⟨o, h⟩, n⟩ | h
  · exact .inl ⟨.inl (s.kept _ _ h n.1 (fun _ z => nomatch z)), s.nin h n⟩
  · exact .inl ⟨.inr ⟨o, s.kept _ _ h n.1 (fun _ z => nomatch z)⟩, s.nin h n⟩
  · exact .inr h
mutual
theorem Rv.stepB {K : PySem.W.Frag} {ρ ρ' : Rg} {H H' : Hp} (s : StB ρ H ρ' H') : ∀ {v : V} {d : Dv}, Rv K ρ H v d → Rv K ρ' H' v d
  | _, _, .non => .non
  | _, _, .bl b => .bl b
  | _, _, .int i => .int i
  | _, _, .str x h => .str x h
  | _, _, .tup h r => .tup (h.stepB s) (RvA.stepB s r)
  | _, _, .lst h n r => .lst (s.kept _ _ h n.1 (fun _ z => nomatch z)) (s.nin h n) (RvA.stepB s r)
  | _, _, .con h r => .con (h.stepB s) (RvA.stepB s r)
  | _, _, .dct h n e r => .dct (s.kept _ _ h n.1 (fun _ z => nomatch z)) (s.nin h n) e (RvA.stepB s r)
  | _, _, .loc h => .loc (s.get h)
theorem RvA.stepB {K : PySem.W.Frag} {ρ ρ' : Rg} {H H' : Hp} (s : StB ρ H ρ' H') : ∀ {vs : List V} {ds : List Dv}, RvA K ρ H vs ds → RvA K ρ' H' vs ds
  | _, _, .nil => .nil
  | _, _, .cons h r => .cons (Rv.stepB s h) (RvA.stepB s r)
end
theorem StT.step {K : PySem.W.Frag} {ρ ρ' : Rg} {H H' : Hp} {a : Addr} {vs : List V} (s : Stp ρ H ρ' H') (h : StT K ρ H a vs) : StT K ρ' H' a vs := h.stepB s.b
theorem StL.step {K : PySem.W.Frag} {ρ ρ' : Rg} {H H' : Hp} {a : Addr} {vs : List V} (s : Stp ρ H ρ' H') (h : StL K ρ H a vs) : StL K ρ' H' a vs := h.stepB s.b
theorem Rv.step {K : PySem.W.Frag} {ρ ρ' : Rg} {H H' : Hp} (s : Stp ρ H ρ' H') {v : V} {d : Dv} (h : Rv K ρ H v d) : Rv K ρ' H' v d := h.stepB s.b
theorem RvA.step {K : PySem.W.Frag} {ρ ρ' : Rg} {H H' : Hp} (s : Stp ρ H ρ' H') {vs : List V} {ds : List Dv} (h : RvA K ρ H vs ds) : RvA K ρ' H' vs ds := h.stepB s.b
/-! what is private, or the store's, does not matter to a value -/
structure Agr (ρ : Rg) (H : Hp) (ρ' : Rg) (H' : Hp) : Prop where
  s : ρ'.s = ρ.s
  out : ∀ a, Out ρ a → Out ρ' a
  h : ∀ a, Out ρ a → H' a = H a
mutual
theorem Rv.agr {K : PySem.W.Frag} {ρ ρ' : Rg} {H H' : Hp} (s : Agr ρ H ρ' H') : ∀ {v : V} {d : Dv}, Rv K ρ H v d → Rv K ρ' H' v d
  | _, _, .non => .non
  | _, _, .bl b => .bl b
  | _, _, .int i => .int i
  | _, _, .str x h => .str x h
  | _, _, .tup ⟨h, n⟩ r => .tup ⟨by rw [s.h _ n]; exact h, s.out _ n⟩ (RvA.agr s r)
  | _, _, .lst h n r => .lst (by rw [s.h _ n]; exact h) (s.out _ n) (RvA.agr s r)
  | _, _, .con (.inl ⟨h, n⟩) r => .con (.inl ⟨by unfold Rd; rw [s.h _ n]; exact h, s.out _ n⟩) (RvA.agr s r)
  | _, _, .con (.inr h) r => .con (.inr h) (RvA.agr s r)
  | _, _, .dct h n e r => .dct (by rw [s.h _ n]; exact h) (s.out _ n) e (RvA.agr s r)
  | _, _, .loc h => .loc (by rw [s.s]; exact h)
theorem RvA.agr {K : PySem.W.Frag} {ρ ρ' : Rg} {H H' : Hp} (s : Agr ρ H ρ' H') : ∀ {vs : List V} {ds : List Dv}, RvA K ρ H vs ds → RvA K ρ' H' vs ds
  | _, _, .nil => .nil
  | _, _, .cons h r => .cons (Rv.agr s h) (RvA.agr s r)
end
theorem RvA.length {K : PySem.W.Frag} {ρ : Rg} {H : Hp} : ∀ {vs : List V} {ds : List Dv}, RvA K ρ H vs ds → vs.length = ds.length
  | _, _, .nil => rfl
  | _, _, .cons _ r => congrArg (· + 1) (RvA.length r)
theorem RvA.get {K : PySem.W.Frag} {ρ : Rg} {H : Hp} : ∀ {vs : List V} {ds : List Dv} {i : Nat} {d : Dv}, RvA K ρ H vs ds → ds[i]? = some d → ∃ v, vs[i]? = some v ∧ Rv K ρ H v d
  | _, _, _, _, .nil, e => by simp at e
  | _, _, 0, _, .cons h _, e => by
    simp at e
    subst e
    exact ⟨_, rfl, h⟩
  | _, _, i + 1, d, .cons _ r, e => by
    obtain ⟨v, h1, h2⟩ := RvA.get (i := i) (d := d) r (by simpa using e)
    exact ⟨v, by simpa using h1, h2⟩
theorem RvA.app {K : PySem.W.Frag} {ρ : Rg} {H : Hp} : ∀ {vs ws : List V} {ds es : List Dv}, RvA K ρ H vs ds → RvA K ρ H ws es → RvA K ρ H (vs ++ ws) (ds ++ es)
  | _, _, _, _, .nil, s => s
  | _, _, _, _, .cons h r, s => .cons h (RvA.app r s)
theorem Ro.step {K : PySem.W.Frag} {ρ ρ' : Rg} {H H' : Hp} {a : Addr} {o : Ob} (s : Stp ρ H ρ' H') (e : H' a = H a) (h : Ro K ρ H a o) : Ro K ρ' H' a o := by
  cases o with
  | lst ds =>
    obtain ⟨vs, h1, h2⟩ := h
    exact ⟨vs, e.trans h1, h2.step s⟩
  | dK dks =>
    obtain ⟨vs, h1, h3, h2⟩ := h
    exact ⟨vs, e.trans h1, h3, h2.step s⟩
  | dT dks =>
    obtain ⟨vs, h1, h3, h2⟩ := h
    exact ⟨vs, e.trans h1, h3, h2.step s⟩
theorem Ro.some {K : PySem.W.Frag} {ρ : Rg} {H : Hp} {a : Addr} {o : Ob} (h : Ro K ρ H a o) : ∃ u, H a = some u ∧ NoTbl u ∧ ∀ c q, u ≠ LamX.CodeO c q := by
  cases o with
  | lst ds =>
    obtain ⟨vs, h1, _⟩ := h
    exact ⟨_, h1, (fun _ z => by cases z), (fun _ _ z => by cases z)⟩
  | dK dks =>
    obtain ⟨vs, h1, _⟩ := h
    exact ⟨_, h1, (fun _ z => by cases z), (fun _ _ z => by cases z)⟩
  | dT dks =>
    obtain ⟨vs, h1, _⟩ := h
    exact ⟨_, h1, (fun _ z => by cases z), (fun _ _ z => by cases z)⟩
theorem Ro.agr {K : PySem.W.Frag} {ρ ρ' : Rg} {H H' : Hp} {a : Addr} {o : Ob} (s : Agr ρ H ρ' H') (e : H' a = H a) (h : Ro K ρ H a o) : Ro K ρ' H' a o := by
  cases o with
  | lst ds =>
    obtain ⟨vs, h1, h2⟩ := h
    exact ⟨vs, e.trans h1, h2.agr s⟩
  | dK dks =>
    obtain ⟨vs, h1, h3, h2⟩ := h
    exact ⟨vs, e.trans h1, h3, h2.agr s⟩
  | dT dks =>
    obtain ⟨vs, h1, h3, h2⟩ := h
    exact ⟨vs, e.trans h1, h3, h2.agr s⟩
/-- an object that is no table and no code object is changed -/
theorem tabs_put {T : List (Addr × Str)} {H : Hp} {p : Addr} {o u : HO} (t : LamX.Tabs T H) (hp : H p = some u) (h1 : NoTbl u) (h2 : ∀ c q, u ≠ LamX.CodeO c q) : LamX.Tabs T (upd H p o) := fun z hz => by
  obtain ⟨ps, a1, a2, a3⟩ := t z hz
  refine ⟨ps, ?_, a2, fun pos cv hc => ?_⟩
  · rw [upd_ne]
    · exact a1
    · intro e
      rw [e, hp] at a1
      exact h1 _ (Option.some.inj a1)
  · obtain ⟨c, e1, e2⟩ := a3 pos cv hc
    refine ⟨c, e1, ?_⟩
    rw [upd_ne]
    · exact e2
    · intro e
      rw [e, hp] at e2
      exact h2 _ _ (Option.some.inj e2)
theorem Xok.stepB {G : Gx} {ρ ρ' : Rg} {H H' : Hp} (s : StB ρ H ρ' H') (h : Xok G ρ H) : Xok G ρ' H' := by
  unfold Xok at h ⊢
  split at h
  · trivial
  · obtain ⟨fv, h1, h2, h3, h4⟩ := h
    exact ⟨fv, s.kept _ _ h1 h2.1 (fun _ z => nomatch z), s.nin h1 h2, h3, h4.stepB s⟩
theorem Xok.agr {G : Gx} {ρ ρ' : Rg} {H H' : Hp} (s : Agr ρ H ρ' H') (h : Xok G ρ H) : Xok G ρ' H' := by
  unfold Xok at h ⊢
  split at h
  · trivial
  · obtain ⟨fv, h1, h2, h3, h4⟩ := h
    exact ⟨fv, by rw [s.h _ h2]; exact h1, s.out _ h2, h3, h4.agr s⟩
section
variable {G : Gx} {ρ ρ' : Rg} {H H' : Hp} {S : Sto} {p a : Addr} {o : HO}
theorem RS.at (r : RS G ρ H S) {n : Nat} {a : Addr} (h : ρ.s[n]? = some a) : ∃ ob, S[n]? = some ob ∧ Ro G.K ρ H a ob := by
  have hl := (List.getElem?_eq_some_iff.mp h).1
  rw [r.len] at hl
  exact ⟨S[n], List.getElem?_eq_getElem hl, r.ob n a _ h (List.getElem?_eq_getElem hl)⟩
theorem RS.mem (r : RS G ρ H S) (h : a ∈ ρ.s) : ∃ u, H a = some u ∧ NoTbl u ∧ ∀ c q, u ≠ LamX.CodeO c q := by
  obtain ⟨n, hn, e⟩ := List.mem_iff_getElem.mp h
  obtain ⟨ob, _, q⟩ := r.at (n := n) (a := a) (by rw [List.getElem?_eq_getElem hn, e])
  exact q.some
/-- a new object that the store does not hold -/
theorem RS.new (r : RS G ρ H S) (h : H p = none) : RS G ρ (upd H p o) S :=
  ⟨r.len, r.nd, fun a m => ⟨(r.bt a m).1, by
    obtain ⟨u, e⟩ := (r.bt a m).2
    exact ⟨u, by rw [upd_ne (ne_of_none e h)]; exact e⟩⟩, fun n a ob e1 e2 => by
    have q := r.ob n a ob e1 e2
    obtain ⟨u, hu, _⟩ := q.some
    exact q.step (Stp.new h) (by rw [upd_ne (ne_of_none hu h)]), r.tab.ext fun b u e => by rw [upd_ne (ne_of_none e h)]; exact e, r.xok.stepB (Stp.new h).b⟩
/-- a private object is changed -/
theorem RS.putB (r : RS G ρ H S) (hp : p ∈ ρ.b) {vs : List V} (hl : H p = some (.lst vs)) : RS G ρ (upd H p o) S := by
  have np := (r.bt p hp).1
  have ag : Agr ρ H ρ (upd H p o) := ⟨rfl, fun _ z => z, fun a n => upd_ne fun e => n.2 (by rw [e]; exact hp)⟩
  refine ⟨r.len, r.nd, fun a m => ⟨(r.bt a m).1, ?_⟩, fun n a ob e1 e2 => (r.ob n a ob e1 e2).agr ag (upd_ne fun e => np (by rw [← e]; exact List.mem_of_getElem? e1)), tabs_put r.tab hl (fun _ z => by cases z) (fun _ _ z => by cases z), r.xok.agr ag⟩
  by_cases e : a = p
  · exact ⟨o, by rw [e, upd_same]⟩
  · obtain ⟨u, q⟩ := (r.bt a m).2
    exact ⟨u, by rw [upd_ne e]; exact q⟩
/-- one more is private | is so no more -/
def Rg.hide (ρ : Rg) (p : Addr) : Rg := ⟨ρ.s, ρ.b ++ [p]⟩
theorem RS.hide (r : RS G ρ H S) (hp : H p = none) : RS G (ρ.hide p) (upd H p o) S := by
  have n := r.new (o := o) hp
  have ag : StB ρ H (ρ.hide p) (upd H p o) := ⟨⟨[], by simp [Rg.hide], fun _ z => nomatch z⟩, ⟨[p], rfl, fun a m => by rw [List.mem_singleton.mp m]; exact hp⟩, (Stp.new (ρ := ρ) (o := o) hp).kept, (Stp.new (ρ := ρ) (o := o) hp).there⟩
  refine ⟨r.len, r.nd, fun a m => ?_, fun n a ob e1 e2 => ?_, n.tab, r.xok.stepB ag⟩
  · rcases List.mem_append.mp m with m | m
    · exact n.bt a m
    · rw [List.mem_singleton.mp m]
      refine ⟨fun z => ?_, ⟨o, upd_same⟩⟩
      obtain ⟨u, q, _⟩ := r.mem z
      rw [hp] at q
      cases q
  · have q := r.ob n a ob e1 e2
    obtain ⟨u, hu, _⟩ := q.some
    have e3 : upd H p o a = H a := upd_ne (ne_of_none hu hp)
    cases ob with
    | lst ds =>
      obtain ⟨vs, h1, h2⟩ := q
      exact ⟨vs, e3.trans h1, h2.stepB ag⟩
    | dK dks =>
      obtain ⟨vs, h1, h3, h2⟩ := q
      exact ⟨vs, e3.trans h1, h3, h2.stepB ag⟩
    | dT dks =>
      obtain ⟨vs, h1, h3, h2⟩ := q
      exact ⟨vs, e3.trans h1, h3, h2.stepB ag⟩
theorem RS.show (r : RS G ρ' H S) (es : ρ'.s = ρ.s) (eb : ρ'.b = ρ.b ++ [p]) : RS G ρ H S := by
  have ag : Agr ρ' H ρ H := ⟨es.symm, fun a n => ⟨by rw [← es]; exact n.1, fun m => n.2 (by rw [eb]; exact List.mem_append_left _ m)⟩, fun _ _ => rfl⟩
  exact ⟨by rw [← es]; exact r.len, by rw [← es]; exact r.nd, fun a m => by rw [← es]; exact r.bt a (by rw [eb]; exact List.mem_append_left _ m), fun n a ob e1 e2 => (r.ob n a ob (by rw [es]; exact e1) e2).agr ag rfl, r.tab, r.xok.agr ag⟩
end
def SlX (G : Gx) (σ : L2.St) : Prop := ∀ q, G.xc = some q → σ[q.2.2.1]? = some (some (.ref q.2.2.2))
def SlotOk (G : Gx) (i : Nat) : Prop := ∀ q, G.xc = some q → i ≠ q.2.2.1
theorem slotOk_none {G : Gx} {i : Nat} (h : G.xc = none) : SlotOk G i := fun q e => by rw [h] at e; cases e
/-- slots -/
structure Cf (G : Gx) (ρ : Rg) (H : Hp) (σ : L2.St) (δ : En) (S : Sto) : Prop where
  rs : RS G ρ H S
  len : σ.length = δ.length
  sl : ∀ (i : Nat) (d : Dv), δ[i]? = some (some d) → ∃ v, σ[i]? = some (some v) ∧ Rv G.K ρ H v d
  xs : SlX G σ
theorem Cf.step {G : Gx} {ρ ρ' : Rg} {H H' : Hp} {σ : L2.St} {δ : En} {S S' : Sto} (c : Cf G ρ H σ δ S) (s : Stp ρ H ρ' H') (r : RS G ρ' H' S') : Cf G ρ' H' σ δ S' :=
  ⟨r, c.len, fun i d e => by
    obtain ⟨v, h1, h2⟩ := c.sl i d e
    exact ⟨v, h1, h2.step s⟩, c.xs⟩
theorem Cf.set {G : Gx} {ρ : Rg} {H : Hp} {σ : L2.St} {δ : En} {S : Sto} {v : V} {d : Dv} (c : Cf G ρ H σ δ S) (i : Nat) (h : Rv G.K ρ H v d) (hx : SlotOk G i) : Cf G ρ H (σ.set i (some v)) (δ.set i (some d)) S :=
  ⟨c.rs, by simp [c.len], fun j e he => by
    by_cases hj : i = j
    · subst hj
      have hl : i < δ.length := by
        rcases Nat.lt_or_ge i δ.length with q | q
        · exact q
        · rw [List.set_eq_of_length_le q, List.getElem?_eq_none q] at he
          cases he
      rw [List.getElem?_set_self hl] at he
      cases he
      exact ⟨v, by rw [List.getElem?_set_self (by rw [c.len]; exact hl)], h⟩
    · rw [List.getElem?_set_ne hj] at he ⊢
      exact c.sl j e he, fun q e => by rw [List.getElem?_set_ne (hx q e)]; exact c.xs q e⟩

/-! ### exceptions -/
/-- an exception of the class named x.cls, its own dict at dx -/
def Rx (G : Gx) (ρ : Rg) (H : Hp) (c : Value) (dx : Option Addr) (x : Exn) : Prop := ∃ (C : Addr) (d : Addr) (fs : List (Str × V)), G.mg x.cls = some (.ref C) ∧ c = .ref C ∧ dx = some d ∧ H d = some (.xd fs) ∧ Out ρ d ∧
  fs.map (·.1) = x.fs.map (·.1) ∧ RvA G.K ρ H (fs.map (·.2)) (x.fs.map (·.2))
theorem Rx.step {G : Gx} {ρ ρ' : Rg} {H H' : Hp} {c : Value} {dx : Option Addr} {x : Exn} (s : Stp ρ H ρ' H') (h : Rx G ρ H c dx x) : Rx G ρ' H' c dx x := by
  obtain ⟨C, d, fs, h1, h2, h3, h4, h5, h6, h7⟩ := h
  exact ⟨C, d, fs, h1, h2, h3, s.kept _ _ h4 h5.1 (fun _ z => nomatch z), s.nin h4 h5, h6, h7.step s⟩

/-! ### what is wanted of a mirror's result -/
def Post {α β : Type} (G : Gx) (W : WX) (σ : L2.St) (rel : Rg → Hp → β → α → Prop) (ρ : Rg) (H : Hp) (r : Res α) (Q : β → Hp → Prop) : Prop := match r with
  | .ok d S' => ∀ v H' ρ', Stp ρ H ρ' H' → RS G ρ' H' S' → rel ρ' H' v d → Q v H'
  | .ex x S' => ∀ c dx H' ρ', Stp ρ H ρ' H' → RS G ρ' H' S' → Rx G ρ' H' c dx x → W c dx σ H'
  | .bad => False
abbrev vr (G : Gx) : Rg → Hp → V → Dv → Prop := Rv G.K
abbrev ar (G : Gx) : Rg → Hp → List V → List Dv → Prop := RvA G.K
abbrev br : Rg → Hp → Bool → Bool → Prop := fun _ _ b c => b = c
section
variable {G : Gx} {W : WX} {σ : L2.St} {ρ ρ1 : Rg} {H H1 : Hp} {α β γ ε : Type} {rel : Rg → Hp → β → α → Prop} {rel2 : Rg → Hp → ε → γ → Prop}
theorem Post.mono {r : Res α} {Q Q' : β → Hp → Prop} (h : Post G W σ rel ρ H r Q) (q : ∀ v H', Q v H' → Q' v H') : Post G W σ rel ρ H r Q' := by
  cases r with
  | ok d S => exact fun v H' ρ' s rs rv => q _ _ (h v H' ρ' s rs rv)
  | ex x S => exact h
  | bad => exact h
theorem Post.step {r : Res α} {Q : β → Hp → Prop} (s : Stp ρ H ρ1 H1) (h : Post G W σ rel ρ H r Q) : Post G W σ rel ρ1 H1 r Q := by
  cases r with
  | ok d S => exact fun v H' ρ' s2 rs rv => h v H' ρ' (s.trans s2) rs rv
  | ex x S => exact fun c dx H' ρ' s2 rs rv => h c dx H' ρ' (s.trans s2) rs rv
  | bad => exact h
/-- between two words -/
def Mid (G : Gx) (W : WX) (σ : L2.St) (rel : Rg → Hp → β → α → Prop) (rel2 : Rg → Hp → ε → γ → Prop) (ρ : Rg) (H : Hp) (k : α → M γ) (Q : ε → Hp → Prop) (v : β) (H1 : Hp) : Prop :=
  ∃ ρ1 S1 d, Stp ρ H ρ1 H1 ∧ RS G ρ1 H1 S1 ∧ rel ρ1 H1 v d ∧ Post G W σ rel2 ρ1 H1 (k d S1) Q
theorem Post.bind {S : Sto} {m : M α} {k : α → M γ} {Q : ε → Hp → Prop} (h : Post G W σ rel2 ρ H (m.bind k S) Q) : Post G W σ rel ρ H (m S) (Mid G W σ rel rel2 ρ H k Q) := by
  unfold M.bind at h
  cases e : m S with
  | ok d S1 =>
    rw [e] at h
    exact fun v H1 ρ1 s rs rv => ⟨ρ1, S1, d, s, rs, rv, h.step s⟩
  | ex x S1 =>
    rw [e] at h
    exact h
  | bad =>
    rw [e] at h
    exact h
theorem Post.pure {S : Sto} {d : α} {v : β} {Q : β → Hp → Prop} (h : Post G W σ rel ρ H (M.pure d S) Q) (rs : RS G ρ H S) (r : rel ρ H v d) : Q v H := h v H ρ Stp.refl rs r
end
/-! ### readings -/
def tX {α β : Type} (G : Gx) (W : WX) (rel : Rg → Hp → β → α → Prop) (m : En → M α) : L2.St → Hp → (β → Hp → Prop) → Prop := fun σ H Q => ∃ ρ δ S, Cf G ρ H σ δ S ∧ Post G W σ rel ρ H (m δ S) Q
abbrev tE (G : Gx) (W : WX) (m : EX) : TE := tX G W (vr G) m
abbrev tB (G : Gx) (W : WX) (m : EB) : TT := tX G W br m
abbrev tA (G : Gx) (W : WX) (m : EA) : TA := tX G W (ar G) m
/-- the context agrees with what is fixed -/
structure Ctx (G : Gx) (X : Cx) : Prop where
  k : X.K = G.K
  m : X.mg = G.mg
theorem _root_.L2.PE.imp {X : Cx} {e : Expr} {t t' : TE} (h : PE X e t) (f : ∀ σ H Q, t' σ H Q → t σ H Q) : PE X e t' := ⟨fun pins s σ H Q I q => h.run pins s σ H Q I (f σ H Q q)⟩
theorem _root_.L2.PT.imp {X : Cx} {e : Expr} {t t' : TT} (h : PT X e t) (f : ∀ σ H Q, t' σ H Q → t σ H Q) : PT X e t' := ⟨fun pins s σ H Q I q => h.run pins s σ H Q I (f σ H Q q)⟩
theorem _root_.L2.PW.imp {X : Cx} {e : Expr} {t t' : TT} (h : PW X e t) (f : ∀ σ H Q, t' σ H Q → t σ H Q) : PW X e t' := ⟨fun wh pins s σ H Q I q => h.run wh pins s σ H Q I (f σ H Q q)⟩
theorem _root_.L2.PA.imp {X : Cx} {e : List Expr} {t t' : TA} (h : PA X e t) (f : ∀ σ H Q, t' σ H Q → t σ H Q) : PA X e t' := ⟨fun pos pins s σ H Q I q => h.run pos pins s σ H Q I (f σ H Q q)⟩
theorem _root_.L2.PS.imp {X : Cx} {e : Stmt} {t t' : TS} (h : PS X e t) (f : ∀ D σ H, t' D σ H → t D σ H) : PS X e t' := ⟨fun pins s σ H D I q => h.run pins s σ H D I (f D σ H q)⟩
theorem _root_.L2.PSs.imp {X : Cx} {e : List Stmt} {t t' : TS} (h : PSs X e t) (f : ∀ D σ H, t' D σ H → t D σ H) : PSs X e t' := ⟨fun pins s σ H D I q => h.run pins s σ H D I (f D σ H q)⟩
section
variable {G : Gx} {W : WX} {X : Cx} {a b c : Expr} {es : List Expr} {ma mb : EX} {ca cb : EB} {pos : Pos}
/-! ### names, constants -/
theorem re_var {i : Nat} {x : Str} (h : PE X (.Name x pos) (tVar i)) : PE X (.Name x pos) (tE G W (eVar i)) := h.imp fun σ H Q q => by
  obtain ⟨ρ, δ, S, cf, p⟩ := q
  unfold eVar at p
  cases e : δ[i]? with
  | none =>
    rw [e] at p
    exact p.elim
  | some o =>
    rw [e] at p
    cases o with
    | none => exact p.elim
    | some d =>
      obtain ⟨v, h1, h2⟩ := cf.sl i d e
      exact ⟨v, h1, Post.pure p cf.rs h2⟩
theorem re_c {v : V} {d : Dv} (hv : ∀ ρ H, Rv G.K ρ H v d) (h : PE X a (tC v)) : PE X a (tE G W (eC d)) := h.imp fun σ H Q q => by
  obtain ⟨ρ, δ, S, cf, p⟩ := q
  exact p.pure cf.rs (hv ρ H)
theorem re_int {i j} : PE X (.Constant (.int i) j pos) (tE G W (eC (.int i))) := re_c (fun _ _ => .int i) pe_int
theorem re_bl {b j} : PE X (.Constant (.bool b) j pos) (tE G W (eC (.bl b))) := re_c (fun _ _ => .bl b) pe_bl
theorem re_non {j} : PE X (.Constant .none j pos) (tE G W (eC .non)) := re_c (fun _ _ => .non) pe_non
theorem re_str {x j} (h : OkS x := by unfold OkS; decide +kernel) : PE X (.Constant (.str x) j pos) (tE G W (eC (.str x))) := re_c (fun _ _ => .str x h) pe_str
/-! ### operators by values -/
def Op2 (G : Gx) (W : WX) (r : R2) (f : Dv → Dv → M Dv) : Prop := ∀ (ρ : Rg) (H : Hp) (σ : L2.St) (S : Sto) (x y : V) (d e : Dv) (Q : VK), RS G ρ H S → Rv G.K ρ H x d → Rv G.K ρ H y e → Post G W σ (vr G) ρ H (f d e S) Q → r x y H Q
def Op1 (G : Gx) (W : WX) (r : V → Hp → VK → Prop) (f : Dv → M Dv) : Prop := ∀ (ρ : Rg) (H : Hp) (σ : L2.St) (S : Sto) (x : V) (d : Dv) (Q : VK), RS G ρ H S → Rv G.K ρ H x d → Post G W σ (vr G) ρ H (f d S) Q → r x H Q
def OpN (G : Gx) (W : WX) (r : List V → Hp → VK → Prop) (f : List Dv → M Dv) : Prop := ∀ (ρ : Rg) (H : Hp) (σ : L2.St) (S : Sto) (xs : List V) (ds : List Dv) (Q : VK), RS G ρ H S → RvA G.K ρ H xs ds → Post G W σ (vr G) ρ H (f ds S) Q → r xs H Q
theorem t_op {r : R2} {f : Dv → Dv → M Dv} (hf : Op2 G W r f) {σ : L2.St} {H : Hp} {Q : VK} (q : tE G W (e2 f ma mb) σ H Q) : tOp r (tE G W ma) (tE G W mb) σ H Q := by
  obtain ⟨ρ, δ, S, cf, p⟩ := q
  refine ⟨ρ, δ, S, cf, (Post.bind p).mono fun x H1 ⟨ρ1, S1, d, s1, rs1, rx, p1⟩ => ?_⟩
  refine ⟨ρ1, δ, S1, cf.step s1 rs1, (Post.bind p1).mono fun y H2 ⟨ρ2, S2, e, s2, rs2, ry, p2⟩ => ?_⟩
  exact hf ρ2 H2 σ S2 x y d e Q rs2 (rx.step s2) ry p2
theorem re_op {op : Operator} {r : R2} {f : Dv → Dv → M Dv} (ho : OpR X (binaryOp op) r) (hf : Op2 G W r f) (ha : PE X a (tE G W ma)) (hb : PE X b (tE G W mb)) : PE X (.BinOp a op b pos) (tE G W (e2 f ma mb)) := (pe_op ho ha hb).imp fun _ _ _ q => t_op hf q
theorem re_cmp {op : CmpOp} {r : R2} {f : Dv → Dv → M Dv} (ho : OpR X (compareOp op) r) (hf : Op2 G W r f) (ha : PE X a (tE G W ma)) (hb : PE X b (tE G W mb)) (hm : behindInMarks op b = false) : PE X (.Compare a [op] [b] pos) (tE G W (e2 f ma mb)) :=
  (pe_cmpR ho ha hb hm).imp fun _ _ _ q => t_op hf q
theorem t_un {r : V → Hp → VK → Prop} {f : Dv → M Dv} (hf : Op1 G W r f) {σ : L2.St} {H : Hp} {Q : VK} (q : tE G W (e1 f ma) σ H Q) : tUn r (tE G W ma) σ H Q := by
  obtain ⟨ρ, δ, S, cf, p⟩ := q
  exact ⟨ρ, δ, S, cf, (Post.bind p).mono fun x H1 ⟨ρ1, S1, d, s1, rs1, rx, p1⟩ => hf ρ1 H1 σ S1 x d Q rs1 rx p1⟩
theorem re_un {op : UnaryOp} {r : V → Hp → VK → Prop} {f : Dv → M Dv} (ho : UnR X (unaryOp op) r) (hf : Op1 G W r f) (ha : PE X a (tE G W ma)) : PE X (.UnaryOp op a pos) (tE G W (e1 f ma)) := (pe_un ho ha).imp fun _ _ _ q => t_un hf q
end
end Mi
end T_Sim
section T_Sim2
set_option Elab.async false
set_option linter.all false
set_option maxRecDepth 100000
set_option maxHeartbeats 2000000
namespace Mi
open PySem PySem.Spec PyProof.Rows L2
/-! ### tests, and, or, not, if -/
section
variable {G : Gx} {W : WX} {X : Cx} {a b c : Expr} {es rest : List Expr} {ma mb : EX} {ca cb : EB} {mr : EA} {pos : Pos}
theorem rt_of (h : PE X a (tE G W ma)) (he : ∀ whole, isTrue a X.env whole = (do let v ← whole; standAt a.pos; holding [v] (truthy v)) := by intro _; rfl) : PT X a (tB G W (bOf ma)) := (pt_val h he).imp fun σ H Q q => by
  obtain ⟨ρ, δ, S, cf, p⟩ := q
  refine ⟨ρ, δ, S, cf, (Post.bind p).mono fun x H1 ⟨ρ1, S1, d, s1, rs1, rx, p1⟩ => ?_⟩
  cases rx with
  | bl k => exact ⟨k, rfl, Post.pure p1 rs1 rfl⟩
  | _ => exact p1.elim
theorem rt_cmp {op : CmpOp} {r : R2} {f : Dv → Dv → M Dv} (ho : OpR X (compareOp op) r) (hf : Op2 G W r f) (ha : PE X a (tE G W ma)) (hb : PE X b (tE G W mb)) (hm : behindInMarks op b = false) : PT X (.Compare a [op] [b] pos) (tB G W (bOf (e2 f ma mb))) :=
  (pt_cmpR ho ha hb hm).imp fun σ H Q q => by
    obtain ⟨ρ, δ, S, cf, p⟩ := q
    have z : tE G W (e2 f ma mb) σ H (fun x H' => ∃ k, x = .bl k ∧ Q k H') := ⟨ρ, δ, S, cf, (Post.bind p).mono fun x H1 ⟨ρ1, S1, d, s1, rs1, rx, p1⟩ => by
      cases rx with
      | bl k => exact ⟨k, rfl, Post.pure p1 rs1 rfl⟩
      | _ => exact p1.elim⟩
    exact t_op hf z
theorem rw_and1 (h : PT X a (tB G W ca)) : PW X (.BoolOp .And [a] pos) (tB G W ca) := pw_and1 h
theorem rw_or1 (h : PT X a (tB G W ca)) : PW X (.BoolOp .Or [a] pos) (tB G W ca) := pw_or1 h
theorem rw_and (ha : PT X a (tB G W ca)) (hb : PW X (.BoolOp .And (b :: rest) pos) (tB G W cb)) : PW X (.BoolOp .And (a :: b :: rest) pos) (tB G W (bAnd ca cb)) := (pw_and ha hb).imp fun σ H Q q => by
  obtain ⟨ρ, δ, S, cf, p⟩ := q
  refine ⟨ρ, δ, S, cf, (Post.bind p).mono fun x H1 ⟨ρ1, S1, d, s1, rs1, rx, p1⟩ => ?_⟩
  have e : x = d := rx
  subst e
  cases x with
  | true => exact ⟨ρ1, δ, S1, cf.step s1 rs1, p1⟩
  | false => exact Post.pure (α := Bool) (β := Bool) (rel := br) p1 rs1 rfl
theorem rw_or (ha : PT X a (tB G W ca)) (hb : PW X (.BoolOp .Or (b :: rest) pos) (tB G W cb)) : PW X (.BoolOp .Or (a :: b :: rest) pos) (tB G W (bOr ca cb)) := (pw_or ha hb).imp fun σ H Q q => by
  obtain ⟨ρ, δ, S, cf, p⟩ := q
  refine ⟨ρ, δ, S, cf, (Post.bind p).mono fun x H1 ⟨ρ1, S1, d, s1, rs1, rx, p1⟩ => ?_⟩
  have e : x = d := rx
  subst e
  cases x with
  | false => exact ⟨ρ1, δ, S1, cf.step s1 rs1, p1⟩
  | true => exact Post.pure (α := Bool) (β := Bool) (rel := br) p1 rs1 rfl
theorem rt_not (ha : PT X a (tB G W ca)) : PT X (.UnaryOp .Not a pos) (tB G W (bNot ca)) := (pt_not ha).imp fun σ H Q q => by
  obtain ⟨ρ, δ, S, cf, p⟩ := q
  refine ⟨ρ, δ, S, cf, (Post.bind p).mono fun x H1 ⟨ρ1, S1, d, s1, rs1, rx, p1⟩ => ?_⟩
  have e : x = d := rx
  subst e
  exact Post.pure (α := Bool) (β := Bool) (rel := br) p1 rs1 rfl
theorem re_one {op} (h : PE X a (tE G W ma)) : PE X (.BoolOp op [a] pos) (tE G W ma) := pe_one h
theorem re_and (ha : PE X a (tE G W ma)) (hb : PE X (.BoolOp .And (b :: rest) pos) (tE G W mb)) : PE X (.BoolOp .And (a :: b :: rest) pos) (tE G W (eAnd ma mb)) := (pe_and ha hb).imp fun σ H Q q => by
  obtain ⟨ρ, δ, S, cf, p⟩ := q
  refine ⟨ρ, δ, S, cf, (Post.bind p).mono fun x H1 ⟨ρ1, S1, d, s1, rs1, rx, p1⟩ => ?_⟩
  cases rx with
  | bl k =>
    refine ⟨k, rfl, ?_⟩
    cases k with
    | true => exact ⟨ρ1, δ, S1, cf.step s1 rs1, p1⟩
    | false => exact Post.pure p1 rs1 (.bl false)
  | _ => exact p1.elim
theorem re_or (ha : PE X a (tE G W ma)) (hb : PE X (.BoolOp .Or (b :: rest) pos) (tE G W mb)) : PE X (.BoolOp .Or (a :: b :: rest) pos) (tE G W (eOr ma mb)) := (pe_or ha hb).imp fun σ H Q q => by
  obtain ⟨ρ, δ, S, cf, p⟩ := q
  refine ⟨ρ, δ, S, cf, (Post.bind p).mono fun x H1 ⟨ρ1, S1, d, s1, rs1, rx, p1⟩ => ?_⟩
  cases rx with
  | bl k =>
    refine ⟨k, rfl, ?_⟩
    cases k with
    | false => exact ⟨ρ1, δ, S1, cf.step s1 rs1, p1⟩
    | true => exact Post.pure p1 rs1 (.bl true)
  | _ => exact p1.elim
theorem re_not (ha : PE X a (tE G W ma)) : PE X (.UnaryOp .Not a pos) (tE G W (eNot ma)) := (pe_not ha).imp fun σ H Q q => by
  obtain ⟨ρ, δ, S, cf, p⟩ := q
  refine ⟨ρ, δ, S, cf, (Post.bind p).mono fun x H1 ⟨ρ1, S1, d, s1, rs1, rx, p1⟩ => ?_⟩
  cases rx with
  | bl k => exact ⟨k, rfl, Post.pure p1 rs1 (.bl (!k))⟩
  | _ => exact p1.elim
theorem re_if (hc : PT X c (tB G W ca)) (ha : PE X a (tE G W ma)) (hb : PE X b (tE G W mb)) : PE X (.IfExp c a b pos) (tE G W (eIf ca ma mb)) := (pe_ifExp hc ha hb).imp fun σ H Q q => by
  obtain ⟨ρ, δ, S, cf, p⟩ := q
  refine ⟨ρ, δ, S, cf, (Post.bind p).mono fun x H1 ⟨ρ1, S1, d, s1, rs1, rx, p1⟩ => ?_⟩
  have e : x = d := rx
  subst e
  cases x with
  | true => exact ⟨ρ1, δ, S1, cf.step s1 rs1, p1⟩
  | false => exact ⟨ρ1, δ, S1, cf.step s1 rs1, p1⟩
/-! ### arguments, displays, calls by values -/
theorem ra_nil : PA X [] (tA G W aNil) := pa_nil.imp fun σ H Q q => by
  obtain ⟨ρ, δ, S, cf, p⟩ := q
  exact Post.pure p cf.rs .nil
theorem ra_cons (ha : PE X a (tE G W ma)) (hr : PA X es (tA G W mr)) (hs : starEach (a :: es) X.env = (false, eval a X.env) :: starEach es X.env := by rfl) : PA X (a :: es) (tA G W (aCons ma mr)) := (pa_cons ha hr hs).imp fun σ H Q q => by
  obtain ⟨ρ, δ, S, cf, p⟩ := q
  refine ⟨ρ, δ, S, cf, (Post.bind p).mono fun x H1 ⟨ρ1, S1, d, s1, rs1, rx, p1⟩ => ?_⟩
  refine ⟨ρ1, δ, S1, cf.step s1 rs1, (Post.bind p1).mono fun xs H2 ⟨ρ2, S2, ds, s2, rs2, rxs, p2⟩ => ?_⟩
  exact Post.pure p2 rs2 (.cons (rx.step s2) rxs)
theorem lim_ok {n : Nat} (h : n ≤ lim) : n ≤ sizeLine := Nat.le_trans h (by decide)
theorem lim_lt {n : Nat} (h : n < lim) : n < sizeLine := Nat.lt_of_lt_of_le h (by decide)
theorem RS.nin {G : Gx} {ρ : Rg} {H : Hp} {S : Sto} (r : RS G ρ H S) {p : Addr} (h : H p = none) : Out ρ p := by
  refine ⟨fun m => ?_, fun m => ?_⟩
  · obtain ⟨u, q, _⟩ := r.mem m
    rw [h] at q
    cases q
  · obtain ⟨u, q⟩ := (r.bt p m).2
    rw [h] at q
    cases q
theorem re_tup {x1} (h : PA X es (tA G W mr)) : PE X (.Tuple es x1 pos) (tE G W (eN mTup mr)) := (pe_tup h).imp fun σ H Q q => by
  obtain ⟨ρ, δ, S, cf, p⟩ := q
  refine ⟨ρ, δ, S, cf, (Post.bind p).mono fun xs H1 ⟨ρ1, S1, ds, s1, rs1, rx, p1⟩ => ?_⟩
  unfold mTup at p1
  split at p1
  · rename_i hl
    have e := rx.length
    refine ⟨lim_ok (by omega), fun u hu => ?_⟩
    exact p1 _ _ ρ1 (Stp.new hu) (rs1.new hu) (.tup ⟨upd_same, rs1.nin hu⟩ (rx.step (Stp.new hu)))
  · exact p1.elim
theorem re_lst (h : PA X es (tA G W mr)) : PE X (.List es pos) (tE G W (eN mLst mr)) := (pe_lst h).imp fun σ H Q q => by
  obtain ⟨ρ, δ, S, cf, p⟩ := q
  refine ⟨ρ, δ, S, cf, (Post.bind p).mono fun xs H1 ⟨ρ1, S1, ds, s1, rs1, rx, p1⟩ => ?_⟩
  unfold mLst at p1
  split at p1
  · rename_i hl
    have e := rx.length
    refine ⟨lim_ok (by omega), fun u hu => ?_⟩
    exact p1 _ _ ρ1 (Stp.new hu) (rs1.new hu) (.lst upd_same (rs1.nin hu) (rx.step (Stp.new hu)))
  · exact p1.elim
theorem t_N {r : List V → Hp → VK → Prop} {f : List Dv → M Dv} (hf : OpN G W r f) {σ : L2.St} {H : Hp} {Q : VK} (q : tE G W (eN f mr) σ H Q) : tCB r (tA G W mr) σ H Q := by
  obtain ⟨ρ, δ, S, cf, p⟩ := q
  exact ⟨ρ, δ, S, cf, (Post.bind p).mono fun x H1 ⟨ρ1, S1, d, s1, rs1, rx, p1⟩ => hf ρ1 H1 σ S1 x d Q rs1 rx p1⟩
theorem re_B {id : String} {x : Str} {p : Pos} {r : List V → Hp → VK → Prop} {f : List Dv → M Dv} (hc : CallR X (.builtin id) r) (hf : OpN G W r f) (hg : Gl X x) (hm : X.mg x = none) (hv : bootBuiltins x = some (.builtin id)) (ha : PA X (a :: es) (tA G W mr)) (hn : x ≠ "__name__" := by decide) (hdb : (x == ("__debug__" : Str)) = false := by decide)
    (he : starEach (a :: es) X.env = (false, eval a X.env) :: starEach es X.env := by rfl) (hpl : (backTo pos (starEach es X.env)).any (·.1) = false := by rfl) : PE X (.Call (.Name x p) (a :: es) [] pos) (tE G W (eN f mr)) :=
  (pe_callB hc hg hm hv ha hn hdb he hpl).imp fun _ _ _ q => t_N hf q
theorem re_Ty {T : String} {x : Str} {p : Pos} {r : List V → Hp → VK → Prop} {f : List Dv → M Dv} (hc : CallR X (.type T) r) (hf : OpN G W r f) (hg : Gl X x) (hm : X.mg x = none) (hv : bootBuiltins x = some (.type T)) (ha : PA X (a :: es) (tA G W mr)) (hn : x ≠ "__name__" := by decide) (hdb : (x == ("__debug__" : Str)) = false := by decide)
    (he : starEach (a :: es) X.env = (false, eval a X.env) :: starEach es X.env := by rfl) (hpl : (backTo pos (starEach es X.env)).any (·.1) = false := by rfl) : PE X (.Call (.Name x p) (a :: es) [] pos) (tE G W (eN f mr)) :=
  (pe_callTy hc hg hm hv ha hn hdb he hpl).imp fun _ _ _ q => t_N hf q
end
/-! ### defs -/
/-- the def does what the mirror does -/
def spM (G : Gx) (n : Nat) (f : List Dv → M Dv) : Sp := fun vs H Q E => ∃ ρ S ds, vs.length = n ∧ RvA G.K ρ H vs ds ∧ RS G ρ H S ∧ Post G (fun c dx _ H' => E c dx H') [] (vr G) ρ H (f ds S) Q
/-- a mirror's call, as the promise's -/
theorem sp_of {G : Gx} {W : WX} {σ : L2.St} {n : Nat} {mf : List Dv → M Dv} {ρ : Rg} {H : Hp} {S : Sto} {xs : List V} {ds : List Dv} {Q : VK} (har : ∀ ds S, ds.length ≠ n → mf ds S = .bad) (rs : RS G ρ H S) (rx : RvA G.K ρ H xs ds) (p : Post G W σ (vr G) ρ H (mf ds S) Q) : spM G n mf xs H Q (WE W σ) := by
  by_cases hn : ds.length = n
  · refine ⟨ρ, S, ds, by rw [rx.length, hn], rx, rs, ?_⟩
    cases e : mf ds S with
    | ok d S2 => rw [e] at p; exact p
    | ex x S2 => rw [e] at p; exact p
    | bad => rw [e] at p; exact p
  · rw [har ds S hn] at p
    exact p.elim
theorem fnOf_ar {k n : Nat} {body : SM} (ds : List Dv) (S : Sto) (h : ds.length ≠ k) : fnOf k n body ds S = .bad := if_neg h
section
variable {G : Gx} {W : WX} {X : Cx} {a b c : Expr} {es rest : List Expr} {ma mb : EX} {ca cb : EB} {mr : EA} {pos : Pos}
theorem re_call {k : Nat} {f : Addr} {fd : FuncData} {ps : List Str} {n : Nat} {mf : List Dv → M Dv} {x : Str} {p : Pos} (tk : Takes X W) (F : FnOk X.prog X.w X.K X.mg X.base (L2.CX X.prog X.w) k f fd ps (spM G n mf)) (har : ∀ ds S, ds.length ≠ n → mf ds S = .bad) (hr : Room k X.A) (hg : Gl X x) (hm : X.mg x = some (.ref f)) (hk : PySem.W.keepIn X.K (.ref f) = true) (hb : L2.Binds X.K fd ps [])
    (ha : PA X (a :: es) (tA G W mr)) (hdb : (x == ("__debug__" : Str)) = false := by decide) (he : starEach (a :: es) X.env = (false, eval a X.env) :: starEach es X.env := by rfl) (hpl : (backTo pos (starEach es X.env)).any (·.1) = false := by rfl) :
    PE X (.Call (.Name x p) (a :: es) [] pos) (tE G W (eN mf mr)) :=
  (pe_callS (E := WE W) F hr hg hm hk hb (fun σ => passAt tk σ) ha hdb he hpl).imp fun σ H Q q => by
    obtain ⟨ρ, δ, S, cf, p⟩ := q
    exact ⟨ρ, δ, S, cf, (Post.bind p).mono fun xs H1 ⟨ρ1, S1, ds, s1, rs1, rx, p1⟩ => sp_of har rs1 rx p1⟩
end
/-! ### statements -/
def PostS (G : Gx) (W : WX) (ρ : Rg) (H : Hp) (r : SR) (D : Ends) : Prop := match r with
  | .nx δ' S' => ∀ σ' H' ρ', Stp ρ H ρ' H' → Cf G ρ' H' σ' δ' S' → D.nx σ' H'
  | .rt d S' => ∀ v H' ρ', Stp ρ H ρ' H' → RS G ρ' H' S' → Rv G.K ρ' H' v d → D.rt v H'
  | .bk δ' S' => ∀ σ' H' ρ', Stp ρ H ρ' H' → Cf G ρ' H' σ' δ' S' → D.bk σ' H'
  | .ct δ' S' => ∀ σ' H' ρ', Stp ρ H ρ' H' → Cf G ρ' H' σ' δ' S' → D.ct σ' H'
  | .ex x δ' S' => ∀ c dx σ' H' ρ', Stp ρ H ρ' H' → Cf G ρ' H' σ' δ' S' → Rx G ρ' H' c dx x → W c dx σ' H'
  | .bad => False
def tS (G : Gx) (W : WX) (m : SM) : TS := fun D σ H => ∃ ρ δ S, Cf G ρ H σ δ S ∧ PostS G W ρ H (m δ S) D
theorem PostS.step {G : Gx} {W : WX} {ρ ρ1 : Rg} {H H1 : Hp} {r : SR} {D : Ends} (s : Stp ρ H ρ1 H1) (h : PostS G W ρ H r D) : PostS G W ρ1 H1 r D := by
  cases r with
  | nx δ S => exact fun σ' H' ρ' t c => h σ' H' ρ' (s.trans t) c
  | rt d S => exact fun v H' ρ' t c r => h v H' ρ' (s.trans t) c r
  | bk δ S => exact fun σ' H' ρ' t c => h σ' H' ρ' (s.trans t) c
  | ct δ S => exact fun σ' H' ρ' t c => h σ' H' ρ' (s.trans t) c
  | ex x δ S => exact fun c dx σ' H' ρ' t cf r => h c dx σ' H' ρ' (s.trans t) cf r
  | bad => exact h
theorem PostS.mono {G : Gx} {W : WX} {ρ : Rg} {H : Hp} {r : SR} {D D' : Ends} (h : PostS G W ρ H r D) (h1 : ∀ σ H, D.nx σ H → D'.nx σ H) (h2 : ∀ v H, D.rt v H → D'.rt v H) (h3 : ∀ σ H, D.bk σ H → D'.bk σ H) (h4 : ∀ σ H, D.ct σ H → D'.ct σ H) : PostS G W ρ H r D' := by
  cases r with
  | nx δ S => exact fun σ' H' ρ' t c => h1 _ _ (h σ' H' ρ' t c)
  | rt d S => exact fun v H' ρ' t c r => h2 _ _ (h v H' ρ' t c r)
  | bk δ S => exact fun σ' H' ρ' t c => h3 _ _ (h σ' H' ρ' t c)
  | ct δ S => exact fun σ' H' ρ' t c => h4 _ _ (h σ' H' ρ' t c)
  | ex x δ S => exact h
  | bad => exact h
/-- an expression, then a statement's end -/
theorem postS_on {G : Gx} {W : WX} {σ : L2.St} {ρ : Rg} {H : Hp} {δ : En} {S : Sto} {α β : Type} {rel : Rg → Hp → β → α → Prop} {r : Res α} {k : α → Sto → SR} {D : Ends} (cf : Cf G ρ H σ δ S) (h : PostS G W ρ H (onOk r δ k) D) :
    Post G W σ rel ρ H r (fun v H1 => ∃ ρ1 S1 d, Stp ρ H ρ1 H1 ∧ RS G ρ1 H1 S1 ∧ rel ρ1 H1 v d ∧ PostS G W ρ1 H1 (k d S1) D) := by
  cases r with
  | ok d S1 => exact fun v H1 ρ1 s rs rv => ⟨ρ1, S1, d, s, rs, rv, h.step s⟩
  | ex x S1 => exact fun c dx H' ρ' s rs rx => h c dx σ H' ρ' s (cf.step s rs) rx
  | bad => exact h
section
variable {G : Gx} {W : WX} {X : Cx} {e c : Expr} {st : Stmt} {sts sa sb : List Stmt} {me : EX} {mc : EB} {m m1 m2 : SM} {pos : Pos}
theorem rs_nil : PSs X [] (tS G W sNil) := pss_nil.imp fun D σ H q => by
  obtain ⟨ρ, δ, S, cf, p⟩ := q
  exact p σ H ρ Stp.refl cf
theorem rs_cons (h1 : PS X st (tS G W m1)) (h2 : PSs X sts (tS G W m2)) : PSs X (st :: sts) (tS G W (sSeq m1 m2)) := (pss_cons h1 h2).imp fun D σ H q => by
  obtain ⟨ρ, δ, S, cf, p⟩ := q
  refine ⟨ρ, δ, S, cf, ?_⟩
  unfold sSeq at p
  cases e : m1 δ S with
  | nx δ' S' =>
    rw [e] at p
    exact fun σ' H' ρ' s c => ⟨ρ', δ', S', c, p.step s⟩
  | rt d S' => rw [e] at p; exact p
  | bk δ' S' => rw [e] at p; exact p
  | ct δ' S' => rw [e] at p; exact p
  | ex x δ' S' => rw [e] at p; exact p
  | bad => rw [e] at p; exact p
theorem rs_one (h1 : PS X st (tS G W m1)) : PSs X [st] (tS G W m1) := pss_one h1
theorem rs_if (hc : PT X c (tB G W mc)) (ha : PSs X sa (tS G W m1)) (hb : PSs X sb (tS G W m2)) : PS X (.If c sa sb pos) (tS G W (sIf mc m1 m2)) := (ps_if hc ha hb).imp fun D σ H q => by
  obtain ⟨ρ, δ, S, cf, p⟩ := q
  refine ⟨ρ, δ, S, cf, (postS_on (rel := br) cf p).mono fun x H1 ⟨ρ1, S1, d, s1, rs1, rx, p1⟩ => ?_⟩
  have e : x = d := rx
  subst e
  cases x with
  | true => exact ⟨ρ1, δ, S1, cf.step s1 rs1, p1⟩
  | false => exact ⟨ρ1, δ, S1, cf.step s1 rs1, p1⟩
theorem rs_pass : PS X (.Pass pos) (tS G W sNil) := ps_pass.imp fun D σ H q => by
  obtain ⟨ρ, δ, S, cf, p⟩ := q
  exact p σ H ρ Stp.refl cf
theorem rs_break : PS X (.Break pos) (tS G W sBreak) := ps_break.imp fun D σ H q => by
  obtain ⟨ρ, δ, S, cf, p⟩ := q
  exact p σ H ρ Stp.refl cf
theorem rs_cont : PS X (.Continue pos) (tS G W sCont) := ps_continue.imp fun D σ H q => by
  obtain ⟨ρ, δ, S, cf, p⟩ := q
  exact p σ H ρ Stp.refl cf
theorem rs_expr (he : PE X e (tE G W me)) (hs : swapsWith e none pos.line X.env = pure false := by rfl) : PS X (.Expr e pos) (tS G W (sExpr me)) := (ps_expr he hs).imp fun D σ H q => by
  obtain ⟨ρ, δ, S, cf, p⟩ := q
  exact ⟨ρ, δ, S, cf, (postS_on (rel := vr G) cf p).mono fun x H1 ⟨ρ1, S1, d, s1, rs1, rx, p1⟩ => p1 σ H1 ρ1 Stp.refl (cf.step s1 rs1)⟩
theorem rs_ret (he : PE X e (tE G W me)) : PS X (.Return (some e) pos) (tS G W (sRet me)) := (ps_ret he).imp fun D σ H q => by
  obtain ⟨ρ, δ, S, cf, p⟩ := q
  exact ⟨ρ, δ, S, cf, (postS_on (rel := vr G) cf p).mono fun x H1 ⟨ρ1, S1, d, s1, rs1, rx, p1⟩ => p1 x H1 ρ1 Stp.refl rs1 rx⟩
theorem t_set {i : Nat} {D : Ends} {σ : L2.St} {H : Hp} (hx : SlotOk G i) (q : tS G W (sSet i me) D σ H) : tAsg (tE G W me) (gName i) D σ H := by
  obtain ⟨ρ, δ, S, cf, p⟩ := q
  exact ⟨ρ, δ, S, cf, (postS_on (rel := vr G) cf p).mono fun x H1 ⟨ρ1, S1, d, s1, rs1, rx, p1⟩ => p1 _ H1 ρ1 Stp.refl ((cf.step s1 rs1).set i rx hx)⟩
theorem rs_set {i : Nat} {x : Str} {pos' : Pos} (hN : X.N.Nodup) (hi : X.N[i]? = some x) (hx : Loc X.env.scope x) (he : PE X e (tE G W me)) (hs : swapsWith e (some (.Name x pos')) pos.line X.env = pure false := by rfl) (hf : X.fn x = true ∨ X.env.scope.names.lookup x = some .local := by first | exact .inl rfl | exact .inr rfl | assumption)
    (hxo : SlotOk G i := by first | exact slotOk_none rfl | (intro q e; cases e; exact Nat.ne_of_beq_eq_false rfl)) :
    PS X (.Assign [.Name x pos'] e pos) (tS G W (sSet i me)) := (ps_set hN hi hx he hs hf).imp fun _ _ _ q => t_set hxo q
end
/-! ### targets -/
/-- unlike at the places vs alone -/
def But (vs : List Nat) (σ σ' : L2.St) : Prop := σ'.length = σ.length ∧ ∀ j, j ∉ vs → σ'[j]? = σ[j]?
theorem But.refl {vs : List Nat} {σ : L2.St} : But vs σ σ := ⟨rfl, fun _ _ => rfl⟩
theorem But.set {i : Nat} {σ : L2.St} {v : Option V} : But [i] σ (σ.set i v) := ⟨by simp, fun j h => List.getElem?_set_ne (fun e => h (by simp [e]))⟩
theorem But.trans {vs ws : List Nat} {σ σ1 σ2 : L2.St} (a : But vs σ σ1) (b : But ws σ1 σ2) : But (vs ++ ws) σ σ2 := ⟨b.1.trans a.1, fun j h => (b.2 j fun z => h (List.mem_append_right _ z)).trans (a.2 j fun z => h (List.mem_append_left _ z))⟩
def GEnd (G : Gx) (vs : List Nat) (ρ : Rg) (H : Hp) (σ : L2.St) (r : Option (En × Sto)) (Q : L2.St → Hp → Prop) : Prop := match r with
  | some (δ', S') => ∀ σ' H' ρ', Stp ρ H ρ' H' → Cf G ρ' H' σ' δ' S' → But vs σ σ' → Q σ' H'
  | none => False
def tG (G : Gx) (vs : List Nat) (f : TGm) : TG := fun v σ H Q => ∃ ρ δ S d, Cf G ρ H σ δ S ∧ Rv G.K ρ H v d ∧ GEnd G vs ρ H σ (f d δ S) Q
def tGs (G : Gx) (ws : List Nat) (fs : List TGm) : TGs := fun vs σ H Q => ∃ ρ δ S ds, Cf G ρ H σ δ S ∧ RvA G.K ρ H vs ds ∧ GEnd G ws ρ H σ (gAll fs ds δ S) Q
theorem _root_.L2.PG.imp {X : Cx} {e : Expr} {t t' : TG} (h : PG X e t) (f : ∀ v σ H Q, t' v σ H Q → t v σ H Q) : PG X e t' := ⟨fun pins s σ H v u Q I r q => h.run pins s σ H v u Q I r (f v σ H Q q)⟩
theorem _root_.L2.PGs.imp {X : Cx} {e : List Expr} {t t' : TGs} (h : PGs X e t) (f : ∀ v σ H Q, t' v σ H Q → t v σ H Q) : PGs X e t' := ⟨fun pins s σ H v u Q I r q => h.run pins s σ H v u Q I r (f v σ H Q q)⟩
section
variable {G : Gx} {W : WX} {X : Cx} {e c : Expr} {es : List Expr} {me : EX} {mr : EA} {pos : Pos} {g : TGm} {gs : List TGm} {vs ws : List Nat}
theorem rg_name {i : Nat} {x : Str} (hN : X.N.Nodup) (hi : X.N[i]? = some x) (hx : Loc X.env.scope x) (hf : X.fn x = true ∨ X.env.scope.names.lookup x = some .local := by first | exact .inl rfl | exact .inr rfl | assumption) (hxo : SlotOk G i := by first | exact slotOk_none rfl | (intro q e; cases e; exact Nat.ne_of_beq_eq_false rfl)) : PG X (.Name x pos) (tG G [i] (gNm i)) :=
  (pg_name hN hi hx hf).imp fun v σ H Q q => by
    obtain ⟨ρ, δ, S, d, cf, r, p⟩ := q
    exact p _ H ρ Stp.refl (cf.set i r hxo) But.set
theorem rgs_nil : PGs X [] (tGs G [] []) := pgs_nil.imp fun v σ H Q q => by
  obtain ⟨ρ, δ, S, ds, cf, r, p⟩ := q
  cases r with
  | nil => exact ⟨rfl, p σ H ρ Stp.refl cf But.refl⟩
  | cons => exact p.elim
theorem rgs_cons (h1 : PG X e (tG G vs g)) (h2 : PGs X es (tGs G ws gs)) (hs : (assignEach (e :: es) X.env).map (·.2) = assign e X.env :: (assignEach es X.env).map (·.2) := by rfl) : PGs X (e :: es) (tGs G (vs ++ ws) (g :: gs)) :=
  (pgs_cons h1 h2 hs).imp fun v σ H Q q => by
    obtain ⟨ρ, δ, S, ds, cf, r, p⟩ := q
    cases r with
    | nil => exact p.elim
    | @cons v1 vs1 d1 ds1 h r =>
      refine ⟨v1, vs1, rfl, ρ, δ, S, d1, cf, h, ?_⟩
      have p' : GEnd G (vs ++ ws) ρ H σ (match g d1 δ S with | some (δ', S') => gAll gs ds1 δ' S' | none => none) Q := p
      cases e : g d1 δ S with
      | none =>
        rw [e] at p'
        exact p'
      | some z =>
        obtain ⟨δ1, S1⟩ := z
        rw [e] at p'
        intro σ1 H1 ρ1 s1 c1 b1
        refine ⟨ρ1, δ1, S1, ds1, c1, r.step s1, ?_⟩
        have p2 : GEnd G (vs ++ ws) ρ H σ (gAll gs ds1 δ1 S1) Q := p'
        cases e2 : gAll gs ds1 δ1 S1 with
        | none =>
          rw [e2] at p2
          exact p2
        | some z2 =>
          rw [e2] at p2
          exact fun σ2 H2 ρ2 s2 c2 b2 => p2 σ2 H2 ρ2 (s1.trans s2) c2 (b1.trans b2)
theorem gAll_len {gs : List TGm} : ∀ {ds : List Dv} {δ : En} {S : Sto} {z : En × Sto}, gAll gs ds δ S = some z → ds.length = gs.length := by
  induction gs with
  | nil =>
    intro ds δ S z h
    cases ds with
    | nil => rfl
    | cons => cases h
  | cons g gs ih =>
    intro ds δ S z h
    cases ds with
    | nil => cases h
    | cons d ds =>
      have h' : (match g d δ S with | some (δ', S') => gAll gs ds δ' S' | none => none) = some z := h
      cases e : g d δ S with
      | none =>
        rw [e] at h'
        cases h'
      | some y =>
        rw [e] at h'
        exact congrArg (· + 1) (ih h')
theorem rg_tup {k : Nat} {n : Nat} (hK : X.K = G.K) (hc : X.calm = true) (h : PGs X es (tGs G ws gs)) (hg : gs.length = n) (hn : (assignEach es X.env).length = n := by rfl) (hst : (assignEach es X.env).findIdx? (·.1) = none := by rfl) : PG X (.Tuple es k pos) (tG G ws (gTp gs)) :=
  (pg_tup hc h hn hst).imp fun v σ H Q q => by
    obtain ⟨ρ, δ, S, d, cf, r, p⟩ := q
    cases r with
    | @tup a vs ds ht hr =>
      have p' : GEnd G ws ρ H σ (gAll gs ds δ S) Q := p
      refine ⟨a, vs, rfl, by rw [hK]; exact ht.sq, ?_, ρ, δ, S, ds, cf, hr, p'⟩
      cases e : gAll gs ds δ S with
      | none =>
        rw [e] at p'
        exact p'.elim
      | some z => rw [hr.length, gAll_len e, hg]
    | _ => exact p.elim
theorem rs_asg {tg : Expr} (he : PE X e (tE G W me)) (hg : PG X tg (tG G vs g)) (hs : swapsWithSole [tg] e pos.line X.env = pure false := by rfl) (hw : swappedStores [tg] e X.env = pure none := by rfl) (h1 : List.map (fun x => x.snd) (assignEach [tg] X.env) = [assign tg X.env] := by rfl) : PS X (.Assign [tg] e pos) (tS G W (sAsg g me)) :=
  (ps_asg he hg hs hw h1).imp fun D σ H q => by
    obtain ⟨ρ, δ, S, cf, p⟩ := q
    refine ⟨ρ, δ, S, cf, (postS_on (rel := vr G) cf p).mono fun x H1 ⟨ρ1, S1, d, s1, rs1, rx, p1⟩ => ?_⟩
    refine ⟨ρ1, δ, S1, d, cf.step s1 rs1, rx, ?_⟩
    cases e : g d δ S1 with
    | none =>
      rw [e] at p1
      exact p1
    | some z =>
      rw [e] at p1
      exact fun σ' H' ρ' s c _ => p1 σ' H' ρ' s c
theorem rs_par {i j : Nat} {x y : Str} {a b : Expr} {px py pt : Pos} {kt k2 pt2} (hc : X.calm = true) (hN : X.N.Nodup) (hi : X.N[i]? = some x) (hj : X.N[j]? = some y) (hij : i ≠ j)
    (hx : X.env.scope.names.lookup x = some .local) (hy : X.env.scope.names.lookup y = some .local) (ha : PA X [a, b] (tA G W mr))
    (hw : swappedStores [.Tuple [.Name x px, .Name y py] kt pt] (.Tuple [a, b] k2 pt2) X.env = pure (some [x, y]))
    (hs : swapsWithSole [.Tuple [.Name x px, .Name y py] kt pt] (.Tuple [a, b] k2 pt2) pos.line X.env = pure false := by rfl) (hxn : G.xc = none := by rfl) :
    PS X (.Assign [.Tuple [.Name x px, .Name y py] kt pt] (.Tuple [a, b] k2 pt2) pos) (tS G W (sPar [i, j] mr)) := (ps_par hc hN hi hj hij hx hy ha hw hs).imp fun D σ H q => by
  obtain ⟨ρ, δ, S, cf, p⟩ := q
  refine ⟨ρ, δ, S, cf, (postS_on (rel := ar G) cf p).mono fun xs H1 ⟨ρ1, S1, ds, s1, rs1, rx, p1⟩ => ?_⟩
  match xs, ds, rx, p1 with
  | [v, w], [d1, d2], .cons h1 (.cons h2 .nil), p1 => exact ⟨v, w, rfl, p1 _ H1 ρ1 Stp.refl (((cf.step s1 rs1).set i h1 (slotOk_none hxn)).set j h2 (slotOk_none hxn))⟩
  | [], [], .nil, p1 => exact p1.elim
  | [_], [_], .cons _ .nil, p1 => exact p1.elim
  | _ :: _ :: _ :: _, _ :: _ :: _ :: _, .cons _ (.cons _ (.cons _ _)), p1 => exact p1.elim
end
/-! ### what is walked -/
structure ItOk (G : Gx) (ρ : Rg) (H : Hp) (J : It) (ds : List Dv) : Prop where
  go : ∀ (ρ1 : Rg) (H1 : Hp) (S1 : Sto) (i : Nat) (d : Dv), StB ρ H ρ1 H1 → RS G ρ1 H1 S1 → ds[i]? = some d → J.go i H1 ∧ ∀ x H2, J.yld i H1 x H2 → Stp ρ1 H1 ρ1 H2 ∧ RS G ρ1 H2 S1 ∧ Rv G.K ρ1 H2 x d
  stop : ∀ (ρ1 : Rg) (H1 : Hp), StB ρ H ρ1 H1 → J.stop ds.length H1
abbrev ir (G : Gx) : Rg → Hp → It → List Dv → Prop := ItOk G
abbrev tI (G : Gx) (W : WX) (m : EA) : TI := tX G W (ir G) m
theorem _root_.L2.PI.imp {X : Cx} {tg e : Expr} {t t' : TI} (h : PI X tg e t) (f : ∀ σ H Q, t' σ H Q → t σ H Q) : PI X tg e t' := ⟨fun pins s σ H Q I q => h.run pins s σ H Q I (f σ H Q q)⟩
theorem _root_.L2.PI.or {X : Cx} {tg e : Expr} {t t' : TI} (h : PI X tg e t) (h' : PI X tg e t') : PI X tg e (fun σ H R => t σ H R ∨ t' σ H R) := ⟨fun pins s σ H Q I q => by
  rcases q with q | q
  · exact h.run pins s σ H Q I q
  · exact h'.run pins s σ H Q I q⟩
theorem itok_l {G : Gx} {ρ : Rg} {H : Hp} {a : Addr} {vs : List V} {ds : List Dv} (h : StL G.K ρ H a vs) (r : RvA G.K ρ H vs ds) : ItOk G ρ H (Itl G.K a) ds where
  go := fun ρ1 H1 S1 i d s rs e => by
    obtain ⟨v, h1, h2⟩ := (r.stepB s).get e
    have q := (h.stepB s).sq
    exact ⟨⟨vs, v, q, h1⟩, fun x H2 ⟨e1, e2⟩ => by
      subst e1
      have e3 := (e2 vs q).symm.trans h1
      cases e3
      exact ⟨Stp.refl, rs, h2⟩⟩
  stop := fun ρ1 H1 s => ⟨vs, (h.stepB s).sq, by rw [r.length]; exact Nat.le_refl _⟩
theorem itok_t {G : Gx} {ρ : Rg} {H : Hp} {a : Addr} {vs : List V} {ds : List Dv} (h : StT G.K ρ H a vs) (r : RvA G.K ρ H vs ds) : ItOk G ρ H (Itt G.K a) ds where
  go := fun ρ1 H1 S1 i d s rs e => by
    obtain ⟨v, h1, h2⟩ := (r.stepB s).get e
    have q := (h.stepB s).sq
    exact ⟨⟨vs, v, q, h1⟩, fun x H2 ⟨e1, e2⟩ => by
      subst e1
      have e3 := (e2 vs q).symm.trans h1
      cases e3
      exact ⟨Stp.refl, rs, h2⟩⟩
  stop := fun ρ1 H1 s => ⟨vs, (h.stepB s).sq, by rw [r.length]; exact Nat.le_refl _⟩
theorem itok_s {G : Gx} {ρ : Rg} {H : Hp} (x : Str) (ok : OkS x) : ItOk G ρ H (Its x) (x.cps.toList.map fun c => .str ⟨#[c]⟩) where
  go := fun ρ1 H1 S1 i d s rs e => by
    rw [List.getElem?_map] at e
    cases q : x.cps.toList[i]? with
    | none => rw [q] at e; cases e
    | some c =>
      rw [q] at e
      cases e
      have hl := (List.getElem?_eq_some_iff.mp q).1
      refine ⟨(show i < x.cps.size by simpa using hl), fun y H2 ⟨e1, c', e2, e3⟩ => ?_⟩
      subst e1 e3
      rw [← Array.getElem?_toList, q] at e2
      cases e2
      exact ⟨Stp.refl, rs, .str _ (fun z hz => by simp at hz; subst hz; exact ok _ (List.mem_of_getElem? q))⟩
  stop := fun ρ1 H1 s => by simp [Its]
theorem itok_r {G : Gx} {ρ : Rg} {H : Hp} (lo : Int) (n : Nat) : ItOk G ρ H (Itr lo n) ((List.range n).map fun i => .int (lo + (i : Nat))) where
  go := fun ρ1 H1 S1 i d s rs e => by
    rw [List.getElem?_map] at e
    cases q : (List.range n)[i]? with
    | none => rw [q] at e; cases e
    | some c =>
      rw [q] at e
      cases e
      have hl := (List.getElem?_eq_some_iff.mp q).1
      have e4 : c = i := by
        have := (List.getElem?_eq_some_iff.mp q).2
        simpa using this.symm
      subst e4
      refine ⟨(show c < n by simpa using hl), fun y H2 ⟨e1, e2⟩ => ?_⟩
      subst e1 e2
      exact ⟨Stp.refl, rs, .int _⟩
  stop := fun ρ1 H1 s => by simp [Itr]
section
variable {G : Gx} {W : WX} {X : Cx} {tg e c : Expr} {es : List Expr} {me : EX} {mr : EA} {pos : Pos}
theorem ri_of (hK : X.K = G.K) (h : PE X e (tE G W me)) : PI X tg e (tI G W (iOf me)) := (((pi_list h).or (pi_tup h)).or (pi_str h)).imp fun σ H R q => by
  obtain ⟨ρ, δ, S, cf, p⟩ := q
  have p2 := Post.bind (rel := vr G) p
  -- which kind: by the mirror's own value
  have key : ∀ d S1, me δ S = .ok d S1 → (∃ ds, d = .lst ds) ∨ (∃ ds, d = .tup ds) ∨ (∃ x, d = .str x) ∨ (∃ ds, d = .con ds) := fun d S1 ed => by
    unfold iOf M.bind at p
    rw [ed] at p
    cases d with
    | lst ds => exact .inl ⟨ds, rfl⟩
    | tup ds => exact .inr (.inl ⟨ds, rfl⟩)
    | str x => exact .inr (.inr (.inl ⟨x, rfl⟩))
    | con ds => exact .inr (.inr (.inr ⟨ds, rfl⟩))
    | _ => exact p.elim
  cases ed : me δ S with
  | bad => rw [ed] at p2; exact p2.elim
  | ex x S1 =>
    rw [ed] at p2
    exact .inl (.inl ⟨ρ, δ, S, cf, by rw [ed]; exact p2⟩)
  | ok d S1 =>
    rcases key d S1 ed with ⟨ds, rfl⟩ | ⟨ds, rfl⟩ | ⟨x, rfl⟩ | ⟨ds, rfl⟩
    · refine .inl (.inl ⟨ρ, δ, S, cf, ?_⟩)
      rw [ed] at p2 ⊢
      intro v H1 ρ1 s1 rs1 rv
      cases rv with
      | @lst a vs _ ht0 hn hr =>
        have ht : StL G.K ρ1 H1 a vs := .inl ⟨.inl ht0, hn⟩
        refine ⟨a, rfl, ⟨vs, by rw [hK]; exact ht.sq⟩, ?_⟩
        rw [hK]
        unfold iOf M.bind at p
        rw [ed] at p
        exact p _ H1 ρ1 s1 rs1 (itok_l ht hr)
    · refine .inl (.inr ⟨ρ, δ, S, cf, ?_⟩)
      rw [ed] at p2 ⊢
      intro v H1 ρ1 s1 rs1 rv
      cases rv with
      | @tup a vs _ ht hr =>
        refine ⟨a, rfl, ⟨vs, by rw [hK]; exact ht.sq⟩, ?_⟩
        rw [hK]
        unfold iOf M.bind at p
        rw [ed] at p
        exact p _ H1 ρ1 s1 rs1 (itok_t ht hr)
    · refine .inr ⟨ρ, δ, S, cf, ?_⟩
      rw [ed] at p2 ⊢
      intro v H1 ρ1 s1 rs1 rv
      cases rv with
      | str _ hok =>
      refine ⟨x, rfl, ?_⟩
      unfold iOf M.bind at p
      rw [ed] at p
      exact p _ H1 ρ1 s1 rs1 (itok_s x hok)
    · refine .inl (.inl ⟨ρ, δ, S, cf, ?_⟩)
      rw [ed] at p2 ⊢
      intro v H1 ρ1 s1 rs1 rv
      cases rv with
      | @con a vs _ ht hr =>
        refine ⟨a, rfl, ⟨vs, by rw [hK]; exact ht.sq⟩, ?_⟩
        rw [hK]
        unfold iOf M.bind at p
        rw [ed] at p
        exact p _ H1 ρ1 s1 rs1 (itok_l ht hr)
theorem RvA.one {K : PySem.W.Frag} {ρ : Rg} {H : Hp} {xs : List V} {d : Dv} (r : RvA K ρ H xs [d]) : ∃ v, xs = [v] ∧ Rv K ρ H v d := by
  cases r with
  | cons h r =>
    cases r
    exact ⟨_, rfl, h⟩
theorem RvA.two {K : PySem.W.Frag} {ρ : Rg} {H : Hp} {xs : List V} {d e : Dv} (r : RvA K ρ H xs [d, e]) : ∃ v w, xs = [v, w] ∧ Rv K ρ H v d ∧ Rv K ρ H w e := by
  cases r with
  | cons h r =>
    obtain ⟨w, rfl, q⟩ := r.one
    exact ⟨_, w, rfl, h, q⟩
theorem RvA.three {K : PySem.W.Frag} {ρ : Rg} {H : Hp} {xs : List V} {d e f : Dv} (r : RvA K ρ H xs [d, e, f]) : ∃ v w u, xs = [v, w, u] ∧ Rv K ρ H v d ∧ Rv K ρ H w e ∧ Rv K ρ H u f := by
  cases r with
  | cons h r =>
    obtain ⟨w, u, rfl, q⟩ := r.two
    exact ⟨_, w, u, rfl, h, q⟩
theorem ri_range1 {a : Expr} {p : Pos} (hg : Gl X "range") (hm : X.mg "range" = none) (ha : PA X [a] (tA G W mr)) (hs : starEach [a] X.env = [(false, eval a X.env)] := by rfl) : PI X tg (.Call (.Name "range" p) [a] [] pos) (tI G W (iRange1 mr)) :=
  ((pi_range1 (tg := tg) (p := p) (pos := pos) hg hm ha hs)).imp fun σ H R q => by
    obtain ⟨ρ, δ, S, cf, p⟩ := q
    refine ⟨ρ, δ, S, cf, (Post.bind p).mono fun xs H1 ⟨ρ1, S1, ds, s1, rs1, rx, p1⟩ => ?_⟩
    unfold mRange1 at p1
    split at p1
    · rename_i n
      obtain ⟨v, rfl, rv⟩ := rx.one
      cases rv
      split at p1
      · rename_i hn
        have l1 : (lim : Int) = 100000 := rfl
        refine ⟨n, rfl, by omega, by omega, p1 _ H1 ρ1 Stp.refl rs1 ?_⟩
        have z := itok_r (G := G) (ρ := ρ1) (H := H1) 0 n.toNat
        simp only [Int.zero_add] at z
        exact z
      · exact p1.elim
    · exact p1.elim
theorem ri_range2 {a b : Expr} {p : Pos} (hg : Gl X "range") (hm : X.mg "range" = none) (ha : PA X [a, b] (tA G W mr)) (hs : starEach [a, b] X.env = [(false, eval a X.env), (false, eval b X.env)] := by rfl) (hs2 : starEach [b] X.env = [(false, eval b X.env)] := by rfl) :
    PI X tg (.Call (.Name "range" p) [a, b] [] pos) (tI G W (iRange2 mr)) :=
  ((pi_range2 (tg := tg) (p := p) (pos := pos) hg hm ha hs hs2)).imp fun σ H R q => by
    obtain ⟨ρ, δ, S, cf, p⟩ := q
    refine ⟨ρ, δ, S, cf, (Post.bind p).mono fun xs H1 ⟨ρ1, S1, ds, s1, rs1, rx, p1⟩ => ?_⟩
    unfold mRange2 at p1
    split at p1
    · rename_i a b
      obtain ⟨v, w, rfl, rv, rw_⟩ := rx.two
      cases rv
      cases rw_
      split at p1
      · rename_i hn
        have l1 : (lim : Int) = 100000 := rfl
        exact ⟨a, b, rfl, ⟨by omega, by omega, by omega, by omega⟩, p1 _ H1 ρ1 Stp.refl rs1 (itok_r a _)⟩
      · exact p1.elim
    · exact p1.elim
/-! ### for -/
theorem rs_for {iter : Expr} {body : List Stmt} {vs : List Nat} {g : TGm} {mb : SM} {mi : EA} (hp : PassesOwn (model X.prog X.w) X.A X.env X.xe) (hc : X.calm = true) (hi : PI X tg iter (tI G W mi)) (hg : PG X tg (tG G vs g)) (hb : PSs X body (tS G W mb))
    (hs : ∀ x, foldedSetIterable iter X.env x = pure x := by intro _; rfl) : PS X (.For tg iter body [] pos) (tS G W (sFor mi g mb)) := (ps_for hp hc hi hg hb hs).imp fun D σ H q => by
  obtain ⟨ρ, δ, S, cf, p⟩ := q
  refine ⟨ρ, δ, S, cf, (postS_on (rel := ir G) cf p).mono fun J H1 ⟨ρ1, S1, ds, s1, rs1, rj, p1⟩ => ?_⟩
  refine ⟨fun i m σ' H' => m = ds.length - i ∧ i ≤ ds.length ∧ ∃ ρ' δ' S', Stp ρ1 H1 ρ' H' ∧ Cf G ρ' H' σ' δ' S' ∧ PostS G W ρ' H' (forGo g mb (ds.drop i) δ' S') D,
    ⟨ds.length, by simp, Nat.zero_le _, ρ1, δ, S1, Stp.refl, cf.step s1 rs1, by simpa using p1⟩, ?_⟩
  rintro i m σ' H' ⟨rfl, hi, ρ', δ', S', s', c', p'⟩
  by_cases hlt : i < ds.length
  · have e0 : ds.drop i = ds[i] :: ds.drop (i + 1) := List.drop_eq_getElem_cons hlt
    rw [e0] at p'
    obtain ⟨g1, g2⟩ := rj.go ρ' H' S' i ds[i] s'.b c'.rs (List.getElem?_eq_getElem hlt)
    refine .inr ⟨g1, fun σ'' H'' => ∃ ρ'' δ'' S'', Stp ρ1 H1 ρ'' H'' ∧ Cf G ρ'' H'' σ'' δ'' S'' ∧ PostS G W ρ'' H'' (forGo g mb (ds.drop (i + 1)) δ'' S'') D, ?_, fun x H2 hy => ?_⟩
    · rintro σ'' H'' ⟨ρ'', δ'', S'', q1, q2, q3⟩
      exact ⟨ds.length - (i + 1), by omega, rfl, hlt, ρ'', δ'', S'', q1, q2, q3⟩
    · obtain ⟨t1, t2, t3⟩ := g2 x H2 hy
      refine ⟨ρ', δ', S', ds[i], c'.step t1 t2, t3, ?_⟩
      unfold forGo at p'
      cases e : g ds[i] δ' S' with
      | none =>
        rw [e] at p'
        exact p'
      | some z =>
        obtain ⟨δ1, S3⟩ := z
        rw [e] at p'
        intro σ3 H3 ρ3 s3 c3 _
        have st3 : Stp ρ' H' ρ3 H3 := t1.trans s3
        refine ⟨ρ3, δ1, S3, c3, ?_⟩
        dsimp only at p'
        cases e2 : mb δ1 S3 with
        | nx δ4 S4 =>
          rw [e2] at p'
          exact fun σ4 H4 ρ4 s4 c4 => ⟨ρ4, δ4, S4, (s'.trans st3).trans s4, c4, PostS.step (st3.trans s4) p'⟩
        | ct δ4 S4 =>
          rw [e2] at p'
          exact fun σ4 H4 ρ4 s4 c4 => ⟨ρ4, δ4, S4, (s'.trans st3).trans s4, c4, PostS.step (st3.trans s4) p'⟩
        | bk δ4 S4 =>
          rw [e2] at p'
          exact fun σ4 H4 ρ4 s4 c4 => p' σ4 H4 ρ4 (st3.trans s4) c4
        | rt d S4 =>
          rw [e2] at p'
          exact fun v H4 ρ4 s4 c4 r4 => p' v H4 ρ4 (st3.trans s4) c4 r4
        | ex x δ4 S4 =>
          rw [e2] at p'
          exact fun c dx σ4 H4 ρ4 s4 c4 r4 => p' c dx σ4 H4 ρ4 (st3.trans s4) c4 r4
        | bad =>
          rw [e2] at p'
          exact p'
  · have ei : i = ds.length := by omega
    subst ei
    rw [List.drop_length] at p'
    exact .inl ⟨rj.stop ρ' H' s'.b, p' σ' H' ρ' Stp.refl c'⟩
/-! ### comprehensions -/
theorem wipe_get {σ : L2.St} {vs : List Nat} {j : Nat} : (wipe σ vs)[j]? = if j ∈ vs then (if j < σ.length then some none else none) else σ[j]? := by
  induction vs with
  | nil => simp [wipe]
  | cons v vs ih =>
    unfold wipe
    by_cases e : v = j
    · subst e
      by_cases hl : v < σ.length
      · rw [List.getElem?_set_self (by rw [wipe_length]; exact hl), if_pos (by simp), if_pos hl]
      · rw [List.getElem?_eq_none (by rw [List.length_set, wipe_length]; omega), if_pos (by simp), if_neg hl]
    · rw [List.getElem?_set_ne e, ih]
      have e2 : (j ∈ v :: vs) ↔ j ∈ vs := by
        rw [List.mem_cons]
        exact ⟨fun h => h.elim (fun q => absurd q.symm e) id, .inr⟩
      simp only [e2]
theorem wipe_but {σ σ2 : L2.St} {vs ws : List Nat} (b : But ws (wipe σ vs) σ2) (h : ∀ j ∈ ws, j ∈ vs) : wipe σ2 vs = wipe σ vs := by
  have hl : σ2.length = σ.length := by rw [b.1, wipe_length]
  apply List.ext_getElem?
  intro j
  rw [wipe_get, wipe_get, hl]
  by_cases hj : j ∈ vs
  · rw [if_pos hj, if_pos hj]
  · rw [if_neg hj, if_neg hj, b.2 j fun z => hj (h j z), wipe_get, if_neg hj]
theorem wipeD_get {δ : En} {vs : List Nat} {j : Nat} {d : Dv} : (wipeD δ vs)[j]? = some (some d) → j ∉ vs ∧ δ[j]? = some (some d) := by
  induction vs with
  | nil => exact fun h => ⟨by simp, h⟩
  | cons v vs ih =>
    intro h
    unfold wipeD at h
    by_cases e : v = j
    · subst e
      by_cases hl : v < (wipeD δ vs).length
      · rw [List.getElem?_set_self hl] at h
        cases h
      · rw [List.getElem?_eq_none (by rw [List.length_set]; omega)] at h
        cases h
    · rw [List.getElem?_set_ne e] at h
      obtain ⟨h1, h2⟩ := ih h
      exact ⟨fun m => (List.mem_cons.mp m).elim (fun q => e q.symm) h1, h2⟩
theorem wipeD_length {δ : En} {vs : List Nat} : (wipeD δ vs).length = δ.length := by
  induction vs with
  | nil => rfl
  | cons v vs ih =>
    unfold wipeD
    rw [List.length_set, ih]
theorem Cf.wipe {G : Gx} {ρ ρ' : Rg} {H H' : Hp} {σ : L2.St} {δ : En} {S S' : Sto} (c : Cf G ρ H σ δ S) (s : StB ρ H ρ' H') (r : RS G ρ' H' S') (vs : List Nat) (hxn : G.xc = none) : Cf G ρ' H' (wipe σ vs) (wipeD δ vs) S' :=
  ⟨r, by rw [wipe_length, wipeD_length, c.len], fun i d e => by
    obtain ⟨h1, h2⟩ := wipeD_get e
    obtain ⟨v, h3, h4⟩ := c.sl i d h2
    exact ⟨v, by rw [wipe_get, if_neg h1]; exact h3, h4.stepB s⟩, fun q e => by rw [hxn] at e; cases e⟩
abbrev W0 : WX := fun _ _ _ _ => False
theorem t_lc {mi : EA} {ws vs : List Nat} {g : TGm} {mt : EB} {σ : L2.St} {H : Hp} {Q : VK} (hxn : G.xc = none) (hw : ∀ j ∈ ws, j ∈ vs) (q : tE G W (eLc mi g mt me vs) σ H Q) : tLc (tI G W mi) (tG G ws g) (tB G W0 mt) (tE G W0 me) vs σ H Q := by
  obtain ⟨ρ, δ, S, cf, p⟩ := q
  refine ⟨ρ, δ, S, cf, (Post.bind p).mono fun J H1 ⟨ρ1, S1, ds, s1, rs1, rj, p1⟩ D hD => ?_⟩
  have cf1 := cf.step s1 rs1
  have p1 : Post G W σ (vr G) ρ1 H1 (if ds.length ≤ lim then lcOk (lcGo g mt me (wipeD δ vs) ds [] S1) else .bad) Q := p1
  by_cases hlim : ds.length ≤ lim
  · rw [if_pos hlim] at p1
    refine ⟨fun i m H' => m = ds.length - i ∧ i ≤ ds.length ∧ ∃ ρ' S' acc av, StB ρ1 H1 ρ' H' ∧ ρ'.b = ρ1.b ++ [D] ∧ RS G ρ' H' S' ∧ H' D = some (.lst av) ∧ RvA G.K ρ' H' av acc ∧ acc.length ≤ i ∧
      Post G W σ (vr G) ρ1 H1 (lcOk (lcGo g mt me (wipeD δ vs) (ds.drop i) acc S')) Q, ⟨ds.length, by simp, Nat.zero_le _, ρ1.hide D, S1, [], [], ?_, rfl, rs1.hide hD, upd_same, .nil, Nat.le_refl _, by simpa using p1⟩, ?_⟩
    · exact ⟨⟨[], by simp [Rg.hide], fun _ z => nomatch z⟩, ⟨[D], rfl, fun a m => by rw [List.mem_singleton.mp m]; exact hD⟩, (Stp.new (ρ := ρ1) hD).kept, (Stp.new (ρ := ρ1) hD).there⟩
    rintro i m H' ⟨rfl, hi, ρ', S', acc, av, s', eb, rs', hd', ra, hl, p'⟩
    have mD : D ∈ ρ'.b := by rw [eb]; simp
    by_cases hlt : i < ds.length
    · have e0 : ds.drop i = ds[i] :: ds.drop (i + 1) := List.drop_eq_getElem_cons hlt
      rw [e0] at p'
      obtain ⟨g1, g2⟩ := rj.go ρ' H' S' i ds[i] s' rs' (List.getElem?_eq_getElem hlt)
      refine .inr ⟨g1, fun H'' => ∃ ρ'' S'' acc'' av'', StB ρ1 H1 ρ'' H'' ∧ ρ''.b = ρ1.b ++ [D] ∧ RS G ρ'' H'' S'' ∧ H'' D = some (.lst av'') ∧ RvA G.K ρ'' H'' av'' acc'' ∧ acc''.length ≤ i + 1 ∧
        Post G W σ (vr G) ρ1 H1 (lcOk (lcGo g mt me (wipeD δ vs) (ds.drop (i + 1)) acc'' S'')) Q, ?_, fun x H2 hy => ?_⟩
      · rintro H'' ⟨ρ'', S'', acc'', av'', q1, q2, q3, q4, q5, q6, q7⟩
        exact ⟨ds.length - (i + 1), by omega, rfl, hlt, ρ'', S'', acc'', av'', q1, q2, q3, q4, q5, q6, q7⟩
      · obtain ⟨t1, t2, t3⟩ := g2 x H2 hy
        refine ⟨ρ', wipeD δ vs, S', ds[i], cf1.wipe (s'.trans t1) t2 vs hxn, t3, ?_⟩
        unfold lcGo at p'
        cases e : g ds[i] (wipeD δ vs) S' with
        | none =>
          rw [e] at p'
          exact p'.elim
        | some z =>
          obtain ⟨δ3, S3⟩ := z
          rw [e] at p'
          intro σ3 H3 ρ3 s3 c3 b3
          refine ⟨wipe_but b3 hw, ρ3, δ3, S3, c3, ?_⟩
          dsimp only at p'
          cases e2 : mt δ3 S3 with
          | bad =>
            rw [e2] at p'
            exact p'.elim
          | ex x S4 =>
            rw [e2] at p'
            exact p'.elim
          | ok b S4 =>
            rw [e2] at p'
            intro b' H4 ρ4 s4 rs4 eb'
            have eb2 : b' = b := eb'
            subst eb2
            have st4 : Stp ρ' H' ρ4 H4 := (t1.trans s3).trans s4
            have hD4 : H4 D = some (.lst av) := st4.kept _ _ hd' (rs'.bt D mD).1 (fun _ z => nomatch z)
            cases b' with
            | false =>
              show ∃ ρ'' S'' acc'' av'', _
              exact ⟨ρ4, S4, acc, av, s'.trans st4, by rw [st4.pb, eb], rs4, hD4, ra.step st4, by omega, p'⟩
            | true =>
              refine ⟨ρ4, δ3, S4, c3.step s4 rs4, ?_⟩
              dsimp only at p'
              cases e3 : me δ3 S4 with
              | bad =>
                rw [e3] at p'
                exact p'.elim
              | ex x S5 =>
                rw [e3] at p'
                exact p'.elim
              | ok y S5 =>
                rw [e3] at p'
                intro v H5 ρ5 s5 rs5 rv
                have st5 : Stp ρ' H' ρ5 H5 := st4.trans s5
                have hD5 : H5 D = some (.lst av) := st5.kept _ _ hd' (rs'.bt D mD).1 (fun _ z => nomatch z)
                have mD5 : D ∈ ρ5.b := by rw [st5.pb]; exact mD
                have ag : Agr ρ5 H5 ρ5 (upd H5 D (.lst (av ++ [v]))) := ⟨rfl, fun _ z => z, fun a n => upd_ne fun e => n.2 (by rw [e]; exact mD5)⟩
                have el := ra.length
                refine ⟨av, hD5, lim_lt (by omega), ρ5, S5, acc ++ [y], av ++ [v], ?_, by rw [st5.pb, eb], rs5.putB mD5 hD5, upd_same, ((ra.step st5).app (.cons rv .nil)).agr ag, by simp; omega, p'⟩
                have z5 := s'.trans st5
                exact ⟨z5.pre, z5.pb, fun a o h n nt => by rw [upd_ne (ne_of_none h hD)]; exact z5.kept a o h n nt, fun a o h => by rw [upd_ne (ne_of_none h hD)]; exact z5.there a o h⟩
    · have ei : i = ds.length := by omega
      subst ei
      rw [List.drop_length] at p'
      refine .inl ⟨rj.stop ρ' H' s', ?_⟩
      have oD : D ∉ ρ1.b := fun m => by
        obtain ⟨u, z⟩ := (rs1.bt D m).2
        rw [hD] at z
        cases z
      have ag : Agr ρ' H' ⟨ρ'.s, ρ1.b⟩ H' := ⟨rfl, fun a n => ⟨n.1, fun m => n.2 (by rw [eb]; exact List.mem_append_left _ m)⟩, fun _ _ => rfl⟩
      refine p' (.ref D) H' ⟨ρ'.s, ρ1.b⟩ ⟨s'.pre, rfl, s'.kept, s'.there⟩ (rs'.show rfl eb) (.lst hd' ⟨(rs'.bt D mD).1, oD⟩ (ra.agr ag))
  · rw [if_neg hlim] at p1
    exact p1.elim
theorem re_lc {elt iter : Expr} {ifs : List Expr} {scope : Scope} {own : List (Str × Nat)} {ws : List Nat} {g : TGm} {mt : EB} {mi : EA} (hc : X.calm = true) (hN : X.N.Nodup) (hi : PI X tg iter (tI G W mi)) (ok : BlkOk X.N X.env.scope scope own)
    (hg : ∀ (s : Shared) (H : Hp) (C : Addr) (cl : List (Str × Addr)) (fp : List Addr), PG (X.blk s H scope (compEnvC scope cl C X.env) fp) tg (tG G ws g)) (ht : ∀ (s : Shared) (H : Hp) (C : Addr) (cl : List (Str × Addr)) (fp : List Addr), PTs (X.blk s H scope (compEnvC scope cl C X.env) fp) ifs (tB G W0 mt))
    (he : ∀ (s : Shared) (H : Hp) (C : Addr) (cl : List (Str × Addr)) (fp : List Addr), PE (X.blk s H scope (compEnvC scope cl C X.env) fp) elt (tE G W0 me)) (hw : ∀ j ∈ ws, j ∈ own.map (·.2)) (hs : ∀ x, foldedSetIterable iter X.env x = pure x := by intro _; rfl) (hxn : G.xc = none := by rfl) :
    PE X (.ListComp elt [⟨tg, iter, ifs, 0⟩] scope pos) (tE G W (eLc mi g mt me (own.map (·.2)))) := (pe_lc hc hN hi ok hg ht he hs).imp fun σ H Q q => t_lc hxn hw q
theorem ts_nil : PTs X [] (tB G W bYes) := ⟨fun pins s σ H Q I q => pts_nil.run pins s σ H Q I (by
  obtain ⟨ρ, δ, S, cf, p⟩ := q
  exact Post.pure (α := Bool) (β := Bool) (rel := br) p cf.rs rfl)⟩
theorem ts_one {mt : EB} (h : PT X c (tB G W mt)) : PTs X [c] (tB G W mt) := pts_one h
theorem rs_setLc {i : Nat} {y : Str} {py spos : Pos} {elt iter : Expr} {ifs : List Expr} {scope : Scope} {own : List (Str × Nat)} {ws : List Nat} {g : TGm} {mt : EB} {mi : EA} (hc : X.calm = true) (hN : X.N.Nodup) (hy : X.N[i]? = some y) (hyl : X.env.scope.names.lookup y = some .local)
    (hsw : swapsWith (.ListComp elt [⟨tg, iter, ifs, 0⟩] scope pos) (some (.Name y py)) spos.line X.env = pure true) (hi : PI X tg iter (tI G W mi)) (ok : BlkOk X.N X.env.scope scope own)
    (hg : ∀ (s : Shared) (H : Hp) (C : Addr) (cl : List (Str × Addr)) (fp : List Addr), PG (X.blk s H scope (compEnvC scope cl C X.env) fp) tg (tG G ws g)) (ht : ∀ (s : Shared) (H : Hp) (C : Addr) (cl : List (Str × Addr)) (fp : List Addr), PTs (X.blk s H scope (compEnvC scope cl C X.env) fp) ifs (tB G W0 mt))
    (he : ∀ (s : Shared) (H : Hp) (C : Addr) (cl : List (Str × Addr)) (fp : List Addr), PE (X.blk s H scope (compEnvC scope cl C X.env) fp) elt (tE G W0 me)) (hw : ∀ j ∈ ws, j ∈ own.map (·.2)) (hs : ∀ x, foldedSetIterable iter X.env x = pure x := by intro _; rfl) (hxn : G.xc = none := by rfl) :
    PS X (.Assign [.Name y py] (.ListComp elt [⟨tg, iter, ifs, 0⟩] scope pos) spos) (tS G W (sSet i (eLc mi g mt me (own.map (·.2))))) := (ps_setLc hc hN hy hyl hsw hi ok hg ht he hs).imp fun D σ H q => by
  have q2 := t_set (G := G) (W := W) (slotOk_none hxn) q
  exact t_lc hxn hw q2
end
/-! ### a def keeps its promise -/
theorem startD {G : Gx} {ρ : Rg} {H : Hp} {S : Sto} {vs : List V} {ds : List Dv} {N : List Str} (rs : RS G ρ H S) (r : RvA G.K ρ H vs ds) (hxn : G.xc = none) : Cf G ρ H (L2.start N vs) (ds.map some ++ List.replicate (N.length - ds.length) none) S := by
  have el := r.length
  refine ⟨rs, by simp [L2.start, el], fun i d e => ?_, fun q e => by rw [hxn] at e; cases e⟩
  by_cases hi : i < ds.length
  · rw [List.getElem?_append_left (by simpa using hi), List.getElem?_map] at e
    cases q : ds[i]? with
    | none => rw [q] at e; cases e
    | some d' =>
      rw [q] at e
      cases e
      obtain ⟨v, h1, h2⟩ := r.get q
      refine ⟨v, ?_, h2⟩
      unfold L2.start
      rw [List.getElem?_append_left (by simpa [el] using hi), List.getElem?_map, h1]
      rfl
  · rw [List.getElem?_append_right (by simpa using hi)] at e
    rw [List.getElem?_replicate] at e
    split at e <;> cases e
section
variable {P : Program} {w : World} {K : PySem.W.Frag} {mg : Str → Option Value} {base : Heap} {x qual : Str} {params : Arguments} {body : List Stmt} {scope : Scope} {f : Addr} {fd : FuncData} {T : List (Addr × Str)}
/-- the context of a def's body -/
abbrev dcx (P : Program) (w : World) (K : PySem.W.Frag) (mg : Str → Option Value) (base : Heap) (N : List Str) (qual : Str) (scope : Scope) (f : Addr) (cdv : Value) (A : Around) (outer : List Env) (s : Shared) (H : Hp) (E : XK) : Cx := cxOf (L2.CX P w) P w K mg base N qual scope f cdv A outer s H E
theorem ok_def {N ps : List Str} {k : Nat} {m : SM} (F : FunD K x qual params body scope [] [] f fd) (Sc : FnScope N ps scope)
    (hb : ∀ (cdv : Value) (A : Around) (outer : List Env) (s : Shared) (H : Hp) (E : XK), Room k (A.deeper (envOfC qual scope s.heap.objs.size f cdv)) → PSs (dcx P w K mg base N qual scope f cdv A outer s H E) body (tS ⟨K, mg, T, none⟩ (fun c dx _ H' => E c dx H') m)) :
    FnOk P w K mg base (L2.CX P w) (k + 1) f fd ps (spM ⟨K, mg, T, none⟩ ps.length (fnOf ps.length N.length m)) := by
  refine F.ok Sc (fun vs H Q E h => ?_) (fun cdv A outer s H vs Q E hr h => ⟨_, hb cdv A outer s H E hr, ?_⟩)
  · obtain ⟨ρ, S, ds, hl, _⟩ := h
    exact hl
  · obtain ⟨ρ, S, ds, hl, r, rs, p⟩ := h
    have el := r.length
    have el2 : ds.length = ps.length := by rw [← el, hl]
    refine ⟨ρ, _, S, startD rs r rfl, ?_⟩
    unfold fnOf at p
    rw [if_pos el2, ← el2] at p
    cases e : m (ds.map some ++ List.replicate (N.length - ds.length) none) S with
    | nx δ' S' =>
      rw [e] at p
      exact fun σ' H' ρ' s1 c1 => p .non H' ρ' s1 c1.rs .non
    | rt d S' =>
      rw [e] at p
      exact p
    | bk δ' S' =>
      rw [e] at p
      exact p.elim
    | ct δ' S' =>
      rw [e] at p
      exact p.elim
    | ex x δ' S' =>
      rw [e] at p
      exact fun c dx σ' H' ρ' s1 c1 r1 => p c dx H' ρ' s1 c1.rs r1
    | bad =>
      rw [e] at p
      exact p
end
end Mi
end T_Sim2
section T_Sim3
set_option Elab.async false
set_option linter.all false
set_option maxRecDepth 100000
set_option maxHeartbeats 2000000
namespace Mi
open PySem PySem.Spec PyProof.Rows L2
theorem OpR_or {X : Cx} {f : Value → Value → Sem Value} {r1 r2 : R2} (h1 : OpR X f r1) (h2 : OpR X f r2) : OpR X f (fun x y H Q => r1 x y H Q ∨ r2 x y H Q) := fun pins s σ H x y v u Q I rx ry h => by
  rcases h with h | h
  · exact h1 pins s σ H x y v u Q I rx ry h
  · exact h2 pins s σ H x y v u Q I rx ry h
theorem CallR_or {X : Cx} {f : Value} {r1 r2 : List V → Hp → VK → Prop} (h1 : CallR X f r1) (h2 : CallR X f r2) : CallR X f (fun xs H Q => r1 xs H Q ∨ r2 xs H Q) := fun pins s σ H xs us Q I r h => by
  rcases h with h | h
  · exact h1 pins s σ H xs us Q I r h
  · exact h2 pins s σ H xs us Q I r h
section
variable {G : Gx} {W : WX} {ρ : Rg} {H : Hp} {S : Sto} {v : V} {d : Dv} {ds : List Dv}
theorem asL_ok (rs : RS G ρ H S) (r : Rv G.K ρ H v d) (h : asL S d = some ds) : ∃ a vs, v = .ref a ∧ H a = some (.lst vs) ∧ RvA G.K ρ H vs ds := by
  cases r with
  | lst h1 n r =>
    cases h
    exact ⟨_, _, rfl, h1, r⟩
  | @loc n a hn =>
    have h : (match S[n]? with | some (.lst ds) => some ds | _ => none) = some ds := h
    obtain ⟨ob, h1, h2⟩ := rs.at hn
    rw [h1] at h
    cases ob with
    | lst xs =>
      cases h
      obtain ⟨vs, q1, q2⟩ := h2
      exact ⟨a, vs, rfl, q1, q2⟩
    | _ => cases h
  | _ => cases h
theorem asC_ok (rs : RS G ρ H S) (r : Rv G.K ρ H v d) (h : asC S d = some ds) : ∃ a vs, v = .ref a ∧ SqL G.K H a vs ∧ RvA G.K ρ H vs ds := by
  cases d with
  | con xs =>
    cases h
    cases r with
    | con h1 r => exact ⟨_, _, rfl, h1.sq, r⟩
  | lst xs =>
    obtain ⟨a, vs, e, q, r⟩ := asL_ok rs r (show asL S (.lst xs) = some ds from h)
    exact ⟨a, vs, e, SqL.of q, r⟩
  | loc n =>
    obtain ⟨a, vs, e, q, r⟩ := asL_ok rs r (show asL S (.loc n) = some ds from h)
    exact ⟨a, vs, e, SqL.of q, r⟩
  | _ => cases h
/-- a new tuple | list that nobody changes -/
theorem Post.newT {σ : L2.St} {vs : List V} {ds : List Dv} {Q : VK} (p : Post G W σ (vr G) ρ H (.ok (.tup ds) S) Q) (rs : RS G ρ H S) (r : RvA G.K ρ H vs ds) {u : Addr} (hu : H u = none) : Q (.ref u) (upd H u (.tup vs)) :=
  p _ _ ρ (Stp.new hu) (rs.new hu) (.tup ⟨upd_same, rs.nin hu⟩ (r.step (Stp.new hu)))
theorem Post.newL {σ : L2.St} {vs : List V} {ds : List Dv} {Q : VK} (p : Post G W σ (vr G) ρ H (.ok (.lst ds) S) Q) (rs : RS G ρ H S) (r : RvA G.K ρ H vs ds) {u : Addr} (hu : H u = none) : Q (.ref u) (upd H u (.lst vs)) :=
  p _ _ ρ (Stp.new hu) (rs.new hu) (.lst upd_same (rs.nin hu) (r.step (Stp.new hu)))
theorem Post.val {σ : L2.St} {Q : VK} (p : Post G W σ (vr G) ρ H (.ok d S) Q) (rs : RS G ρ H S) (r : Rv G.K ρ H v d) : Q v H := p v H ρ Stp.refl rs r
theorem okS_app {x y : Str} (hx : OkS x) (hy : OkS y) : OkS (x ++ y) := fun c hc => by
  have e : (x ++ y).cps = x.cps ++ y.cps := rfl
  rw [e, Array.toList_append] at hc
  rcases List.mem_append.mp hc with h | h
  · exact hx c h
  · exact hy c h
theorem okS_sub {x : Str} {l : List Nat} (hx : OkS x) (h : ∀ c ∈ l, c ∈ x.cps.toList) : OkS ⟨l.toArray⟩ := fun c hc => hx c (h c (by simpa using hc))
end
section
variable {G : Gx} {W : WX} {X : Cx}
/-! ### arithmetic -/
theorem o_add (hK : X.K = G.K) : OpR X (binaryOp .Add) (fun x y H Q => (((∃ i j, x = .int i ∧ y = .int j ∧ Q (.int (i + j)) H) ∨ (∃ i j, x = .str i ∧ y = .str j ∧ i.length + j.length ≤ sizeLine ∧ Q (.str (i ++ j)) H)) ∨ rCatA G.K x y H Q) ∨ rCat x y H Q) :=
  OpR_or (OpR_or (OpR_or op_add op_add_str) (by rw [← hK]; exact op_catA)) op_cat
theorem d_add : Op2 G W (fun x y H Q => (((∃ i j, x = .int i ∧ y = .int j ∧ Q (.int (i + j)) H) ∨ (∃ i j, x = .str i ∧ y = .str j ∧ i.length + j.length ≤ sizeLine ∧ Q (.str (i ++ j)) H)) ∨ rCatA G.K x y H Q) ∨ rCat x y H Q) mAdd := by
  intro ρ H σ S x y d e Q rs rx ry p
  unfold mAdd at p
  split at p
  · cases rx; cases ry
    exact .inl (.inl (.inl ⟨_, _, rfl, rfl, p.val rs (.int _)⟩))
  · split at p
    · rename_i hl
      cases rx with
      | str _ hx =>
        cases ry with
        | str _ hy => exact .inl (.inl (.inr ⟨_, _, rfl, rfl, lim_ok hl, p.val rs (.str _ (okS_app hx hy))⟩))
    · exact p.elim
  · split at p
    · rename_i xs ys hl
      cases rx with
      | @tup a vs _ hx r1 =>
        cases ry with
        | @tup b ws _ hy r2 =>
          refine .inl (.inr ⟨a, b, vs, ws, rfl, rfl, hx.sq, hy.sq, lim_ok (by rw [r1.length, r2.length]; exact hl), fun e => ?_, fun e1 e2 => ?_, fun _ _ u hu => p.newT rs (r1.app r2) hu⟩)
          · subst e
            cases r1
            exact p.val rs (.tup hy r2)
          · subst e2
            cases r2
            rw [List.append_nil] at p
            exact p.val rs (.tup hx r1)
    · exact p.elim
  · split at p
    · rename_i xs ys e1 e2
      split at p
      · rename_i hl
        obtain ⟨a, vs, rfl, h1, r1⟩ := asL_ok rs rx e1
        obtain ⟨b, ws, rfl, h2, r2⟩ := asL_ok rs ry e2
        exact .inr ⟨a, b, vs, ws, rfl, rfl, h1, h2, lim_ok (by rw [r1.length, r2.length]; exact hl), fun u hu => p.newL rs (r1.app r2) hu⟩
      · exact p.elim
    · exact p.elim
theorem d_sub : Op2 G W (rI0 fun i j => .int (i - j)) mSub := by
  intro ρ H σ S x y d e Q rs rx ry p
  unfold mSub at p
  split at p
  · cases rx; cases ry
    exact ⟨_, _, rfl, rfl, p.val rs (.int _)⟩
  · exact p.elim
theorem o_mul : OpR X (binaryOp .Mult) (fun x y H Q => (∃ i j, x = .int i ∧ y = .int j ∧ CMul i j ∧ Q (.int (i * j)) H) ∨ rRep x y H Q) := OpR_or op_mul op_rep
theorem rep_rel {K : PySem.W.Frag} {ρ : Rg} {H : Hp} {vs : List V} {ds : List Dv} (r : RvA K ρ H vs ds) : ∀ n : Nat, RvA K ρ H (List.replicate n vs).flatten (List.replicate n ds).flatten
  | 0 => .nil
  | n + 1 => by
    rw [List.replicate_succ, List.replicate_succ, List.flatten_cons, List.flatten_cons]
    exact r.app (rep_rel r n)
theorem d_mul : Op2 G W (fun x y H Q => (∃ i j, x = .int i ∧ y = .int j ∧ CMul i j ∧ Q (.int (i * j)) H) ∨ rRep x y H Q) mMul := by
  intro ρ H σ S x y d e Q rs rx ry p
  unfold mMul at p
  split at p
  · split at p
    · rename_i hc
      cases rx; cases ry
      refine .inl ⟨_, _, rfl, rfl, ?_, p.val rs (.int _)⟩
      rcases hc with h | h
      · exact .inl ⟨by omega, by omega⟩
      · exact .inr ⟨by omega, by omega⟩
    · exact p.elim
  · split at p
    · rename_i xs j hc
      cases ry
      cases rx with
      | @lst a vs _ h n r =>
        have l1 : (lim : Int) = 100000 := rfl
        exact .inr ⟨a, j, vs, rfl, rfl, h, by omega, by omega, lim_ok (by rw [r.length]; exact hc.1), fun u hu => p.newL rs (rep_rel r _) hu⟩
    · exact p.elim
  · exact p.elim
theorem d_fdiv : Op2 G W (rI CDiv fun i j => .int (i / j)) mFdiv := by
  intro ρ H σ S x y d e Q rs rx ry p
  unfold mFdiv at p
  split at p
  · split at p
    · rename_i hc
      cases rx; cases ry
      exact ⟨_, _, rfl, rfl, hc, p.val rs (.int _)⟩
    · exact p.elim
  · exact p.elim
theorem d_mod : Op2 G W (rI (fun _ j => 0 < j) fun i j => .int (i % j)) mMod := by
  intro ρ H σ S x y d e Q rs rx ry p
  unfold mMod at p
  split at p
  · split at p
    · rename_i hc
      cases rx; cases ry
      exact ⟨_, _, rfl, rfl, hc, p.val rs (.int _)⟩
    · exact p.elim
  · exact p.elim
theorem d_pow : Op2 G W (rI CPow fun i j => .int (i ^ j.toNat)) mPow := by
  intro ρ H σ S x y d e Q rs rx ry p
  unfold mPow at p
  split at p
  · split at p
    · rename_i hc
      cases rx; cases ry
      exact ⟨_, _, rfl, rfl, ⟨hc.1, by omega, hc.2.2⟩, p.val rs (.int _)⟩
    · exact p.elim
  · exact p.elim
theorem d_neg : Op1 G W (rU fun i => .int (-i)) mNeg := by
  intro ρ H σ S x d Q rs rx p
  unfold mNeg at p
  split at p
  · cases rx
    exact ⟨_, rfl, p.val rs (.int _)⟩
  · exact p.elim
theorem d_cmp {f : Int → Int → Bool} : Op2 G W (rI0 fun i j => .bl (f i j)) (mCmp f) := by
  intro ρ H σ S x y d e Q rs rx ry p
  unfold mCmp at p
  split at p
  · cases rx; cases ry
    exact ⟨_, _, rfl, rfl, p.val rs (.bl _)⟩
  · exact p.elim
/-! ### is -/
theorem o_is : OpR X (compareOp .Is) (fun x y H Q => (y = .non ∧ Q (.bl (decide (x = .non))) H) ∨ ∃ a b, x = .bl a ∧ y = .bl b ∧ Q (.bl (decide (a = b))) H) := OpR_or op_isN op_is_bl
theorem o_isnot : OpR X (compareOp .IsNot) (fun x y H Q => (y = .non ∧ Q (.bl (!decide (x = .non))) H) ∨ ∃ a b, x = .bl a ∧ y = .bl b ∧ Q (.bl (!decide (a = b))) H) := OpR_or op_notN op_isnot_bl
theorem rv_non {K : PySem.W.Frag} {ρ : Rg} {H : Hp} {x : V} {d : Dv} (r : Rv K ρ H x d) (h : d ≠ .non) : x ≠ .non := fun e => by
  subst e
  cases r
  exact h rfl
theorem d_is : Op2 G W (fun x y H Q => (y = .non ∧ Q (.bl (decide (x = .non))) H) ∨ ∃ a b, x = .bl a ∧ y = .bl b ∧ Q (.bl (decide (a = b))) H) mIs := by
  intro ρ H σ S x y d e Q rs rx ry p
  unfold mIs mIsB at p
  split at p
  · cases rx; cases ry
    exact .inl ⟨rfl, p.val rs (.bl true)⟩
  · rename_i hd
    cases ry
    refine .inl ⟨rfl, ?_⟩
    rw [decide_eq_false (rv_non rx hd)]
    exact p.val rs (.bl false)
  · cases rx; cases ry
    exact .inr ⟨_, _, rfl, rfl, p.val rs (.bl _)⟩
  · exact p.elim
theorem d_isnot : Op2 G W (fun x y H Q => (y = .non ∧ Q (.bl (!decide (x = .non))) H) ∨ ∃ a b, x = .bl a ∧ y = .bl b ∧ Q (.bl (!decide (a = b))) H) mIsNot := by
  intro ρ H σ S x y d e Q rs rx ry p
  unfold mIsNot mIsB at p
  split at p
  · cases rx; cases ry
    exact .inl ⟨rfl, p.val rs (.bl false)⟩
  · rename_i hd
    cases ry
    refine .inl ⟨rfl, ?_⟩
    rw [decide_eq_false (rv_non rx hd)]
    exact p.val rs (.bl true)
  · cases rx; cases ry
    exact .inr ⟨_, _, rfl, rfl, p.val rs (.bl _)⟩
  · exact p.elim
/-! ### len, all, any, tuple, list, abs .. -/
theorem d_len : OpN G W (fun xs H Q => ∃ x n, xs = [x] ∧ LenV G.K x H n ∧ Q (.int n) H) mLen := by
  intro ρ H σ S xs ds Q rs rx p
  unfold mLen at p
  split at p
  · split at p
    · rename_i hl
      obtain ⟨v, rfl, rv⟩ := rx.one
      cases rv
      exact ⟨_, _, rfl, ⟨lim_ok hl, rfl⟩, p.val rs (.int _)⟩
    · exact p.elim
  · obtain ⟨v, rfl, rv⟩ := rx.one
    cases rv with
    | @tup a vs _ h r => exact ⟨_, vs.length, rfl, .inr ⟨vs, h.sq, rfl⟩, by rw [r.length]; exact p.val rs (.int _)⟩
  · split at p
    · rename_i e
      obtain ⟨v, rfl, rv⟩ := rx.one
      obtain ⟨a, vs, rfl, h, r⟩ := asC_ok rs rv e
      exact ⟨_, vs.length, rfl, .inl ⟨vs, h, rfl⟩, by rw [r.length]; exact p.val rs (.int _)⟩
    · exact p.elim
  · exact p.elim
theorem bls_ok {K : PySem.W.Frag} {ρ : Rg} {H : Hp} : ∀ {ds : List Dv} {vs : List V} {bs : List Bool}, RvA K ρ H vs ds → blsOf ds = some bs → vs = bs.map V.bl
  | [], _, bs, r, h => by
    cases r
    cases h
    rfl
  | d :: ds, _, bs, r, h => by
    cases r with
    | cons h1 r1 =>
      cases h1 with
      | bl b =>
        have h' : (blsOf ds).map (b :: ·) = some bs := h
        cases e : blsOf ds with
        | none => rw [e] at h'; cases h'
        | some l =>
          rw [e] at h'
          cases h'
          rw [bls_ok r1 e]
          rfl
      | _ => cases h
theorem d_allB {k : List Bool → Bool} : OpN G W (fun xs H Q => ∃ a bs, xs = [.ref a] ∧ SqL G.K H a (bs.map V.bl) ∧ Q (.bl (k bs)) H) (mAllB k) := by
  intro ρ H σ S xs ds Q rs rx p
  unfold mAllB at p
  split at p
  · split at p
    · rename_i e
      split at p
      · rename_i bs e2
        obtain ⟨v, rfl, rv⟩ := rx.one
        obtain ⟨a, vs, rfl, h, r⟩ := asC_ok rs rv e
        have e3 := bls_ok r e2
        subst e3
        exact ⟨a, bs, rfl, h, p.val rs (.bl _)⟩
      · exact p.elim
    · exact p.elim
  · exact p.elim
theorem d_tuple : OpN G W (fun xs H Q => ∃ p ys, xs = [.ref p] ∧ ((SqL G.K H p ys ∧ ∀ l, H l = none → Q (.ref l) (upd H l (.tup ys))) ∨ (SqT G.K H p ys ∧ Q (.ref p) H))) mTuple := by
  intro ρ H σ S xs ds Q rs rx p
  unfold mTuple at p
  split at p
  · obtain ⟨v, rfl, rv⟩ := rx.one
    cases rv with
    | @tup a vs _ h r => exact ⟨a, vs, rfl, .inr ⟨h.sq, p.val rs (.tup h r)⟩⟩
  · split at p
    · rename_i e
      obtain ⟨v, rfl, rv⟩ := rx.one
      obtain ⟨a, vs, rfl, h, r⟩ := asC_ok rs rv e
      exact ⟨a, vs, rfl, .inl ⟨h, fun l hl => p.newT rs r hl⟩⟩
    · exact p.elim
  · exact p.elim
theorem d_list : OpN G W (fun xs H Q => ∃ p ys, xs = [.ref p] ∧ (SqL G.K H p ys ∨ SqT G.K H p ys) ∧ ∀ l, H l = none → Q (.ref l) (upd H l (.lst ys))) mList := by
  intro ρ H σ S xs ds Q rs rx p
  unfold mList at p
  split at p
  · obtain ⟨v, rfl, rv⟩ := rx.one
    cases rv with
    | @tup a vs _ h r => exact ⟨a, vs, rfl, .inr h.sq, fun l hl => p.newL rs r hl⟩
  · split at p
    · rename_i e
      obtain ⟨v, rfl, rv⟩ := rx.one
      obtain ⟨a, vs, rfl, h, r⟩ := asC_ok rs rv e
      exact ⟨a, vs, rfl, .inl h, fun l hl => p.newL rs r hl⟩
    · exact p.elim
  · exact p.elim
theorem d_abs : OpN G W (fun xs H Q => ∃ i, xs = [.int i] ∧ Q (.int (if i < 0 then -i else i)) H) mAbs := by
  intro ρ H σ S xs ds Q rs rx p
  unfold mAbs at p
  split at p
  · obtain ⟨v, rfl, rv⟩ := rx.one
    cases rv
    exact ⟨_, rfl, p.val rs (.int _)⟩
  · exact p.elim
theorem d_max : OpN G W (fun xs H Q => ∃ i j, xs = [.int i, .int j] ∧ Q (.int (if j > i then j else i)) H) mMax := by
  intro ρ H σ S xs ds Q rs rx p
  unfold mMax at p
  split at p
  · obtain ⟨v, w, rfl, rv, rw_⟩ := rx.two
    cases rv; cases rw_
    exact ⟨_, _, rfl, p.val rs (.int _)⟩
  · exact p.elim
theorem d_min : OpN G W (fun xs H Q => ∃ i j, xs = [.int i, .int j] ∧ Q (.int (if j < i then j else i)) H) mMin := by
  intro ρ H σ S xs ds Q rs rx p
  unfold mMin at p
  split at p
  · obtain ⟨v, w, rfl, rv, rw_⟩ := rx.two
    cases rv; cases rw_
    exact ⟨_, _, rfl, p.val rs (.int _)⟩
  · exact p.elim
theorem d_int : OpN G W (fun xs H Q => (∃ i, xs = [.int i] ∧ Q (.int i) H) ∨ ∃ k, xs = [.bl k] ∧ Q (.int (if k then 1 else 0)) H) mInt := by
  intro ρ H σ S xs ds Q rs rx p
  unfold mInt at p
  split at p
  · obtain ⟨v, rfl, rv⟩ := rx.one
    cases rv
    exact .inl ⟨_, rfl, p.val rs (.int _)⟩
  · obtain ⟨v, rfl, rv⟩ := rx.one
    cases rv
    exact .inr ⟨_, rfl, p.val rs (.int _)⟩
  · exact p.elim
theorem d_divmod : OpN G W (fun xs H Q => ∃ i j, xs = [.int i, .int j] ∧ CDiv i j ∧ ∀ p, H p = none → Q (.ref p) (upd H p (.tup [.int (i / j), .int (i % j)]))) mDivmod := by
  intro ρ H σ S xs ds Q rs rx p
  unfold mDivmod at p
  split at p
  · split at p
    · rename_i hc
      obtain ⟨v, w, rfl, rv, rw_⟩ := rx.two
      cases rv; cases rw_
      exact ⟨_, _, rfl, hc, fun l hl => Post.newT p rs (.cons (.int _) (.cons (.int _) .nil)) hl⟩
    · exact p.elim
  · exact p.elim
/-! ### subscripts, slices -/
theorem atI_rel {K : PySem.W.Frag} {ρ : Rg} {H : Hp} {vs : List V} {ds : List Dv} {i : Int} {d : Dv} (r : RvA K ρ H vs ds) (h : atI ds i = some d) : ∃ v, atI vs i = some v ∧ Rv K ρ H v d := by
  unfold atI at h ⊢
  rw [r.length]
  cases e : ixN ds.length i with
  | none => rw [e] at h; cases h
  | some j =>
    rw [e] at h
    obtain ⟨v, h1, h2⟩ := r.get (i := j) h
    exact ⟨v, h1, h2⟩
theorem atI_mem {α : Type} {xs : List α} {i : Int} {c : α} (h : atI xs i = some c) : ∃ j : Nat, xs[j]? = some c := by
  unfold atI at h
  cases e : ixN xs.length i with
  | none => rw [e] at h; cases h
  | some j =>
    rw [e] at h
    exact ⟨j, h⟩
theorem d_ix : Op2 G W (rIx G.K) mIx := by
  intro ρ H σ S x y d e Q rs rx ry p
  unfold mIx at p
  split at p
  · split at p
    · rename_i hl
      split at p
      · rename_i c hc
        cases ry
        cases rx with
        | str _ hz =>
          refine .inr (.inr ⟨_, _, c, rfl, rfl, lim_ok hl, hc, p.val rs (.str _ fun q hq => ?_)⟩)
          have hq : q = c := by simpa using hq
          subst hq
          obtain ⟨j, hj⟩ := atI_mem hc
          exact hz _ (List.mem_of_getElem? hj)
      · exact p.elim
    · exact p.elim
  · split at p
    · rename_i hv
      cases ry
      cases rx with
      | @tup a vs _ h r =>
        obtain ⟨v, h1, h2⟩ := atI_rel r hv
        exact .inr (.inl ⟨a, vs, _, v, rfl, rfl, h.sq, h1, p.val rs h2⟩)
    · exact p.elim
  · split at p
    · rename_i e1
      split at p
      · rename_i hv
        cases ry
        obtain ⟨a, vs, rfl, h, r⟩ := asC_ok rs rx e1
        obtain ⟨v, h1, h2⟩ := atI_rel r hv
        exact .inl ⟨a, vs, _, v, rfl, rfl, h, h1, p.val rs h2⟩
      · exact p.elim
    · exact p.elim
  · exact p.elim
theorem re_ix {a b : Expr} {ma mb : EX} {pos : Pos} (hK : X.K = G.K) (ha : PE X a (tE G W ma)) (hb : PE X b (tE G W mb)) (hp : PlainIx b) : PE X (.Subscript a b pos) (tE G W (e2 mIx ma mb)) := (pe_ix ix_seq ha hb hp).imp fun _ _ _ q => by
  rw [hK]
  exact t_op d_ix q
theorem RvA.take {K : PySem.W.Frag} {ρ : Rg} {H : Hp} : ∀ {vs : List V} {ds : List Dv} (n : Nat), RvA K ρ H vs ds → RvA K ρ H (vs.take n) (ds.take n)
  | _, _, 0, _ => by simp; exact .nil
  | _, _, _ + 1, .nil => by simp; exact .nil
  | _, _, n + 1, .cons h r => by simpa using RvA.cons h (RvA.take n r)
theorem RvA.drop {K : PySem.W.Frag} {ρ : Rg} {H : Hp} : ∀ {vs : List V} {ds : List Dv} (n : Nat), RvA K ρ H vs ds → RvA K ρ H (vs.drop n) (ds.drop n)
  | _, _, 0, r => by simpa using r
  | _, _, _ + 1, .nil => by simp; exact .nil
  | _, _, n + 1, .cons _ r => by simpa using RvA.drop n r
theorem RvA.cut {K : PySem.W.Frag} {ρ : Rg} {H : Hp} {vs : List V} {ds : List Dv} (r : RvA K ρ H vs ds) (lo hi : Option Int) : RvA K ρ H (cutV vs lo hi) (cutD ds lo hi) := by
  unfold cutV cutD
  rw [r.length]
  exact (r.drop _).take _
theorem cutD_all {ds : List Dv} {lo hi : Option Int} (h : HT.sIx ds.length 0 lo = 0 ∧ HT.sIx ds.length ds.length hi = ds.length) : cutD ds lo hi = ds := by
  unfold cutD
  rw [h.1, h.2]
  simp
abbrev orr : Rg → Hp → Option Int → Option Int → Prop := fun _ _ b c => b = c
theorem ro_none : PO X none (tX G W orr oNone) := ⟨fun pins s σ H Q I q => po_none.run pins s σ H Q I (by
  obtain ⟨ρ, δ, S, cf, p⟩ := q
  exact Post.pure (rel := orr) p cf.rs rfl)⟩
theorem ro_some {a : Expr} {ma : EX} (h : PE X a (tE G W ma)) : PO X (some a) (tX G W orr (oSome ma)) := ⟨fun pins s σ H Q I q => (po_some h).run pins s σ H Q I (by
  obtain ⟨ρ, δ, S, cf, p⟩ := q
  refine ⟨ρ, δ, S, cf, (Post.bind p).mono fun x H1 ⟨ρ1, S1, d, s1, rs1, rx, p1⟩ => ?_⟩
  cases rx with
  | int i => exact ⟨i, rfl, Post.pure (rel := orr) p1 rs1 rfl⟩
  | _ => exact p1.elim)⟩
theorem okS_cut {x : Str} (h : OkS x) (lo hi : Option Int) : OkS (cutS x lo hi) := okS_sub h fun c hc => List.mem_of_mem_drop (List.mem_of_mem_take hc)
theorem re_sl {a : Expr} {ma : EX} {lo hi : Option Expr} {ol oh : EO} {pos p2 : Pos} (hK : X.K = G.K) (ha : PE X a (tE G W ma)) (hl : PO X lo (tX G W orr ol)) (hh : PO X hi (tX G W orr oh)) : PE X (.Subscript a (.Slice lo hi none p2) pos) (tE G W (eSl ma ol oh)) :=
  (pe_slice ((sl_list.or sl_tupA).or sl_str) ha hl hh).imp fun σ H Q q => by
    obtain ⟨ρ, δ, S, cf, p⟩ := q
    refine ⟨ρ, δ, S, cf, (Post.bind p).mono fun x H1 ⟨ρ1, S1, d, s1, rs1, rx, p1⟩ => ?_⟩
    refine ⟨ρ1, δ, S1, cf.step s1 rs1, (Post.bind p1).mono fun l H2 ⟨ρ2, S2, l', s2, rs2, rl, p2⟩ => ?_⟩
    have el : l = l' := rl
    subst el
    refine ⟨ρ2, δ, S2, (cf.step s1 rs1).step s2 rs2, (Post.bind p2).mono fun h H3 ⟨ρ3, S3, h', s3, rs3, rh, p3⟩ => ?_⟩
    have eh : h = h' := rh
    subst eh
    have rx3 := (rx.step s2).step s3
    unfold mSl at p3
    dsimp only at p3
    split at p3
    · split at p3
      · rename_i hlm
        cases rx3 with
        | str _ hz => exact .inr ⟨_, rfl, lim_ok hlm, p3.val rs3 (.str _ (okS_cut hz _ _))⟩
      · exact p3.elim
    · cases rx3 with
      | @tup a vs _ ht r =>
        refine .inl (.inr ⟨a, vs, rfl, by rw [hK]; exact ht.sq, fun hw => ?_, fun _ u hu => p3.newT rs3 (r.cut _ _) hu⟩)
        rw [r.length] at hw
        rw [cutD_all hw] at p3
        exact p3.val rs3 (.tup ht r)
    · split at p3
      · rename_i e1
        obtain ⟨a, vs, rfl, ht, r⟩ := asC_ok rs3 rx3 e1
        exact .inl (.inl ⟨a, vs, rfl, by rw [hK]; exact ht, fun u hu => p3.newL rs3 (r.cut _ _) hu⟩)
      · exact p3.elim
/-! ### data -/
theorem optAll_len {α : Type} : ∀ {l : List (Option α)} {r : List α}, optAll l = some r → l.length = r.length
  | [], _, h => by cases h; rfl
  | some a :: l, r, h => by
    have h' : (optAll l).map (a :: ·) = some r := h
    cases e : optAll l with
    | none => rw [e] at h'; cases h'
    | some z =>
      rw [e] at h'
      cases h'
      exact congrArg (· + 1) (optAll_len e)
  | none :: _, _, h => by cases h
theorem optAll_cons {α : Type} {a : Option α} {l : List (Option α)} {r : List α} (h : optAll (a :: l) = some r) : ∃ b r', a = some b ∧ optAll l = some r' ∧ r = b :: r' := by
  cases a with
  | none => cases h
  | some b =>
    have h' : (optAll l).map (b :: ·) = some r := h
    cases e : optAll l with
    | none => rw [e] at h'; cases h'
    | some z =>
      rw [e] at h'
      cases h'
      exact ⟨b, z, rfl, rfl, rfl⟩
theorem deep_dpA {ρ : Rg} {H : Hp} {S : Sto} {k : Nat} (ih : ∀ (d : Dv) (p : PyData) (v : V), deep S k d = some p → noDict p = true → Rv G.K ρ H v d → Dp G.K H v p) :
    ∀ (ds : List Dv) (ps : List PyData) (vs : List V), optAll (ds.map (deep S k)) = some ps → noDictA ps = true → RvA G.K ρ H vs ds → DpAll G.K H vs ps
  | [], _, _, h, _, r => by
    cases h
    cases r
    exact .nil
  | d :: ds, _, _, h, hn, r => by
    obtain ⟨b, r', e1, e2, rfl⟩ := optAll_cons (show optAll (deep S k d :: ds.map (deep S k)) = _ from h)
    obtain ⟨n1, n2⟩ := Bool.and_eq_true_iff.mp (show (noDict b && noDictA r') = true from hn)
    cases r with
    | cons h1 r1 => exact .cons (ih d b _ e1 n1 h1) (deep_dpA ih ds r' _ e2 n2 r1)
theorem deep_dp {ρ : Rg} {H : Hp} {S : Sto} (rs : RS G ρ H S) : ∀ (k : Nat) (d : Dv) (p : PyData) (v : V), deep S k d = some p → noDict p = true → Rv G.K ρ H v d → Dp G.K H v p
  | 0, _, _, _, h, _, _ => by cases h
  | k + 1, d, p, v, h, hn, r => by
    have ih := deep_dp rs k
    cases r with
    | non => cases h; exact .non
    | bl b => cases h; exact .bl b
    | int i => cases h; exact .int i
    | str x hx => cases h; exact .str x
    | @tup a vs ds ht r =>
      have h' : (optAll (ds.map (deep S k))).map PyData.tuple = some p := h
      cases e : optAll (ds.map (deep S k)) with
      | none => rw [e] at h'; cases h'
      | some ps =>
        rw [e] at h'
        cases h'
        exact .tup ht.sq (deep_dpA ih ds ps vs e hn r)
    | @lst a vs ds ht n r =>
      have h' : (optAll (ds.map (deep S k))).map PyData.list = some p := h
      cases e : optAll (ds.map (deep S k)) with
      | none => rw [e] at h'; cases h'
      | some ps =>
        rw [e] at h'
        cases h'
        exact .lst (SqL.of ht) (deep_dpA ih ds ps vs e hn r)
    | @con a vs ds ht r =>
      have h' : (optAll (ds.map (deep S k))).map PyData.list = some p := h
      cases e : optAll (ds.map (deep S k)) with
      | none => rw [e] at h'; cases h'
      | some ps =>
        rw [e] at h'
        cases h'
        exact .lst ht.sq (deep_dpA ih ds ps vs e hn r)
    | @dct a kvs dks ht n e r =>
      have h' : (if dks.all (fun q => okKB q.1) = true then (optAll ((dks.map (·.2)).map (deep S k))).map (fun vs => PyData.dict ((dks.map fun q => kPd q.1).zip vs)) else none) = some p := h
      by_cases hkb : dks.all (fun q => okKB q.1) = true
      case neg => rw [if_neg hkb] at h'; cases h'
      rw [if_pos hkb] at h'
      cases e : optAll ((dks.map (·.2)).map (deep S k)) with
      | none => rw [e] at h'; cases h'
      | some ps =>
        rw [e] at h'
        cases h'
        cases hn
    | @loc n a hn' =>
      have h' : (match S[n]? with | some (.lst xs) => (optAll (xs.map (deep S k))).map PyData.list | _ => none) = some p := h
      obtain ⟨ob, h1, h2⟩ := rs.at hn'
      rw [h1] at h'
      cases ob with
      | lst ds =>
        obtain ⟨vs, q1, q2⟩ := h2
        have h' : (optAll (ds.map (deep S k))).map PyData.list = some p := h'
        cases e : optAll (ds.map (deep S k)) with
        | none => rw [e] at h'; cases h'
        | some ps =>
          rw [e] at h'
          cases h'
          exact .lst (SqL.of q1) (deep_dpA ih ds ps vs e hn q2)
      | _ => cases h'
/-! its form -/
theorem layA {ρ : Rg} {H : Hp} {S : Sto} {k : Nat} (ih : ∀ (d : Dv) (p : PyData) (v : V), deep S k d = some p → noDict p = true → Rv G.K ρ H v d → p.canLay0 = true ∧ p.depth ≤ k) :
    ∀ (ds : List Dv) (ps : List PyData) (vs : List V), optAll (ds.map (deep S k)) = some ps → noDictA ps = true → RvA G.K ρ H vs ds → PyData.canLayAll0 ps = true ∧ PyData.depthAll ps ≤ k
  | [], _, _, h, _, r => by
    cases h
    exact ⟨rfl, Nat.zero_le _⟩
  | d :: ds, _, _, h, hn, r => by
    obtain ⟨b, r', e1, e2, rfl⟩ := optAll_cons (show optAll (deep S k d :: ds.map (deep S k)) = _ from h)
    obtain ⟨n1, n2⟩ := Bool.and_eq_true_iff.mp (show (noDict b && noDictA r') = true from hn)
    cases r with
    | cons h1 r1 =>
      obtain ⟨a1, a2⟩ := ih d b _ e1 n1 h1
      obtain ⟨b1, b2⟩ := layA ih ds r' _ e2 n2 r1
      refine ⟨Bool.and_eq_true_iff.mpr ⟨a1, b1⟩, ?_⟩
      show max b.depth (PyData.depthAll r') ≤ k
      omega
theorem deep_lay {ρ : Rg} {H : Hp} {S : Sto} (rs : RS G ρ H S) : ∀ (k : Nat) (d : Dv) (p : PyData) (v : V), deep S k d = some p → noDict p = true → Rv G.K ρ H v d → p.canLay0 = true ∧ p.depth ≤ k
  | 0, _, _, _, h, _, _ => by cases h
  | k + 1, d, p, v, h, hn, r => by
    have ih := deep_lay rs k
    cases r with
    | non => cases h; exact ⟨rfl, Nat.zero_le _⟩
    | bl b => cases h; exact ⟨rfl, Nat.zero_le _⟩
    | int i => cases h; exact ⟨rfl, Nat.zero_le _⟩
    | str x hx =>
      cases h
      refine ⟨?_, Nat.zero_le _⟩
      show PyData.strOk x = true
      unfold PyData.strOk
      rw [Array.all_eq_true]
      intro i hi
      exact decide_eq_true (hx _ (Array.getElem_mem_toList hi))
    | @tup a vs ds ht r =>
      have h' : (optAll (ds.map (deep S k))).map PyData.tuple = some p := h
      cases e : optAll (ds.map (deep S k)) with
      | none => rw [e] at h'; cases h'
      | some ps =>
        rw [e] at h'
        cases h'
        obtain ⟨b1, b2⟩ := layA ih ds ps vs e hn r
        exact ⟨b1, Nat.succ_le_succ b2⟩
    | @lst a vs ds ht n r =>
      have h' : (optAll (ds.map (deep S k))).map PyData.list = some p := h
      cases e : optAll (ds.map (deep S k)) with
      | none => rw [e] at h'; cases h'
      | some ps =>
        rw [e] at h'
        cases h'
        obtain ⟨b1, b2⟩ := layA ih ds ps vs e hn r
        exact ⟨b1, Nat.succ_le_succ b2⟩
    | @con a vs ds ht r =>
      have h' : (optAll (ds.map (deep S k))).map PyData.list = some p := h
      cases e : optAll (ds.map (deep S k)) with
      | none => rw [e] at h'; cases h'
      | some ps =>
        rw [e] at h'
        cases h'
        obtain ⟨b1, b2⟩ := layA ih ds ps vs e hn r
        exact ⟨b1, Nat.succ_le_succ b2⟩
    | @dct a kvs dks ht n e r =>
      have h' : (if dks.all (fun q => okKB q.1) = true then (optAll ((dks.map (·.2)).map (deep S k))).map (fun vs => PyData.dict ((dks.map fun q => kPd q.1).zip vs)) else none) = some p := h
      by_cases hkb : dks.all (fun q => okKB q.1) = true
      case neg => rw [if_neg hkb] at h'; cases h'
      rw [if_pos hkb] at h'
      cases e : optAll ((dks.map (·.2)).map (deep S k)) with
      | none => rw [e] at h'; cases h'
      | some ps =>
        rw [e] at h'
        cases h'
        cases hn
    | @loc n a hn' =>
      have h' : (match S[n]? with | some (.lst xs) => (optAll (xs.map (deep S k))).map PyData.list | _ => none) = some p := h
      obtain ⟨ob, h1, h2⟩ := rs.at hn'
      rw [h1] at h'
      cases ob with
      | lst ds =>
        obtain ⟨vs, q1, q2⟩ := h2
        have h' : (optAll (ds.map (deep S k))).map PyData.list = some p := h'
        cases e : optAll (ds.map (deep S k)) with
        | none => rw [e] at h'; cases h'
        | some ps =>
          rw [e] at h'
          cases h'
          obtain ⟨b1, b2⟩ := layA ih ds ps vs e hn q2
          exact ⟨b1, Nat.succ_le_succ b2⟩
      | _ => cases h'
theorem deep_shaped {ρ : Rg} {H : Hp} {S : Sto} (rs : RS G ρ H S) {d : Dv} {p : PyData} {v : V} (h : deep S dpt d = some p) (hn : noDict p = true) (r : Rv G.K ρ H v d) : SeqAt.shaped p = true := by
  obtain ⟨a, b⟩ := deep_lay rs dpt d p v h hn r
  exact Bool.and_eq_true_iff.mpr ⟨a, decide_eq_true (Nat.le_trans b (by decide))⟩
theorem d_eqv {k : Bool → Bool} : Op2 G W (fun x y H Q => ∃ d e, Dp G.K H x d ∧ Dp G.K H y e ∧ SeqAt.shaped d = true ∧ SeqAt.shaped e = true ∧ Q (.bl (k (PyData.eqv d e))) H) (mEqv k) := by
  intro ρ H σ S x y d e Q rs rx ry p
  unfold mEqv at p
  split at p
  · rename_i p1 p2 e1 e2
    split at p
    · rename_i hn
      obtain ⟨n1, n2⟩ := Bool.and_eq_true_iff.mp hn
      exact ⟨p1, p2, deep_dp rs _ _ _ _ e1 n1 rx, deep_dp rs _ _ _ _ e2 n2 ry, deep_shaped rs e1 n1 rx, deep_shaped rs e2 n2 ry, p.val rs (.bl _)⟩
    · exact p.elim
  · exact p.elim
theorem o_eq (hK : X.K = G.K) (hu : X.A.units + 64 < cLine) : OpR X (compareOp .Eq) (fun x y H Q => ∃ d e, Dp G.K H x d ∧ Dp G.K H y e ∧ SeqAt.shaped d = true ∧ SeqAt.shaped e = true ∧ Q (.bl (id (PyData.eqv d e))) H) := by
  rw [← hK]
  exact op_eqD hu
theorem o_ne (hK : X.K = G.K) (hu : X.A.units + 64 < cLine) : OpR X (compareOp .NotEq) (fun x y H Q => ∃ d e, Dp G.K H x d ∧ Dp G.K H y e ∧ SeqAt.shaped d = true ∧ SeqAt.shaped e = true ∧ Q (.bl (not (PyData.eqv d e))) H) := by
  rw [← hK]
  exact op_neD hu
/-! x in .. -/
def rInX (K : PySem.W.Frag) (k : Bool → Bool) : R2 := fun x y H Q => ∃ d ds, Dp K H x d ∧ (Dp K H y (.list ds) ∨ Dp K H y (.tuple ds)) ∧ SeqAt.shaped d = true ∧ PyData.canLayAll0 ds = true ∧ Q (.bl (k (ds.any fun z => PyData.eqv z d))) H
theorem op_inX (hu : X.A.units + 65 < cLine) : OpR X (compareOp .In) (rInX X.K id) := by
  intro pins s σ H x y v u Q I rx ry h
  obtain ⟨d, ds, hd, he | he, sd, se, q⟩ := h
  · obtain ⟨as, r1⟩ := Dp.reads I d x v hd rx
    obtain ⟨bs, r2⟩ := Dp.reads I (.list ds) y u he ry
    exact SeqAt.in_list_reads r2 r1 se (SeqAt.canLay_of_shaped sd) (room_in_shaped sd hu) ⟨.bl _, H, I, rfl, q⟩
  · obtain ⟨as, r1⟩ := Dp.reads I d x v hd rx
    obtain ⟨bs, r2⟩ := Dp.reads I (.tuple ds) y u he ry
    exact SeqAt.in_tuple_reads r2 r1 se (SeqAt.canLay_of_shaped sd) (room_in_shaped sd hu) ⟨.bl _, H, I, rfl, q⟩
theorem op_notInX (hu : X.A.units + 65 < cLine) : OpR X (compareOp .NotIn) (rInX X.K not) := by
  intro pins s σ H x y v u Q I rx ry h
  obtain ⟨d, ds, hd, he | he, sd, se, q⟩ := h
  · obtain ⟨as, r1⟩ := Dp.reads I d x v hd rx
    obtain ⟨bs, r2⟩ := Dp.reads I (.list ds) y u he ry
    exact SeqAt.notIn_list_reads r2 r1 se (SeqAt.canLay_of_shaped sd) (room_in_shaped sd hu) ⟨.bl _, H, I, rfl, q⟩
  · obtain ⟨as, r1⟩ := Dp.reads I d x v hd rx
    obtain ⟨bs, r2⟩ := Dp.reads I (.tuple ds) y u he ry
    exact SeqAt.notIn_tuple_reads r2 r1 se (SeqAt.canLay_of_shaped sd) (room_in_shaped sd hu) ⟨.bl _, H, I, rfl, q⟩
def rInB (K : PySem.W.Frag) (k : Bool → Bool) : R2 := fun x y H Q => (∃ i j, x = .str i ∧ y = .str j ∧ Q (.bl (k (!(Builtin.Str.occurrences j i 0 j.length 1).isEmpty))) H) ∨ rInX K k x y H Q
theorem o_in (hK : X.K = G.K) (hu : X.A.units + 65 < cLine) : OpR X (compareOp .In) (rInB G.K id) := by
  rw [← hK]
  exact OpR_or op_in_str (op_inX hu)
theorem o_notin (hK : X.K = G.K) (hu : X.A.units + 65 < cLine) : OpR X (compareOp .NotIn) (rInB G.K not) := by
  rw [← hK]
  exact OpR_or op_notin_str (op_notInX hu)
theorem d_in {k : Bool → Bool} : Op2 G W (rInB G.K k) (mInB k) := by
  intro ρ H σ S x y d e Q rs rx ry p
  unfold mInB at p
  split at p
  · cases rx; cases ry
    exact .inl ⟨_, _, rfl, rfl, p.val rs (.bl _)⟩
  · split at p
    · rename_i p1 ps e1 e2
      split at p
      · rename_i hn
        obtain ⟨n1, n2⟩ := Bool.and_eq_true_iff.mp hn
        refine .inr ⟨p1, ps, deep_dp rs _ _ _ _ e1 n1 rx, .inl (deep_dp rs _ _ _ _ e2 n2 ry), deep_shaped rs e1 n1 rx, ?_, p.val rs (.bl _)⟩
        exact (deep_lay rs _ _ _ _ e2 n2 ry).1
      · exact p.elim
    · rename_i p1 ps e1 e2
      split at p
      · rename_i hn
        obtain ⟨n1, n2⟩ := Bool.and_eq_true_iff.mp hn
        refine .inr ⟨p1, ps, deep_dp rs _ _ _ _ e1 n1 rx, .inr (deep_dp rs _ _ _ _ e2 n2 ry), deep_shaped rs e1 n1 rx, ?_, p.val rs (.bl _)⟩
        exact (deep_lay rs _ _ _ _ e2 n2 ry).1
      · exact p.elim
    · exact p.elim
end
end Mi
end T_Sim3
section T_Sim4
set_option Elab.async false
set_option linter.all false
set_option maxRecDepth 100000
set_option maxHeartbeats 2000000
namespace Mi
open PySem PySem.Spec PyProof.Rows L2
section
variable {G : Gx} {W : WX} {X : Cx}
/-! ### isinstance -/
theorem rd_tyT {K : PySem.W.Frag} {ρ : Rg} {H : Hp} {a : Addr} {vs : List V} (h : StT K ρ H a vs) : TyX K H (.ref a) (.type "tuple") := .base (.tup h.1)
theorem rd_tyL {K : PySem.W.Frag} {ρ : Rg} {H : Hp} {a : Addr} {vs : List V} (h : StL K ρ H a vs) : TyX K H (.ref a) (.type "list") := by
  rcases h with ⟨h | ⟨o, h⟩, _⟩ | ⟨o, its, n, h1, h2, _⟩
  · exact .base (.lst h)
  · exact .base (.frz h)
  · exact .kList h1 h2
theorem kind_ok {ρ : Rg} {H : Hp} {S : Sto} {v : V} {d : Dv} {t : String} (rs : RS G ρ H S) (r : Rv G.K ρ H v d) (h : kind S d = some t) : TyX G.K H v (.type t) ∧ t ∈ ["NoneType", "bool", "int", "str", "tuple", "list", "dict"] := by
  cases r with
  | non => cases h; exact ⟨.base .non, by decide⟩
  | bl b => cases h; exact ⟨.base (.bl b), by decide⟩
  | int i => cases h; exact ⟨.base (.int i), by decide⟩
  | str x _ => cases h; exact ⟨.base (.str x), by decide⟩
  | tup h1 _ => cases h; exact ⟨rd_tyT h1, by decide⟩
  | lst h1 _ _ => cases h; exact ⟨.base (.lst h1), by decide⟩
  | con h1 _ => cases h; exact ⟨rd_tyL h1, by decide⟩
  | dct h1 _ _ _ => cases h; exact ⟨.base (.dK h1), by decide⟩
  | @loc n a hn =>
    have h : (match S[n]? with | some (.lst _) => some "list" | some (.dK _) => some "dict" | some (.dT _) => some "dict" | none => none) = some t := h
    obtain ⟨ob, h1, h2⟩ := rs.at hn
    rw [h1] at h
    cases ob with
    | lst ds =>
      cases h
      obtain ⟨vs, q, _⟩ := h2
      exact ⟨.base (.lst q), by decide⟩
    | dK ds =>
      cases h
      obtain ⟨vs, q, _⟩ := h2
      exact ⟨.base (.dK q), by decide⟩
    | dT ds =>
      cases h
      obtain ⟨vs, q, _⟩ := h2
      exact ⟨.base (.dT q), by decide⟩
theorem kitB_ok : (["NoneType", "bool", "int", "str", "tuple", "list", "dict"].all fun t => ["int", "bool", "str", "tuple", "list", "dict"].all fun c => decide (kitB t c = some (subK t c))) = true := by decide +kernel
theorem kit_of_sub {K : PySem.W.Frag} {t c : String} (ht : t ∈ ["NoneType", "bool", "int", "str", "tuple", "list", "dict"]) (hc : c ∈ ["int", "bool", "str", "tuple", "list", "dict"]) : PySem.W.kitOne K (.type t) (.type c) = some (subK t c) :=
  kit_ty (of_decide_eq_true (List.all_eq_true.mp (List.all_eq_true.mp kitB_ok t ht) c hc))
/-- isinstance(a, c), c a built-in class -/
theorem re_isi {a : Expr} {ma : EX} {c : Str} {n : String} {p p2 pos : Pos} (hK : X.K = G.K) (hg : Gl X "isinstance") (hm : X.mg "isinstance" = none) (hgc : Gl X c) (hmc : X.mg c = none) (hb : bootBuiltins c = some (.type n)) (hn : n ∈ ["int", "bool", "str", "tuple", "list", "dict"])
    (ha : PE X a (tE G W ma)) (hc1 : c ≠ "__name__" := by decide) (hc2 : (c == ("__debug__" : Str)) = false := by decide) (hs : starEach [a, .Name c p2] X.env = (false, eval a X.env) :: starEach [.Name c p2] X.env := by rfl) (hs2 : starEach [.Name c p2] X.env = (false, eval (.Name c p2) X.env) :: starEach [] X.env := by rfl) (hpl : (backTo pos (starEach [.Name c p2] X.env)).any (·.1) = false := by rfl) :
    PE X (.Call (.Name "isinstance" p) [a, .Name c p2] [] pos) (tE G W (e1 (mIsi n) ma)) :=
  (pe_callB call_isi hg hm (by decide +kernel) (pa_cons ha (pa_cons (pe_bltn (v := .ty n) hgc hmc hb rfl hc1 hc2) pa_nil hs2) hs) (by decide) (by decide) hs hpl).imp fun σ H Q q => by
    obtain ⟨ρ, δ, S, cf, p⟩ := q
    refine ⟨ρ, δ, S, cf, (Post.bind p).mono fun x H1 ⟨ρ1, S1, d, s1, rs1, rx, p1⟩ => ?_⟩
    unfold mIsi at p1
    split at p1
    · rename_i t ht
      obtain ⟨h1, h2⟩ := kind_ok rs1 rx ht
      exact ⟨x, .ty n, .type t, .type n, _, rfl, .ty n, by rw [hK]; exact h1, kit_of_sub h2 hn, p1.val rs1 (.bl _)⟩
    · exact p1.elim
/-- a module's constant -/
theorem re_glob {x : Str} {v : V} {d : Dv} {u : Value} {pos : Pos} (hg : Gl X x) (hm : X.mg x = some u) (r : RelV v u) (hv : ∀ ρ H, Rv G.K ρ H v d) (hd : (x == ("__debug__" : Str)) = false := by decide) : PE X (.Name x pos) (tE G W (eC d)) := re_c hv (pe_glob hg hm r hd)
theorem re_globI {x : Str} {i : Int} {pos : Pos} (hg : Gl X x) (hm : ∃ t, X.mg x = some (.int i t)) (hd : (x == ("__debug__" : Str)) = false := by decide) : PE X (.Name x pos) (tE G W (eC (.int i))) := by
  obtain ⟨t, hm⟩ := hm
  exact re_glob (v := .int i) hg hm ⟨t, rfl⟩ (fun _ _ => .int i) hd
theorem re_globS {x z : Str} {pos : Pos} (hg : Gl X x) (hm : ∃ t, X.mg x = some (.str z t)) (hz : OkS z := by unfold OkS; decide +kernel) (hd : (x == ("__debug__" : Str)) = false := by decide) : PE X (.Name x pos) (tE G W (eC (.str z))) := by
  obtain ⟨t, hm⟩ := hm
  exact re_glob (v := .str z) hg hm ⟨t, rfl⟩ (fun _ _ => .str z hz) hd
/-! ### chains -/
theorem t_chain {r r' : R2} {f g : Dv → Dv → M Dv} {ma mb mc : EX} (hf : Op2 G W r f) (hg : Op2 G W r' g) {σ : L2.St} {H : Hp} {Q : VK} (q : tE G W (eChain f g ma mb mc) σ H Q) : tChain r r' (tE G W ma) (tE G W mb) (tE G W mc) σ H Q := by
  obtain ⟨ρ, δ, S, cf, p⟩ := q
  refine ⟨ρ, δ, S, cf, (Post.bind p).mono fun x H1 ⟨ρ1, S1, d, s1, rs1, rx, p1⟩ => ?_⟩
  refine ⟨ρ1, δ, S1, cf.step s1 rs1, (Post.bind p1).mono fun y H2 ⟨ρ2, S2, e, s2, rs2, ry, p2⟩ => ?_⟩
  refine hf ρ2 H2 σ S2 x y d e _ rs2 (rx.step s2) ry ((Post.bind (rel := vr G) p2).mono fun z H3 ⟨ρ3, S3, b, s3, rs3, rz, p3⟩ => ?_)
  cases rz with
  | bl k =>
    refine ⟨k, rfl, ?_⟩
    cases k with
    | false => exact Post.pure p3 rs3 (.bl false)
    | true => exact ⟨ρ3, δ, S3, ((cf.step s1 rs1).step s2 rs2).step s3 rs3, (Post.bind p3).mono fun w H4 ⟨ρ4, S4, c, s4, rs4, rw_, p4⟩ => hg ρ4 H4 σ S4 y w e c _ rs4 ((ry.step s3).step s4) rw_ p4⟩
  | _ => exact p3.elim
theorem re_chain {op op' : CmpOp} {r r' : R2} {f g : Dv → Dv → M Dv} {a b c : Expr} {ma mb mc : EX} {pos : Pos} (ho : OpR X (compareOp op) r) (ho' : OpR X (compareOp op') r') (hf : Op2 G W r f) (hg : Op2 G W r' g) (ha : PE X a (tE G W ma)) (hb : PE X b (tE G W mb)) (hc : PE X c (tE G W mc))
    (hm : lastMarks [op, op'] [b, c] = false := by with_unfolding_all rfl) : PE X (.Compare a [op, op'] [b, c] pos) (tE G W (eChain f g ma mb mc)) := (pe_chain ho ho' ha hb hc hm).imp fun _ _ _ q => t_chain hf hg q
theorem rt_chain {op op' : CmpOp} {r r' : R2} {f g : Dv → Dv → M Dv} {a b c : Expr} {ma mb mc : EX} {pos : Pos} (ho : OpR X (compareOp op) r) (ho' : OpR X (compareOp op') r') (hf : Op2 G W r f) (hg : Op2 G W r' g) (ha : PE X a (tE G W ma)) (hb : PE X b (tE G W mb)) (hc : PE X c (tE G W mc))
    (hm : lastMarks [op, op'] [b, c] = false := by with_unfolding_all rfl) : PT X (.Compare a [op, op'] [b, c] pos) (tB G W (bOf (eChain f g ma mb mc))) := (pt_chain ho ho' ha hb hc hm).imp fun σ H Q q => by
  obtain ⟨ρ, δ, S, cf, p⟩ := q
  have z : tE G W (eChain f g ma mb mc) σ H (fun x H' => ∃ k, x = .bl k ∧ Q k H') := ⟨ρ, δ, S, cf, (Post.bind p).mono fun x H1 ⟨ρ1, S1, d, s1, rs1, rx, p1⟩ => by
    cases rx with
    | bl k => exact ⟨k, rfl, Post.pure p1 rs1 rfl⟩
    | _ => exact p1.elim⟩
  exact t_chain hf hg z
/-! ### the store -/
theorem RS.newS {ρ : Rg} {H : Hp} {S : Sto} (r : RS G ρ H S) {p : Addr} {vs : List V} {ds : List Dv} (hp : H p = none) (hr : RvA G.K ρ H vs ds) : RS G (ρ.add p) (upd H p (.lst vs)) (S ++ [.lst ds]) := by
  have n := r.new (o := .lst vs) hp
  have st : Stp ρ H (ρ.add p) (upd H p (.lst vs)) := Stp.newS hp
  have np := (r.nin hp)
  refine ⟨by simp [Rg.add, r.len], ?_, fun a m => ?_, fun k a o e1 e2 => ?_, n.tab, r.xok.stepB st.b⟩
  · show (ρ.s ++ [p]).Nodup
    exact List.nodup_append.mpr ⟨r.nd, by simp, fun a ha b hb e => np.1 (by rw [List.mem_singleton.mp hb] at e; rw [← e]; exact ha)⟩
  · refine ⟨fun z => ?_, (n.bt a m).2⟩
    rcases List.mem_append.mp z with z | z
    · exact (r.bt a m).1 z
    · rw [List.mem_singleton.mp z] at m
      exact np.2 m
  · by_cases hk : k < ρ.s.length
    · rw [show (ρ.add p).s = ρ.s ++ [p] from rfl, List.getElem?_append_left hk] at e1
      rw [List.getElem?_append_left (by rw [← r.len]; exact hk)] at e2
      have q := r.ob k a o e1 e2
      obtain ⟨u, hu, _⟩ := q.some
      exact q.step st (by rw [upd_ne (ne_of_none hu hp)])
    · rw [show (ρ.add p).s = ρ.s ++ [p] from rfl, List.getElem?_append_right (by omega)] at e1
      rw [List.getElem?_append_right (by rw [← r.len]; omega), ← r.len] at e2
      have ek : k - ρ.s.length = 0 := by
        have := (List.getElem?_eq_some_iff.mp e1).1
        simp at this
        omega
      rw [ek] at e1 e2
      cases e1
      cases e2
      exact ⟨vs, upd_same, hr.step st⟩
theorem RS.put {ρ : Rg} {H : Hp} {S : Sto} (r : RS G ρ H S) {n : Nat} {a : Addr} {o : HO} {ob : Ob} (hn : ρ.s[n]? = some a) (hr : Ro G.K ρ (upd H a o) a ob) : RS G ρ (upd H a o) (S.set n ob) := by
  have ma : a ∈ ρ.s := List.mem_of_getElem? hn
  obtain ⟨u, hu, h1, h2⟩ := r.mem ma
  have st : Stp ρ H ρ (upd H a o) := Stp.put ma
  refine ⟨by simp [r.len], r.nd, fun b m => ⟨(r.bt b m).1, ?_⟩, fun k b ob' e1 e2 => ?_, tabs_put r.tab hu h1 h2, r.xok.stepB st.b⟩
  · obtain ⟨z, q⟩ := (r.bt b m).2
    exact ⟨z, by rw [upd_ne (fun e => (r.bt b m).1 (by rw [e]; exact ma))]; exact q⟩
  · by_cases hk : n = k
    · subst hk
      rw [hn] at e1
      cases e1
      have hl : n < S.length := by
        rw [← r.len]
        exact (List.getElem?_eq_some_iff.mp hn).1
      rw [List.getElem?_set_self hl] at e2
      cases e2
      exact hr
    · rw [List.getElem?_set_ne hk] at e2
      have hb : b ≠ a := fun e => by
        subst e
        exact hk ((List.getElem?_inj (List.getElem?_eq_some_iff.mp hn).1 r.nd).mp (hn.trans e1.symm))
      exact (r.ob k b ob' e1 e2).step st (upd_ne hb)
theorem re_lstS {es : List Expr} {mr : EA} {pos : Pos} (h : PA X es (tA G W mr)) : PE X (.List es pos) (tE G W (eN mNewL mr)) := (pe_lst h).imp fun σ H Q q => by
  obtain ⟨ρ, δ, S, cf, p⟩ := q
  refine ⟨ρ, δ, S, cf, (Post.bind p).mono fun xs H1 ⟨ρ1, S1, ds, s1, rs1, rx, p1⟩ => ?_⟩
  unfold mNewL at p1
  split at p1
  · rename_i hl
    have e := rx.length
    refine ⟨lim_ok (by omega), fun u hu => ?_⟩
    refine p1 _ _ (ρ1.add u) (Stp.newS hu) (rs1.newS hu rx) (.loc ?_)
    rw [show (ρ1.add u).s = ρ1.s ++ [u] from rfl, ← rs1.len, List.getElem?_append_right (Nat.le_refl _)]
    simp
  · exact p1.elim
theorem RvA.set {K : PySem.W.Frag} {ρ : Rg} {H : Hp} {v : V} {d : Dv} (h : Rv K ρ H v d) : ∀ {vs : List V} {ds : List Dv} (i : Nat), RvA K ρ H vs ds → RvA K ρ H (vs.set i v) (ds.set i d)
  | _, _, _, .nil => .nil
  | _, _, 0, .cons _ t => .cons h t
  | _, _, i + 1, .cons q t => .cons q (RvA.set h i t)
/-! methods of built-in types -/
def Mt2 (G : Gx) (W : WX) (r : V → List V → Hp → VK → Prop) (f : Dv → List Dv → M Dv) : Prop :=
  ∀ (ρ : Rg) (H : Hp) (σ : L2.St) (S : Sto) (x : V) (xs : List V) (d : Dv) (ds : List Dv) (Q : VK), RS G ρ H S → Rv G.K ρ H x d → RvA G.K ρ H xs ds → Post G W σ (vr G) ρ H (f d ds S) Q → r x xs H Q
theorem tyV_ok {ρ : Rg} {H : Hp} {S : Sto} {v : V} {d : Dv} {T : String} (rs : RS G ρ H S) (r : Rv G.K ρ H v d) (h : kind S d = some T) (hT : T = "list" ∨ T = "str" ∨ T = "dict") : tyV G.K T v H := by
  cases r with
  | non => cases h; simp at hT
  | bl b => cases h; simp at hT
  | int i => cases h; simp at hT
  | str x _ => cases h; rfl
  | tup h1 _ => cases h; simp at hT
  | lst h1 _ _ => cases h; exact .inl ⟨rfl, _, SqL.of h1⟩
  | con h1 _ => cases h; exact .inl ⟨rfl, _, h1.sq⟩
  | dct h1 _ _ _ => cases h; exact .inr (.inr (.inl ⟨rfl, .inl ⟨_, h1⟩⟩))
  | @loc n a hn =>
    have h : (match S[n]? with | some (.lst _) => some "list" | some (.dK _) => some "dict" | some (.dT _) => some "dict" | none => none) = some T := h
    obtain ⟨ob, h1, h2⟩ := rs.at hn
    rw [h1] at h
    cases ob with
    | lst ds =>
      cases h
      obtain ⟨vs, q, _⟩ := h2
      exact .inl ⟨rfl, _, SqL.of q⟩
    | dK ds =>
      cases h
      obtain ⟨vs, q, _⟩ := h2
      exact .inr (.inr (.inl ⟨rfl, .inl ⟨_, q⟩⟩))
    | dT ds =>
      cases h
      obtain ⟨vs, q, _⟩ := h2
      exact .inr (.inr (.inl ⟨rfl, .inr ⟨_, q⟩⟩))
theorem re_bm {e : Expr} {mo : EX} {mr : EA} {T : String} {r : V → List V → Hp → VK → Prop} {f : Dv → List Dv → M Dv} (hK : X.K = G.K) (hT : T = "list" ∨ T = "str" ∨ T = "dict") (hf : Mt2 G W r f) (h : PE X e (tBM X.K T r (tE G W mo) (tA G W mr))) : PE X e (tE G W (eMth T f mo mr)) := h.imp fun σ H Q q => by
  obtain ⟨ρ, δ, S, cf, p⟩ := q
  refine ⟨ρ, δ, S, cf, (Post.bind p).mono fun x H1 ⟨ρ1, S1, d, s1, rs1, rx, p1⟩ => ?_⟩
  dsimp only at p1
  split at p1
  · rename_i hk
    exact ⟨by rw [hK]; exact tyV_ok rs1 rx hk hT, ρ1, δ, S1, cf.step s1 rs1, (Post.bind p1).mono fun xs H2 ⟨ρ2, S2, ds, s2, rs2, rxs, p2⟩ => hf ρ2 H2 σ S2 x xs d ds Q rs2 (rx.step s2) rxs p2⟩
  · exact p1.elim
theorem re_bm0 {e : Expr} {mo : EX} {T : String} {r : V → List V → Hp → VK → Prop} {f : Dv → List Dv → M Dv} (hK : X.K = G.K) (hT : T = "list" ∨ T = "str" ∨ T = "dict") (hf : Mt2 G W r f) (h : PE X e (tBM0 X.K T r (tE G W mo))) : PE X e (tE G W (eMth T f mo aNil)) := h.imp fun σ H Q q => by
  obtain ⟨ρ, δ, S, cf, p⟩ := q
  refine ⟨ρ, δ, S, cf, (Post.bind p).mono fun x H1 ⟨ρ1, S1, d, s1, rs1, rx, p1⟩ => ?_⟩
  dsimp only at p1
  split at p1
  · rename_i hk
    exact ⟨by rw [hK]; exact tyV_ok rs1 rx hk hT, hf ρ1 H1 σ S1 x [] d [] Q rs1 rx .nil p1⟩
  · exact p1.elim
theorem d_append : Mt2 G W rAppend mAppend := by
  intro ρ H σ S x xs d ds Q rs rx rxs p
  unfold mAppend at p
  split at p
  · rename_i n y
    split at p
    · rename_i l hl
      split at p
      · rename_i hz
        obtain ⟨v, rfl, rv⟩ := rxs.one
        cases rx with
        | @loc _ a hn =>
          obtain ⟨ob, h1, h2⟩ := rs.at hn
          rw [hl] at h1
          cases h1
          obtain ⟨vs, q1, q2⟩ := h2
          have st : Stp ρ H ρ (upd H a (.lst (vs ++ [v]))) := Stp.put (List.mem_of_getElem? hn)
          exact ⟨a, vs, v, rfl, rfl, q1, lim_lt (by rw [q2.length]; exact hz), p _ _ ρ st (rs.put hn ⟨_, upd_same, (q2.step st).app (.cons (rv.step st) .nil)⟩) .non⟩
      · exact p.elim
    · exact p.elim
  · exact p.elim
theorem d_extend : Mt2 G W rExtend mExtend := by
  intro ρ H σ S x xs d ds Q rs rx rxs p
  unfold mExtend at p
  split at p
  · rename_i n ys
    split at p
    · rename_i l hl
      split at p
      · rename_i hz
        obtain ⟨v, rfl, rv⟩ := rxs.one
        cases rv with
        | @lst b ws _ hb _ rb =>
        cases rx with
        | @loc _ a hn =>
          obtain ⟨ob, h1, h2⟩ := rs.at hn
          rw [hl] at h1
          cases h1
          obtain ⟨vs, q1, q2⟩ := h2
          have st : Stp ρ H ρ (upd H a (.lst (vs ++ ws))) := Stp.put (List.mem_of_getElem? hn)
          exact ⟨a, b, vs, ws, rfl, rfl, q1, hb, lim_ok (by rw [q2.length, rb.length]; omega), p _ _ ρ st (rs.put hn ⟨_, upd_same, (q2.step st).app (rb.step st)⟩) .non⟩
      · exact p.elim
    · exact p.elim
  · exact p.elim
theorem d_clear : Mt2 G W rClear mClear := by
  intro ρ H σ S x xs d ds Q rs rx rxs p
  unfold mClear at p
  split at p
  · split at p
    · rename_i n l hl
      cases rxs
      cases rx with
      | @loc _ a hn =>
        obtain ⟨ob, h1, h2⟩ := rs.at hn
        rw [hl] at h1
        cases h1
        obtain ⟨vs, q1, q2⟩ := h2
        have st : Stp ρ H ρ (upd H a (.lst [])) := Stp.put (List.mem_of_getElem? hn)
        exact ⟨a, vs, rfl, rfl, q1, p _ _ ρ st (rs.put hn ⟨_, upd_same, .nil⟩) .non⟩
    · exact p.elim
  · exact p.elim
/-! o[i] = .. -/
theorem rg_ix {o i : Expr} {mo mi : EX} {pos : Pos} {W1 : WX} (ho : PE X o (tE G W1 mo)) (hi : PE X i (tE G W1 mi)) (hp : PG X (.Subscript o i pos) (gSub (tE G W1 mo) (tE G W1 mi) rSetL)) : PG X (.Subscript o i pos) (tG G [] (gIx mo mi)) := hp.imp fun v σ H Q q => by
  obtain ⟨ρ, δ, S, d, cf, r, p⟩ := q
  refine ⟨ρ, δ, S, cf, ?_⟩
  unfold gIx at p
  cases e1 : mo δ S with
  | bad => rw [e1] at p; exact p.elim
  | ex x S1 => rw [e1] at p; exact p.elim
  | ok x S1 =>
    rw [e1] at p
    cases x with
    | loc n =>
      intro vo H1 ρ1 s1 rs1 ro
      refine ⟨ρ1, δ, S1, cf.step s1 rs1, ?_⟩
      dsimp only at p
      cases e2 : mi δ S1 with
      | bad => rw [e2] at p; exact p.elim
      | ex x S2 => rw [e2] at p; exact p.elim
      | ok y S2 =>
        rw [e2] at p
        cases y with
        | int k =>
          intro vi H2 ρ2 s2 rs2 ri
          dsimp only at p
          cases e3 : S2[n]? with
          | none => rw [e3] at p; exact p.elim
          | some ob =>
            rw [e3] at p
            cases ob with
            | lst xs =>
              dsimp only at p
              cases e4 : ixN xs.length k with
              | none => rw [e4] at p; exact p.elim
              | some j =>
                rw [e4] at p
                cases ri
                cases ro with
                | @loc _ a hn =>
                  have hn2 := s2.get hn
                  obtain ⟨ob, h1, h2⟩ := rs2.at hn2
                  rw [e3] at h1
                  cases h1
                  obtain ⟨vs, q1, q2⟩ := h2
                  have st : Stp ρ2 H2 ρ2 (upd H2 a (.lst (vs.set j v))) := Stp.put (List.mem_of_getElem? hn2)
                  refine ⟨a, vs, k, j, rfl, rfl, q1, by rw [q2.length]; exact e4, ?_⟩
                  have rd : Rv G.K ρ2 (upd H2 a (.lst (vs.set j v))) v d := (((r.step s1).step s2).step st)
                  refine p σ _ ρ2 ((s1.trans s2).trans st) (((cf.step s1 rs1).step s2 rs2).step st (rs2.put hn2 ⟨_, upd_same, ?_⟩)) But.refl
                  exact RvA.set rd j (q2.step st)
            | _ => exact p.elim
        | _ => exact p.elim
    | _ => exact p.elim
/-! ### while, op=, a, b, c = .. -/
theorem rs_while {c : Expr} {body : List Stmt} {mc : EB} {mb : SM} {n : Nat} {pos : Pos} (hp : PassesOwn (model X.prog X.w) X.A X.env X.xe) (hc : PT X c (tB G W mc)) (hb : PSs X body (tS G W mb)) : PS X (.While c body [] pos) (tS G W (sWhile n mc mb)) := (ps_while hp hc hb).imp fun D σ H q => by
  obtain ⟨ρ, δ, S, cf, p⟩ := q
  refine ⟨fun m σ' H' => ∃ ρ' δ' S', Stp ρ H ρ' H' ∧ Cf G ρ' H' σ' δ' S' ∧ PostS G W ρ' H' (whGo mc mb m δ' S') D, ⟨n, ρ, δ, S, Stp.refl, cf, p⟩, ?_⟩
  rintro m σ' H' ⟨ρ', δ', S', s', c', p'⟩
  cases m with
  | zero => exact p'.elim
  | succ m =>
    unfold whGo at p'
    refine ⟨ρ', δ', S', c', (postS_on (rel := br) c' p').mono fun x H1 ⟨ρ1, S1, t, s1, rs1, rx, p1⟩ => ?_⟩
    have e : x = t := rx
    subst e
    have c1 := c'.step s1 rs1
    cases x with
    | false => exact p1 σ' H1 ρ1 Stp.refl c1
    | true =>
      refine ⟨fun σ2 H2 => ∃ ρ2 δ2 S2, Stp ρ H ρ2 H2 ∧ Cf G ρ2 H2 σ2 δ2 S2 ∧ PostS G W ρ2 H2 (whGo mc mb m δ2 S2) D, fun σ2 H2 q2 => ⟨m, Nat.lt_succ_self m, q2⟩, ρ1, δ', S1, c1, ?_⟩
      rw [if_pos rfl] at p1
      cases e2 : mb δ' S1 with
      | nx δ4 S4 =>
        rw [e2] at p1
        exact fun σ4 H4 ρ4 s4 c4 => ⟨ρ4, δ4, S4, (s'.trans s1).trans s4, c4, PostS.step s4 p1⟩
      | ct δ4 S4 =>
        rw [e2] at p1
        exact fun σ4 H4 ρ4 s4 c4 => ⟨ρ4, δ4, S4, (s'.trans s1).trans s4, c4, PostS.step s4 p1⟩
      | bk δ4 S4 =>
        rw [e2] at p1
        exact p1
      | rt d S4 =>
        rw [e2] at p1
        exact p1
      | ex x δ4 S4 =>
        rw [e2] at p1
        exact p1
      | bad =>
        rw [e2] at p1
        exact p1
theorem rs_aug {i : Nat} {me : EX} {st : Stmt} {ti : TIp} {f : Dv → Dv → M Dv} (hf : Op2 G W ti f) (h : PS X st (tAug i (tE G W me) ti)) (hxn : G.xc = none := by rfl) : PS X st (tS G W (sAug i f me)) := h.imp fun D σ H q => by
  obtain ⟨ρ, δ, S, cf, p⟩ := q
  unfold sAug eVar at p
  cases e : δ[i]? with
  | none => rw [e] at p; exact p.elim
  | some o =>
    rw [e] at p
    cases o with
    | none => exact p.elim
    | some d =>
      obtain ⟨v, h1, h2⟩ := cf.sl i d e
      refine ⟨v, h1, ρ, δ, S, cf, (postS_on (rel := vr G) cf (show PostS G W ρ H (onOk (me δ S) δ _) D from p)).mono fun y H1 ⟨ρ1, S1, d2, s1, rs1, ry, p1⟩ => ?_⟩
      have c1 := cf.step s1 rs1
      refine hf ρ1 H1 σ S1 v y d d2 _ rs1 (h2.step s1) ry ((postS_on (rel := vr G) c1 p1).mono fun z H2 ⟨ρ2, S2, d3, s2, rs2, rz, p2⟩ => ?_)
      exact p2 _ H2 ρ2 Stp.refl ((c1.step s2 rs2).set i rz (slotOk_none hxn))
theorem d_ipadd : Op2 G W (ipI fun i j => i + j) mAdd → True := fun _ => trivial
def mAddI (d e : Dv) : M Dv := match d, e with
  | .int i, .int j => M.pure (.int (i + j))
  | _, _ => mBad
theorem d_addI : Op2 G W (ipI fun i j => i + j) mAddI := by
  intro ρ H σ S x y d e Q rs rx ry p
  unfold mAddI at p
  split at p
  · cases rx; cases ry
    exact ⟨_, _, rfl, rfl, p.val rs (.int _)⟩
  · exact p.elim
theorem rs_par3 {i j l : Nat} {st : Stmt} {mr : EA} (h : PS X st (tPar3 i j l (tA G W mr))) (hxn : G.xc = none := by rfl) : PS X st (tS G W (sPar [i, j, l] mr)) := h.imp fun D σ H q => by
  obtain ⟨ρ, δ, S, cf, p⟩ := q
  refine ⟨ρ, δ, S, cf, (postS_on (rel := ar G) cf p).mono fun xs H1 ⟨ρ1, S1, ds, s1, rs1, rx, p1⟩ => ?_⟩
  match xs, ds, rx, p1 with
  | [u, v, w], [d1, d2, d3], .cons h1 (.cons h2 (.cons h3 .nil)), p1 => exact ⟨u, v, w, rfl, p1 _ H1 ρ1 Stp.refl ((((cf.step s1 rs1).set i h1 (slotOk_none hxn)).set j h2 (slotOk_none hxn)).set l h3 (slotOk_none hxn))⟩
  | [], [], .nil, p1 => exact p1.elim
  | [_], [_], .cons _ .nil, p1 => exact p1.elim
  | [_, _], [_, _], .cons _ (.cons _ .nil), p1 => exact p1.elim
  | _ :: _ :: _ :: _ :: _, _ :: _ :: _ :: _ :: _, .cons _ (.cons _ (.cons _ (.cons _ _))), p1 => exact p1.elim
/-! ### xs[::-1] -/
def mRevL (d : Dv) : M Dv := fun S => match asC S d with
  | some xs => .ok (.lst xs.reverse) S
  | none => .bad
theorem RvA.rev {K : PySem.W.Frag} {ρ : Rg} {H : Hp} : ∀ {vs : List V} {ds : List Dv}, RvA K ρ H vs ds → RvA K ρ H vs.reverse ds.reverse
  | _, _, .nil => .nil
  | _, _, .cons h t => by
    rw [List.reverse_cons, List.reverse_cons]
    exact (RvA.rev t).app (.cons h .nil)
theorem re_revL {e : Expr} {me : EX} (hK : X.K = G.K) (h : PE X e (tRevL X.K (tE G W me))) : PE X e (tE G W (e1 mRevL me)) := h.imp fun σ H Q q => by
  obtain ⟨ρ, δ, S, cf, p⟩ := q
  refine ⟨ρ, δ, S, cf, (Post.bind p).mono fun x H1 ⟨ρ1, S1, d, s1, rs1, rx, p1⟩ => ?_⟩
  unfold mRevL at p1
  split at p1
  · rename_i xs e1
    obtain ⟨a, vs, rfl, h, r⟩ := asC_ok rs1 rx e1
    exact ⟨a, vs, rfl, by rw [hK]; exact h, fun u hu => p1.newL rs1 r.rev hu⟩
  · exact p1.elim
/-! ### exceptions of own classes: made by an __init__ that calls the base's and stores its parameters -/
/-- D.__init__(self, ..), D an own class whose __init__ is ValueError's -/
theorem pe_clsinit {pl : Sem Bool} {x : Str} {D : Addr} {mc : Value} {e : Expr} {es : List Expr} {ta : TA} {p1 p2 pos : Pos} (hg : Gl X x) (hm : X.mg x = some (.ref D)) (hrd : PySem.W.readsIn X.K D mc = true) (hga : PySem.W.specialIn X.K (.ref D) "__getattribute__" = some (some (.builtin "type.__getattribute__")))
    (hi : PySem.W.findCls X.K (.ref D) mc "__init__" = some (.val (.builtin "ValueError.__init__"))) (ha : PA X (e :: es) ta) (hdb : (x == ("__debug__" : Str)) = false := by decide)
    (hc : eval (.Call (.Attribute (.Name x p1) "__init__" p2) (e :: es) [] pos) X.env = (do
      let ov ← eval (.Name x p1) X.env
      standAt p2.atName
      let (f, first) ← holding [ov] (getMethod ov "__init__" pl)
      callWith pos f first (backTo pos (starEach (e :: es) X.env)) (backToKw pos (keywordEach [] X.env))) := by rfl)
    (he : starEach (e :: es) X.env = (false, eval e X.env) :: starEach es X.env := by rfl) (hpl : (backTo pos (starEach es X.env)).any (·.1) = false := by rfl) :
    PE X (.Call (.Attribute (.Name x p1) "__init__" p2) (e :: es) [] pos) (tVeI X.K ta) := by
  refine ⟨fun pins s σ H Q I h => ?_⟩
  refine PySem.W.methodCall_KW (ld_glob I hg hm ?_ hdb) hc
  refine PySem.W.method_cls I.kIn hga (PySem.W.cls_value I.kIn hrd hi (by decide +kernel) ?_)
  show wpAny _ _ (callWith pos (Value.builtin "ValueError.__init__") [] (backTo pos (starEach (e :: es) X.env)) []) _ _ _
  refine PyProof.Rows.callWith_method1 (thn (ha.run pos pins _ σ H _ (I.tok _) h) fun us s1 ⟨vs, H1, I1, r1, a, C, ws, ev, hl, T, ea, q⟩ => ?_) he hpl
  subst ev
  cases r1 with
  | @cons _ u0 _ ur ra rw' =>
    obtain rfl : u0 = Value.ref a := ra
    have hlen : ur.length ≤ sizeLine := by
      rw [← Paired.length rw', sizeLine_eq]
      omega
    exact oinit_ok T I1 ea hlen fun s' J => ⟨.non, H1, J, rfl, q⟩
end
/-- what __init__(self, f) promises -/
def spExc (K : PySem.W.Frag) (f : Str) : Sp := fun vs H Q _ => ∃ (a C : Addr) (v : V), vs = [.ref a, v] ∧ OexC K C ∧ PySem.W.findIn K (.ref C) f = some none ∧ H a = some (exo a C none) ∧ ∀ dx, H dx = none → dx ≠ a → Q .non (upd (upd H dx (exd dx [(f, v)])) a (exo a C (some dx)))
section
variable {P : Program} {w : World} {K : PySem.W.Frag} {mg : Str → Option Value} {base : Heap} {x qual : Str} {params : Arguments} {scope : Scope} {f : Addr} {fd : FuncData}
theorem ok_exc {fld : Str} {txt : Str} {body : List Stmt} (F : FunD K x qual params body scope [] [] f fd) (Sc : FnScope ["self", fld] ["self", fld] scope)
    (hb : ∀ (cdv : Value) (A : Around) (outer : List Env) (s : Shared) (H : Hp) (E : XK), PSs (dcx P w K mg base ["self", fld] qual scope f cdv A outer s H E) body (tSeq (tDrop (tVeI K (tCons (tVar 0) (tCons (tC (.str txt)) tNil)))) (tOst K fld (tVar 0) (tVar 1)))) :
    FnOk P w K mg base (L2.CX P w) 2 f fd ["self", fld] (spExc K fld) := by
  refine F.ok Sc (fun vs H Q E h => ?_) (fun cdv A outer s H vs Q E hr h => ⟨_, hb cdv A outer s H E, ?_⟩)
  · obtain ⟨a, C, v, rfl, _⟩ := h
    rfl
  · obtain ⟨a, C, v, rfl, T, hno, ha, q⟩ := h
    refine ⟨_, rfl, ?_⟩
    refine ⟨a, C, [.str txt], rfl, by show 1 ≤ 1000; decide, T, ha, ?_⟩
    exact ⟨_, rfl, _, rfl, a, C, rfl, T, hno, .inl ⟨ha, fun dx hdx hne => q dx hdx hne⟩⟩
end
section
variable {G : Gx} {W : WX} {X : Cx}
/-- raise C(e) -/
theorem rs_raise {x fld : Str} {C fI : Addr} {fd : FuncData} {e : Expr} {me : EX} {p pos pos2 : Pos} (hK : X.K = G.K) (hM : X.mg = G.mg) (hc : X.calm = true) (tk : Takes X W) (T : OexC X.K C) (hno : PySem.W.findIn X.K (.ref C) fld = some none) (iC : PySem.W.findIn X.K (.ref C) "__init__" = some (some (.ref fI))) (tI : PySem.W.typeIn X.K (.ref fI) = some (.type "function"))
    (F1 : FnOk X.prog X.w X.K X.mg X.base (L2.CX X.prog X.w) 2 fI fd ["self", fld] (spExc X.K fld)) (hr : Room 3 X.A) (hb : L2.Binds X.K fd ["self", fld] []) (hg : Gl X x) (hm : X.mg x = some (.ref C)) (he : PE X e (tE G W me))
    (hdb : (x == ("__debug__" : Str)) = false := by decide) (hs : starEach [e] X.env = (false, eval e X.env) :: starEach [] X.env := by rfl) :
    PS X (.Raise (some (.Call (.Name x p) [e] [] pos)) none pos2) (tS G W (sRaise x [fld] (aCons me aNil))) :=
  (ps_raise hc tk (pmk_oex T iC tI F1 hr hb .nil passL hg hm (pa_cons he pa_nil hs) hdb hs rfl)).imp fun D σ H q => by
    obtain ⟨ρ, δ, S, cf, p⟩ := q
    unfold sRaise aCons aNil at p
    refine ⟨ρ, δ, S, cf, ?_⟩
    cases e1 : me δ S with
    | bad => simp only [M.bind, e1, onOk] at p; exact p
    | ex z S1 =>
      simp only [M.bind, e1, onOk] at p
      exact fun c dx H' ρ' s rs rx => p c dx σ H' ρ' s (cf.step s rs) rx
    | ok d S1 =>
      simp only [M.bind, M.pure, e1, onOk, List.length_cons, List.length_nil, if_true, List.zip_cons_cons, List.zip_nil_left] at p
      intro v H1 ρ1 s1 rs1 rv
      refine ⟨by show 1 ≤ 1000; decide, fun a ha => ⟨a, C, v, rfl, T, hno, upd_same, fun dx hdx hne => ⟨rfl, dx, [(fld, v)], upd_same, ?_, ?_, ?_⟩⟩⟩
      · rw [upd_ne hne, upd_same]
      · have z : (upd H1 a (exo a C none)) dx = H1 dx := upd_ne hne
        rw [← z]
        exact hdx
      · have hd1 : H1 dx = none := by
          have z : (upd H1 a (exo a C none)) dx = H1 dx := upd_ne hne
          rw [← z]
          exact hdx
        have eH : upd (del (upd (upd (upd H1 a (exo a C none)) dx (exd dx [(fld, v)])) a (exo a C (some dx))) a) dx (.xd [(fld, v)]) = upd H1 dx (.xd [(fld, v)]) := by
          funext b
          by_cases hb1 : b = dx
          · subst hb1
            rw [upd_same, upd_same]
          · rw [upd_ne hb1, upd_ne hb1]
            by_cases hb2 : b = a
            · subst hb2
              rw [del_same, ha]
            · rw [del_ne hb2, upd_ne hb2, upd_ne hb1, upd_ne hb2]
        rw [eH]
        have st : Stp ρ1 H1 ρ1 (upd H1 dx (.xd [(fld, v)])) := Stp.new hd1
        have rs2 := rs1.new (o := .xd [(fld, v)]) hd1
        exact p _ _ σ _ ρ1 (s1.trans st) ((cf.step s1 rs1).step st rs2) ⟨C, dx, [(fld, v)], by rw [← hM]; exact hm, rfl, rfl, upd_same, rs1.nin hd1, rfl, .cons (rv.step st) .nil⟩
end
end Mi
end T_Sim4
section T_Sim5
set_option Elab.async false
set_option linter.all false
set_option maxRecDepth 100000
set_option maxHeartbeats 2000000
namespace PySem.W
open PySem PySem.Spec PySem.Calls PyProof.Rows
section
variable {prog : Program} {w : World} {A : Around} {E : Value → Shared → Prop} {s : Shared} {K : Frag} {x D : Addr} {ox : Obj}
theorem mi_findData {C : Addr} {od : Option Obj} {name : Str} {a g : Value} (hc : (clsIn K C).isSome = true) (ha : findIn K (.ref C) name = some (some a)) (hg : specialIn K a "__get__" = some (some g)) (ht : takesIn K a = some true) : findObj K C od name = some (.bind g a) := by
  obtain ⟨cd, hc⟩ := Option.isSome_iff_exists.mp hc
  unfold findObj
  rw [hc, Option.bind_some, ha, Option.bind_some]
  simp [hg, ht]
theorem mi_classE {od : Option Obj} {Q : Option Value → Shared → Prop} (C : L2.ExcC K D) (X : K.In s.heap) (I : InstAt s.heap x ox D od) (h : Q (some (.ref D)) { s with toks := s.toks + 1 }) : wpAny (model prog w) A (getAttr? (.ref x) "__class__") Q E s := by
  have hf : findObj K D od "__class__" = some (.bind (.builtin "getset_descriptor.__get__") (.builtin "object.__class__")) := mi_findData (by obtain ⟨cd, hc, _⟩ := any_some C.hd; rw [hc]; rfl) C.ha C.hn C.ht
  obtain ⟨hp, g, d, t, os⟩ := s
  have L0 := I.type (M := model prog w)
  have L1 := looks_findIn (M := model prog w) X C.hg
  have L2 := looks_findIn (M := model prog w) X C.hk
  have L3 := looks_find (M := model prog w) X I hf
  have sub : Looks (model prog w) hp (isInstance (.ref x) (.type "BaseException")) true := L0.andThen (looks_subIn X C.hs)
  have q0 : (false && onTheHeap (Value.builtin "BaseException.__getattribute__")) = false := rfl
  have q2 : (Value.builtin "BaseException.__getattribute__" == Value.builtin "object.__getattribute__") = false := by decide +kernel
  have q1 : (onTheHeap (Value.ref D) && Value.builtin "BaseException.__getattribute__" == Value.builtin "object.__getattribute__") = false := by rw [q2]; rfl
  unfold getAttr? getAttrBy? getAttrBy
  refine wpAny_bind (wpAny_mkText (wpAny_bind (wpAny_attempt (wpAny_holding (wpAny_bind (L0.at (wpAny_bind (L1.at ?_))))))))
  show wpAny _ _ (if (onTheHeap (Value.ref D) && Value.builtin "BaseException.__getattribute__" == Value.builtin "object.__getattribute__") = true then _ else _) _ _ _
  rw [q1, if_neg Bool.false_ne_true]
  unfold getAttrByItsOwn hookBefore
  refine wpAny_bind ?_
  rw [if_pos (show onTheHeap (Value.ref D) = true from rfl)]
  refine L2.at ?_
  refine wpAny_bind (wpAny_attempt (wpAny_holding ?_))
  unfold callGetattribute
  rw [q0, if_neg Bool.false_ne_true]
  unfold boundAndCalled
  rw [PySem.F.excAttr_ValueError.ga.bind (.ref x)]
  refine wpAny_bind (wpAny_pure ?_)
  show wpAny _ _ (call (.builtin "BaseException.__getattribute__") [.ref x, .str "__class__" t]) _ _ _
  refine wpAny_call (codeAny_call_builtin PySem.F.excAttr_ValueError.ga.plain PySem.F.entry_bexc_ga ?_)
  refine @check_slot (model prog w) _ _ ⟨hp, g, d, t + 1, os⟩ "BaseException.__getattribute__" "BaseException" "__getattribute__" (.ref x) [.str "__class__" t] [] _ (by decide +kernel) (by decide +kernel) sub (PySem.F.args_bexc_ga (.ref x) (.str "__class__" t)) ?_
  unfold Builtin.«object.__getattribute__»
  refine wpAny_bind (wpAny_of_eq (a := ((Value.ref x : Value), [Value.str "__class__" t])) (by first | rfl | (simp only [slotArgs]; rfl)) ?_)
  refine wpAny_bind (wpAny_pure (wpAny_bind (L0.at (wpAny_bind (L3.at ?_)))))
  show wpAny _ _ (holding [Value.builtin "object.__class__"] (call (.builtin "getset_descriptor.__get__") [.builtin "object.__class__", .ref x, .ref D]) >>= ret) _ _ _
  refine wpAny_bind (wpAny_holding (wpAny_call (class_get (s := ⟨hp, g, d, t + 1, os⟩) (ox := ox) (od := od) X I C.hm ?_)))
  refine wpAny_pure ?_
  show wpAny _ _ (handedOut (.ref D)) _ _ _
  rw [handedOut_of (v := .ref D) rfl]
  first
    | exact wpAny_pure (wpAny_pure h)
    | exact wpAny_pure h
    | exact wpAny_pure (wpAny_bind (wpAny_pure (wpAny_pure h)))
theorem mi_kitx (C : L2.ExcC K D) : KitX K (.ref x) (.ref D) (fun h => ∃ od, InstAt h x ox D od) where
  ty := fun _ _ _ ⟨_, I⟩ => I.type
  it := fun _ _ X _ => by
    obtain ⟨cdD, hcD, _⟩ := any_some C.hd
    unfold clsIn at hcD
    split at hcD
    · rename_i c' d' cd' sl' ho
      intro A' Q' E' s' k q
      unfold isType loadHead
      exact wpAny_bind (wpAny_loadPart (k _ _ (X _ _ ho)) (wpAny_pure q))
    · cases hcD
  ne := fun h tp dd its n sl X htp => by
    obtain ⟨cdD, hcD, _⟩ := any_some C.hd
    refine Bool.eq_false_iff.mpr fun q => ?_
    have e : D = tp := Value.ref.inj (beq_iff_eq.mp q)
    subst e
    unfold clsIn at hcD
    split at hcD
    · rename_i c' d' cd' sl' ho
      have z := (X _ _ ho).symm.trans htp
      cases z
    · cases hcD
  ca := fun X ⟨_, I⟩ k => mi_classE C X I k
end
end PySem.W
namespace Mi
open PySem PySem.Spec PyProof.Rows L2
/-- isinstance(e, c), e the caught error, of the class at D -/
def rXi (K : PySem.W.Frag) (cls : Value) (a : Addr) : List V → Hp → VK → Prop := fun xs H Q => ∃ (D : Addr) (c : V) (cv : Value) (b : Bool), cls = .ref D ∧ ExcC K D ∧ xs = [.ref a, c] ∧ ClsV c cv ∧ PySem.W.kitOne K (.ref D) cv = some b ∧ Q (.bl b) H
theorem call_xi {X : Cx} {a dd : Addr} {cls : Value} {oe : Obj} {pn : List (Addr × Obj)} (hz : Zc cls (some dd) oe) (hf : ∃ vs, oe.data = .fields vs) : CallR (X.suite a ((a, oe) :: pn)) (.builtin "isinstance") (fun xs H Q => (∃ fv, H dd = some (.xd fv)) ∧ rXi X.K cls a xs H Q) := by
  intro pins s σ H xs us Q I r h
  obtain ⟨⟨fv, hdd⟩, D, c, cv, b, ec, C, rfl, hcv, e, q⟩ := h
  subst ec
  obtain ⟨u1, u2, rfl, r1, r2⟩ := vals2 r
  cases r1
  have ec := hcv.eq r2
  subst ec
  obtain ⟨hget, _⟩ := I.pin (a, oe) (List.mem_append.mpr (.inl List.mem_cons_self))
  obtain ⟨vs, hv⟩ := hf
  have hx : ObjOk X.prog X.w H s.heap dd (.xd fv) := I.hok dd _ hdd
  obtain ⟨mA, ⟨od, es, ep, ho, _⟩, _⟩ := hx
  have J : PySem.W.InstAt s.heap a oe D (some od) := ⟨hget, hz.1, by unfold PySem.W.notCls; rw [hv] <;> rfl, by rw [hz.2]; exact ho⟩
  exact PySem.W.kia_one (PySem.W.mi_kitx C) I.kIn ⟨_, J⟩ e (fun z => nomatch z) fun tk => ⟨.bl b, H, I.kept (t' := tk) fun _ _ z => z, rfl, q⟩
theorem lookup_rel {K : PySem.W.Frag} {ρ : Rg} {H : Hp} {f : Str} {y : Dv} : ∀ {fv : List (Str × V)} {fs : List (Str × Dv)}, fv.map (·.1) = fs.map (·.1) → RvA K ρ H (fv.map (·.2)) (fs.map (·.2)) → fs.lookup f = some y → ∃ v, fv.lookup f = some v ∧ Rv K ρ H v y
  | [], [], _, _, h => by cases h
  | [], _ :: _, e, _, _ => by cases e
  | _ :: _, [], e, _, _ => by cases e
  | (n, v) :: fv, (n', d) :: fs, e, r, h => by
    have e1 : n = n' := (List.cons.inj e).1
    subst e1
    cases r with
    | cons h1 r1 =>
      rw [List.lookup_cons] at h ⊢
      cases q : f == n with
      | true =>
        rw [q] at h
        cases h
        exact ⟨v, rfl, h1⟩
      | false =>
        rw [q] at h
        exact lookup_rel (List.cons.inj e).2 r1 h
section
variable {G : Gx} {X : Cx}
abbrev Gx.sx (G : Gx) (dd : Addr) (fs : List (Str × Dv)) (i : Nat) (a : Addr) : Gx := { G with xc := some (dd, fs, i, a) }
theorem RS.sx {ρ : Rg} {H : Hp} {S : Sto} {dd a : Addr} {i : Nat} {fs : List (Str × Dv)} {fv : List (Str × V)} (r : RS G ρ H S) (h1 : H dd = some (.xd fv)) (h2 : Out ρ dd) (h3 : fv.map (·.1) = fs.map (·.1)) (h4 : RvA G.K ρ H (fv.map (·.2)) (fs.map (·.2))) : RS (G.sx dd fs i a) ρ H S :=
  ⟨r.len, r.nd, r.bt, r.ob, r.tab, fv, h1, h2, h3, h4⟩
theorem RS.unsx {ρ : Rg} {H : Hp} {S : Sto} {dd a : Addr} {i : Nat} {fs : List (Str × Dv)} (hx : G.xc = none) (r : RS (G.sx dd fs i a) ρ H S) : RS G ρ H S := ⟨r.len, r.nd, r.bt, r.ob, r.tab, by unfold Xok; rw [hx]; trivial⟩
/-- a suite's reading: the caught error is of a class that the clause takes -/
def tSx (G : Gx) (i : Nat) (cs : List Str) (h : Exn → SM) (a : Addr) (cls : Value) (d : Option Addr) : TS := fun D σ H => ∃ (x : Exn) (dd C : Addr), x.cls ∈ cs ∧ G.mg x.cls = some (.ref C) ∧ cls = .ref C ∧ d = some dd ∧
  ∃ ρ δ S, Cf (G.sx dd x.fs i a) ρ H σ δ S ∧ PostS (G.sx dd x.fs i a) W0 ρ H (h x δ S) D
/-- a suite, clause by clause of errors -/
theorem ss_of {i : Nat} {cs : List Str} {h : Exn → SM} {a : Addr} {cls : Value} {d : Option Addr} {X : Cx} {sts : List Stmt} (hs : ∀ (x : Exn) (dd C : Addr), x.cls ∈ cs → G.mg x.cls = some (.ref C) → cls = .ref C → d = some dd → PSs X sts (tS (G.sx dd x.fs i a) W0 (h x))) : PSs X sts (tSx G i cs h a cls d) :=
  ⟨fun pins s σ H D I q => by
    obtain ⟨x, dd, C, h1, h2, h3, h4, q⟩ := q
    exact (hs x dd C h1 h2 h3 h4).run pins s σ H D I q⟩
/-- e.f -/
theorem re_xf {a dd C : Addr} {oe : Obj} {cls : Value} {d : Option Addr} {pn : List (Addr × Obj)} {i : Nat} {n f c : Str} {x : Exn} {p pos : Pos} (hK : X.K = G.K) (hC : cls = .ref C) (hd : d = some dd) (T : x.cls = c → XfC X.K C ∧ PySem.W.findIn X.K (.ref C) f = some none)
    (hz : Zc cls d oe) (hf : ∃ vs, oe.data = .fields vs) (he : PE (X.suite a ((a, oe) :: pn)) (.Name n p) (tVar i)) (hb : attributeBase (.Name n p) f X.env (eval (.Name n p) X.env) = eval (.Name n p) X.env := by rfl) :
    PE (X.suite a ((a, oe) :: pn)) (.Attribute (.Name n p) f pos) (tE (G.sx dd x.fs i a) W0 (eXf x c f)) := by
  by_cases hc : x.cls = c
  · obtain ⟨T1, T2⟩ := T hc
    refine (pe_xf T1 T2 hz hf he hb).imp fun σ H Q q => ?_
    obtain ⟨ρ, δ, S, cf, p⟩ := q
    unfold eXf at p
    rw [if_pos hc] at p
    refine ⟨_, cf.xs _ rfl, rfl, hC, ?_⟩
    obtain ⟨fv, h1, h2, h3, h4⟩ := cf.rs.xok
    cases e : x.fs.lookup f with
    | none => rw [e] at p; exact p.elim
    | some y =>
      rw [e] at p
      obtain ⟨v, q1, q2⟩ := lookup_rel h3 h4 e
      exact ⟨dd, fv, v, hd, h1, q1, Post.pure p cf.rs q2⟩
  · refine ⟨fun pins s σ H Q I q => ?_⟩
    obtain ⟨ρ, δ, S, cf, p⟩ := q
    unfold eXf at p
    rw [if_neg hc] at p
    exact p.elim
/-- isinstance(e, c) -/
theorem re_xi {a dd C : Addr} {oe : Obj} {cls : Value} {d : Option Addr} {pn : List (Addr × Obj)} {i : Nat} {n y c : Str} {x : Exn} {b : Bool} {v : V} {cv : Value} {p p1 p2 pos : Pos} (hK : X.K = G.K) (hC : cls = .ref C) (hd : d = some dd) (T : x.cls = c → ExcC X.K C ∧ PySem.W.kitOne X.K (.ref C) cv = some b) (hv : ClsV v cv)
    (hz : Zc cls d oe) (hf : ∃ vs, oe.data = .fields vs) (he : PE (X.suite a ((a, oe) :: pn)) (.Name n p) (tVar i)) (hy : PE (X.suite a ((a, oe) :: pn)) (.Name y p1) (tC v)) (hg : Gl X "isinstance") (hm : X.mg "isinstance" = none)
    (hs : starEach [.Name n p, .Name y p1] X.env = (false, eval (.Name n p) X.env) :: starEach [.Name y p1] X.env := by rfl) (hs2 : starEach [.Name y p1] X.env = (false, eval (.Name y p1) X.env) :: starEach [] X.env := by rfl) (hpl : (backTo pos (starEach [.Name y p1] X.env)).any (·.1) = false := by rfl) :
    PE (X.suite a ((a, oe) :: pn)) (.Call (.Name "isinstance" p2) [.Name n p, .Name y p1] [] pos) (tE (G.sx dd x.fs i a) W0 (eXi x c b)) := by
  subst hd
  by_cases hc : x.cls = c
  · obtain ⟨T1, T2⟩ := T hc
    refine (pe_callB (X := X.suite a ((a, oe) :: pn)) (call_xi hz hf) hg hm (by decide +kernel) (pa_cons he (pa_cons hy pa_nil hs2) hs) (by decide) (by decide) hs hpl).imp fun σ H Q q => ?_
    obtain ⟨ρ, δ, S, cf, p⟩ := q
    unfold eXi at p
    rw [if_pos hc] at p
    obtain ⟨fv, h1, h2, h3, h4⟩ := cf.rs.xok
    exact ⟨_, cf.xs _ rfl, ⟨fv, h1⟩, C, v, cv, b, hC, T1, rfl, hv, T2, Post.pure p cf.rs (.bl b)⟩
  · refine ⟨fun pins s σ H Q I q => ?_⟩
    obtain ⟨ρ, δ, S, cf, p⟩ := q
    unfold eXi at p
    rw [if_neg hc] at p
    exact p.elim
theorem Cf.toX {ρ : Rg} {H : Hp} {σ : L2.St} {δ : En} {S : Sto} {dd a : Addr} {i : Nat} {fs : List (Str × Dv)} {fv : List (Str × V)} (c : Cf G ρ H σ δ S) (hi : i < σ.length) (h1 : H dd = some (.xd fv)) (h2 : Out ρ dd) (h3 : fv.map (·.1) = fs.map (·.1)) (h4 : RvA G.K ρ H (fv.map (·.2)) (fs.map (·.2))) :
    Cf (G.sx dd fs i a) ρ H (σ.set i (some (.ref a))) (δ.set i none) S :=
  ⟨c.rs.sx h1 h2 h3 h4, by simp [c.len], fun j d e => by
    by_cases hj : i = j
    · subst hj
      rw [List.getElem?_set_self (by rw [← c.len]; exact hi)] at e
      cases e
    · rw [List.getElem?_set_ne hj] at e ⊢
      exact c.sl j d e, fun q e => by cases e; exact List.getElem?_set_self hi⟩
theorem Cf.ofX {ρ : Rg} {H : Hp} {σ : L2.St} {δ : En} {S : Sto} {dd a : Addr} {i : Nat} {fs : List (Str × Dv)} (hx : G.xc = none) (c : Cf (G.sx dd fs i a) ρ H σ δ S) : Cf G ρ H (σ.set i none) (δ.set i none) S :=
  ⟨c.rs.unsx hx, by simp [c.len], fun j d e => by
    by_cases hj : i = j
    · subst hj
      by_cases hl : i < δ.length
      · rw [List.getElem?_set_self hl] at e
        cases e
      · rw [List.getElem?_eq_none (by rw [List.length_set]; omega)] at e
        cases e
    · rw [List.getElem?_set_ne hj] at e ⊢
      exact c.sl j d e, fun q e => by rw [hx] at e; cases e⟩
theorem rs_try {W : WX} {i : Nat} {n cx : Str} {c : Value} {all cs : List Str} {body suite : List Stmt} {b₀ : Stmt} {np pos pos' : Pos} {mb : SM} {h : Exn → SM} (hx : G.xc = none) (hK : X.K = G.K) (hs : X.stack = X.env :: X.outer) (hf : X.env.frame = some X.env.locals) (hN : X.N.Nodup) (hi : X.N[i]? = some n) (hln : X.env.kindOf n = some .local) (hc : Names X cx c) (tk : Takes X W)
    (hex : ∀ (y : Str) (C : Addr), y ∈ all → G.mg y = some (.ref C) → PySem.W.exmOne G.K (.ref C) c = some (decide (y ∈ cs)))
    (hb : ∀ (W : WX) (pn : List (Addr × Obj)) (xe : Value → Shared → Prop), Takes (X.tr pn xe) W → PassesOwn (model X.prog X.w) X.A X.env xe → PSs (X.tr pn xe) body (tS G W mb))
    (hsu : ∀ (a : Addr) (oe : Obj) (cls : Value) (d : Option Addr) (pn : List (Addr × Obj)), Zc cls d oe → (∃ vs, oe.data = .fields vs) → PSs (X.suite a ((a, oe) :: pn)) (b₀ :: suite) (tSx G i cs h a cls d)) :
    PS X (.Try body [.ExceptHandler (some (.Name cx np)) (some n) (b₀ :: suite) pos'] [] [] pos) (tS G W (sTry i all cs mb h)) :=
  ⟨fun pins s σ H D I q => (ps_try_as (tb := fun W => tS G W mb) (ts := tSx G i cs h) (Wout := W) hs hf hN hi hln hc tk hb hsu).run pins s σ H D I (by
    have hil : i < σ.length := by
      rw [I.len]
      exact (List.getElem?_eq_some_iff.mp hi).1
    obtain ⟨ρ, δ, S, cf, p⟩ := q
    refine ⟨ρ, δ, S, cf, ?_⟩
    unfold sTry at p
    cases e : mb δ S with
    | nx δ' S' => rw [e] at p; exact p
    | rt d S' => rw [e] at p; exact p
    | bk δ' S' => rw [e] at p; exact p
    | ct δ' S' => rw [e] at p; exact p
    | bad => rw [e] at p; exact p
    | ex x δ' S' =>
      rw [e] at p
      dsimp only at p
      intro cl dx σ' H' ρ' s1 c1 rx
      by_cases hall : x.cls ∈ all ∧ i < δ'.length
      · rw [if_pos hall] at p
        obtain ⟨hall, hl⟩ := hall
        obtain ⟨C, dd, fv, m1, rfl, rfl, h1, h2, h3, h4⟩ := rx
        refine ⟨decide (x.cls ∈ cs), by rw [hK]; exact hex _ _ hall m1, fun hy a ha => ?_, fun hn => ?_⟩
        · have hcs : x.cls ∈ cs := of_decide_eq_true hy
          rw [if_pos hcs] at p
          refine ⟨x, dd, C, hcs, m1, rfl, rfl, ρ', δ'.set i none, S', c1.toX (by rw [c1.len]; exact hl) h1 h2 h3 h4, ?_⟩
          cases e3 : h x (δ'.set i none) S' with
          | nx δ4 S4 =>
            rw [e3] at p
            exact fun σ4 H4 ρ4 s4 c4 => p _ H4 ρ4 (s1.trans s4) (c4.ofX hx)
          | bk δ4 S4 =>
            rw [e3] at p
            exact fun σ4 H4 ρ4 s4 c4 => p _ H4 ρ4 (s1.trans s4) (c4.ofX hx)
          | ct δ4 S4 =>
            rw [e3] at p
            exact fun σ4 H4 ρ4 s4 c4 => p _ H4 ρ4 (s1.trans s4) (c4.ofX hx)
          | rt d S4 =>
            rw [e3] at p
            exact fun v H4 ρ4 s4 r4 rv => p v H4 ρ4 (s1.trans s4) (r4.unsx hx) rv
          | ex y δ4 S4 =>
            rw [e3] at p
            exact p.elim
          | bad =>
            rw [e3] at p
            exact p.elim
        · rw [if_neg (of_decide_eq_false hn)] at p
          exact p _ _ σ' H' ρ' s1 c1 ⟨C, dd, fv, m1, rfl, rfl, h1, h2, h3, h4⟩
      · rw [if_neg hall] at p
        exact p.elim)⟩
end
end Mi
end T_Sim5
section T_Sim6
set_option Elab.async false
set_option linter.all false
set_option maxRecDepth 100000
set_option maxHeartbeats 4000000
namespace Mi
open PySem PySem.Spec PyProof.Rows L2 HT
section
variable {prog : Program} {w : World} {A : Around} {E : Value → Shared → Prop} {s : Shared}
theorem rev_adjust (n : Nat) : Builtin.Slice.sliceAdjust none none (-1) (n : Int) = ((n : Int) - 1, -1) := by
  unfold Builtin.Slice.sliceAdjust
  simp
theorem rev_places (n : Nat) : Builtin.Slice.slicePlaces ((n : Int) - 1) (-1) (-1) = n := by
  unfold Builtin.Slice.slicePlaces
  have h1 : ¬ ((-1 : Int) > 0) := by decide
  simp only [h1, if_false, show (- -1 : Int) = 1 by decide, Int.ediv_one]
  split <;> omega
theorem fm_map {α β : Type} {f : α → Option β} {g : α → β} : ∀ {l : List α}, (∀ m ∈ l, f m = some (g m)) → l.filterMap f = l.map g
  | [], _ => rfl
  | a :: l, h => by
    rw [List.filterMap_cons, h a (by simp), fm_map fun m hm => h m (List.mem_cons_of_mem _ hm)]
    rfl
theorem rev_pick (xs : Array Value) : ((List.range xs.size).filterMap fun (m : Nat) => xs[((xs.size : Int) - 1 + (m : Int) * (-1)).toNat]?).toArray = xs.toList.reverse.toArray := by
  congr 1
  apply List.ext_getElem?
  intro i
  have e : (List.range xs.size).filterMap (fun (m : Nat) => xs[((xs.size : Int) - 1 + (m : Int) * (-1)).toNat]?) = (List.range xs.size).map fun m => (xs[xs.size - 1 - m]?).getD .none := by
    refine fm_map fun m hm => ?_
    have := List.mem_range.mp hm
    have e2 : ((xs.size : Int) - 1 + (m : Int) * (-1)).toNat = xs.size - 1 - m := by omega
    rw [e2, Array.getElem?_eq_getElem (by omega)]
    rfl
  rw [e, List.getElem?_map]
  by_cases hi : i < xs.size
  · rw [List.getElem?_range hi, List.getElem?_reverse (by simpa using hi)]
    simp only [Option.map_some, Array.length_toList, Array.getElem?_toList]
    rw [Array.getElem?_eq_getElem (by omega)]
    rfl
  · rw [List.getElem?_eq_none (by simpa using hi), List.getElem?_eq_none (by simpa using hi)]
    rfl
theorem getItem_tuple_rev {t sl : Addr} {items : Array Value} {vl vu vs : Value} {Q : Value → Shared → Prop} (ht : IsTup s.heap t items) (hs : s.heap.IsSliceOf sl vl vu vs) (pl : IsPart vl none) (pu : IsPart vu none) (ps : IsPart vs (some (-1)))
    (h : Q (.ref s.heap.objs.size) { s with heap := s.heap.push { cls := .type "tuple", data := .seq items.toList.reverse.toArray } })
    (hsz : items.size ≤ sizeLine) : wpAny (model prog w) A (getItem (.ref t) (.ref sl)) Q E s := by
  have htake : sizeOk (.seq items.toList.reverse.toArray) := by
    show items.toList.reverse.toArray.size ≤ sizeLine
    simpa using hsz
  obtain ⟨os, hos, hcs, hds⟩ := id hs
  have hTs : s.TypeIs (.ref sl) "slice" := ⟨os, hos, hcs⟩
  unfold getItem
  try with_reducible refine wpAny_holding ?_
  first | refine wpAny_bind (wpAny_pure ?_) | skip
  refine wpAny_bind (wpAny_sequenceKey ht.typeIs (by decide) ?_)
  refine wpAny_bind (wpAny_callSpecial?_slot (name := Str.ofString "__getitem__") ht.typeIs PyProof.Rows.slot_tuple_getitem
    (wpAny_call_entry PyProof.Rows.slot_tuple_getitem ht.typeIs entry_tuple_getitem ?_ (args_tuple_getitem _ _)))
  show wpAny _ _ (Builtin.Tuple.tupleItemsOf (.ref t) >>= _) _ _ s
  refine wpAny_bind (tupleItemsOf_ ht ?_)
  refine wpAny_bind (wpAny_typeOf hTs ?_)
  rw [if_pos (by decide)]
  have ap : ∀ {Q : Int × Int × Nat → Shared → Prop}, Q ((items.size : Int) - 1, -1, items.size) s → wpAny (model prog w) A.in1 (Builtin.Slice.sliceApplied (.ref sl) (pure (items.size : Int))) Q E s := by
    intro Q h
    unfold Builtin.Slice.sliceApplied Builtin.Slice.sliceFields
    refine wpAny_bind (wpAny_bind (wpAny_field hos hds (x := vl) rfl (wpAny_bind (wpAny_field hos hds (x := vu) rfl (wpAny_bind (wpAny_field hos hds (x := vs) rfl (wpAny_pure ?_)))))))
    refine wpAny_bind (slicePart_ ps ?_)
    show wpAny _ _ (if ((-1 : Int) == 0) = true then _ else _) _ _ s
    rw [if_neg (by decide)]
    refine wpAny_bind (slicePart_ pl (wpAny_bind (slicePart_ pu (wpAny_bind (wpAny_pure ?_)))))
    show wpAny _ _ (match Builtin.Slice.sliceAdjust none none (-1) (items.size : Int) with | (lo, hi) => pure (lo, (-1 : Int), Builtin.Slice.slicePlaces lo hi (-1))) _ _ s
    rw [rev_adjust]
    show wpAny _ _ (pure ((items.size : Int) - 1, (-1 : Int), Builtin.Slice.slicePlaces ((items.size : Int) - 1) (-1) (-1))) _ _ s
    rw [rev_places]
    exact wpAny_pure h
  refine wpAny_bind (ap ?_)
  have hno : ¬ ((((items.size : Int) - 1) == 0 && (-1 : Int) == 1 && items.size == items.size) = true) := by simp
  show wpAny _ _ (if (((items.size : Int) - 1) == 0 && (-1 : Int) == 1 && items.size == items.size) = true then _ else _) _ _ s
  rw [if_neg hno, rev_pick]
  first
    | exact wpAny_bind (m := Builtin.Tuple.tupleExact _) (wpAny_newObj_type (wpAny_pure ⟨_, rfl, wpAny_pure h⟩) htake)
    | exact wpAny_bind (m := Builtin.Tuple.tupleExact _) (wpAny_newObj_type (wpAny_bind (wpAny_pure (wpAny_pure ⟨_, rfl, wpAny_pure h⟩))) htake)
    | exact wpAny_bind (wpAny_bind (m := Builtin.Tuple.tupleExact _) (wpAny_newObj_type (wpAny_pure (wpAny_pure ⟨_, rfl, wpAny_pure h⟩)) htake))
    | exact wpAny_bind (wpAny_bind (m := Builtin.Tuple.tupleExact _) (wpAny_newObj_type (wpAny_pure ⟨_, rfl, wpAny_pure h⟩) htake))
end
section
variable {X : Cx} {G : Gx} {W : WX}
def tRevA (K : PySem.W.Frag) (te : TE) : TE := fun σ H Q => te σ H fun x H1 => ∃ a xs, x = .ref a ∧ ((SqL K H1 a xs ∧ ∀ p, H1 p = none → Q (.ref p) (upd H1 p (.lst xs.reverse))) ∨ (SqT K H1 a xs ∧ ∀ p, H1 p = none → Q (.ref p) (upd H1 p (.tup xs.reverse))))
theorem pe_revA {e : Expr} {te : TE} {k : Nat} {p1 p2 p3 pos : Pos} (he : PE X e te) : PE X (.Subscript e (.Slice none none (some (.UnaryOp .USub (.Constant (.int 1) k p1) p2)) p3) pos) (tRevA X.K te) := by
  refine ⟨fun pins s σ H Q I h => ?_⟩
  refine Subscript_ (thn (he.run pins s σ H _ I h) fun v s1 ⟨x, H1, I1, r1, q1⟩ => ?_)
  obtain ⟨a, xs, ex, q⟩ := q1
  subst ex
  cases r1
  have hst : PO X (some (.UnaryOp .USub (.Constant (.int 1) k p1) p2)) (tPart (tUn (rU fun i => .int (-i)) (tC (.int 1)))) := po_some (pe_un un_neg pe_int)
  refine wpAny_Slice (thn (po_none.run pins s1 σ H1 (fun o H2 => o = none ∧ H2 = H1) I1 ⟨rfl, rfl⟩) fun vl s2 ⟨l, H2, I2, pl, el, e2⟩ => ?_)
  subst el e2
  refine thn (po_none.run pins s2 σ H2 (fun o H3 => o = none ∧ H3 = H2) I2 ⟨rfl, rfl⟩) fun vu s3 ⟨u, H3, I3, pu, eu, e3⟩ => ?_
  subst eu e3
  refine thn (hst.run pins s3 σ H3 (fun o H4 => o = some (-1) ∧ H4 = H3) I3 ⟨1, rfl, -1, rfl, rfl, rfl⟩) fun vs s4 ⟨o, H4, I4, ps, eo, e4⟩ => ?_
  subst eo e4
  have I5 : Inv X pins σ H4 { s4 with heap := s4.heap.push { cls := .type "slice", data := .fields #[vl, vu, vs] } } := I4.kept (t' := s4.toks) fun b ob q => Heap.get?_push_of_some _ q
  show wpAny (model X.prog X.w) X.A (subscriptTail e (.Slice none none (some (.UnaryOp .USub (.Constant (.int 1) k p1) p2)) p3) (.ref a) (.ref s4.heap.objs.size)) (EP X pins σ Q) X.xe { s4 with heap := s4.heap.push { cls := .type "slice", data := .fields #[vl, vu, vs] } }
  rcases q with ⟨hx, q⟩ | ⟨hx, q⟩
  · obtain ⟨its, r, ht, hz⟩ := I5.list hx
    have hlen := r.length
    refine tail_any (ops := [.ref a, .ref s4.heap.objs.size]) ht.isList.typeIs (PySem.slot_list_getitem.lookup) ?_ (by with_unfolding_all rfl)
    refine wpAny_getItem_list_slice ht.isList (Heap.IsSliceOf.new _ vl vu vs) pl pu ps (by decide) ?_ (by rw [List.size_toArray]; omega)
    rw [PySem.W.krv_pick]
    refine ⟨.ref _, _, I5.laid (t' := s4.toks) (o := .lst xs.reverse) (fun b ob q => Heap.get?_push_of_some _ q) (Nat.le_refl _) ?_, rfl, q _ (I5.hok.fresh (Nat.le_refl _))⟩
    exact ⟨by rw [List.length_reverse]; exact hz, _, 0, r.reverse, Heap.get?_push_size _ rfl⟩
  · obtain ⟨its, r, ht, hz⟩ := I5.tuple hx
    have hlen := r.length
    refine tail_any (ops := [.ref a, .ref s4.heap.objs.size]) ht.typeIs (PyProof.Rows.slot_tuple_getitem.lookup) ?_ (by with_unfolding_all rfl)
    refine getItem_tuple_rev ht (Heap.IsSliceOf.new _ vl vu vs) pl pu ps ?_ (by rw [List.size_toArray]; omega)
    refine ⟨.ref _, _, I5.laid (t' := s4.toks) (o := .tup xs.reverse) (fun b ob q => Heap.get?_push_of_some _ q) (Nat.le_refl _) ?_, rfl, q _ (I5.hok.fresh (Nat.le_refl _))⟩
    exact ⟨by rw [List.length_reverse]; exact hz, _, r.reverse, ⟨_, Heap.get?_push_size _ rfl, rfl, _, rfl⟩⟩
def mRev (d : Dv) : M Dv := fun S => match d with
  | .tup xs => .ok (.tup xs.reverse) S
  | d => match asC S d with
    | some xs => .ok (.lst xs.reverse) S
    | none => .bad
theorem re_rev {e : Expr} {me : EX} {k : Nat} {p1 p2 p3 pos : Pos} (hK : X.K = G.K) (h : PE X e (tE G W me)) : PE X (.Subscript e (.Slice none none (some (.UnaryOp .USub (.Constant (.int 1) k p1) p2)) p3) pos) (tE G W (e1 mRev me)) := (pe_revA h).imp fun σ H Q q => by
  obtain ⟨ρ, δ, S, cf, p⟩ := q
  refine ⟨ρ, δ, S, cf, (Post.bind p).mono fun x H1 ⟨ρ1, S1, d, s1, rs1, rx, p1⟩ => ?_⟩
  unfold mRev at p1
  split at p1
  · cases rx with
    | @tup a vs _ h r => exact ⟨a, vs, rfl, .inr ⟨by rw [hK]; exact h.sq, fun u hu => p1.newT rs1 r.rev hu⟩⟩
  · split at p1
    · rename_i xs e1
      obtain ⟨a, vs, rfl, h, r⟩ := asC_ok rs1 rx e1
      exact ⟨a, vs, rfl, .inl ⟨by rw [hK]; exact h, fun u hu => p1.newL rs1 r.rev hu⟩⟩
    · exact p1.elim
end
end Mi
end T_Sim6
section T_Sim7
set_option Elab.async false
set_option linter.all false
set_option maxRecDepth 100000
set_option maxHeartbeats 4000000
namespace PySem
open AutoSeq1 (wpAny_loadPart')
theorem mi_enumerate_newT (l : Addr) (items : Array Value) (n : Nat) (dct : Option Addr) (sl : Array (Option Value)) :
    Meets (Builtin.«enumerate.__new__» ⟨[.type "enumerate", .ref l], []⟩) (fun _ R s => s.heap.get? l = some { cls := .type "tuple", dict := dct, data := .seq items n, slots := sl } ∧
      R (.ok (.ret (.ref (s.heap.push { cls := .type "tuple_iterator", data := .fields #[.ref l, .int 0 0] }).objs.size)))
        { s with heap := (s.heap.push { cls := .type "tuple_iterator", data := .fields #[.ref l, .int 0 0] }).push { cls := .type "enumerate", data := .fields #[.none, .bool false, .ref s.heap.objs.size, rawInt 0, .none, .none] } }) :=
  .of_wp fun prog w A R s h => by
    obtain ⟨hp, g, d, tk, os⟩ := s; obtain ⟨hl, h⟩ := h
    have hsub := sub_enumerate
    have hL : Heap.IsTuple (Shared.heap ⟨hp, g, d, tk, os⟩) l items := ⟨_, hl, rfl, n, rfl⟩
    wp_walk using wpAny_loadPart' hl
    refine wpAny_stack_any fun st => wpAny_pure ?_
    split
    · rename_i c _ _ _ _ _
      cases (c == Value.type "enumerate")
      · wp_walk using wpAny_loadPart' hl, wpAny_pyIter_tuple hL
        exact ⟨_, rfl, h⟩
      · wp_walk using wpAny_loadPart' hl, wpAny_pyIter_tuple hL
        exact ⟨_, rfl, h⟩
    · wp_walk using wpAny_loadPart' hl, wpAny_pyIter_tuple hL
      exact ⟨_, rfl, h⟩
theorem mi_enumerate_tuple {prog : Program} {w : World} {A : Around} {E : Value → Shared → Prop} {s : Shared} {l : Addr} {items : Array Value} {Q : Value → Shared → Prop} (hL : s.heap.IsTuple l items)
    (h : ∀ h', IsEnum h' (s.heap.objs.size + 1) s.heap.objs.size 0 .none → h'.IsTupleIter s.heap.objs.size l 0 → h'.objs.size = s.heap.objs.size + 2 →
      (∀ b o, s.heap.get? b = some o → h'.get? b = some o) → Q (.ref (s.heap.objs.size + 1)) { s with heap := h' }) :
    wpAny (model prog w) A (call (.type "enumerate") [.ref l]) Q E s := by
  obtain ⟨⟨c, dct, dt, sl⟩, hl, hc, n, hd⟩ := hL
  replace hc : c = .type "tuple" := hc
  replace hd : dt = .seq items n := hd
  subst hc hd
  refine callType_new F.called_enumerate (by decide) (F.typeCall_enumerate_1 _) (F.newCall_enumerate_1 _) (fun obj => F.args_object_init_2 obj _) F.entry_enumerate_new
    (mi_enumerate_newT l items n dct sl) ⟨hl, ?_⟩
  have hz : (s.heap.push { cls := .type "tuple_iterator", data := .fields #[.ref l, .int 0 0] }).objs.size = s.heap.objs.size + 1 := Heap.size_push ..
  show _ ∧ _
  rw [hz]
  have he : IsEnum ((s.heap.push { cls := .type "tuple_iterator", data := .fields #[.ref l, .int 0 0] }).push
      { cls := .type "enumerate", data := .fields #[.none, .bool false, .ref s.heap.objs.size, rawInt 0, .none, .none] }) (s.heap.objs.size + 1) s.heap.objs.size 0 .none := by
    have := Heap.get?_push_size (s.heap.push { cls := .type "tuple_iterator", data := .fields #[.ref l, .int 0 0] })
      (o := { cls := .type "enumerate", data := .fields #[.none, .bool false, .ref s.heap.objs.size, rawInt 0, .none, .none] }) rfl
    rw [hz] at this; exact this
  refine ⟨⟨_, he, rfl⟩, h _ he ⟨_, Heap.get?_push_of_some _ (Heap.get?_push_size _ rfl), rfl, rfl⟩ (by rw [Heap.size_push, hz]) fun b o x => Heap.get?_push_of_some _ (Heap.get?_push_of_some _ x)⟩
end PySem
namespace Mi
open PySem PySem.Spec PyProof.Rows L2 HT
/-- the tuple at a, each item in a new pair -/
def IteT (K : PySem.W.Frag) (a : Addr) : It :=
  ⟨fun i H => ∃ (xs : List V) (x : V), SqT K H a xs ∧ xs[i]? = some x, fun i H v H' => ∃ T x, v = .ref T ∧ H T = none ∧ H' = upd H T (.tup [.int (i : Nat), x]) ∧ ∀ xs, SqT K H a xs → xs[i]? = some x, fun i H => ∃ xs : List V, SqT K H a xs ∧ xs.length ≤ i⟩
theorem turn_enumT {P : Program} {w : World} {K : PySem.W.Frag} {elts : List Expr} {kk : Nat} {tpos : Pos} (a e it : Addr) :
    Turn P w K (.Tuple elts kk tpos) (IteT K a) [e, it] e (fun i h => (∃ old, IsEnum h e it ((i : Nat) : Int) old) ∧ h.IsTupleIter it a i ∧ e ≠ it ∧ a ≠ it ∧ e ≠ a) where
  mem := by simp
  obj := fun i h st b hb => by
    obtain ⟨⟨old, he⟩, ⟨o, ho, hc, hd⟩, _⟩ := st
    have e' : b = e ∨ b = it := by simpa using hb
    rcases e' with z | z
    · rw [z]; exact ⟨_, he, fun v q => nomatch q⟩
    · rw [z]; exact ⟨o, ho, fun v q => by rw [hd] at q; cases q⟩
  keep := fun i h h' st k => let ⟨⟨old, he⟩, hi, hne⟩ := st; ⟨⟨old, k e (by simp) _ he⟩, hi.at fun o q => k it (by simp) o q, hne⟩
  item := by
    intro X hP hw hK hc i pins s σ H E I hf st hg
    subst hP hw hK
    obtain ⟨⟨old, he⟩, hit, hne, hai, hea⟩ := st
    obtain ⟨xs, x, hq, hx⟩ := hg
    obtain ⟨its, rv, p, hz⟩ := I.tuple hq
    obtain ⟨u, hu, ru⟩ := rv.get hx
    have p' : s.heap.IsTuple a its.toArray := p
    have hel : e < s.heap.objs.size := Heap.lt_size he
    have hil : it < s.heap.objs.size := by obtain ⟨_, q, _⟩ := hit; exact Heap.lt_size q
    have hun : its.toArray[i]? = some u := by simpa using hu
    have hlt : i < its.toArray.size := (Array.getElem?_eq_some_iff.mp hun).1
    refine wpAny_pyNext_enum_itemD (Draws.tuple (prog := X.prog) (w := X.w) (A := X.A.in1) (I.ok.hd hc) it a hai its.toArray) he ⟨hit, p'⟩ hlt hne (by
      intro hm
      rcases List.mem_cons.mp hm with z | hm
      · exact hne z
      · exact hea (List.mem_singleton.mp hm)) fun x' h' tk hP ho hst' hT hsz hk => ?_
    have ex : x' = u := by
      have z : its.toArray[i]? = some x' := hP
      rw [hun] at z
      exact (Option.some.inj z).symm
    subst ex
    refine ⟨_, rfl, wpAny_letOwnedTupleGo_enum (s := { s with heap := h', toks := tk + 1 }) ho fun h'' he' sb => ?_⟩
    have hT2 : h''.get? s.heap.objs.size = some { cls := .type "tuple", data := .seq #[.int i tk, x'] } := (sb.2 _ (Nat.ne_of_gt hel)).trans hT
    have new : ObjOk X.prog X.w (upd H s.heap.objs.size (.tup [.int (i : Nat), x])) h'' s.heap.objs.size (.tup [.int (i : Nat), x]) :=
      ⟨by show 2 ≤ sizeLine; decide, [.int i tk, x'], .cons ⟨_, rfl⟩ (.cons ru .nil), ⟨_, hT2, rfl, _, rfl⟩⟩
    have I1 : Inv X pins σ (upd H s.heap.objs.size (.tup [.int (i : Nat), x])) { s with heap := h'', toks := tk + 1 } :=
      I.turnedNew (ch := [e, it]) (fun b ob hb q => (sb.2 b (fun z => hb (by simp [z]))).trans (hk b ob (fun z => hb (by simp [z])) (fun z => hb (by simp [z])) q)) hf (Nat.le_refl _) new
    refine ⟨.ref s.heap.objs.size, _, I1, rfl, ⟨_, x, rfl, I.hok.fresh (Nat.le_refl _), rfl, fun ys hy => by rw [I.tuple_inj hy hq]; exact hx⟩, ⟨⟨x', ?_⟩, hst'.1.at fun o q => (sb.2 it (Ne.symm hne)).trans q, hne, hai, hea⟩, fun b hb => ?_⟩
    · have e1 : ((i + 1 : Nat) : Int) = (i : Int) + 1 := by omega
      rw [e1]; exact he'
    · have hb' : b < s.heap.objs.size := by
        have e' : b = e ∨ b = it := by simpa using hb
        rcases e' with z | z
        · rw [z]; exact hel
        · rw [z]; exact hil
      rw [upd_ne (Nat.ne_of_lt hb')]
      exact (hf b hb).1
  done := by
    intro X hP hw hK hc i pins s σ H E I hf st hg
    subst hP hw hK
    obtain ⟨⟨old, he⟩, hit, hne, hai, hea⟩ := st
    obtain ⟨xs, hq, hx⟩ := hg
    obtain ⟨its, rv, p, hz⟩ := I.tuple hq
    have p' : s.heap.IsTuple a its.toArray := p
    obtain ⟨f0, f1, f2, f3, f4, f5⟩ := hf it (by simp)
    have hl := rv.length
    have hT : s.TypeIs (.ref e) "enumerate" := ⟨_, he, rfl⟩
    unfold pyNext
    refine wpAny_bind (wpAny_attempt (wpAny_callSpecial?_slot (name := Str.ofString "__next__") hT F.slot_enumerate_next
      (wpAny_call_entry F.slot_enumerate_next hT F.entry_enumerate_next ?_ (F.args_enumerate_next_1 _))))
    show wpAny _ _ (field (.ref e) 2 >>= _) _ _ _
    refine wpAny_bind (wpAny_field he rfl (x := .ref it) rfl ?_)
    refine wpAny_bind (wpAny_nextOf_tuple_end (I.ok.hd hc) hit p' (by simp; omega) fun h' x he' hx' => ?_)
    obtain ⟨o, ho, hcl⟩ := hx'
    refine wpAny_bind (wpAny_isInstance (T := "StopIteration") (b := true) ⟨o, ho, hcl⟩ isSubtype_stop ?_)
    exact wpAny_pure ⟨rfl, I.turned (t' := s.toks) (fun b o hb q => he' b o hb q) f0 f1 f3 f4 f5⟩
  self := fun A i s Q E st h => let ⟨⟨_, he⟩, _⟩ := st; wpAny_pyIter_enum he h
def iEnumT (K : PySem.W.Frag) (ta : TA) : TI := fun σ H R => ta σ H fun vs H1 => ∃ a xs, vs = [.ref a] ∧ SqT K H1 a xs ∧ R (IteT K a) H1
theorem pi_enumT {X : Cx} {e : Expr} {ta : TA} {p pos tpos : Pos} {elts : List Expr} {kk : Nat} (hg : Gl X "enumerate") (hm : X.mg "enumerate" = none) (ha : PA X [e] ta) (hs : starEach [e] X.env = [(false, eval e X.env)] := by rfl) :
    PI X (.Tuple elts kk tpos) (.Call (.Name "enumerate" p) [e] [] pos) (iEnumT X.K ta) := by
  refine ⟨fun pins s σ H R I h => ?_⟩
  refine Call_ (ld_blt I hg hm boot_enumerate (PyProof.Rows.callWith_type1 (thn (ha.run pos pins s σ H _ I h) fun us s1 ⟨vs, H1, I1, r1, q1⟩ => ?_) hs rfl))
  obtain ⟨a, xs, ex, hq, q⟩ := q1
  subst ex
  cases r1 with
  | cons r rr =>
    cases rr
    cases r
    obtain ⟨its, rv, p', hz⟩ := I1.tuple hq
    have hal : a < s1.heap.objs.size := by
      obtain ⟨o, ho, _⟩ := p'
      exact Heap.lt_size ho
    refine mi_enumerate_tuple (show s1.heap.IsTuple a its.toArray from p') fun h' he hit hsz hk => wpAny_pyIter_enum he ?_
    have I2 : Inv X pins σ H1 { s1 with heap := h' } := I1.kept (t' := s1.toks) hk
    refine ⟨s1.heap.objs.size + 1, [s1.heap.objs.size + 1, s1.heap.objs.size], _, _, H1, rfl, I2, turn_enumT a (s1.heap.objs.size + 1) s1.heap.objs.size, ⟨⟨.none, he⟩, hit, Nat.succ_ne_self _, Nat.ne_of_lt hal, Nat.ne_of_gt (Nat.lt_succ_of_lt hal)⟩, fun b hb => ?_, q⟩
    have e' : b = s1.heap.objs.size + 1 ∨ b = s1.heap.objs.size := by simpa using hb
    have hle : s1.heap.objs.size ≤ b := by
      rcases e' with z | z
      · rw [z]; exact Nat.le_succ _
      · rw [z]; exact Nat.le_refl _
    exact I1.fpOk hle (I1.hok.fresh hle)
section
variable {X : Cx} {G : Gx} {W : WX}
def enumD (ds : List Dv) : List Dv := ds.mapIdx fun i d => .tup [.int (i : Nat), d]
def mEnum (ds : List Dv) : M (List Dv) := fun S => match ds with
  | [.tup xs] => .ok (enumD xs) S
  | [.lst xs] => .ok (enumD xs) S
  | [.con xs] => .ok (enumD xs) S
  | _ => .bad
def iEnum (a : EA) : EA := fun δ => (a δ).bind mEnum
theorem enumD_get {ds : List Dv} {i : Nat} {d : Dv} (h : (enumD ds)[i]? = some d) : ∃ y, ds[i]? = some y ∧ d = .tup [.int (i : Nat), y] := by
  unfold enumD at h
  rw [List.getElem?_mapIdx] at h
  cases e : ds[i]? with
  | none => rw [e] at h; cases h
  | some y =>
    rw [e] at h
    cases h
    exact ⟨y, rfl, rfl⟩
theorem itok_eT {ρ : Rg} {H : Hp} {a : Addr} {vs : List V} {ds : List Dv} (h : StT G.K ρ H a vs) (r : RvA G.K ρ H vs ds) : ItOk G ρ H (IteT G.K a) (enumD ds) where
  go := fun ρ1 H1 S1 i d s rs e => by
    obtain ⟨y, e1, rfl⟩ := enumD_get e
    obtain ⟨v, h1, h2⟩ := (r.stepB s).get e1
    have q := (h.stepB s).sq
    exact ⟨⟨vs, v, q, h1⟩, fun x H2 ⟨T, z, e1, e2, e3, e4⟩ => by
      subst e1 e3
      have e5 := (e4 vs q).symm.trans h1
      cases e5
      exact ⟨Stp.new e2, rs.new e2, .tup ⟨upd_same, rs.nin e2⟩ (.cons (.int _) (.cons (h2.step (Stp.new e2)) .nil))⟩⟩
  stop := fun ρ1 H1 s => ⟨vs, (h.stepB s).sq, by rw [r.length]; simp [enumD]⟩
theorem itok_eL {ρ : Rg} {H : Hp} {a : Addr} {vs : List V} {ds : List Dv} (h : StL G.K ρ H a vs) (r : RvA G.K ρ H vs ds) : ItOk G ρ H (Ite G.K a) (enumD ds) where
  go := fun ρ1 H1 S1 i d s rs e => by
    obtain ⟨y, e1, rfl⟩ := enumD_get e
    obtain ⟨v, h1, h2⟩ := (r.stepB s).get e1
    have q := (h.stepB s).sq
    exact ⟨⟨vs, v, q, h1⟩, fun x H2 ⟨T, z, e1, e2, e3, e4⟩ => by
      subst e1 e3
      have e5 := (e4 vs q).symm.trans h1
      cases e5
      exact ⟨Stp.new e2, rs.new e2, .tup ⟨upd_same, rs.nin e2⟩ (.cons (.int _) (.cons (h2.step (Stp.new e2)) .nil))⟩⟩
  stop := fun ρ1 H1 s => ⟨vs, (h.stepB s).sq, by rw [r.length]; simp [enumD]⟩
theorem ri_enum {e : Expr} {mr : EA} {p pos tpos : Pos} {elts : List Expr} {kk : Nat} (hK : X.K = G.K) (hg : Gl X "enumerate") (hm : X.mg "enumerate" = none) (ha : PA X [e] (tA G W mr)) (hs : starEach [e] X.env = [(false, eval e X.env)] := by rfl) :
    PI X (.Tuple elts kk tpos) (.Call (.Name "enumerate" p) [e] [] pos) (tI G W (iEnum mr)) := ((pi_enum (tpos := tpos) (elts := elts) (kk := kk) (p := p) (pos := pos) hg hm ha hs).or (pi_enumT hg hm ha hs)).imp fun σ H R q => by
  obtain ⟨ρ, δ, S, cf, p⟩ := q
  have p2 := Post.bind (rel := ar G) p
  cases ed : mr δ S with
  | bad => rw [ed] at p2; exact p2.elim
  | ex x S1 =>
    rw [ed] at p2
    exact .inl ⟨ρ, δ, S, cf, by rw [ed]; exact p2⟩
  | ok ds S1 =>
    have pd : Post G W σ (ir G) ρ H (mEnum ds S1) R := by
      unfold iEnum M.bind at p
      rw [ed] at p
      exact p
    unfold mEnum at pd
    split at pd
    · refine .inr ⟨ρ, δ, S, cf, ?_⟩
      rw [ed]
      intro v H1 ρ1 s1 rs1 rv
      obtain ⟨v2, rfl, rv2⟩ := rv.one
      cases rv2 with
      | @tup a vs _ ht hr =>
        refine ⟨a, vs, rfl, by rw [hK]; exact ht.sq, ?_⟩
        rw [hK]
        exact pd _ H1 ρ1 s1 rs1 (itok_eT ht hr)
    · refine .inl ⟨ρ, δ, S, cf, ?_⟩
      rw [ed]
      intro v H1 ρ1 s1 rs1 rv
      obtain ⟨v2, rfl, rv2⟩ := rv.one
      cases rv2 with
      | @lst a vs _ ht0 hn hr =>
        have ht : StL G.K ρ1 H1 a vs := .inl ⟨.inl ht0, hn⟩
        refine ⟨a, vs, rfl, by rw [hK]; exact ht.sq, ?_⟩
        rw [hK]
        exact pd _ H1 ρ1 s1 rs1 (itok_eL ht hr)
    · refine .inl ⟨ρ, δ, S, cf, ?_⟩
      rw [ed]
      intro v H1 ρ1 s1 rs1 rv
      obtain ⟨v2, rfl, rv2⟩ := rv.one
      cases rv2 with
      | @con a vs _ ht hr =>
        refine ⟨a, vs, rfl, by rw [hK]; exact ht.sq, ?_⟩
        rw [hK]
        exact pd _ H1 ρ1 s1 rs1 (itok_eL ht hr)
    · exact pd.elim
end
end Mi
end T_Sim7
section T_Grd
set_option Elab.async false
set_option linter.all false
set_option maxRecDepth 100000
set_option maxHeartbeats 4000000
/-! Grd: promises of defs that may call repr: where nothing is being shown around the call. -/
namespace Mi
open PySem PySem.Spec PyProof.Rows L2
/-- a def's promise, where no repr runs around it -/
structure FnG (P : Program) (w : World) (K : PySem.W.Frag) (mg : Str → Option Value) (base : Heap) (k : Nat) (f : Addr) (fd : FuncData) (ps : List Str) (sp : Sp) : Prop where
  len : ∀ vs H Q E, sp vs H Q E → vs.length = ps.length
  run : ∀ (A : Around), A.guards = some [] → Room k A → ∀ (outer : List Env) (s : Shared) (H : Hp) (args : Args) (us : List Value) (vs : List V) (Q : VK) (E : XK), Env0 P w K mg base A outer s H → BindsTo s fd args (ps.zip us) → Vals vs us → sp vs H Q E →
    codeAny (model P w) A (.call (.ref f) args) (CR (L2.CX P w) outer P w H s Q E) s
theorem FnG.mono {P : Program} {w : World} {K : PySem.W.Frag} {mg : Str → Option Value} {base : Heap} {j k : Nat} {f : Addr} {fd : FuncData} {ps : List Str} {sp : Sp} (F : FnG P w K mg base j f fd ps sp) (h : j ≤ k) : FnG P w K mg base k f fd ps sp :=
  ⟨F.len, fun A hg hr => F.run A hg (hr.mono h)⟩
theorem guards_deeper {A : Around} {env : Env} (h : A.guards = some []) : (A.deeper env).guards = some [] := h
section
variable {P : Program} {w : World} {K : PySem.W.Frag} {mg : Str → Option Value} {base : Heap} {x qual : Str} {params : Arguments} {body : List Stmt} {scope : Scope} {f : Addr} {fd : FuncData}
theorem okG {N ps : List Str} {k : Nat} {sp : Sp} (F : FunD K x qual params body scope [] [] f fd) (Sc : FnScope N ps scope) (len : ∀ vs H Q E, sp vs H Q E → vs.length = ps.length)
    (hbody : ∀ (cdv : Value) (A : Around) (outer : List Env) (s : Shared) (H : Hp) (vs : List V) (Q : VK) (E : XK), A.guards = some [] → Room k (A.deeper (envOfC qual scope s.heap.objs.size f cdv)) → sp vs H Q E →
      ∃ t, PSs (dcx P w K mg base N qual scope f cdv A outer s H E) body t ∧ t { nx := fun _ H' => Q .non H', rt := Q } (start N vs) H) : FnG P w K mg base (k + 1) f fd ps sp := by
  obtain ⟨oc, od, dV, kV, doc, pm, an, cdv, ct, osl, rfl, lk, hcd, _, _⟩ := F.ex
  refine ⟨len, fun A hgd hr outer s H args us vs Q E e0 hb r hsp => ?_⟩
  have KX : K.In s.heap := e0.mod.kin.keeps fun b o e => (e0.bs b o e).1
  have nl : s.heap.NoLimit := e0.mod.nolimit.keeps fun b o e => (e0.bs b o e).1
  refine codeAny_call_function hr.depth (KX _ _ lk) rfl Sc.co Sc.gen rfl (PySem.W.codeRec_of KX hcd) (hb _ _ _ _ ?_)
  refine wpAny_newFunctionEnv_cells Sc.kind (fun ⟨n, v⟩ hy => (Sc.par n (List.of_mem_zip hy).1).elim .inl fun q => .inr ⟨q, PySem.W.cellsFrom_some _ _ _ (.inl q)⟩) fun env he s1 x => ?_
  subst he
  refine ⟨nl.keeps x.toInCall.keep, codeAny_func ?_⟩
  obtain ⟨t, ht, hq⟩ := hbody cdv A outer s H vs Q E hgd (hr.deeper _) hsp
  refine wpAny_mono (ht.run [] s1 (start N vs) H _ (inv_start Sc hr.hd e0 (len _ _ _ _ hsp) r x) hq) (fun fl s' hs => ?_) fun e s' hs => hs
  match fl, hs with
  | .ret u, ⟨v, σ', H', J, rv, q⟩ => exact ⟨v, H', J.os, J.bare, J.base, J.hok, rv, q⟩
  | .next, ⟨σ', H', J, q⟩ => exact ⟨V.non, H', J.os, J.bare, J.base, J.hok, rfl, q⟩
  | .brk, ⟨_, _, _, q⟩ => exact q.elim
  | .cont, ⟨_, _, _, q⟩ => exact q.elim
/-- a def does what its mirror does -/
theorem ok_defG {N ps : List Str} {k : Nat} {m : SM} {T : List (Addr × Str)} (F : FunD K x qual params body scope [] [] f fd) (Sc : FnScope N ps scope)
    (hb : ∀ (cdv : Value) (A : Around) (outer : List Env) (s : Shared) (H : Hp) (E : XK), A.guards = some [] → Room k (A.deeper (envOfC qual scope s.heap.objs.size f cdv)) → PSs (dcx P w K mg base N qual scope f cdv A outer s H E) body (tS ⟨K, mg, T, none⟩ (fun c dx _ H' => E c dx H') m)) :
    FnG P w K mg base (k + 1) f fd ps (spM ⟨K, mg, T, none⟩ ps.length (fnOf ps.length N.length m)) := by
  refine okG F Sc (fun vs H Q E ⟨_, _, _, hl, _⟩ => hl) (fun cdv A outer s H vs Q E hgd hr h => ⟨_, hb cdv A outer s H E hgd hr, ?_⟩)
  obtain ⟨ρ, S, ds, hl, r, rs, p⟩ := h
  have el2 : ds.length = ps.length := by rw [← r.length, hl]
  refine ⟨ρ, _, S, startD rs r rfl, ?_⟩
  unfold fnOf at p
  rw [if_pos el2, ← el2] at p
  cases e : m (ds.map some ++ List.replicate (N.length - ds.length) none) S with
  | nx δ' S' => rw [e] at p; exact fun σ' H' ρ' s1 c1 => p .non H' ρ' s1 c1.rs .non
  | rt d S' => rw [e] at p; exact p
  | bk δ' S' => rw [e] at p; exact p.elim
  | ct δ' S' => rw [e] at p; exact p.elim
  | ex x δ' S' => rw [e] at p; exact fun c dx σ' H' ρ' s1 c1 r1 => p c dx H' ρ' s1 c1.rs r1
  | bad => rw [e] at p; exact p
end
section
variable {G : Gx} {W : WX} {X : Cx} {a : Expr} {es : List Expr} {mr mk : EA} {pos : Pos}
theorem run_fnG {pins : List (Addr × Obj)} {σ : L2.St} {H : Hp} {s : Shared} {Q : VK} {k : Nat} {f : Addr} {fd : FuncData} {ps : List Str} {sp : Sp} {args : Args} {us : List Value} {vs : List V} (F : FnG X.prog X.w X.K X.mg X.base k f fd ps sp) (hgd : X.A.guards = some []) (hr : Room k X.A) (tk : Takes X W)
    (hb : BindsTo s fd args (ps.zip us)) (I : Inv X pins σ H s) (r : Vals vs us) (h : sp vs H Q (WE W σ)) : codeAny (model X.prog X.w) X.A (.call (.ref f) args) (fun r s' => match r with
      | .ok (.ret u) => EP X pins σ Q u s'
      | .ok _ => False
      | .error e => X.xe e s') s :=
  codeAny_mono (F.run X.A hgd hr X.stack s H args us vs Q (WE W σ) I.env0 hb r h) fun r s' hq => match r, hq with
    | .error e, hq => passAt tk σ pins H s e s' I hq
    | .ok (.ret u), hq => I.after hq
    | .ok .next, hq => hq
    | .ok .brk, hq => hq
    | .ok .cont, hq => hq
/-- f(e, ..), f a def of the module -/
theorem re_callG {k : Nat} {f : Addr} {fd : FuncData} {ps : List Str} {n : Nat} {mf : List Dv → M Dv} {x : Str} {p : Pos} (tk : Takes X W) (F : FnG X.prog X.w X.K X.mg X.base k f fd ps (spM G n mf)) (har : ∀ ds S, ds.length ≠ n → mf ds S = .bad) (hgd : X.A.guards = some []) (hr : Room k X.A) (hg : Gl X x) (hm : X.mg x = some (.ref f)) (hk : PySem.W.keepIn X.K (.ref f) = true) (hb : L2.Binds X.K fd ps [])
    (ha : PA X (a :: es) (tA G W mr)) (hdb : (x == ("__debug__" : Str)) = false := by decide) (he : starEach (a :: es) X.env = (false, eval a X.env) :: starEach es X.env := by rfl) (hpl : (backTo pos (starEach es X.env)).any (·.1) = false := by rfl) :
    PE X (.Call (.Name x p) (a :: es) [] pos) (tE G W (eN mf mr)) :=
  ⟨fun pins s σ H Q I q => by
    obtain ⟨ρ, δ, S, cf, p⟩ := q
    refine wpAny_Call_Name_kw (ld_glob I hg hm ?_ hdb)
    refine PySem.W.callWith_K (h₀ := X.base) I.ok.mod.kin hk (thn (ha.run pos pins s σ H _ I ⟨ρ, δ, S, cf, Post.bind p⟩) fun us s1 ⟨vs, H1, I1, r, ρ1, S1, ds, s1', rs1, rx, p1⟩ => ⟨I1.kIn, ?_⟩) he hpl
    have h := sp_of har rs1 rx p1
    have hl : us.length = ps.length := by rw [← r.length]; exact F.len _ _ _ _ h
    have b := hb s1 us I1.kIn (by rw [List.append_nil]; exact hl)
    rw [List.append_nil] at b
    exact wpAny_call (run_fnG F hgd hr tk b I1 r h)⟩
/-- keywords' values -/
theorem rk_nil : PK X [] (tA G W aNil) := ⟨fun pos pins s σ H Q I q => pk_nil.run pos pins s σ H Q I (by
  obtain ⟨ρ, δ, S, cf, p⟩ := q
  exact Post.pure p cf.rs .nil)⟩
theorem rk_cons {e : Expr} {me : EX} {kws : List Keyword} {nm : Option Str} {kpos : Pos} (ha : PE X e (tE G W me)) (hr : PK X kws (tA G W mr)) : PK X (⟨nm, e, kpos⟩ :: kws) (tA G W (aCons me mr)) := ⟨fun pos pins s σ H Q I q => (pk_cons ha hr).run pos pins s σ H Q I (by
  obtain ⟨ρ, δ, S, cf, p⟩ := q
  refine ⟨ρ, δ, S, cf, (Post.bind p).mono fun x H1 ⟨ρ1, S1, d, s1, rs1, rx, p1⟩ => ?_⟩
  refine ⟨ρ1, δ, S1, cf.step s1 rs1, (Post.bind p1).mono fun xs H2 ⟨ρ2, S2, ds, s2, rs2, rxs, p2⟩ => ?_⟩
  exact Post.pure p2 rs2 (.cons (rx.step s2) rxs))⟩
/-- the order of keywords: which of them stands at each parameter -/
def pick {α : Type} [Inhabited α] (js : List Nat) (xs : List α) : List α := js.map fun j => xs.getD j default
def eK (f : List Dv → M Dv) (js : List Nat) (a : EA) : EX := fun δ => (a δ).bind fun ds => if ds.length = js.length then f (pick js ds) else mBad
theorem pick_rel {K : PySem.W.Frag} {ρ : Rg} {H : Hp} {vs : List V} {ds : List Dv} (r : RvA K ρ H vs ds) : ∀ {js : List Nat}, (∀ j ∈ js, j < ds.length) → RvA K ρ H (js.map fun j => vs.getD j .non) (pick js ds)
  | [], _ => .nil
  | j :: js, h => by
    have hj := h j (by simp)
    obtain ⟨v, e1, e2⟩ := r.get (List.getElem?_eq_getElem hj)
    refine .cons ?_ (pick_rel r fun i hi => h i (List.mem_cons_of_mem _ hi))
    show Rv K ρ H (vs.getD j .non) (ds.getD j default)
    rw [List.getD_eq_getElem?_getD, List.getD_eq_getElem?_getD, e1, List.getElem?_eq_getElem hj]
    exact e2
theorem pick_vals {vs : List V} {us : List Value} (r : Vals vs us) : ∀ {js : List Nat}, (∀ j ∈ js, j < us.length) → Vals (js.map fun j => vs.getD j .non) (js.map fun j => us.getD j .none)
  | [], _ => .nil
  | j :: js, h => by
    have hj : j < us.length := h j (by simp)
    have hj2 : j < vs.length := by rw [r.length]; exact hj
    obtain ⟨u, e1, e2⟩ := r.get (show vs[j]? = some vs[j] from List.getElem?_eq_getElem hj2)
    refine .cons ?_ (pick_vals r fun i hi => h i (List.mem_cons_of_mem _ hi))
    show RelV (vs.getD j .non) (us.getD j .none)
    rw [List.getD_eq_getElem?_getD, List.getD_eq_getElem?_getD, e1, List.getElem?_eq_getElem hj2]
    exact e2
/-- f(k = v, ..), all by keywords -/
theorem re_callKw {k : Nat} {f : Addr} {fd : FuncData} {ps ks : List Str} {n : Nat} {mf : List Dv → M Dv} {x : Str} {p : Pos} {kw : Keyword} {kws : List Keyword} {js : List Nat} (tk : Takes X W) (F : FnG X.prog X.w X.K X.mg X.base k f fd ps (spM G n mf)) (har : ∀ ds S, ds.length ≠ n → mf ds S = .bad) (hgd : X.A.guards = some []) (hr : Room k X.A) (hg : Gl X x) (hm : X.mg x = some (.ref f)) (hk : PySem.W.keepIn X.K (.ref f) = true)
    (hb : ∀ (s : Shared) (ws : List Value), X.K.In s.heap → ws.length = ks.length → BindsTo s fd ⟨[], ks.zip ws⟩ (ps.zip (js.map fun j => ws.getD j .none))) (hjs : js.length = ks.length) (hjl : ∀ j ∈ js, j < js.length)
    (hkw : PK X (kw :: kws) (tA G W mr)) (hall : (backToKw pos (keywordEach (kw :: kws) X.env)).all (·.1.isSome) = true := by rfl) (hks : (backToKw pos (keywordEach (kw :: kws) X.env)).filterMap (·.1) = ks := by rfl)
    (hdb : (x == ("__debug__" : Str)) = false := by decide)
    (hpl : ((backTo pos (starEach [] X.env)).any (·.1) || (backToKw pos (keywordEach (kw :: kws) X.env)).any (·.1.isNone)) = false := by rfl) :
    PE X (.Call (.Name x p) [] (kw :: kws) pos) (tE G W (eK mf js mr)) := ⟨fun pins s σ H Q I q => by
    obtain ⟨ρ, δ, S, cf, p⟩ := q
    refine wpAny_Call_Name_kw (ld_glob I hg hm ?_ hdb)
    refine PySem.W.callWith_KW0 (h₀ := X.base) I.ok.mod.kin hk hall (thn (hkw.run pos pins s σ H _ I ⟨ρ, δ, S, cf, Post.bind p⟩) fun ws s1 ⟨vs, H1, I1, r, ρ1, S1, ds, s1', rs1, rx, p1⟩ => ⟨I1.kIn, ?_⟩) hpl
    rw [hks]
    dsimp only at p1
    by_cases hl : ds.length = js.length
    · rw [if_pos hl] at p1
      have hl2 : ws.length = js.length := by rw [← r.length, rx.length, hl]
      have h := sp_of har rs1 (pick_rel rx fun j hj => by rw [hl]; exact hjl j hj) p1
      exact wpAny_call (run_fnG F hgd hr tk (hb s1 ws I1.kIn (by rw [hl2, hjs])) I1 (pick_vals r fun j hj => by rw [hl2]; exact hjl j hj) h)
    · rw [if_neg hl] at p1
      exact p1.elim⟩
end
section
variable {K : PySem.W.Frag} {x qual : Str} {params : Arguments} {body : List Stmt} {scope : Scope} {f : Addr} {fd : FuncData} {ps ks : List Str} {js : List Nat}
theorem kwN (F : FunD K x qual params body scope [] [] f fd) (h : ∀ (kV doc pm : Value) (an : Option Addr) (cdv ct : Value) (ws : List Value), ws.length = ks.length → bindArgs (PySem.W.fnOf x qual params body scope .none kV doc pm an cdv ct) ⟨[], ks.zip ws⟩ = pure (ps.zip (js.map fun j => ws.getD j .none))) (s : Shared) (ws : List Value) (_ : K.In s.heap) (hl : ws.length = ks.length) :
    BindsTo s fd ⟨[], ks.zip ws⟩ (ps.zip (js.map fun j => ws.getD j .none)) := by
  obtain ⟨oc, od, dV, kV, doc, pm, an, cdv, ct, osl, rfl, lk, hcd, hD, hK⟩ := F.ex
  rcases hD with ⟨_, rfl⟩ | ⟨e, _⟩
  · exact .of_eq (h kV doc pm an cdv ct ws hl)
  · exact absurd rfl e
end
end Mi
end T_Grd
section T_Fin
set_option Elab.async false
set_option linter.all false
set_option maxRecDepth 100000
set_option maxHeartbeats 4000000
/-! Fin: the law's def is called with the script. -/
namespace Mi
open PySem PySem.Spec PyProof.Rows L2
theorem ints_rel {K : PySem.W.Frag} {ρ : Rg} {H : Hp} : ∀ ns : List Int, RvA K ρ H (ns.map V.int) (ns.map Dv.int)
  | [] => .nil
  | n :: ns => .cons (.int n) (ints_rel ns)
theorem stl_of {K : PySem.W.Frag} {H : Hp} {a : Addr} {xs : List V} (h : SqL K H a xs) : StL K ⟨[], []⟩ H a xs := by
  rcases h with h | h
  · exact .inl ⟨h, by simp [Out]⟩
  · exact .inr h
theorem rs_empty {K : PySem.W.Frag} {mg : Str → Option Value} {H : Hp} : RS ⟨K, mg, [], none⟩ ⟨[], []⟩ H [] :=
  ⟨rfl, List.nodup_nil, fun _ h => (nomatch h), fun _ _ _ h => by simp at h, fun _ h => (nomatch h), trivial⟩
/-- a heap of which the script alone is known -/
theorem call_at {P : Program} {w : World} {K : PySem.W.Frag} {mg mb : Str → Option Value} {k : Nat} {fa a : Addr} {fd : FuncData} {x : Str} {mf : List Dv → M Dv} {s : Shared} {ns : List Int} {H : Hp}
    (KX : K.In s.heap) (hns : s.heap.Ns mainGlobals mg) (hb : s.heap.Ns builtinsNs mb) (hbb : ∀ x : Str, x ≠ "__name__" → mb x = bootBuiltins x) (nl : s.heap.NoLimit) (hg : s.gens = #[]) (hr : Room k callerA)
    (F : ∀ base : Heap, K.In base → base.Ns mainGlobals mg → FnG P w K mg base k fa fd [x] (spM ⟨K, mg, [], none⟩ 1 mf)) (hbind : ∀ (s : Shared) (u : Value), BindsTo s fd ⟨[u], []⟩ [(x, u)])
    (law : ∃ S', mf [.con (ns.map .int)] [] = .ok (.bl true) S') (hO : Only H) (hS : SqL K H a (ns.map V.int)) (hok : HOk P w H s.heap) (nd : ∀ b o es ep, s.heap.get? b = some o → o.data = .dict es ep → H b = none) (hK : ∀ b o, K.lookup b = some o → H b = none) :
    codeAny (model P w) callerA (.call (.ref fa) ⟨[.ref a], []⟩) (fun r s' => r = .ok (.ret (.bool true)) ∧ OldK s.heap s'.heap ∧ s'.os = s.os ∧ AllBare s'.gens) s := by
  have ns2 : ∀ {b : Addr} {m : Str → Option Value}, s.heap.Ns b m → (hidT s.heap H).Ns b m := fun ⟨o, es, ep, e, d, r⟩ => ⟨o, es, ep, hidT_get e (nd _ _ _ _ e d), d, r⟩
  have kin : K.In (hidT s.heap H) := fun b o e => hidT_get (KX b o e) (hK b o e)
  have md : Mod K mg (hidT s.heap H) := ⟨kin, ns2 hns, ⟨mb, ns2 hb, hbb⟩, let ⟨mc, h1, h2⟩ := nl; ⟨mc, ns2 h1, h2⟩⟩
  have e0 : Env0 P w K mg (hidT s.heap H) callerA [] s H := ⟨rfl, md, fun b o e => of_hidT e, Nat.le_of_eq (hidT_size _ _), trivial, fun b hb => by simp [frs] at hb, hok, .of_eq hg⟩
  obtain ⟨S', eS⟩ := law
  have sp : spM ⟨K, mg, [], none⟩ 1 mf [.ref a] H (fun v _ => v = .bl true) (fun _ _ _ => False) := by
    refine ⟨⟨[], []⟩, [], [.con (ns.map .int)], rfl, .cons (.con (stl_of hS) (ints_rel ns)) .nil, rs_empty, ?_⟩
    rw [eS]
    intro v H' ρ' _ _ rv
    cases rv
    rfl
  refine codeAny_mono ((F _ kin (ns2 hns)).run callerA rfl hr [] s H ⟨[.ref a], []⟩ [.ref a] [.ref a] _ _ e0 (hbind s (.ref a)) (.cons rfl .nil) sp) fun r s' h => ?_
  match r, h with
  | .error e, ⟨_, _, _, _, _, _, _, _, _, _, _, _, h⟩ => exact (show False from h).elim
  | .ok .next, h => exact (show False from h).elim
  | .ok .brk, h => exact (show False from h).elim
  | .ok .cont, h => exact (show False from h).elim
  | .ok (.ret u), ⟨v, H', os, bare, un, hok', r', q⟩ =>
    have q' : v = .bl true := q
    subst q'
    obtain rfl : u = Value.bool true := r'
    refine ⟨rfl, OldK.of_keep fun b o e => ?_, os, bare⟩
    rcases hO b with z | ⟨ob, xs, z⟩
    · exact un.keep b o e z (by simp [frs]) (by simp)
    · have e1 := (hok b _ z).1
      have e2 := (hok' b _ (un.frzs b ob _ z)).1
      rw [e] at e1
      cases e1
      exact e2
theorem walkG {l : PySem.W.OpenLaw} {n k : Nat} {q : Program} {loose : List Str} {XP : (Str → Option Value) → Heap → Prop} {YP : World → Heap → Prop} {d : DefRec} {x : Str} {mf : List Dv → M Dv}
    (hn : l.most = some n) (hn2 : n ≤ sizeLine) (hdf : d.params.defaults = []) (hr : Room k callerA)
    (F : ∀ (w : World) (mg : Str → Option Value) (fa : Addr) (h : Heap), YP w h → h.Ns mainGlobals mg → mg d.name = some (.ref fa) →
      ∃ (K : PySem.W.Frag) (fd : FuncData), K.In h ∧ (∀ (s : Shared) (u : Value), BindsTo s fd ⟨[u], []⟩ [(x, u)]) ∧ ∀ base : Heap, K.In base → base.Ns mainGlobals mg → FnG l.prog w K mg base k fa fd [x] (spM ⟨K, mg, [], none⟩ 1 mf))
    (law : ∀ ns : List Int, ns.length ≤ n → ∃ S', mf [.con (ns.map .int)] [] = .ok (.bl true) S') :
    PySem.W.WalkO q loose XP YP l.row.toRowW d [] (fun f vs => PySem.call f vs) := by
  refine Att.attach_call hn hdf fun w s₀ s mg mb fa o pm cd doc a vs ns G Y ho hd hcd hmg hobj hints hlen hg => ?_
  obtain ⟨K, fd, KX, hb, hF⟩ := F w mg fa _ Y G.T.g hmg
  have rv := vals_ints hints
  have lenV := hints.length
  have lz : ns.length ≤ sizeLine := Nat.le_trans hlen hn2
  cases hk : K.lookup a with
  | some oa =>
    have e := KX a oa hk
    rw [hobj] at e
    cases e
    exact call_at (H := fun _ => none) KX G.T.g G.T.b G.T.builtins G.T.nolimit hg hr hF hb (law ns hlen) (fun _ => .inl rfl) (.inr ⟨_, vs.toArray, _, hk, rfl, rfl, rfl, by rw [List.size_toArray, lenV]; exact lz, by simpa using rv⟩) (fun b u z => by cases z) (fun _ _ _ _ _ _ => rfl) fun _ _ _ => rfl
  | none =>
    have hat : ∀ {b : Addr} {u : HO}, (if b = a then some (HO.frz { cls := .type "list", data := .seq vs.toArray } (.lst (ns.map V.int))) else none) = some u → b = a ∧ u = HO.frz { cls := .type "list", data := .seq vs.toArray } (.lst (ns.map V.int)) := fun {b u} z => by
      by_cases hb : b = a
      · rw [if_pos hb] at z
        exact ⟨hb, (Option.some.inj z).symm⟩
      · rw [if_neg hb] at z
        cases z
    refine call_at (H := fun b => if b = a then some (.frz { cls := .type "list", data := .seq vs.toArray } (.lst (ns.map V.int))) else none) KX G.T.g G.T.b G.T.builtins G.T.nolimit hg hr hF hb (law ns hlen) (fun b => ?_) (.inl (.inr ⟨{ cls := .type "list", data := .seq vs.toArray }, if_pos rfl⟩)) (fun b u z => ?_) (fun b o es ep e1 e2 => ?_) fun b o e => ?_
    · by_cases hb : b = a
      · exact .inr ⟨_, _, if_pos hb⟩
      · exact .inl (if_neg hb)
    · obtain ⟨rfl, rfl⟩ := hat z
      exact ⟨hobj, by rw [List.length_map]; exact lz, vs, _, rv, hobj⟩
    · refine if_neg fun hb => ?_
      subst hb
      rw [hobj] at e1
      cases e1
      cases e2
    · refine if_neg fun hb => ?_
      subst hb
      rw [hk] at e
      cases e
end Mi
end T_Fin
section T_Sim8
set_option Elab.async false
set_option linter.all false
set_option maxRecDepth 100000
set_option maxHeartbeats 4000000
namespace Mi
open PySem PySem.Spec PyProof.Rows L2
/-! ### signs of shown texts -/
theorem okS_ofString (s : String) : OkS (Str.ofString s) := by
  rw [Str.ofString_eq_toList]
  intro c hc
  have hc' : c ∈ s.toList.map Char.toNat := hc
  obtain ⟨d, _, rfl⟩ := List.mem_map.mp hc'
  have := d.valid
  rcases this with h | ⟨_, h⟩
  · have : d.toNat < 0xD800 := h
    omega
  · exact h
theorem okS_cons {l : List Nat} (h : ∀ c ∈ l, c < 0x110000) : OkS ⟨l.toArray⟩ := fun c hc => h c (by simpa using hc)
theorem okS_empty : OkS Str.empty := fun c hc => by simp [Str.empty] at hc
theorem okS_join {sep : Str} (hs : OkS sep) : ∀ {ts : List Str}, (∀ t ∈ ts, OkS t) → OkS (Str.join sep ts)
  | [], _ => okS_empty
  | [x], h => h x (by simp)
  | x :: y :: r, h => by
    show OkS (x ++ sep ++ Str.join sep (y :: r))
    exact okS_app (okS_app (h x (by simp)) hs) (okS_join hs fun t ht => h t (List.mem_cons_of_mem _ ht))
theorem okS_textFrom : ∀ {ts : List Str} {k : Nat} {acc : Str}, OkS acc → (∀ t ∈ ts, OkS t) → OkS (textFrom k acc ts)
  | [], _, _, ha, _ => ha
  | t :: r, k, acc, ha, h => by
    show OkS (textFrom (k + 1) (acc ++ (if k > 0 then ", " else "" : String) ++ t) r)
    exact okS_textFrom (okS_app (okS_app ha (okS_ofString _)) (h t (by simp))) fun x hx => h x (List.mem_cons_of_mem _ hx)
theorem dig_lt (n : Nat) : ∀ c ∈ (Nat.toDigits 16 n).map Char.toNat, c < 0x110000 := by
  intro c hc
  obtain ⟨d, _, rfl⟩ := List.mem_map.mp hc
  rcases d.valid with h | ⟨_, h⟩
  · have : d.toNat < 0xD800 := h
    omega
  · exact h
theorem reprChar_lt {q c : Nat} (hc : c < 0x110000) : ∀ d ∈ Builtin.Str.reprChar q c, d < 0x110000 := by
  intro d hd
  unfold Builtin.Str.reprChar at hd
  have hex : ∀ w : Nat, ∀ d ∈ List.replicate (w - ((Nat.toDigits 16 c).map Char.toNat).length) 48 ++ (Nat.toDigits 16 c).map Char.toNat, d < 0x110000 := fun w d h => by
    rcases List.mem_append.mp h with h | h
    · rw [(List.mem_replicate.mp h).2]
      decide
    · exact dig_lt c d h
  have two : ∀ {a b : Nat}, a < 0x110000 → b < 0x110000 → ∀ d ∈ [a, b], d < 0x110000 := fun ha hb d h => by
    rcases List.mem_cons.mp h with h | h
    · rw [h]; exact ha
    · rw [List.mem_singleton.mp h]; exact hb
  dsimp only at hd
  split at hd
  · exact two (by decide) hc d hd
  split at hd
  · exact two (by decide) (by decide) d hd
  split at hd
  · exact two (by decide) (by decide) d hd
  split at hd
  · exact two (by decide) (by decide) d hd
  split at hd
  · rw [List.mem_singleton.mp hd]; exact hc
  split at hd
  · rcases List.mem_append.mp hd with h | h
    · exact two (by decide) (by decide) d h
    · exact hex 2 d h
  split at hd
  · rcases List.mem_append.mp hd with h | h
    · exact two (by decide) (by decide) d h
    · exact hex 4 d h
  · rcases List.mem_append.mp hd with h | h
    · exact two (by decide) (by decide) d h
    · exact hex 8 d h
theorem okS_repr {x : Str} (h : OkS x) : OkS (reprText x) := by
  have hq : reprQuote x < 0x110000 := by
    unfold reprQuote
    split <;> decide
  have key : ∀ (l : List Nat) (acc : Array Nat), (∀ c ∈ l, c < 0x110000) → (∀ c ∈ acc.toList, c < 0x110000) → ∀ c ∈ (l.foldl (fun out c => out ++ (Builtin.Str.reprChar (reprQuote x) c).toArray) acc).toList, c < 0x110000 := by
    intro l
    induction l with
    | nil => exact fun acc _ ha => ha
    | cons a l ih =>
      intro acc hl ha
      refine ih _ (fun c hc => hl c (List.mem_cons_of_mem _ hc)) fun c hc => ?_
      rw [Array.toList_append] at hc
      rcases List.mem_append.mp hc with hc | hc
      · exact ha c hc
      · exact reprChar_lt (hl a (by simp)) c (by simpa using hc)
  intro c hc
  unfold reprText at hc
  dsimp only at hc
  rw [Array.toList_push, ← Array.foldl_toList] at hc
  rcases List.mem_append.mp hc with hc | hc
  · exact key x.cps.toList _ h (fun c hc => by rw [List.mem_singleton.mp hc]; exact hq) c hc
  · rw [List.mem_singleton.mp hc]; exact hq
mutual
def okD : PyData → Prop
  | .str x => OkS x
  | .list xs | .tuple xs => okDA xs
  | .dict kvs => okDK kvs
  | .none | .bool _ | .int _ => True
def okDA : List PyData → Prop
  | [] => True
  | x :: xs => okD x ∧ okDA xs
def okDK : List (PyData × PyData) → Prop
  | [] => True
  | (a, b) :: r => okD a ∧ okD b ∧ okDK r
end
mutual
theorem okS_shown : ∀ p : PyData, okD p → OkS p.shown
  | .none, _ => okS_ofString _
  | .bool b, _ => by
    show OkS (if b then "True" else "False")
    split <;> exact okS_ofString _
  | .int i, _ => okS_ofString _
  | .str x, h => okS_repr (show OkS x from h)
  | .list xs, h => okS_app (okS_textFrom (okS_ofString _) (okS_shownA xs h)) (okS_ofString _)
  | .tuple xs, h => by
    show OkS (("(" : Str) ++ Str.join ", " (PyData.shownAll xs) ++ (if (PyData.shownAll xs).length == 1 then ",)" else ")" : String))
    exact okS_app (okS_app (okS_ofString _) (okS_join (okS_ofString _) (okS_shownA xs h))) (okS_ofString _)
  | .dict kvs, h => okS_app (okS_app (okS_ofString _) (okS_join (okS_ofString _) (okS_shownK kvs h))) (okS_ofString _)
theorem okS_shownA : ∀ xs : List PyData, okDA xs → ∀ t ∈ PyData.shownAll xs, OkS t
  | [], _ => fun _ h => (nomatch h)
  | x :: xs, h => fun t ht => by
    rcases List.mem_cons.mp (show t ∈ x.shown :: PyData.shownAll xs from ht) with e | ht
    · rw [e]; exact okS_shown x h.1
    · exact okS_shownA xs h.2 t ht
theorem okS_shownK : ∀ kvs : List (PyData × PyData), okDK kvs → ∀ t ∈ PyData.shownKv kvs, OkS t
  | [], _ => fun _ h => (nomatch h)
  | (a, b) :: r, h => fun t ht => by
    rcases List.mem_cons.mp (show t ∈ (a.shown ++ ": " ++ b.shown) :: PyData.shownKv r from ht) with e | ht
    · rw [e]; exact okS_app (okS_app (okS_shown a h.1) (okS_ofString _)) (okS_shown b h.2.1)
    · exact okS_shownK r h.2.2 t ht
end
/-! ### a value's data, read in the heap -/
section
variable {X : Cx} {G : Gx} {ρ : Rg} {H : Hp} {S : Sto} {pins : List (Addr × Obj)} {σ : L2.St} {s : Shared}
def SmD (K : PySem.W.Frag) : Prop := ∃ o : Obj, K.lookup sysModules = some o ∧ o.cls = .type "dict"
/-- d is p in the heap -/
def Rds (h : Heap) (u : Value) (p : PyData) (k : Nat) : Prop := (∃ as, Reads h u p as ∧ sysModules ∉ as) ∧ okD p ∧ p.depth ≤ k
def RdsA (h : Heap) (us : List Value) (ps : List PyData) (k : Nat) : Prop := (∃ as, ReadsAll h us ps as ∧ sysModules ∉ as) ∧ okDA ps ∧ PyData.depthAll ps ≤ k
theorem rds_all {h : Heap} {k : Nat} (ih : ∀ (d : Dv) (p : PyData) (v : V) (u : Value), deep S k d = some p → Rv G.K ρ H v d → RelV v u → Rds h u p k) :
    ∀ (ds : List Dv) (ps : List PyData) (vs : List V) (us : List Value), optAll (ds.map (deep S k)) = some ps → RvA G.K ρ H vs ds → Vals vs us → RdsA h us ps k
  | [], _, _, _, h, r, rv => by
    cases h
    cases r
    cases rv
    exact ⟨⟨[], .nil, by simp⟩, trivial, Nat.zero_le _⟩
  | d :: ds, _, _, _, h, r, rv => by
    obtain ⟨b, r', e1, e2, rfl⟩ := optAll_cons (show optAll (deep S k d :: ds.map (deep S k)) = _ from h)
    cases r with
    | cons h1 r1 =>
      cases rv with
      | cons u1 ur =>
        obtain ⟨⟨as, a1, a2⟩, a3, a4⟩ := ih d b _ _ e1 h1 u1
        obtain ⟨⟨bs, b1, b2⟩, b3, b4⟩ := rds_all ih ds r' _ _ e2 r1 ur
        refine ⟨⟨as ++ bs, .cons a1 b1, by simp [a2, b2]⟩, ⟨a3, b3⟩, ?_⟩
        show max b.depth (PyData.depthAll r') ≤ k
        omega
theorem okSB_ok {x : Str} (h : okSB x = true) : OkS x := fun c hc => of_decide_eq_true (List.all_eq_true.mp h c hc)
theorem rds_dict {h : Heap} : ∀ {es : List DictEntry} {kvs : List (Key × V)} {vs : List (Key × Value)} {dks : List (Key × Dv)} {k : Nat} {ps : List PyData},
    Pairs (mixKind X.prog X.w) es vs → KV kvs vs → kvs.map (·.1) = dks.map (·.1) → dks.all (fun q => okKB q.1) = true →
    (∃ bs, ReadsAll h (vs.map (·.2)) ps bs ∧ sysModules ∉ bs) → okDA ps → PyData.depthAll ps ≤ k →
    (∃ as bs, ReadsAll h (es.map (·.key)) (((dks.map fun q => kPd q.1).zip ps).map (·.1)) as ∧ ReadsAll h (es.map (·.val)) (((dks.map fun q => kPd q.1).zip ps).map (·.2)) bs ∧ sysModules ∉ as ++ bs) ∧ okDK ((dks.map fun q => kPd q.1).zip ps) ∧ PyData.depthKv ((dks.map fun q => kPd q.1).zip ps) ≤ k := by
  intro es
  induction es with
  | nil =>
    intro kvs vs dks k ps p r e ok hv hd hk
    cases p
    cases r
    cases dks with
    | nil => exact ⟨⟨[], [], .nil, .nil, by simp⟩, trivial, Nat.zero_le _⟩
    | cons => cases e
  | cons e0 es ih =>
    intro kvs vs dks k ps p r e ok hv hd hk
    cases p with
    | @cons _ kv _ vs h1 h2 p =>
      cases r with
      | @cons q0 _ kvs _ h3 r =>
        cases dks with
        | nil => cases e
        | cons dk dks =>
          obtain ⟨bs, hb, hb2⟩ := hv
          cases hb with
          | @cons _ _ d ds as1 bs1 c1 c2 =>
            obtain ⟨ok1, ok2⟩ := Bool.and_eq_true_iff.mp (show (okKB dk.1 && dks.all fun q => okKB q.1) = true from ok)
            have hm : max d.depth (PyData.depthAll ds) ≤ k := hk
            obtain ⟨⟨as, bs, i1, i2, i3⟩, i4, i5⟩ := ih (k := k) p r (List.cons.inj e).2 ok2 ⟨bs1, c2, fun m => hb2 (List.mem_append_right _ m)⟩ hd.2 (by omega)
            have ek : q0.1 = dk.1 := (List.cons.inj e).1
            have key : Reads h e0.key (kPd dk.1) [] ∧ okD (kPd dk.1) ∧ (kPd dk.1).depth = 0 := by
              rw [← ek, h3.1]
              rw [← ek, h3.1] at ok1
              rcases keyIs_shape h1 with ⟨i, t, e1, e2⟩ | ⟨x, t, e1, e2⟩
              · rw [e1, e2]
                exact ⟨.int i t, trivial, rfl⟩
              · rw [e1, e2]
                rw [e1] at ok1
                exact ⟨.str x t, okSB_ok ok1, rfl⟩
            refine ⟨⟨[] ++ as, as1 ++ bs, .cons key.1 i1, .cons (by show Reads h e0.val d as1; rw [h2]; exact c1) i2, ?_⟩, ⟨key.2.1, hd.1, i4⟩, ?_⟩
            · intro m
              rcases List.mem_append.mp m with m | m
              · exact i3 (List.mem_append_left _ m)
              · rcases List.mem_append.mp m with m | m
                · exact hb2 (List.mem_append_left _ m)
                · exact i3 (List.mem_append_right _ m)
            · show max (max (kPd dk.1).depth d.depth) (PyData.depthKv ((dks.map fun q => kPd q.1).zip ds)) ≤ k
              rw [key.2.2]
              omega
theorem kv_snd : ∀ {kvs : List (Key × V)} {vs : List (Key × Value)}, KV kvs vs → Vals (kvs.map (·.2)) (vs.map (·.2))
  | _, _, .nil => .nil
  | _, _, .cons h r => .cons h.2 (kv_snd r)
theorem rds_of (hK : X.K = G.K) (sm : SmD X.K) (rs : RS G ρ H S) (I : L2.Inv X pins σ H s) : ∀ (k : Nat) (d : Dv) (p : PyData) (v : V) (u : Value), deep S k d = some p → Rv G.K ρ H v d → RelV v u → Rds s.heap u p k
  | 0, _, _, _, _, h, _, _ => by cases h
  | k + 1, d, p, v, u, h, r, rv => by
    have ih := rds_of hK sm rs I k
    have nsm : ∀ {a : Addr} {o : Obj}, s.heap.get? a = some o → o.cls = .type "list" → a ≠ sysModules := fun {a o} e c z => by
      obtain ⟨o2, h1, h2⟩ := sm
      rw [z, I.kIn _ _ h1] at e
      cases e
      rw [h2] at c
      exact absurd c (by decide)
    have lst : ∀ {a : Addr} {xs : List V} {ds : List Dv}, SqL X.K H a xs → RvA G.K ρ H xs ds → (optAll (ds.map (deep S k))).map PyData.list = some p → Rds s.heap (.ref a) p (k + 1) := fun {a xs ds} hx hr h' => by
      cases e : optAll (ds.map (deep S k)) with
      | none => rw [e] at h'; cases h'
      | some ps =>
        rw [e] at h'
        cases h'
        obtain ⟨its, rv, ⟨o, n, ho, hc, _, hd⟩, _⟩ := I.list hx
        obtain ⟨⟨as, a1, a2⟩, a3, a4⟩ := rds_all ih ds ps xs its e hr rv
        refine ⟨⟨a :: as, .list ho hc hd (by simpa using a1), fun m => ?_⟩, a3, Nat.succ_le_succ a4⟩
        rcases List.mem_cons.mp m with m | m
        · exact nsm ho hc m.symm
        · exact a2 m
    cases r with
    | non => cases h; cases rv; exact ⟨⟨[], .none, by simp⟩, trivial, Nat.zero_le _⟩
    | bl b => cases h; cases rv; exact ⟨⟨[], .bool b, by simp⟩, trivial, Nat.zero_le _⟩
    | int i =>
      cases h
      obtain ⟨t, rfl⟩ := rv
      exact ⟨⟨[], .int i t, by simp⟩, trivial, Nat.zero_le _⟩
    | str x hx =>
      cases h
      obtain ⟨t, rfl⟩ := rv
      exact ⟨⟨[], .str x t, by simp⟩, hx, Nat.zero_le _⟩
    | @tup a vs ds ht r =>
      have h' : (optAll (ds.map (deep S k))).map PyData.tuple = some p := h
      cases e : optAll (ds.map (deep S k)) with
      | none => rw [e] at h'; cases h'
      | some ps =>
        rw [e] at h'
        cases h'
        cases rv
        obtain ⟨its, rv, ⟨o, ho, hc, n, hd⟩, _⟩ := I.tuple (show SqT X.K H a vs by rw [hK]; exact ht.sq)
        obtain ⟨⟨as, a1, a2⟩, a3, a4⟩ := rds_all ih ds ps vs its e r rv
        exact ⟨⟨as, .tuple ho hc hd (by simpa using a1), a2⟩, a3, Nat.succ_le_succ a4⟩
    | @lst a vs ds ht n r =>
      cases rv
      exact lst (SqL.of ht) r h
    | @con a vs ds ht r =>
      cases rv
      exact lst (by rw [hK]; exact ht.sq) r h
    | @dct a kvs dks ht n e r =>
      have h' : (if dks.all (fun q => okKB q.1) = true then (optAll ((dks.map (·.2)).map (deep S k))).map (fun vs => PyData.dict ((dks.map fun q => kPd q.1).zip vs)) else none) = some p := h
      by_cases hkb : dks.all (fun q => okKB q.1) = true
      case neg => rw [if_neg hkb] at h'; cases h'
      rw [if_pos hkb] at h'
      cases e2 : optAll ((dks.map (·.2)).map (deep S k)) with
      | none => rw [e2] at h'; cases h'
      | some ps =>
        rw [e2] at h'
        cases h'
        cases rv
        obtain ⟨_, hsm, vs, kv, o, es, ep, ho, hc, hd, _, hp, _⟩ := dk_of I.hok ht
        have vals : Vals (kvs.map (·.2)) (vs.map (·.2)) := by
          exact kv_snd kv
        obtain ⟨a1, a3, a4⟩ := rds_all ih (dks.map (·.2)) ps _ _ e2 r vals
        obtain ⟨⟨as, bs, b1, b2, b3⟩, b4, b5⟩ := rds_dict (X := X) hp kv e hkb a1 a3 a4
        refine ⟨⟨a :: as ++ bs, .dict ho hc.1 hd b1 b2, fun m => ?_⟩, b4, Nat.succ_le_succ b5⟩
        rcases List.mem_append.mp m with m | m
        · rcases List.mem_cons.mp m with m | m
          · rw [← m] at hsm
            simp at hsm
          · exact b3 (List.mem_append_left _ m)
        · exact b3 (List.mem_append_right _ m)
    | @loc n a hn' =>
      have h' : (match S[n]? with | some (.lst xs) => (optAll (xs.map (deep S k))).map PyData.list | _ => none) = some p := h
      obtain ⟨ob, h1, h2⟩ := rs.at hn'
      rw [h1] at h'
      cases ob with
      | lst ds =>
        obtain ⟨vs, q1, q2⟩ := h2
        cases rv
        exact lst (SqL.of q1) q2 h'
      | _ => cases h'
/-! ### repr -/
theorem re_repr {W : WX} {a : Expr} {mr : EA} {p pos : Pos} (hK : X.K = G.K) (sm : SmD X.K) (hgd : X.A.guards = some []) (hu : X.A.units + 64 < cLine) (hg : Gl X "repr") (hm : X.mg "repr" = none) (ha : PA X [a] (tA G W mr))
    (he : starEach [a] X.env = (false, eval a X.env) :: starEach [] X.env := by rfl) (hpl : (backTo pos (starEach [] X.env)).any (·.1) = false := by rfl) : PE X (.Call (.Name "repr" p) [a] [] pos) (tE G W (eN mRepr mr)) :=
  ⟨fun pins s σ H Q I q => by
    obtain ⟨ρ, δ, S, cf, p⟩ := q
    refine wpAny_Call_Name_kw (ld_blt I hg hm (show bootBuiltins "repr" = some (.builtin "repr") by decide +kernel) ?_ (by decide) (by decide))
    refine PyProof.Rows.callWith_builtin1 (thn (ha.run pos pins s σ H _ I ⟨ρ, δ, S, cf, Post.bind p⟩) fun us s1 ⟨vs, H1, I1, r, ρ1, S1, ds, s1', rs1, rx, p1⟩ => ?_) he hpl
    unfold mRepr at p1
    split at p1
    · rename_i d
      split at p1
      · rename_i pd hd
        split at p1
        · rename_i hc
          obtain ⟨hc1, hc3⟩ := Bool.and_eq_true_iff.mp hc
          obtain ⟨hc1, hc2⟩ := Bool.and_eq_true_iff.mp hc1
          have hc3 := of_decide_eq_true hc3
          obtain ⟨v, rfl, rv⟩ := rx.one
          obtain ⟨u, rfl, ru⟩ := vals1 r
          obtain ⟨⟨as, h1, h2⟩, h3, h4⟩ := rds_of hK sm rs1 I1 dpt d pd v u hd rv ru
          have hz : pd.shown.length ≤ sizeLine := by
            have := PyData.shown_le_bulk 400 (by decide) pd hc2
            rw [sizeLine_eq]
            omega
          have fin : ∀ {t : Tok} {s' : Shared}, L2.Inv X pins σ H1 s' → EP X pins σ Q (.str pd.shown t) s' := fun {t s'} J => ⟨.str pd.shown, H1, J, ⟨t, rfl⟩, p1.val rs1 (.str _ (okS_shown pd h3))⟩
          cases h1 with
          | none => exact PySem.P.repr_of_none (fin (I1.tok _))
          | bool b => exact PySem.P.repr_of_bool (fin (I1.tok _))
          | int i t => exact PySem.P.repr_of_int (of_decide_eq_true hc1) (fin (I1.tok _))
          | str x t => exact PySem.P.repr_of_str (fin (I1.tok _)) hz
          | list q1 q2 q3 q4 => exact repr_of_reads' (.list q1 q2 q3 q4) hc1 (fun _ => h2) hgd (by have : dpt = 12 := rfl; omega) (fun _ _ e => e) (fun h' u tk hk => fin (I1.kept (t' := tk) hk)) hz
          | tuple q1 q2 q3 q4 => exact repr_of_reads' (.tuple q1 q2 q3 q4) hc1 (fun _ => h2) hgd (by have : dpt = 12 := rfl; omega) (fun _ _ e => e) (fun h' u tk hk => fin (I1.kept (t' := tk) hk)) hz
          | dict q1 q2 q3 q4 q5 => exact repr_of_reads' (.dict q1 q2 q3 q4 q5) hc1 (fun _ => h2) hgd (by have : dpt = 12 := rfl; omega) (fun _ _ e => e) (fun h' u tk hk => fin (I1.kept (t' := tk) hk)) hz
        · exact p1.elim
      · exact p1.elim
    · exact p1.elim⟩
end
end Mi
end T_Sim8
section T_Sim9
set_option Elab.async false
set_option linter.all false
set_option maxRecDepth 100000
set_option maxHeartbeats 4000000
/-! Sim9: dicts. -/
namespace Mi
open PySem PySem.Spec PyProof.Rows L2
/-! ### the mirror -/
def keyOf : Dv → Option Key
  | .int i => some (.inl i)
  | .str x => some (.inr x)
  | _ => none
def keysOf (ds : List Dv) : Option (List Key) := optAll (ds.map keyOf)
section
variable {κ : Type} [DecidableEq κ]
def valD (kvs : List (κ × Dv)) (k : κ) : Option Dv := (kvs.find? fun kv => decide (kv.1 = k)).map (·.2)
def putD (kvs : List (κ × Dv)) (k : κ) (v : Dv) : List (κ × Dv) := if (kvs.any fun kv => decide (kv.1 = k)) = true then kvs.map (fun kv => if kv.1 = k then (kv.1, v) else kv) else kvs ++ [(k, v)]
end
/-- what stands at a key; the outer none: not covered -/
def dGet (S : Sto) (d e : Dv) : Option (Option Dv) := match d with
  | .dct kvs => (keyOf e).map (valD kvs)
  | .loc n => (match S[n]? with
    | some (.dK kvs) => (keyOf e).map (valD kvs)
    | some (.dT kvs) => (match e with
      | .tup xs => (keysOf xs).map (valD kvs)
      | _ => none)
    | _ => none)
  | _ => none
def mDGet (d e : Dv) : M Dv := fun S => match dGet S d e with
  | some (some v) => .ok v S
  | _ => .bad
/-- d.get(e, f) -/
def eDGet2 (a b c : EX) : EX := fun δ => (a δ).bind fun d S0 => if kind S0 d = some "dict" then ((b δ).bind fun e => (c δ).bind fun f S => match dGet S d e with
  | some o => .ok (o.getD f) S
  | none => .bad) S0 else .bad
def eDGet1 (a b : EX) : EX := fun δ => (a δ).bind fun d S0 => if kind S0 d = some "dict" then ((b δ).bind fun e S => match dGet S d e with
  | some o => .ok (o.getD .non) S
  | none => .bad) S0 else .bad
/-- e in d -/
def mDIn (k : Bool → Bool) (e d : Dv) : M Dv := fun S => match dGet S d e with
  | some o => .ok (.bl (k o.isSome)) S
  | none => .bad
def dPut (S : Sto) (d e v : Dv) : Option Sto := match d with
  | .loc n => (match S[n]? with
    | some (.dK kvs) => (match keyOf e with
      | some k => if kvs.length < lim then some (S.set n (.dK (putD kvs k v))) else none
      | none => none)
    | some (.dT kvs) => (match e with
      | .tup xs => (match keysOf xs with
        | some k => if kvs.length < lim then some (S.set n (.dT (putD kvs k v))) else none
        | none => none)
      | _ => none)
    | _ => none)
  | _ => none
/-- a[b] = v -/
def sDPut (a b v : EX) : SM := fun δ S => onOk (v δ S) δ fun y S1 => onOk (a δ S1) δ fun d S2 => onOk (b δ S2) δ fun e S3 => match dPut S3 d e y with
  | some S4 => .nx δ S4
  | none => .bad
/-! ### relation -/
section
variable {κ : Type} [DecidableEq κ] {K : PySem.W.Frag} {ρ : Rg} {H : Hp}
theorem val_rel : ∀ {kvs : List (κ × V)} {dks : List (κ × Dv)} (k : κ), kvs.map (·.1) = dks.map (·.1) → RvA K ρ H (kvs.map (·.2)) (dks.map (·.2)) → (valV kvs k = none ∧ valD dks k = none) ∨ ∃ v d, valV kvs k = some v ∧ valD dks k = some d ∧ Rv K ρ H v d
  | [], [], _, _, _ => .inl ⟨rfl, rfl⟩
  | [], _ :: _, _, e, _ => by cases e
  | _ :: _, [], _, e, _ => by cases e
  | (a, v) :: kvs, (b, d) :: dks, k, e, r => by
    have e1 : a = b := (List.cons.inj e).1
    subst e1
    cases r with
    | cons h1 r1 =>
      by_cases hk : a = k
      · exact .inr ⟨v, d, by simp [valV, List.find?_cons, hk], by simp [valD, List.find?_cons, hk], h1⟩
      · have z := val_rel k (List.cons.inj e).2 r1
        have e2 : valV ((a, v) :: kvs) k = valV kvs k := by simp [valV, List.find?_cons, hk]
        have e3 : valD ((a, d) :: dks) k = valD dks k := by simp [valD, List.find?_cons, hk]
        rw [e2, e3]
        exact z
theorem any_rel : ∀ {kvs : List (κ × V)} {dks : List (κ × Dv)} (k : κ), kvs.map (·.1) = dks.map (·.1) → (kvs.any fun kv => decide (kv.1 = k)) = (dks.any fun kv => decide (kv.1 = k))
  | [], [], _, _ => rfl
  | [], _ :: _, _, e => by cases e
  | _ :: _, [], _, e => by cases e
  | (a, v) :: kvs, (b, d) :: dks, k, e => by
    have e1 : a = b := (List.cons.inj e).1
    subst e1
    rw [List.any_cons, List.any_cons, any_rel k (List.cons.inj e).2]
theorem repl_rel {v : V} {d : Dv} (h : Rv K ρ H v d) (k : κ) : ∀ {kvs : List (κ × V)} {dks : List (κ × Dv)}, kvs.map (·.1) = dks.map (·.1) → RvA K ρ H (kvs.map (·.2)) (dks.map (·.2)) →
    (kvs.map fun kv => if kv.1 = k then (kv.1, v) else kv).map (·.1) = (dks.map fun kv => if kv.1 = k then (kv.1, d) else kv).map (·.1) ∧ RvA K ρ H ((kvs.map fun kv => if kv.1 = k then (kv.1, v) else kv).map (·.2)) ((dks.map fun kv => if kv.1 = k then (kv.1, d) else kv).map (·.2))
  | [], [], _, _ => ⟨rfl, .nil⟩
  | [], _ :: _, e, _ => by cases e
  | _ :: _, [], e, _ => by cases e
  | (a, u) :: kvs, (b, w) :: dks, e, r => by
    have e1 : a = b := (List.cons.inj e).1
    subst e1
    cases r with
    | cons h1 r1 =>
      obtain ⟨i1, i2⟩ := repl_rel h k (List.cons.inj e).2 r1
      by_cases hk : a = k
      · simp only [List.map_cons, hk, if_true]
        exact ⟨by rw [i1], .cons h i2⟩
      · simp only [List.map_cons, hk, if_false]
        exact ⟨by rw [i1], .cons h1 i2⟩
theorem put_rel {v : V} {d : Dv} (h : Rv K ρ H v d) (k : κ) {kvs : List (κ × V)} {dks : List (κ × Dv)} (e : kvs.map (·.1) = dks.map (·.1)) (r : RvA K ρ H (kvs.map (·.2)) (dks.map (·.2))) :
    (putK kvs k v).map (·.1) = (putD dks k d).map (·.1) ∧ RvA K ρ H ((putK kvs k v).map (·.2)) ((putD dks k d).map (·.2)) := by
  unfold putK putD
  rw [any_rel k e]
  by_cases hc : (dks.any fun kv => decide (kv.1 = k)) = true
  · rw [if_pos hc, if_pos hc]
    exact repl_rel h k e r
  · rw [if_neg hc, if_neg hc]
    simp only [List.map_append, List.map_cons, List.map_nil]
    exact ⟨by rw [e], r.app (.cons h .nil)⟩
end
section
variable {G : Gx} {W : WX} {X : Cx} {ρ : Rg} {H : Hp} {S : Sto}
theorem key_rel {v : V} {d : Dv} {k : Key} (r : Rv G.K ρ H v d) (h : keyOf d = some k) : v = kV k := by
  cases r with
  | int i => cases h; rfl
  | str x _ => cases h; rfl
  | _ => cases h
theorem keys_rel : ∀ {ds : List Dv} {vs : List V} {ks : List Key}, RvA G.K ρ H vs ds → keysOf ds = some ks → vs = ks.map kV
  | [], _, ks, r, h => by
    cases r
    cases h
    rfl
  | d :: ds, _, ks, r, h => by
    obtain ⟨b, r', e1, e2, rfl⟩ := optAll_cons (show optAll (keyOf d :: ds.map keyOf) = _ from h)
    cases r with
    | cons h1 r1 => rw [key_rel h1 e1, keys_rel r1 e2]; rfl
/-- the mirror's look is the heap's -/
theorem dGet_ok {v u : V} {d e : Dv} {o : Option Dv} (rs : RS G ρ H S) (rv : Rv G.K ρ H v d) (ru : Rv G.K ρ H u e) (h : dGet S d e = some o) : ∃ a r, v = .ref a ∧ DGet H a u r ∧ ((r = none ∧ o = none) ∨ ∃ x y, r = some x ∧ o = some y ∧ Rv G.K ρ H x y) := by
  have dk : ∀ {a : Addr} {kvs : List (Key × V)} {dks : List (Key × Dv)}, H a = some (.dK kvs) → kvs.map (·.1) = dks.map (·.1) → RvA G.K ρ H (kvs.map (·.2)) (dks.map (·.2)) → (keyOf e).map (valD dks) = some o →
      ∃ r, DGet H a u r ∧ ((r = none ∧ o = none) ∨ ∃ x y, r = some x ∧ o = some y ∧ Rv G.K ρ H x y) := fun {a kvs dks} ha e1 e2 h => by
    cases q : keyOf e with
    | none => rw [q] at h; cases h
    | some k =>
      rw [q] at h
      have h' : valD dks k = o := Option.some.inj h
      have hu := key_rel ru q
      subst hu
      refine ⟨_, DGet.k ha, ?_⟩
      rcases val_rel k e1 e2 with ⟨z1, z2⟩ | ⟨x, y, z1, z2, z3⟩
      · exact .inl ⟨z1, by rw [← h', z2]⟩
      · exact .inr ⟨x, y, z1, by rw [← h', z2], z3⟩
  unfold dGet at h
  cases rv with
  | dct h1 n e1 r =>
    obtain ⟨r', q1, q2⟩ := dk h1 e1 r h
    exact ⟨_, r', rfl, q1, q2⟩
  | @loc n a hn =>
    obtain ⟨ob, h1, h2⟩ := rs.at hn
    dsimp only at h
    rw [h1] at h
    cases ob with
    | lst ds => cases h
    | dK dks =>
      obtain ⟨kvs, ha, e1, e2⟩ := h2
      obtain ⟨r', q1, q2⟩ := dk ha e1 e2 h
      exact ⟨_, r', rfl, q1, q2⟩
    | dT dks =>
      obtain ⟨kvs, ha, e1, e2⟩ := h2
      cases ru with
      | @tup b vs ds ht rt =>
        have h' : (keysOf ds).map (valD dks) = some o := h
        cases q : keysOf ds with
        | none => rw [q] at h'; cases h'
        | some k =>
          rw [q] at h'
          have h2 : valD dks k = o := Option.some.inj h'
          have hv := keys_rel rt q
          subst hv
          refine ⟨a, _, rfl, DGet.t ha ht.1, ?_⟩
          rcases val_rel k e1 e2 with ⟨z1, z2⟩ | ⟨x, y, z1, z2, z3⟩
          · exact .inl ⟨z1, by rw [← h2, z2]⟩
          · exact .inr ⟨x, y, z1, by rw [← h2, z2], z3⟩
      | _ => cases h
  | _ => cases h
theorem re_dget {o i : Expr} {mo mi : EX} {pos : Pos} (hu : X.A.units + 1 < cLine) (ho : PE X o (tE G W mo)) (hi : PE X i (tE G W mi)) (hs : NoSl i) : PE X (.Subscript o i pos) (tE G W (e2 mDGet mo mi)) := (pe_dget hu ho hi hs).imp fun σ H Q q => by
  obtain ⟨ρ, δ, S, cf, p⟩ := q
  refine ⟨ρ, δ, S, cf, (Post.bind p).mono fun x H1 ⟨ρ1, S1, d, s1, rs1, rx, p1⟩ => ?_⟩
  refine ⟨ρ1, δ, S1, cf.step s1 rs1, (Post.bind p1).mono fun y H2 ⟨ρ2, S2, e, s2, rs2, ry, p2⟩ => ?_⟩
  unfold mDGet at p2
  dsimp only at p2
  split at p2
  · rename_i v hd
    obtain ⟨a, r, rfl, g, h⟩ := dGet_ok rs2 (rx.step s2) ry hd
    rcases h with ⟨_, z⟩ | ⟨x, y, rfl, z, rr⟩
    · cases z
    · cases z
      exact ⟨a, x, rfl, g, p2.val rs2 rr⟩
  · exact p2.elim
/-- e in d -/
def rDIn (k : Bool → Bool) : R2 := fun y x H Q => ∃ a o, x = .ref a ∧ DGet H a y o ∧ Q (.bl (k o.isSome)) H
theorem op_dIn (hu : X.A.units + 1 < cLine) : OpR X (compareOp .In) (rDIn id) := by
  intro pins s σ H x y v u Q I rx ry h
  obtain ⟨a, o, rfl, g, q⟩ := h
  cases ry
  exact L2.d_in hu I g rx fun s' I' => ⟨.bl o.isSome, H, I', rfl, q⟩
theorem op_dNotIn (hu : X.A.units + 1 < cLine) : OpR X (compareOp .NotIn) (rDIn not) := by
  intro pins s σ H x y v u Q I rx ry h
  obtain ⟨a, o, rfl, g, q⟩ := h
  cases ry
  exact L2.d_notIn hu I g rx fun s' I' => ⟨.bl (!o.isSome), H, I', rfl, q⟩
theorem d_dIn {k : Bool → Bool} : Op2 G W (rDIn k) (mDIn k) := by
  intro ρ H σ S x y d e Q rs rx ry p
  unfold mDIn at p
  split at p
  · rename_i o hd
    obtain ⟨a, r, rfl, g, h⟩ := dGet_ok rs ry rx hd
    refine ⟨a, r, rfl, g, ?_⟩
    have e : r.isSome = o.isSome := by
      rcases h with ⟨rfl, rfl⟩ | ⟨_, _, rfl, rfl, _⟩ <;> rfl
    rw [e]
    exact p.val rs (.bl _)
  · exact p.elim
theorem isD_ok {v : V} {d : Dv} (rs : RS G ρ H S) (r : Rv G.K ρ H v d) (h : kind S d = some "dict") : ∃ a, v = .ref a ∧ IsD H a := by
  cases r with
  | non => exact absurd h (by show ¬ (some "NoneType" = some "dict"); decide)
  | bl b => exact absurd h (by show ¬ (some "bool" = some "dict"); decide)
  | int i => exact absurd h (by show ¬ (some "int" = some "dict"); decide)
  | str x _ => exact absurd h (by show ¬ (some "str" = some "dict"); decide)
  | tup h1 _ => exact absurd h (by show ¬ (some "tuple" = some "dict"); decide)
  | lst h1 _ _ => exact absurd h (by show ¬ (some "list" = some "dict"); decide)
  | con h1 _ => exact absurd h (by show ¬ (some "list" = some "dict"); decide)
  | dct h1 _ _ _ => exact ⟨_, rfl, .inl ⟨_, .inl h1⟩⟩
  | @loc n a hn =>
    have h : (match S[n]? with | some (.lst _) => some "list" | some (.dK _) => some "dict" | some (.dT _) => some "dict" | none => none) = some "dict" := h
    obtain ⟨ob, h1, h2⟩ := rs.at hn
    rw [h1] at h
    cases ob with
    | lst ds => exact absurd h (by show ¬ (some "list" = some "dict"); decide)
    | dK ds =>
      obtain ⟨vs, q, _⟩ := h2
      exact ⟨a, rfl, .inl ⟨_, .inl q⟩⟩
    | dT ds =>
      obtain ⟨vs, q, _⟩ := h2
      exact ⟨a, rfl, .inr ⟨_, .inl q⟩⟩
theorem re_dget2 {o e f : Expr} {mo me mf : EX} {apos cpos : Pos} (hu : X.A.units + 1 < cLine) (ho : PE X o (tE G W mo)) (he : PE X e (tE G W me)) (hf : PE X f (tE G W mf)) (m : M2 X o "get" apos e f cpos) : PE X (.Call (.Attribute o "get" apos) [e, f] [] cpos) (tE G W (eDGet2 mo me mf)) :=
  (pe_dget2 hu ho he hf m).imp fun σ H Q q => by
    obtain ⟨ρ, δ, S, cf, p⟩ := q
    refine ⟨ρ, δ, S, cf, (Post.bind p).mono fun x H1 ⟨ρ1, S1, d, s1, rs1, rx, p1⟩ => ?_⟩
    dsimp only at p1
    split at p1
    · rename_i hk
      obtain ⟨a, rfl, hd⟩ := isD_ok rs1 rx hk
      refine ⟨a, rfl, hd, ρ1, δ, S1, cf.step s1 rs1, (Post.bind p1).mono fun y H2 ⟨ρ2, S2, e, s2, rs2, ry, p2⟩ => ?_⟩
      refine ⟨ρ2, δ, S2, (cf.step s1 rs1).step s2 rs2, (Post.bind p2).mono fun z H3 ⟨ρ3, S3, f, s3, rs3, rz, p3⟩ => ?_⟩
      dsimp only at p3
      split at p3
      · rename_i oo hg
        obtain ⟨a', r, ea, g, h⟩ := dGet_ok rs3 ((rx.step s2).step s3) (ry.step s3) hg
        cases ea
        refine ⟨r, g, ?_⟩
        rcases h with ⟨rfl, rfl⟩ | ⟨x, y, rfl, rfl, rr⟩
        · exact p3.val rs3 rz
        · exact p3.val rs3 rr
      · exact p3.elim
    · exact p1.elim
theorem re_dget1 {o e : Expr} {mo me : EX} {apos cpos : Pos} (hu : X.A.units + 1 < cLine) (ho : PE X o (tE G W mo)) (he : PE X e (tE G W me)) (m : M1 X o "get" apos e cpos) : PE X (.Call (.Attribute o "get" apos) [e] [] cpos) (tE G W (eDGet1 mo me)) :=
  (pe_dget1 hu ho he m).imp fun σ H Q q => by
    obtain ⟨ρ, δ, S, cf, p⟩ := q
    refine ⟨ρ, δ, S, cf, (Post.bind p).mono fun x H1 ⟨ρ1, S1, d, s1, rs1, rx, p1⟩ => ?_⟩
    dsimp only at p1
    split at p1
    · rename_i hk
      obtain ⟨a, rfl, hd⟩ := isD_ok rs1 rx hk
      refine ⟨a, rfl, hd, ρ1, δ, S1, cf.step s1 rs1, (Post.bind p1).mono fun y H2 ⟨ρ2, S2, e, s2, rs2, ry, p2⟩ => ?_⟩
      dsimp only at p2
      split at p2
      · rename_i oo hg
        obtain ⟨a', r, ea, g, h⟩ := dGet_ok rs2 (rx.step s2) ry hg
        cases ea
        refine ⟨r, g, ?_⟩
        rcases h with ⟨rfl, rfl⟩ | ⟨x, y, rfl, rfl, rr⟩
        · exact p2.val rs2 .non
        · exact p2.val rs2 rr
      · exact p2.elim
    · exact p1.elim
/-- a[b] = v -/
theorem rs_dput {o i e : Expr} {mo mi me : EX} {pos pos' : Pos} (hu : X.A.units + 1 < cLine) (ho : PE X o (tE G W mo)) (hi : PE X i (tE G W mi)) (hv : PE X e (tE G W me)) (hs : swapsWith e (some (.Subscript o i pos')) pos.line X.env = pure false := by rfl) :
    PS X (.Assign [.Subscript o i pos'] e pos) (tS G W (sDPut mo mi me)) := (ps_dput hu ho hi hv hs).imp fun D σ H q => by
  obtain ⟨ρ, δ, S, cf, p⟩ := q
  refine ⟨ρ, δ, S, cf, (postS_on (rel := vr G) cf p).mono fun x H1 ⟨ρ1, S1, d, s1, rs1, rx, p1⟩ => ?_⟩
  have c1 := cf.step s1 rs1
  refine ⟨ρ1, δ, S1, c1, (postS_on (rel := vr G) c1 p1).mono fun y H2 ⟨ρ2, S2, e, s2, rs2, ry, p2⟩ => ?_⟩
  have c2 := c1.step s2 rs2
  refine ⟨ρ2, δ, S2, c2, (postS_on (rel := vr G) c2 p2).mono fun z H3 ⟨ρ3, S3, f, s3, rs3, rz, p3⟩ => ?_⟩
  have c3 := c2.step s3 rs3
  have rx3 := (rx.step s2).step s3
  have ry3 := ry.step s3
  cases ed : dPut S3 e f d with
  | none => rw [ed] at p3; exact p3.elim
  | some S4 =>
    rw [ed] at p3
    unfold dPut at ed
    cases ry3 with
    | @loc n a hn =>
      obtain ⟨ob, h1, h2⟩ := rs3.at hn
      dsimp only at ed
      rw [h1] at ed
      cases ob with
      | lst ds => cases ed
      | dK dks =>
        obtain ⟨kvs, ha, e1, e2⟩ := h2
        dsimp only at ed
        cases q : keyOf f with
        | none => rw [q] at ed; cases ed
        | some k =>
          rw [q] at ed
          dsimp only at ed
          split at ed
          · rename_i hl
            cases ed
            have hz := key_rel rz q
            subst hz
            have st : Stp ρ3 H3 ρ3 (upd H3 a (.dK (putK kvs k x))) := Stp.put (List.mem_of_getElem? hn)
            have el : kvs.length = dks.length := by simpa using congrArg List.length e1
            refine ⟨a, _, rfl, DPut.k ha (lim_lt (by rw [el]; exact hl)), ?_⟩
            obtain ⟨q1, q2⟩ := put_rel rx3 k e1 e2
            exact p3 σ _ ρ3 st (c3.step st (rs3.put hn ⟨_, upd_same, q1, q2.step st⟩))
          · cases ed
      | dT dks =>
        obtain ⟨kvs, ha, e1, e2⟩ := h2
        cases rz with
        | @tup b vs ds ht rt =>
          dsimp only at ed
          cases q : keysOf ds with
          | none => rw [q] at ed; cases ed
          | some k =>
            rw [q] at ed
            dsimp only at ed
            split at ed
            · rename_i hl
              cases ed
              have hv := keys_rel rt q
              subst hv
              have st : Stp ρ3 H3 ρ3 (upd H3 a (.dT (putK kvs k x))) := Stp.put (List.mem_of_getElem? hn)
              have el : kvs.length = dks.length := by simpa using congrArg List.length e1
              refine ⟨a, _, rfl, DPut.t ha ht.1 (lim_lt (by rw [el]; exact hl)), ?_⟩
              obtain ⟨q1, q2⟩ := put_rel rx3 k e1 e2
              exact p3 σ _ ρ3 st (c3.step st (rs3.put hn ⟨_, upd_same, q1, q2.step st⟩))
            · cases ed
        | _ => cases ed
    | _ => cases ed
/-! ### {} -/
def mDct0 : EX := eC (.dct [])
theorem re_dct0 {pos : Pos} : PE X (.Dict [] [] pos) (tE G W mDct0) := pe_dnewK.imp fun σ H Q q => by
  obtain ⟨ρ, δ, S, cf, p⟩ := q
  exact fun u hu => p _ _ ρ (Stp.new hu) (cf.rs.new hu) (.dct upd_same (cf.rs.nin hu) rfl .nil)
end
end Mi
end T_Sim9
section T_SimA
set_option Elab.async false
set_option linter.all false
set_option maxRecDepth 100000
set_option maxHeartbeats 4000000
/-! SimA: dict displays, dict comprehensions, join, walks over lists of the store. -/
namespace Mi
open PySem PySem.Spec PyProof.Rows L2
/-! ### {(..): v} -/
def tDispT (tk tv : TE) : TE := fun σ H Q => ∀ p, H p = none → tk σ (upd H p (.dT [])) fun x H1 => tv σ H1 fun y H2 => ∃ b ks, H2 p = some (.dT []) ∧ x = .ref b ∧ H2 b = some (.tup (ks.map kV)) ∧ Q (.ref p) (upd H2 p (.dT [(ks, y)]))
theorem pe_dispT {X : Cx} {k v : Expr} {tk tv : TE} {pos : Pos} (hu : X.A.units + 1 < cLine) (hk : PE X k tk) (hv : PE X v tv) : PE X (.Dict [some k] [v] pos) (tDispT tk tv) := by
  refine ⟨fun pins s σ H Q I q => ?_⟩
  have hn := I.hok.fresh (Nat.le_refl s.heap.objs.size)
  have I1 := I.laid (a := s.heap.objs.size) (o := .dT []) (h' := s.heap.push { cls := .type "dict", data := .dict #[] }) (t' := s.toks) (fun _ _ q => Heap.get?_push_of_some _ q) (Nat.le_refl _) (dt_empty s.heap I.big)
  refine wpAny_Dict_any rfl rfl (by simp) (by show 1 ≤ 15; decide) (pairTrees_cons_walk (thn (hk.run pins _ σ _ _ I1 (q _ hn)) fun u s1 ⟨x, H1, I2, rx, q1⟩ => thn (hv.run pins s1 σ H1 _ I2 q1) fun w2 s2 ⟨y, H2, I3, ry, b, ks, hp, ex, hb, q2⟩ => pairTrees_nil_walk ?_))
  subst ex
  obtain rfl : u = Value.ref b := rx
  obtain ⟨z, hd, xs, rel, dd⟩ := dt_of I3.hok hp
  cases rel
  unfold storeAll
  rw [List.forIn_cons]
  refine wpAny_bind (wpAny_bind (wpAny_dictSet_heap (hsz := Nat.zero_le _) (show (tupleKind (mixKind X.prog X.w)).room X.A from (show X.A.units < cLine by omega)) (key_of I3.hok hb) dd fun h' dd' hs => wpAny_pure ?_))
  show wpAny _ _ (forIn [] PUnit.unit _) _ _ _
  rw [List.forIn_nil]
  refine wpAny_pure ⟨.ref s.heap.objs.size, _, ?_, rfl, q2⟩
  have kt : L2.KT H2 (putK [] ks y) (storedH [] ks b w2) := L2.KT.put (kvs := []) (xs := []) .nil ks hb ry
  obtain ⟨o', es, ep, ho, h2, h3, h4, _, h5⟩ := dd'
  refine d_write I3 (by rw [hp]; exact True.intro) hs ⟨o', ho⟩ ⟨by show 1 ≤ sizeLine; decide, hd, _, (show L2.KT H2 [(ks, y)] (storedH [] ks b w2) from kt).keeps fun c ys ec => ?_, o', es, ep, ho, h2, h3, h4, h5⟩
  rw [upd_ne (ne_of ec hp (fun z => nomatch z))]
  exact ec
/-- what was private comes into the store -/
theorem RS.reveal {G : Gx} {ρ ρ' : Rg} {H : Hp} {S : Sto} {p : Addr} {o : HO} {ob : Ob} (r : RS G ρ' H S) (eb : ρ'.b = ρ.b ++ [p]) (nb : p ∉ ρ.b) {u : HO} (hu : H p = some u) (h1 : NoTbl u) (h2 : ∀ c q, u ≠ LamX.CodeO c q) (hr : Ro G.K ⟨ρ'.s ++ [p], ρ.b⟩ (upd H p o) p ob) :
    RS G ⟨ρ'.s ++ [p], ρ.b⟩ (upd H p o) (S ++ [ob]) := by
  have mp : p ∈ ρ'.b := by rw [eb]; simp
  have ns := (r.bt p mp).1
  have conv : ∀ {v : V} {d : Dv}, Rv G.K ρ' H v d → Rv G.K ⟨ρ'.s ++ [p], ρ.b⟩ (upd H p o) v d := fun {v d} q => by
    have ag : Agr ρ' H ρ' (upd H p o) := ⟨rfl, fun _ z => z, fun a n => upd_ne fun e => n.2 (by rw [e]; exact mp)⟩
    have q1 := q.agr ag
    -- from ρ' to the new ρ: a step in which p is new in the store
    have st : ∀ {v : V} {d : Dv}, Rv G.K ρ' (upd H p o) v d → Rv G.K ⟨ρ'.s ++ [p], ρ.b⟩ (upd H p o) v d := by
      have out : ∀ a, Out ρ' a → Out ⟨ρ'.s ++ [p], ρ.b⟩ a := fun a n => ⟨fun m => (List.mem_append.mp m).elim n.1 fun m => n.2 (by rw [List.mem_singleton.mp m]; exact mp), fun m => n.2 (by rw [eb]; exact List.mem_append_left _ m)⟩
      intro v d q
      exact Rv.rec (motive_1 := fun v d _ => Rv G.K ⟨ρ'.s ++ [p], ρ.b⟩ (upd H p o) v d) (motive_2 := fun vs ds _ => RvA G.K ⟨ρ'.s ++ [p], ρ.b⟩ (upd H p o) vs ds) .non .bl .int .str
        (fun h _ ih => .tup ⟨h.1, out _ h.2⟩ ih) (fun h n _ ih => .lst h (out _ n) ih)
        (fun h _ ih => .con (h.imp (fun z => ⟨z.1, out _ z.2⟩) id) ih) (fun h n e _ ih => .dct h (out _ n) e ih)
        (fun {n a} h => .loc (by show (ρ'.s ++ [p])[n]? = some a; rw [List.getElem?_append_left (List.getElem?_eq_some_iff.mp h).1]; exact h)) .nil (fun _ _ i1 i2 => .cons i1 i2) q
    exact st q1
  have convA : ∀ {vs : List V} {ds : List Dv}, RvA G.K ρ' H vs ds → RvA G.K ⟨ρ'.s ++ [p], ρ.b⟩ (upd H p o) vs ds := fun {vs} => by
    induction vs with
    | nil => intro ds q; cases q; exact .nil
    | cons v vs ih => intro ds q; cases q with | cons h t => exact .cons (conv h) (ih t)
  have nep : ∀ {a : Addr}, a ∈ ρ'.s → a ≠ p := fun m e => ns (by rw [← e]; exact m)
  refine ⟨by simp [r.len], ?_, fun a m => ?_, fun k a ob' e1 e2 => ?_, tabs_put r.tab hu h1 h2, ?_⟩
  · exact List.nodup_append.mpr ⟨r.nd, by simp, fun a ha b hb e => by rw [List.mem_singleton.mp hb] at e; exact nep ha e⟩
  · have m' : a ∈ ρ'.b := by rw [eb]; exact List.mem_append_left _ m
    have hne : a ≠ p := fun e => nb (by rw [← e]; exact m)
    refine ⟨fun z => ?_, ?_⟩
    · rcases List.mem_append.mp z with z | z
      · exact (r.bt a m').1 z
      · exact hne (List.mem_singleton.mp z)
    · obtain ⟨o', q⟩ := (r.bt a m').2
      exact ⟨o', by rw [upd_ne hne]; exact q⟩
  · by_cases hk : k < ρ'.s.length
    · rw [List.getElem?_append_left hk] at e1
      rw [List.getElem?_append_left (by rw [← r.len]; exact hk)] at e2
      have q := r.ob k a ob' e1 e2
      have hne := nep (List.mem_of_getElem? e1)
      cases ob' with
      | lst ds =>
        obtain ⟨vs, q1, q2⟩ := q
        exact ⟨vs, by rw [upd_ne hne]; exact q1, convA q2⟩
      | dK ds =>
        obtain ⟨vs, q1, q3, q2⟩ := q
        exact ⟨vs, by rw [upd_ne hne]; exact q1, q3, convA q2⟩
      | dT ds =>
        obtain ⟨vs, q1, q3, q2⟩ := q
        exact ⟨vs, by rw [upd_ne hne]; exact q1, q3, convA q2⟩
    · rw [List.getElem?_append_right (by omega)] at e1
      rw [List.getElem?_append_right (by rw [← r.len]; omega), ← r.len] at e2
      have ek : k - ρ'.s.length = 0 := by
        have := (List.getElem?_eq_some_iff.mp e1).1
        simp at this
        omega
      rw [ek] at e1 e2
      cases e1
      cases e2
      exact hr
  · have x := r.xok
    unfold Xok at x ⊢
    split at x
    · trivial
    · obtain ⟨fv, z1, z2, z3, z4⟩ := x
      refine ⟨fv, by rw [upd_ne (fun e => z2.2 (by rw [e]; exact mp))]; exact z1, ⟨fun m => (List.mem_append.mp m).elim z2.1 fun m => z2.2 (by rw [List.mem_singleton.mp m]; exact mp), fun m => z2.2 (by rw [eb]; exact List.mem_append_left _ m)⟩, z3, convA z4⟩
section
variable {G : Gx} {W : WX} {X : Cx}
/-- {k: v}, k a tuple: a dict of the store -/
def eDispT (a b : EX) : EX := fun δ S0 => match a δ S0 with
  | .ok x S1 => (match b δ S1 with
    | .ok y S => (match x with
      | .tup xs => (match keysOf xs with
        | some ks => .ok (.loc S.length) (S ++ [.dT [(ks, y)]])
        | none => .bad)
      | _ => .bad)
    | _ => .bad)
  | _ => .bad
theorem re_dispT {k v : Expr} {mk mv : EX} {pos : Pos} (hu : X.A.units + 1 < cLine) (hk : PE X k (tE G W0 mk)) (hv : PE X v (tE G W0 mv)) (hxn : G.xc = none := by rfl) : PE X (.Dict [some k] [v] pos) (tE G W (eDispT mk mv)) := (pe_dispT hu hk hv).imp fun σ H Q q => by
  obtain ⟨ρ, δ, S, cf, p⟩ := q
  intro u hu0
  have rsH := cf.rs.hide (o := .dT []) hu0
  have stB : StB ρ H (ρ.hide u) (upd H u (.dT [])) := ⟨⟨[], by simp [Rg.hide], fun _ z => nomatch z⟩, ⟨[u], rfl, fun a m => by rw [List.mem_singleton.mp m]; exact hu0⟩, (Stp.new (ρ := ρ) (o := .dT []) hu0).kept, (Stp.new (ρ := ρ) (o := .dT []) hu0).there⟩
  have cf1 : Cf G (ρ.hide u) (upd H u (.dT [])) σ δ S := by
    have z := cf.wipe stB rsH [] hxn
    exact z
  have nb : u ∉ ρ.b := (cf.rs.nin hu0).2
  refine ⟨ρ.hide u, δ, S, cf1, ?_⟩
  unfold eDispT at p
  cases e1 : mk δ S with
  | bad => rw [e1] at p; exact p.elim
  | ex x S1 => rw [e1] at p; exact p.elim
  | ok x S1 =>
    rw [e1] at p
    intro vx H1 ρ1 s1 rs1 rx
    refine ⟨ρ1, δ, S1, cf1.step s1 rs1, ?_⟩
    dsimp only at p
    cases e2 : mv δ S1 with
    | bad => rw [e2] at p; exact p.elim
    | ex y S2 => rw [e2] at p; exact p.elim
    | ok y S2 =>
      rw [e2] at p
      intro vy H2 ρ2 s2 rs2 ry
      have st := s1.trans s2
      have hu2 : H2 u = some (.dT []) := st.kept _ _ upd_same (by simpa [Rg.hide] using (cf.rs.nin hu0).1) (fun _ z => nomatch z)
      have rx2 := rx.step s2
      have eb : ρ2.b = ρ.b ++ [u] := by rw [st.pb]; rfl
      cases rx2 with
      | @tup b vs ds ht rt =>
        dsimp only at p
        cases q : keysOf ds with
        | none => rw [q] at p; exact p.elim
        | some ks =>
          rw [q] at p
          have hv := keys_rel rt q
          subst hv
          refine ⟨b, ks, hu2, rfl, ht.1, ?_⟩
          have ob : Ro G.K ⟨ρ2.s ++ [u], ρ.b⟩ (upd H2 u (.dT [(ks, vy)])) u (.dT [(ks, y)]) := by
            refine ⟨[(ks, vy)], upd_same, rfl, .cons ?_ .nil⟩
            have ag : Agr ρ2 H2 ρ2 (upd H2 u (.dT [(ks, vy)])) := ⟨rfl, fun _ z => z, fun a n => upd_ne fun e => n.2 (by rw [e, eb]; simp)⟩
            have r1 := ry.agr ag
            have out : ∀ a, Out ρ2 a → Out ⟨ρ2.s ++ [u], ρ.b⟩ a := fun a n => ⟨fun m => (List.mem_append.mp m).elim n.1 fun m => n.2 (by rw [List.mem_singleton.mp m, eb]; simp), fun m => n.2 (by rw [eb]; exact List.mem_append_left _ m)⟩
            exact Rv.rec (motive_1 := fun v d _ => Rv G.K ⟨ρ2.s ++ [u], ρ.b⟩ (upd H2 u (.dT [(ks, vy)])) v d) (motive_2 := fun vs ds _ => RvA G.K ⟨ρ2.s ++ [u], ρ.b⟩ (upd H2 u (.dT [(ks, vy)])) vs ds) .non .bl .int .str
              (fun h _ ih => .tup ⟨h.1, out _ h.2⟩ ih) (fun h n _ ih => .lst h (out _ n) ih)
              (fun h _ ih => .con (h.imp (fun z => ⟨z.1, out _ z.2⟩) id) ih) (fun h n e _ ih => .dct h (out _ n) e ih)
              (fun {n a} h => .loc (by show (ρ2.s ++ [u])[n]? = some a; rw [List.getElem?_append_left (List.getElem?_eq_some_iff.mp h).1]; exact h)) .nil (fun _ _ i1 i2 => .cons i1 i2) r1
          have rs3 := rs2.reveal eb nb hu2 (fun _ z => nomatch z) (fun _ _ z => nomatch z) ob
          refine p (.ref u) _ ⟨ρ2.s ++ [u], ρ.b⟩ ⟨?_, rfl, fun a o h n nt => ?_, fun a o h => ?_⟩ rs3 (.loc ?_)
          · obtain ⟨m2, e2, f2⟩ := st.pre
            refine ⟨m2 ++ [u], by rw [e2]; simp [Rg.hide], fun a ha => ?_⟩
            rcases List.mem_append.mp ha with ha | ha
            · have := f2 a ha
              by_cases hau : a = u
              · rw [hau]; exact hu0
              · rwa [upd_ne hau] at this
            · rw [List.mem_singleton.mp ha]; exact hu0
          · rw [upd_ne (ne_of_none h hu0)]
            exact st.kept a o (stB.kept a o h n nt) (by simpa [Rg.hide] using n) nt
          · rw [upd_ne (ne_of_none h hu0)]
            obtain ⟨o1, h1⟩ := stB.there a o h
            exact st.there a o1 h1
          · show (ρ2.s ++ [u])[S2.length]? = some u
            rw [← rs2.len, List.getElem?_append_right (Nat.le_refl _)]
            simp
      | _ => exact p.elim
end
end Mi
end T_SimA
section T_SimB
set_option Elab.async false
set_option linter.all false
set_option maxRecDepth 100000
set_option maxHeartbeats 4000000
/-! SimB: dict comprehensions, walks over lists of the store, join. -/
namespace Mi
open PySem PySem.Spec PyProof.Rows L2
/-! ### the mirror -/
def dcGo (g : TGm) (t : EB) (ek ev : EX) (δ : En) : List Dv → List (Key × Dv) → Sto → Res (List (Key × Dv))
  | [], acc, S => .ok acc S
  | d :: r, acc, S => match g d δ S with
    | none => .bad
    | some (δ1, S1) => match t δ1 S1 with
      | .ok true S2 => (match ek δ1 S2 with
        | .ok y S3 => (match ev δ1 S3 with
          | .ok z S4 => (match keyOf y with
            | some k => dcGo g t ek ev δ r (putD acc k z) S4
            | none => .bad)
          | _ => .bad)
        | _ => .bad)
      | .ok false S2 => dcGo g t ek ev δ r acc S2
      | _ => .bad
def dcOk (r : Res (List (Key × Dv))) : Res Dv := match r with
  | .ok ds S => .ok (.dct ds) S
  | _ => .bad
def dcEnd (g : TGm) (t : EB) (ek ev : EX) (δ : En) (ds : List Dv) (S : Sto) : Res Dv := if ds.length ≤ lim then dcOk (dcGo g t ek ev δ ds [] S) else .bad
def eDc (it : EA) (g : TGm) (t : EB) (ek ev : EX) (vs : List Nat) : EX := fun δ => (it δ).bind fun ds => dcEnd g t ek ev (wipeD δ vs) ds
/-- for .. in a list of the store, as it stands at each turn -/
def nxL (S : Sto) (n i : Nat) : Option (Option Dv) := match S[n]? with
  | some (.lst ds) => some ds[i]?
  | _ => none
def forLGo (n : Nat) (g : TGm) (body : SM) : Nat → Nat → En → Sto → SR
  | 0, _, _, _ => .bad
  | f + 1, i, δ, S => match nxL S n i with
    | none => .bad
    | some none => .nx δ S
    | some (some d) => match g d δ S with
      | none => .bad
      | some (δ1, S1) => match body δ1 S1 with
        | .nx δ' S' => forLGo n g body f (i + 1) δ' S'
        | .ct δ' S' => forLGo n g body f (i + 1) δ' S'
        | .bk δ' S' => .nx δ' S'
        | .rt d S' => .rt d S'
        | .ex x δ' S' => .ex x δ' S'
        | .bad => .bad
/-- for .. in e, e a list of the store | any other row -/
def forE (g : TGm) (body : SM) (d : Dv) (δ : En) (S : Sto) : SR := match d with
  | .loc n => forLGo n g body lim 0 δ S
  | d => onOk (mItems d S) δ fun ds S' => forGo g body ds δ S'
def sForE (e : EX) (g : TGm) (body : SM) : SM := fun δ S => onOk (e δ S) δ fun d S' => forE g body d δ S'
def lcLGo (n : Nat) (g : TGm) (t : EB) (e : EX) (δ : En) : Nat → Nat → List Dv → Sto → Res (List Dv)
  | 0, _, _, _ => .bad
  | f + 1, i, acc, S => match nxL S n i with
    | none => .bad
    | some none => .ok acc S
    | some (some d) => match g d δ S with
      | none => .bad
      | some (δ1, S1) => match t δ1 S1 with
        | .ok true S2 => (match e δ1 S2 with
          | .ok y S3 => lcLGo n g t e δ f (i + 1) (acc ++ [y]) S3
          | _ => .bad)
        | .ok false S2 => lcLGo n g t e δ f (i + 1) acc S2
        | _ => .bad
def lcE (g : TGm) (t : EB) (e : EX) (δ : En) (d : Dv) : M Dv := fun S => match d with
  | .loc n => lcOk (lcLGo n g t e δ lim 0 [] S)
  | d => (match mItems d S with
    | .ok ds S' => lcEnd g t e δ ds S'
    | _ => .bad)
def eLcE (a : EX) (g : TGm) (t : EB) (e : EX) (vs : List Nat) : EX := fun δ => (a δ).bind fun d => lcE g t e (wipeD δ vs) d
section
variable {G : Gx} {W : WX} {X : Cx} {tg : Expr} {pos : Pos}
/-! ### dict comprehensions -/
theorem t_dc {mi : EA} {ws vs : List Nat} {g : TGm} {mt : EB} {mk me : EX} {σ : L2.St} {H : Hp} {Q : VK} (hxn : G.xc = none) (hw : ∀ j ∈ ws, j ∈ vs) (q : tE G W (eDc mi g mt mk me vs) σ H Q) : tDc (tI G W mi) (tG G ws g) (tB G W0 mt) (tE G W0 mk) (tE G W0 me) vs σ H Q := by
  obtain ⟨ρ, δ, S, cf, p⟩ := q
  refine ⟨ρ, δ, S, cf, (Post.bind p).mono fun J H1 ⟨ρ1, S1, ds, s1, rs1, rj, p1⟩ D hD => ?_⟩
  have cf1 := cf.step s1 rs1
  have p1 : Post G W σ (vr G) ρ1 H1 (if ds.length ≤ lim then dcOk (dcGo g mt mk me (wipeD δ vs) ds [] S1) else .bad) Q := p1
  by_cases hlim : ds.length ≤ lim
  · rw [if_pos hlim] at p1
    refine ⟨fun i m H' => m = ds.length - i ∧ i ≤ ds.length ∧ ∃ ρ' S' acc av, StB ρ1 H1 ρ' H' ∧ ρ'.b = ρ1.b ++ [D] ∧ RS G ρ' H' S' ∧ H' D = some (.dK av) ∧ (av.map (·.1) = acc.map (·.1) ∧ RvA G.K ρ' H' (av.map (·.2)) (acc.map (·.2))) ∧ av.length ≤ i ∧
      Post G W σ (vr G) ρ1 H1 (dcOk (dcGo g mt mk me (wipeD δ vs) (ds.drop i) acc S')) Q, ⟨ds.length, by simp, Nat.zero_le _, ρ1.hide D, S1, [], [], ?_, rfl, rs1.hide hD, upd_same, ⟨rfl, .nil⟩, Nat.le_refl _, by simpa using p1⟩, ?_⟩
    · exact ⟨⟨[], by simp [Rg.hide], fun _ z => nomatch z⟩, ⟨[D], rfl, fun a m => by rw [List.mem_singleton.mp m]; exact hD⟩, (Stp.new (ρ := ρ1) hD).kept, (Stp.new (ρ := ρ1) hD).there⟩
    rintro i m H' ⟨rfl, hi, ρ', S', acc, av, s', eb, rs', hd', ra, hl, p'⟩
    have mD : D ∈ ρ'.b := by rw [eb]; simp
    by_cases hlt : i < ds.length
    · have e0 : ds.drop i = ds[i] :: ds.drop (i + 1) := List.drop_eq_getElem_cons hlt
      rw [e0] at p'
      obtain ⟨g1, g2⟩ := rj.go ρ' H' S' i ds[i] s' rs' (List.getElem?_eq_getElem hlt)
      refine .inr ⟨g1, fun H'' => ∃ ρ'' S'' acc'' av'', StB ρ1 H1 ρ'' H'' ∧ ρ''.b = ρ1.b ++ [D] ∧ RS G ρ'' H'' S'' ∧ H'' D = some (.dK av'') ∧ (av''.map (·.1) = acc''.map (·.1) ∧ RvA G.K ρ'' H'' (av''.map (·.2)) (acc''.map (·.2))) ∧ av''.length ≤ i + 1 ∧
        Post G W σ (vr G) ρ1 H1 (dcOk (dcGo g mt mk me (wipeD δ vs) (ds.drop (i + 1)) acc'' S'')) Q, ?_, fun x H2 hy => ?_⟩
      · rintro H'' ⟨ρ'', S'', acc'', av'', q1, q2, q3, q4, q5, q6, q7⟩
        exact ⟨ds.length - (i + 1), by omega, rfl, hlt, ρ'', S'', acc'', av'', q1, q2, q3, q4, q5, q6, q7⟩
      · obtain ⟨t1, t2, t3⟩ := g2 x H2 hy
        refine ⟨ρ', wipeD δ vs, S', ds[i], cf1.wipe (s'.trans t1) t2 vs hxn, t3, ?_⟩
        unfold dcGo at p'
        cases e : g ds[i] (wipeD δ vs) S' with
        | none =>
          rw [e] at p'
          exact p'.elim
        | some z =>
          obtain ⟨δ3, S3⟩ := z
          rw [e] at p'
          intro σ3 H3 ρ3 s3 c3 b3
          refine ⟨wipe_but b3 hw, ρ3, δ3, S3, c3, ?_⟩
          dsimp only at p'
          cases e2 : mt δ3 S3 with
          | bad =>
            rw [e2] at p'
            exact p'.elim
          | ex x S4 =>
            rw [e2] at p'
            exact p'.elim
          | ok b S4 =>
            rw [e2] at p'
            intro b' H4 ρ4 s4 rs4 eb'
            have eb2 : b' = b := eb'
            subst eb2
            have st4 : Stp ρ' H' ρ4 H4 := (t1.trans s3).trans s4
            have hD4 : H4 D = some (.dK av) := st4.kept _ _ hd' (rs'.bt D mD).1 (fun _ z => nomatch z)
            cases b' with
            | false =>
              show ∃ ρ'' S'' acc'' av'', _
              exact ⟨ρ4, S4, acc, av, s'.trans st4, by rw [st4.pb, eb], rs4, hD4, ⟨ra.1, ra.2.step st4⟩, by omega, p'⟩
            | true =>
              refine ⟨ρ4, δ3, S4, c3.step s4 rs4, ?_⟩
              dsimp only at p'
              cases e3 : mk δ3 S4 with
              | bad =>
                rw [e3] at p'
                exact p'.elim
              | ex x S5 =>
                rw [e3] at p'
                exact p'.elim
              | ok y S5 =>
                rw [e3] at p'
                intro v H5 ρ5 s5 rs5 rv
                refine ⟨ρ5, δ3, S5, (c3.step s4 rs4).step s5 rs5, ?_⟩
                dsimp only at p'
                cases e4 : me δ3 S5 with
                | bad =>
                  rw [e4] at p'
                  exact p'.elim
                | ex x S6 =>
                  rw [e4] at p'
                  exact p'.elim
                | ok z S6 =>
                  rw [e4] at p'
                  intro vz H6 ρ6 s6 rs6 rvz
                  dsimp only at p'
                  cases e5 : keyOf y with
                  | none =>
                    rw [e5] at p'
                    exact p'.elim
                  | some k =>
                    rw [e5] at p'
                    have hv := key_rel rv e5
                    subst hv
                    have st6 : Stp ρ' H' ρ6 H6 := (st4.trans s5).trans s6
                    have hD6 : H6 D = some (.dK av) := st6.kept _ _ hd' (rs'.bt D mD).1 (fun _ z => nomatch z)
                    have mD6 : D ∈ ρ6.b := by rw [st6.pb]; exact mD
                    have ag : Agr ρ6 H6 ρ6 (upd H6 D (.dK (putK av k vz))) := ⟨rfl, fun _ z => z, fun a n => upd_ne fun e => n.2 (by rw [e]; exact mD6)⟩
                    obtain ⟨r1, r2⟩ := put_rel rvz k ra.1 (ra.2.step st6)
                    have hlp := length_putK av k vz
                    refine ⟨av, k, rfl, hD6, lim_lt (by omega), ρ6, S6, putD acc k z, putK av k vz, ?_, by rw [st6.pb, eb], ?_, upd_same, ⟨r1, r2.agr ag⟩, by omega, p'⟩
                    · have z5 := s'.trans st6
                      exact ⟨z5.pre, z5.pb, fun a o h n nt => by rw [upd_ne (ne_of_none h hD)]; exact z5.kept a o h n nt, fun a o h => by rw [upd_ne (ne_of_none h hD)]; exact z5.there a o h⟩
                    · have np := (rs6.bt D mD6).1
                      refine ⟨rs6.len, rs6.nd, fun a m => ⟨(rs6.bt a m).1, ?_⟩, fun n a ob e1 e2 => (rs6.ob n a ob e1 e2).agr ag (upd_ne fun e => np (by rw [← e]; exact List.mem_of_getElem? e1)), tabs_put rs6.tab hD6 (fun _ z => by cases z) (fun _ _ z => by cases z), rs6.xok.agr ag⟩
                      by_cases e : a = D
                      · exact ⟨_, by rw [e, upd_same]⟩
                      · obtain ⟨u, q⟩ := (rs6.bt a m).2
                        exact ⟨u, by rw [upd_ne e]; exact q⟩
    · have ei : i = ds.length := by omega
      subst ei
      rw [List.drop_length] at p'
      refine .inl ⟨rj.stop ρ' H' s', ?_⟩
      have oD : D ∉ ρ1.b := fun m => by
        obtain ⟨u, z⟩ := (rs1.bt D m).2
        rw [hD] at z
        cases z
      have ag : Agr ρ' H' ⟨ρ'.s, ρ1.b⟩ H' := ⟨rfl, fun a n => ⟨n.1, fun m => n.2 (by rw [eb]; exact List.mem_append_left _ m)⟩, fun _ _ => rfl⟩
      refine p' (.ref D) H' ⟨ρ'.s, ρ1.b⟩ ⟨s'.pre, rfl, s'.kept, s'.there⟩ (rs'.show rfl eb) (.dct hd' ⟨(rs'.bt D mD).1, oD⟩ ra.1 (ra.2.agr ag))
  · rw [if_neg hlim] at p1
    exact p1.elim
theorem re_dc {kx vx iter : Expr} {ifs : List Expr} {scope : Scope} {own : List (Str × Nat)} {ws : List Nat} {g : TGm} {mt : EB} {mi : EA} {mk me : EX} (hc : X.calm = true) (hN : X.N.Nodup) (hi : PI X tg iter (tI G W mi)) (ok : BlkOk X.N X.env.scope scope own)
    (hg : ∀ (s : Shared) (H : Hp) (C : Addr) (cl : List (Str × Addr)) (fp : List Addr), PG (X.blk s H scope (compEnvC scope cl C X.env) fp) tg (tG G ws g)) (ht : ∀ (s : Shared) (H : Hp) (C : Addr) (cl : List (Str × Addr)) (fp : List Addr), PTs (X.blk s H scope (compEnvC scope cl C X.env) fp) ifs (tB G W0 mt))
    (hk : ∀ (s : Shared) (H : Hp) (C : Addr) (cl : List (Str × Addr)) (fp : List Addr), PE (X.blk s H scope (compEnvC scope cl C X.env) fp) kx (tE G W0 mk))
    (he : ∀ (s : Shared) (H : Hp) (C : Addr) (cl : List (Str × Addr)) (fp : List Addr), PE (X.blk s H scope (compEnvC scope cl C X.env) fp) vx (tE G W0 me)) (hw : ∀ j ∈ ws, j ∈ own.map (·.2)) (hs : ∀ x, foldedSetIterable iter X.env x = pure x := by intro _; rfl) (hxn : G.xc = none := by rfl) :
    PE X (.DictComp kx vx [⟨tg, iter, ifs, 0⟩] scope pos) (tE G W (eDc mi g mt mk me (own.map (·.2)))) := (pe_dc hc hN hi ok hg ht hk he hs).imp fun σ H Q q => t_dc hxn hw q
/-! ### walks over lists of the store -/
theorem itl_go {ρ : Rg} {H : Hp} {S : Sto} {n i : Nat} {a : Addr} {d : Dv} (rs : RS G ρ H S) (hn : ρ.s[n]? = some a) (h : nxL S n i = some (some d)) : (Itl G.K a).go i H ∧ ∀ x H2, (Itl G.K a).yld i H x H2 → H2 = H ∧ Rv G.K ρ H x d := by
  unfold nxL at h
  obtain ⟨ob, h1, h2⟩ := rs.at hn
  rw [h1] at h
  cases ob with
  | lst ds =>
    obtain ⟨vs, q1, q2⟩ := h2
    obtain ⟨v, e1, e2⟩ := q2.get (Option.some.inj h)
    have sq : SqL G.K H a vs := SqL.of q1
    exact ⟨⟨vs, v, sq, e1⟩, fun x H2 ⟨e3, e4⟩ => by
      have e5 := (e4 vs sq).symm.trans e1
      cases e5
      exact ⟨e3, e2⟩⟩
  | _ => cases h
theorem itl_stop {ρ : Rg} {H : Hp} {S : Sto} {n i : Nat} {a : Addr} (rs : RS G ρ H S) (hn : ρ.s[n]? = some a) (h : nxL S n i = some none) : (Itl G.K a).stop i H := by
  unfold nxL at h
  obtain ⟨ob, h1, h2⟩ := rs.at hn
  rw [h1] at h
  cases ob with
  | lst ds =>
    obtain ⟨vs, q1, q2⟩ := h2
    have e : ds[i]? = none := Option.some.inj h
    exact ⟨vs, SqL.of q1, by rw [q2.length]; exact List.getElem?_eq_none_iff.mp e⟩
  | _ => cases h
theorem loc_of {ρ : Rg} {H : Hp} {v : V} {n : Nat} (r : Rv G.K ρ H v (.loc n)) : ∃ a, v = .ref a ∧ ρ.s[n]? = some a := by
  cases r with
  | loc h => exact ⟨_, rfl, h⟩
theorem rs_forL {e : Expr} {body : List Stmt} {vs : List Nat} {g : TGm} {mb : SM} {me : EX} (hK : X.K = G.K) (hp : PassesOwn (model X.prog X.w) X.A X.env X.xe) (hc : X.calm = true) (he : PE X e (tE G W me)) (hg : PG X tg (tG G vs g)) (hb : PSs X body (tS G W mb))
    (hs : ∀ x, foldedSetIterable e X.env x = pure x := by intro _; rfl) : PS X (.For tg e body [] pos) (tS G W (sForE me g mb)) := by
  have hA := rs_for (G := G) (W := W) (pos := pos) hp hc (ri_of hK he) hg hb hs
  have hB := ps_for (pos := pos) hp hc (pi_list (tg := tg) he) hg hb hs
  refine ⟨fun pins s σ H D I q => ?_⟩
  obtain ⟨ρ, δ, S, cf, p⟩ := q
  unfold sForE at p
  have viaA : (∀ n S1, me δ S ≠ .ok (.loc n) S1) → PostS G W ρ H (sFor (iOf me) g mb δ S) D := fun hno => by
    unfold sFor iOf M.bind
    cases ed : me δ S with
    | bad => rw [ed] at p; exact p
    | ex x S1 => rw [ed] at p; exact p
    | ok d S1 =>
      rw [ed] at p
      cases d with
      | loc n => exact absurd ed (hno n S1)
      | _ => exact p
  by_cases hl : ∃ n S1, me δ S = .ok (.loc n) S1
  · obtain ⟨n, S1, ed⟩ := hl
    refine hB.run pins s σ H D I ⟨ρ, δ, S, cf, ?_⟩
    rw [ed] at p ⊢
    intro v H1 ρ1 s1 rs1 rv
    obtain ⟨a, rfl, hn⟩ := loc_of rv
    have p1 : PostS G W ρ1 H1 (forLGo n g mb lim 0 δ S1) D := PostS.step s1 p
    obtain ⟨ob, h1, h2⟩ := rs1.at hn
    cases ob with
    | dK ds =>
      have z : nxL S1 n 0 = none := by unfold nxL; rw [h1]
      unfold forLGo at p1
      rw [z] at p1
      exact p1.elim
    | dT ds =>
      have z : nxL S1 n 0 = none := by unfold nxL; rw [h1]
      unfold forLGo at p1
      rw [z] at p1
      exact p1.elim
    | lst ds0 =>
      obtain ⟨vs0, q1, q2⟩ := h2
      refine ⟨a, rfl, ⟨vs0, SqL.of q1⟩, ?_⟩
      rw [hK]
      refine ⟨fun i m σ' H' => ∃ ρ' δ' S', ρ'.s[n]? = some a ∧ Cf G ρ' H' σ' δ' S' ∧ PostS G W ρ' H' (forLGo n g mb m i δ' S') D, ⟨lim, ρ1, δ, S1, hn, cf.step s1 rs1, p1⟩, ?_⟩
      rintro i m σ' H' ⟨ρ', δ', S', hn', c', p'⟩
      cases m with
      | zero => exact p'.elim
      | succ m =>
        unfold forLGo at p'
        cases en : nxL S' n i with
        | none => rw [en] at p'; exact p'.elim
        | some o =>
          rw [en] at p'
          cases o with
          | none => exact .inl ⟨itl_stop c'.rs hn' en, p' σ' H' ρ' Stp.refl c'⟩
          | some d =>
            obtain ⟨g1, g2⟩ := itl_go c'.rs hn' en
            refine .inr ⟨g1, fun σ'' H'' => ∃ ρ'' δ'' S'', ρ''.s[n]? = some a ∧ Cf G ρ'' H'' σ'' δ'' S'' ∧ PostS G W ρ'' H'' (forLGo n g mb m (i + 1) δ'' S'') D, fun σ'' H'' q => ⟨m, Nat.lt_succ_self m, q⟩, fun x H2 hy => ?_⟩
            obtain ⟨rfl, t3⟩ := g2 x H2 hy
            refine ⟨ρ', δ', S', d, c', t3, ?_⟩
            dsimp only at p'
            cases e : g d δ' S' with
            | none =>
              rw [e] at p'
              exact p'
            | some z =>
              obtain ⟨δ1, S3⟩ := z
              rw [e] at p'
              intro σ3 H3 ρ3 s3 c3 _
              refine ⟨ρ3, δ1, S3, c3, ?_⟩
              dsimp only at p'
              cases e2 : mb δ1 S3 with
              | nx δ4 S4 =>
                rw [e2] at p'
                exact fun σ4 H4 ρ4 s4 c4 => ⟨ρ4, δ4, S4, (s3.trans s4).get hn', c4, PostS.step (s3.trans s4) p'⟩
              | ct δ4 S4 =>
                rw [e2] at p'
                exact fun σ4 H4 ρ4 s4 c4 => ⟨ρ4, δ4, S4, (s3.trans s4).get hn', c4, PostS.step (s3.trans s4) p'⟩
              | bk δ4 S4 =>
                rw [e2] at p'
                exact fun σ4 H4 ρ4 s4 c4 => p' σ4 H4 ρ4 (s3.trans s4) c4
              | rt d S4 =>
                rw [e2] at p'
                exact fun v H4 ρ4 s4 c4 r4 => p' v H4 ρ4 (s3.trans s4) c4 r4
              | ex x δ4 S4 =>
                rw [e2] at p'
                exact fun c dx σ4 H4 ρ4 s4 c4 r4 => p' c dx σ4 H4 ρ4 (s3.trans s4) c4 r4
              | bad =>
                rw [e2] at p'
                exact p'
  · exact hA.run pins s σ H D I ⟨ρ, δ, S, cf, viaA fun n S1 e => hl ⟨n, S1, e⟩⟩
end
end Mi
end T_SimB
section T_SimC
set_option Elab.async false
set_option linter.all false
set_option maxRecDepth 100000
set_option maxHeartbeats 4000000
/-! SimC: comprehensions over a list of the store, join. -/
namespace Mi
open PySem PySem.Spec PyProof.Rows L2
section
variable {G : Gx} {W : WX} {X : Cx} {tg : Expr} {pos : Pos} {me : EX}
theorem t_lcL {ma : EX} {ws vs : List Nat} {g : TGm} {mt : EB} {σ : L2.St} {H : Hp} {Q : VK} {ρ : Rg} {δ : En} {S S0 : Sto} {n : Nat} (hK : X.K = G.K) (hxn : G.xc = none) (hw : ∀ j ∈ ws, j ∈ vs) (cf : Cf G ρ H σ δ S) (ed : ma δ S = .ok (.loc n) S0)
    (p : Post G W σ (vr G) ρ H (lcOk (lcLGo n g mt me (wipeD δ vs) lim 0 [] S0)) Q) : tLc (iList X.K (tE G W ma)) (tG G ws g) (tB G W0 mt) (tE G W0 me) vs σ H Q := by
  refine ⟨ρ, δ, S, cf, ?_⟩
  rw [ed]
  intro v H1 ρ1 s1 rs1 rv
  obtain ⟨a, rfl, hn⟩ := loc_of rv
  have p1 : Post G W σ (vr G) ρ1 H1 (lcOk (lcLGo n g mt me (wipeD δ vs) lim 0 [] S0)) Q := p.step s1
  have cf1 := cf.step s1 rs1
  obtain ⟨ob, h1, h2⟩ := rs1.at hn
  cases ob with
  | dK ds =>
    have z : nxL S0 n 0 = none := by unfold nxL; rw [h1]
    unfold lcLGo at p1
    rw [z] at p1
    exact p1.elim
  | dT ds =>
    have z : nxL S0 n 0 = none := by unfold nxL; rw [h1]
    unfold lcLGo at p1
    rw [z] at p1
    exact p1.elim
  | lst ds0 =>
    obtain ⟨vs0, q1, q2⟩ := h2
    refine ⟨a, rfl, ⟨vs0, SqL.of q1⟩, ?_⟩
    rw [hK]
    intro D hD
    refine ⟨fun i m H' => i + m = lim ∧ ∃ ρ' S' acc av, ρ'.s[n]? = some a ∧ StB ρ1 H1 ρ' H' ∧ ρ'.b = ρ1.b ++ [D] ∧ RS G ρ' H' S' ∧ H' D = some (.lst av) ∧ RvA G.K ρ' H' av acc ∧ acc.length ≤ i ∧
      Post G W σ (vr G) ρ1 H1 (lcOk (lcLGo n g mt me (wipeD δ vs) m i acc S')) Q, ⟨lim, Nat.zero_add _, ρ1.hide D, S0, [], [], hn, ?_, rfl, rs1.hide hD, upd_same, .nil, Nat.le_refl _, p1⟩, ?_⟩
    · exact ⟨⟨[], by simp [Rg.hide], fun _ z => nomatch z⟩, ⟨[D], rfl, fun a m => by rw [List.mem_singleton.mp m]; exact hD⟩, (Stp.new (ρ := ρ1) hD).kept, (Stp.new (ρ := ρ1) hD).there⟩
    rintro i m H' ⟨him, ρ', S', acc, av, hn', s', eb, rs', hd', ra, hl, p'⟩
    have mD : D ∈ ρ'.b := by rw [eb]; simp
    cases m with
    | zero => exact p'.elim
    | succ m =>
      unfold lcLGo at p'
      cases en : nxL S' n i with
      | none => rw [en] at p'; exact p'.elim
      | some o =>
        rw [en] at p'
        cases o with
        | none =>
          refine .inl ⟨itl_stop rs' hn' en, ?_⟩
          have oD : D ∉ ρ1.b := fun m => by
            obtain ⟨u, z⟩ := (rs1.bt D m).2
            rw [hD] at z
            cases z
          have ag : Agr ρ' H' ⟨ρ'.s, ρ1.b⟩ H' := ⟨rfl, fun a n => ⟨n.1, fun m => n.2 (by rw [eb]; exact List.mem_append_left _ m)⟩, fun _ _ => rfl⟩
          exact p' (.ref D) H' ⟨ρ'.s, ρ1.b⟩ ⟨s'.pre, rfl, s'.kept, s'.there⟩ (rs'.show rfl eb) (.lst hd' ⟨(rs'.bt D mD).1, oD⟩ (ra.agr ag))
        | some d =>
          obtain ⟨g1, g2⟩ := itl_go rs' hn' en
          refine .inr ⟨g1, fun H'' => ∃ ρ'' S'' acc'' av'', ρ''.s[n]? = some a ∧ StB ρ1 H1 ρ'' H'' ∧ ρ''.b = ρ1.b ++ [D] ∧ RS G ρ'' H'' S'' ∧ H'' D = some (.lst av'') ∧ RvA G.K ρ'' H'' av'' acc'' ∧ acc''.length ≤ i + 1 ∧
            Post G W σ (vr G) ρ1 H1 (lcOk (lcLGo n g mt me (wipeD δ vs) m (i + 1) acc'' S'')) Q, ?_, fun x H2 hy => ?_⟩
          · rintro H'' q
            exact ⟨m, Nat.lt_succ_self m, by omega, q⟩
          · obtain ⟨rfl, t3⟩ := g2 x H2 hy
            refine ⟨ρ', wipeD δ vs, S', d, cf1.wipe s' rs' vs hxn, t3, ?_⟩
            dsimp only at p'
            cases e : g d (wipeD δ vs) S' with
            | none =>
              rw [e] at p'
              exact p'.elim
            | some z =>
              obtain ⟨δ3, S3⟩ := z
              rw [e] at p'
              intro σ3 H3 ρ3 s3 c3 b3
              refine ⟨wipe_but b3 hw, ρ3, δ3, S3, c3, ?_⟩
              dsimp only at p'
              cases e2 : mt δ3 S3 with
              | bad =>
                rw [e2] at p'
                exact p'.elim
              | ex x S4 =>
                rw [e2] at p'
                exact p'.elim
              | ok b S4 =>
                rw [e2] at p'
                intro b' H4 ρ4 s4 rs4 eb'
                have eb2 : b' = b := eb'
                subst eb2
                have st4 := s3.trans s4
                have hD4 : H4 D = some (.lst av) := st4.kept _ _ hd' (rs'.bt D mD).1 (fun _ z => nomatch z)
                cases b' with
                | false =>
                  show ∃ ρ'' S'' acc'' av'', _
                  exact ⟨ρ4, S4, acc, av, st4.get hn', s'.trans st4, by rw [st4.pb, eb], rs4, hD4, ra.step st4, by omega, p'⟩
                | true =>
                  refine ⟨ρ4, δ3, S4, c3.step s4 rs4, ?_⟩
                  dsimp only at p'
                  cases e3 : me δ3 S4 with
                  | bad =>
                    rw [e3] at p'
                    exact p'.elim
                  | ex x S5 =>
                    rw [e3] at p'
                    exact p'.elim
                  | ok y S5 =>
                    rw [e3] at p'
                    intro v H5 ρ5 s5 rs5 rv
                    have st5 := st4.trans s5
                    have hD5 : H5 D = some (.lst av) := st5.kept _ _ hd' (rs'.bt D mD).1 (fun _ z => nomatch z)
                    have mD5 : D ∈ ρ5.b := by rw [st5.pb]; exact mD
                    have ag : Agr ρ5 H5 ρ5 (upd H5 D (.lst (av ++ [v]))) := ⟨rfl, fun _ z => z, fun a n => upd_ne fun e => n.2 (by rw [e]; exact mD5)⟩
                    have el := ra.length
                    refine ⟨av, hD5, lim_lt (by omega), ρ5, S5, acc ++ [y], av ++ [v], st5.get hn', ?_, by rw [st5.pb, eb], rs5.putB mD5 hD5, upd_same, ((ra.step st5).app (.cons rv .nil)).agr ag, by simp; omega, p'⟩
                    have z5 := s'.trans st5
                    exact ⟨z5.pre, z5.pb, fun a o h n nt => by rw [upd_ne (ne_of_none h hD)]; exact z5.kept a o h n nt, fun a o h => by rw [upd_ne (ne_of_none h hD)]; exact z5.there a o h⟩
/-- which of the two readings -/
theorem t_lcE {ma : EX} {ws vs : List Nat} {g : TGm} {mt : EB} {σ : L2.St} {H : Hp} {Q : VK} (hK : X.K = G.K) (hxn : G.xc = none) (hw : ∀ j ∈ ws, j ∈ vs) (q : tE G W (eLcE ma g mt me vs) σ H Q) :
    tLc (iList X.K (tE G W ma)) (tG G ws g) (tB G W0 mt) (tE G W0 me) vs σ H Q ∨ tLc (tI G W (iOf ma)) (tG G ws g) (tB G W0 mt) (tE G W0 me) vs σ H Q := by
  obtain ⟨ρ, δ, S, cf, p⟩ := q
  unfold eLcE M.bind at p
  by_cases hl : ∃ n S1, ma δ S = .ok (.loc n) S1
  · obtain ⟨n, S1, ed⟩ := hl
    rw [ed] at p
    exact .inl (t_lcL hK hxn hw cf ed p)
  · refine .inr (t_lc hxn hw ⟨ρ, δ, S, cf, ?_⟩)
    unfold eLc iOf M.bind
    cases ed : ma δ S with
    | bad => rw [ed] at p; exact p
    | ex x S1 => rw [ed] at p; exact p
    | ok d S1 =>
      rw [ed] at p
      cases d with
      | loc n => exact absurd ⟨n, S1, ed⟩ hl
      | _ => exact p
theorem re_lcE {elt e : Expr} {ifs : List Expr} {scope : Scope} {own : List (Str × Nat)} {ws : List Nat} {g : TGm} {mt : EB} {ma : EX} (hK : X.K = G.K) (hc : X.calm = true) (hN : X.N.Nodup) (ha : PE X e (tE G W ma)) (ok : BlkOk X.N X.env.scope scope own)
    (hg : ∀ (s : Shared) (H : Hp) (C : Addr) (cl : List (Str × Addr)) (fp : List Addr), PG (X.blk s H scope (compEnvC scope cl C X.env) fp) tg (tG G ws g)) (ht : ∀ (s : Shared) (H : Hp) (C : Addr) (cl : List (Str × Addr)) (fp : List Addr), PTs (X.blk s H scope (compEnvC scope cl C X.env) fp) ifs (tB G W0 mt))
    (he : ∀ (s : Shared) (H : Hp) (C : Addr) (cl : List (Str × Addr)) (fp : List Addr), PE (X.blk s H scope (compEnvC scope cl C X.env) fp) elt (tE G W0 me)) (hw : ∀ j ∈ ws, j ∈ own.map (·.2)) (hs : ∀ x, foldedSetIterable e X.env x = pure x := by intro _; rfl) (hxn : G.xc = none := by rfl) :
    PE X (.ListComp elt [⟨tg, e, ifs, 0⟩] scope pos) (tE G W (eLcE ma g mt me (own.map (·.2)))) :=
  ⟨fun pins s σ H Q I q => (t_lcE hK hxn hw q).elim (fun q => (pe_lc hc hN (pi_list (tg := tg) ha) ok hg ht he hs).run pins s σ H Q I q) fun q => (pe_lc hc hN (ri_of hK ha) ok hg ht he hs).run pins s σ H Q I q⟩
theorem rs_setLcE {i : Nat} {y : Str} {py spos : Pos} {elt e : Expr} {ifs : List Expr} {scope : Scope} {own : List (Str × Nat)} {ws : List Nat} {g : TGm} {mt : EB} {ma : EX} (hK : X.K = G.K) (hc : X.calm = true) (hN : X.N.Nodup) (hy : X.N[i]? = some y) (hyl : X.env.scope.names.lookup y = some .local)
    (hsw : swapsWith (.ListComp elt [⟨tg, e, ifs, 0⟩] scope pos) (some (.Name y py)) spos.line X.env = pure true) (ha : PE X e (tE G W ma)) (ok : BlkOk X.N X.env.scope scope own)
    (hg : ∀ (s : Shared) (H : Hp) (C : Addr) (cl : List (Str × Addr)) (fp : List Addr), PG (X.blk s H scope (compEnvC scope cl C X.env) fp) tg (tG G ws g)) (ht : ∀ (s : Shared) (H : Hp) (C : Addr) (cl : List (Str × Addr)) (fp : List Addr), PTs (X.blk s H scope (compEnvC scope cl C X.env) fp) ifs (tB G W0 mt))
    (he : ∀ (s : Shared) (H : Hp) (C : Addr) (cl : List (Str × Addr)) (fp : List Addr), PE (X.blk s H scope (compEnvC scope cl C X.env) fp) elt (tE G W0 me)) (hw : ∀ j ∈ ws, j ∈ own.map (·.2)) (hs : ∀ x, foldedSetIterable e X.env x = pure x := by intro _; rfl) (hxn : G.xc = none := by rfl) :
    PS X (.Assign [.Name y py] (.ListComp elt [⟨tg, e, ifs, 0⟩] scope pos) spos) (tS G W (sSet i (eLcE ma g mt me (own.map (·.2))))) :=
  ⟨fun pins s σ H D I q => by
    have q2 := t_set (G := G) (W := W) (slotOk_none hxn) q
    rcases t_lcE (X := X) hK hxn hw q2 with q3 | q3
    · exact (ps_setLc hc hN hy hyl hsw (pi_list (tg := tg) ha) ok hg ht he hs).run pins s σ H D I q3
    · exact (ps_setLc hc hN hy hyl hsw (ri_of hK ha) ok hg ht he hs).run pins s σ H D I q3⟩
/-! ### join -/
def strsOf : List Dv → Option (List Str)
  | [] => some []
  | .str x :: r => (strsOf r).map (x :: ·)
  | _ :: _ => none
/-- the items of a list, a tuple -/
def asT (S : Sto) : Dv → Option (List Dv)
  | .tup xs => some xs
  | l => asC S l
def mJoin (d : Dv) (ds : List Dv) : M Dv := fun S => match d, ds with
  | .str a, [l] => (match asT S l with
    | some xs => (match strsOf xs with
      | some ys => if (ys.map (·.length)).sum + ys.length * a.length ≤ lim then .ok (.str (Str.join a ys)) S else .bad
      | none => .bad)
    | none => .bad)
  | _, _ => .bad
def eJoin (o a : EX) : EX := fun δ => (o δ).bind fun d S => match d with
  | .str x => ((a δ).bind fun l => mJoin (.str x) [l]) S
  | _ => .bad
theorem strs_rel {ρ : Rg} {H : Hp} : ∀ {ds : List Dv} {vs : List V} {ys : List Str}, RvA G.K ρ H vs ds → strsOf ds = some ys → vs = ys.map V.str ∧ ∀ y ∈ ys, OkS y
  | [], _, ys, r, h => by
    cases r
    cases h
    exact ⟨rfl, fun _ z => (nomatch z)⟩
  | d :: ds, _, ys, r, h => by
    cases r with
    | cons h1 r1 =>
      cases h1 with
      | str x hx =>
        have h' : (strsOf ds).map (x :: ·) = some ys := h
        cases e : strsOf ds with
        | none => rw [e] at h'; cases h'
        | some l =>
          rw [e] at h'
          cases h'
          obtain ⟨i1, i2⟩ := strs_rel r1 e
          refine ⟨by rw [i1]; rfl, fun y hy => ?_⟩
          rcases List.mem_cons.mp hy with z | z
          · rw [z]; exact hx
          · exact i2 y z
      | _ => cases h
end
end Mi
end T_SimC
section T_SimD
set_option Elab.async false
set_option linter.all false
set_option maxRecDepth 100000
set_option maxHeartbeats 4000000
namespace Mi
open PySem PySem.Spec PyProof.Rows L2
section
variable {G : Gx} {W : WX} {X : Cx}
theorem txtjoin {a : Str} {ys : List Str} : Txt.join a ys = Str.join a ys := StrLaws.glued_eq_join a ys
theorem re_join {o e : Expr} {mo me : EX} {apos pos : Pos} (hK : X.K = G.K) (ho : PE X o (tE G W mo)) (he : PE X e (tE G W me)) (hs : starEach [e] X.env = [(false, eval e X.env)] := by rfl) (hbase : attributeBase o "join" X.env (eval o X.env) = eval o X.env := by rfl) (hline : (apos.endLine == pos.line) = true := by rfl) :
    PE X (.Call (.Attribute o "join" apos) [e] [] pos) (tE G W (eJoin mo me)) := (pe_join ho he hs hbase hline).imp fun σ H Q q => by
  obtain ⟨ρ, δ, S, cf, p⟩ := q
  refine ⟨ρ, δ, S, cf, (Post.bind p).mono fun x H1 ⟨ρ1, S1, d, s1, rs1, rx, p1⟩ => ?_⟩
  cases rx with
  | str x hx =>
    refine ⟨⟨x, rfl⟩, ρ1, δ, S1, cf.step s1 rs1, (Post.bind (rel := vr G) p1).mono fun y H2 ⟨ρ2, S2, l, s2, rs2, ry, p2⟩ => ?_⟩
    unfold mJoin at p2
    dsimp only at p2
    have key : ∀ xs, asT S2 l = some xs → ∃ a vs, y = .ref a ∧ (SqL X.K H2 a vs ∨ SqT X.K H2 a vs) ∧ RvA G.K ρ2 H2 vs xs := fun xs h => by
      cases ry with
      | @tup a vs ds ht r =>
        cases h
        exact ⟨a, vs, rfl, .inr (by rw [hK]; exact ht.sq), r⟩
      | lst h1 n r => obtain ⟨a, vs, e1, e2, e3⟩ := asC_ok rs2 (.lst h1 n r) h; exact ⟨a, vs, e1, .inl (by rw [hK]; exact e2), e3⟩
      | con h1 r => obtain ⟨a, vs, e1, e2, e3⟩ := asC_ok rs2 (.con h1 r) h; exact ⟨a, vs, e1, .inl (by rw [hK]; exact e2), e3⟩
      | loc hn => obtain ⟨a, vs, e1, e2, e3⟩ := asC_ok rs2 (.loc hn) h; exact ⟨a, vs, e1, .inl (by rw [hK]; exact e2), e3⟩
      | _ => cases h
    cases e1 : asT S2 l with
    | none => rw [e1] at p2; exact p2.elim
    | some xs =>
      rw [e1] at p2
      dsimp only at p2
      cases e2 : strsOf xs with
      | none => rw [e2] at p2; exact p2.elim
      | some ys =>
        rw [e2] at p2
        dsimp only at p2
        split at p2
        · rename_i hl
          obtain ⟨a, vs, rfl, hq, r⟩ := key xs e1
          obtain ⟨rfl, hok⟩ := strs_rel r e2
          exact ⟨x, a, ys, rfl, rfl, hq, Nat.le_trans hl (by decide), by rw [txtjoin]; exact p2.val rs2 (.str _ (okS_join hx hok))⟩
        · exact p2.elim
  | _ => exact p1.elim
end
end Mi
end T_SimD
section T_SimE
set_option Elab.async false
set_option linter.all false
set_option maxRecDepth 100000
set_option maxHeartbeats 4000000
namespace Mi
open PySem PySem.Spec PyProof.Rows L2
section
variable {G : Gx} {W : WX} {X : Cx} {tg : Expr} {pos : Pos}
/-- y = {k: v for ..} -/
theorem rs_setDc {i : Nat} {y : Str} {py spos : Pos} {kx vx iter : Expr} {ifs : List Expr} {scope : Scope} {own : List (Str × Nat)} {ws : List Nat} {g : TGm} {mt : EB} {mi : EA} {mk me : EX} (hc : X.calm = true) (hN : X.N.Nodup) (hy : X.N[i]? = some y) (hyl : X.env.scope.names.lookup y = some .local)
    (hsw : swapsWith (.DictComp kx vx [⟨tg, iter, ifs, 0⟩] scope pos) (some (.Name y py)) spos.line X.env = pure true) (hi : PI X tg iter (tI G W mi)) (ok : BlkOk X.N X.env.scope scope own)
    (hg : ∀ (s : Shared) (H : Hp) (C : Addr) (cl : List (Str × Addr)) (fp : List Addr), PG (X.blk s H scope (compEnvC scope cl C X.env) fp) tg (tG G ws g)) (ht : ∀ (s : Shared) (H : Hp) (C : Addr) (cl : List (Str × Addr)) (fp : List Addr), PTs (X.blk s H scope (compEnvC scope cl C X.env) fp) ifs (tB G W0 mt))
    (hk : ∀ (s : Shared) (H : Hp) (C : Addr) (cl : List (Str × Addr)) (fp : List Addr), PE (X.blk s H scope (compEnvC scope cl C X.env) fp) kx (tE G W0 mk))
    (he : ∀ (s : Shared) (H : Hp) (C : Addr) (cl : List (Str × Addr)) (fp : List Addr), PE (X.blk s H scope (compEnvC scope cl C X.env) fp) vx (tE G W0 me)) (hw : ∀ j ∈ ws, j ∈ own.map (·.2)) (hs : ∀ x, foldedSetIterable iter X.env x = pure x := by intro _; rfl) (hxn : G.xc = none := by rfl) :
    PS X (.Assign [.Name y py] (.DictComp kx vx [⟨tg, iter, ifs, 0⟩] scope pos) spos) (tS G W (sSet i (eDc mi g mt mk me (own.map (·.2))))) := by
  refine ⟨fun pins s σ H D I q => ?_⟩
  have q2 := t_dc hxn hw (t_set (G := G) (W := W) (slotOk_none hxn) q)
  rw [exec_Assign_Name_used _ _ _ _ hsw]
  refine wpAny_bind (wpAny_standAt (wpAny_bind ?_))
  show wpAny _ X.A (do let _ ← comprehension (.DictComp kx vx [⟨tg, iter, ifs, 0⟩] scope pos) scope X.env (firstIterPos [⟨tg, iter, ifs, 0⟩] pos) newDict false (eval iter X.env) (some (assign (.Name y py) X.env))) _ _ s
  refine wpAny_bind (thn (dc_core (Qf := fun _ s' => SP X pins D .next s') hc hN I hi ok hg ht hk he hs q2 fun L C s' m H' I' q hn f => ?_) fun _ s' hq => wpAny_pure (wpAny_pure hq))
  show wpAny _ _ (assign (.Name y py) X.env (.ref L)) _ _ _
  refine wpAny_assign_Name (store_ok2 (v := V.ref L) I' hN hy (.inl hyl) rfl (fun s2 I2 ⟨a, sb, ha⟩ => ?_) (.inr hyl))
  obtain ⟨f0, f1, f2, f3, f4, f5⟩ := f
  refine ⟨m, hn.sameBut sb (ha.elim (fun z => z ▸ f1) fun z e => f4 y a z e.symm), fun h3 sb3 => ?_⟩
  exact ⟨_, H', I2.turned (t' := s2.toks) (fun b o hb e => (sb3.2 b hb).trans e) f0 f1 f3 f4 f5, q⟩
end
end Mi
end T_SimE
section T_SimF
set_option Elab.async false
set_option linter.all false
set_option maxRecDepth 100000
set_option maxHeartbeats 4000000
/-! SimF: ({}, i) == ({}, j). -/
namespace Mi
open PySem PySem.Spec PyProof.Rows L2
def mEqX (d e : Dv) : M Dv := fun S => match d, e with
  | .tup [.dct [], .int i], .tup [.dct [], .int j] => .ok (.bl (i == j)) S
  | d, e => mEq d e S
section
variable {G : Gx} {W : WX} {X : Cx}
def rEqE : R2 := fun x y H Q => ∃ a b c d i j, x = .ref a ∧ y = .ref b ∧ H a = some (.tup [.ref c, .int i]) ∧ H b = some (.tup [.ref d, .int j]) ∧ H c = some (.dK []) ∧ H d = some (.dK []) ∧ Q (.bl (i == j)) H
theorem op_eqE (hu : X.A.units + 64 < cLine) : OpR X (compareOp .Eq) rEqE := by
  intro pins s σ H x y v u Q I rx ry h
  obtain ⟨a, b, c, d, i, j, rfl, rfl, ha, hb, hc, hd, q⟩ := h
  cases rx
  cases ry
  obtain ⟨its, r1, t1, _⟩ := I.tuple (show SqT X.K H a [.ref c, .int i] from .inl (.inl ha))
  obtain ⟨its2, r2, t2, _⟩ := I.tuple (show SqT X.K H b [.ref d, .int j] from .inl (.inl hb))
  obtain ⟨u1, u2, rfl, e1, ⟨k1, e2⟩⟩ := vals2 r1
  obtain ⟨w1, w2, rfl, e3, ⟨k2, e4⟩⟩ := vals2 r2
  subst e2 e4
  obtain rfl : u1 = Value.ref c := e1
  obtain rfl : w1 = Value.ref d := e3
  obtain ⟨_, sc, vs1, kv1, d1⟩ := dk_of I.hok hc
  obtain ⟨_, sd, vs2, kv2, d2⟩ := dk_of I.hok hd
  cases kv1
  cases kv2
  have t1' : s.heap.IsTuple a #[Value.ref c, Value.int i k1] := t1
  have t2' : s.heap.IsTuple b #[Value.ref d, Value.int j k2] := t2
  have dd : PySem.W.EqTree X.prog X.w s 1 (.ref c) (.ref d) true := by
    by_cases hcd : c = d
    · subst hcd
      exact .same
    · exact .dicts (n := 0) (e := fun _ => true) hcd sc sd d1 d2 (fun k v y hm => by simp at hm)
  refine PySem.W.eq_tuplesT (n := 1) (e := fun k => if k = 0 then true else i == j) t1' t2' (fun k h1 h2 => ?_) (by omega) ⟨.bl (i == j), H, I, ?_, q⟩
  · match k, h1 with
    | 0, _ => exact dd
    | 1, _ => exact .leaf fun A _ => SeqAt.EqAt.int_int i k1 j k2
    | k + 2, h1 => exact absurd h1 (by simp)
  · show Value.bool _ = Value.bool _
    simp [List.range_succ]
theorem o_eqX (hK : X.K = G.K) (hu : X.A.units + 64 < cLine) : OpR X (compareOp .Eq) (fun x y H Q => rEqE x y H Q ∨ ∃ d e, Dp G.K H x d ∧ Dp G.K H y e ∧ SeqAt.shaped d = true ∧ SeqAt.shaped e = true ∧ Q (.bl (id (PyData.eqv d e))) H) := OpR_or (op_eqE hu) (o_eq hK hu)
theorem d_eqX : Op2 G W (fun x y H Q => rEqE x y H Q ∨ ∃ d e, Dp G.K H x d ∧ Dp G.K H y e ∧ SeqAt.shaped d = true ∧ SeqAt.shaped e = true ∧ Q (.bl (id (PyData.eqv d e))) H) mEqX := by
  intro ρ H σ S x y d e Q rs rx ry p
  unfold mEqX at p
  split at p
  · rename_i i j
    cases rx with
    | @tup a vs _ ht r =>
      cases ry with
      | @tup b ws _ ht2 r2 =>
        obtain ⟨v1, v2, rfl, q1, q2⟩ := r.two
        obtain ⟨w1, w2, rfl, q3, q4⟩ := r2.two
        cases q2
        cases q4
        cases q1 with
        | @dct c kvs _ hc nc ec _ =>
          cases q3 with
          | @dct d kvs2 _ hd nd ed _ =>
            cases kvs with
            | cons => cases ec
            | nil =>
              cases kvs2 with
              | cons => cases ed
              | nil => exact .inl ⟨a, b, c, d, i, j, rfl, rfl, ht.1, ht2.1, hc, hd, p.val rs (.bl _)⟩
  · exact .inr (d_eqv ρ H σ S x y d e Q rs rx ry p)
end
end Mi
end T_SimF
section T_Hd
set_option Elab.async false
set_option linter.all false
set_option maxRecDepth 100000
set_option maxHeartbeats 4000000
/-! Hd: the head's facts. -/
namespace Mi
open PySem PySem.Spec PyProof.Rows L2 He
/-- what is asked besides -/
inductive Fx where
  | oex (x : Str) | xf (x : Str) | exc (x : Str) | noat (x f : Str) | init (x : Str) | exm (x y : Str) (b : Bool) | kit (x y : Str) (b : Bool) | rd (x : Str) | sm
def oexB (K : PySem.W.Frag) (C : Addr) : Bool := (match K.lookup C with
  | some ⟨.type "type", _, .cls cd, sl⟩ => (match cd.mro, sl.toList with
    | .ref C' :: bm, [_, _, _, _, some (.builtin n), _] => decide (C' = C) && (decide (n = "ValueError.__new__") && (!cd.hasDel && (cd.hasDict && PySem.HandSPX.refsVE bm)))
    | _, _ => false)
  | _ => false) && (decide (PySem.W.findIn K (.ref C) "__setattr__" = some (some (.builtin "object.__setattr__"))) && (decide (PySem.W.subIn K (.ref C) (.type "BaseException") = some true) && (decide (PySem.W.typeIn K (.ref C) = some (.type "type")) && PySem.W.keepIn K (.ref C))))
def excB (K : PySem.W.Frag) (D : Addr) : Bool := decide (PySem.W.findIn K (.ref D) "__getattribute__" = some (some (.builtin "BaseException.__getattribute__"))) && (decide (PySem.W.findIn K (.ref D) "__getattr__" = some none) && (decide (PySem.W.subIn K (.ref D) (.type "BaseException") = some true) && (PySem.W.hasDictIn K D &&
  (decide (PySem.W.findIn K (.ref D) "__class__" = some (some (.builtin "object.__class__"))) && (decide (PySem.W.specialIn K (.builtin "object.__class__") "__get__" = some (some (.builtin "getset_descriptor.__get__"))) && (decide (PySem.W.takesIn K (.builtin "object.__class__") = some true) && decide (PySem.W.mroIn K D (.type "object") = some true)))))))
def rdB (K : PySem.W.Frag) (D : Addr) : Bool := PySem.W.readsIn K D (.type "type") && (decide (PySem.W.specialIn K (.ref D) "__getattribute__" = some (some (.builtin "type.__getattribute__"))) && (match PySem.W.findCls K (.ref D) (.type "type") "__init__" with
  | some (.val v) => decide (v = .builtin "ValueError.__init__")
  | _ => false))
def smB (K : PySem.W.Frag) : Bool := match K.lookup sysModules with
  | some o => decide (o.cls = .type "dict")
  | none => false
def Fx.ok (K : PySem.W.Frag) : Fx → Bool
  | .oex x => oexB K (ga K x)
  | .xf x => xfB K (ga K x)
  | .exc x => excB K (ga K x)
  | .noat x f => decide (PySem.W.findIn K (.ref (ga K x)) f = some none)
  | .init x => decide (PySem.W.findIn K (.ref (ga K x)) "__init__" = some (some (.ref (ma K (ga K x) "__init__")))) && decide (PySem.W.typeIn K (.ref (ma K (ga K x) "__init__")) = some (.type "function"))
  | .exm x y b => decide (PySem.W.exmOne K (.ref (ga K x)) (.ref (ga K y)) = some b)
  | .kit x y b => decide (PySem.W.kitOne K (.ref (ga K x)) (.ref (ga K y)) = some b)
  | .rd x => rdB K (ga K x)
  | .sm => smB K
theorem bad2 {a b : Bool} (h : (a && b) = true) : a = true ∧ b = true := Bool.and_eq_true_iff.mp h
section
variable {K : PySem.W.Frag} {C : Addr}
theorem oexB_ok (h : oexB K C = true) : OexC K C := by
  obtain ⟨h0, h⟩ := bad2 h
  obtain ⟨h1, h⟩ := bad2 h
  obtain ⟨h2, h⟩ := bad2 h
  obtain ⟨h3, h4⟩ := bad2 h
  refine ⟨?_, of_decide_eq_true h1, of_decide_eq_true h2, of_decide_eq_true h3, h4⟩
  split at h0
  · rename_i dd cd sl ho
    split at h0
    · rename_i C' bm k0 k1 k2 k3 n k5 hm hs
      obtain ⟨a1, h0⟩ := bad2 h0
      obtain ⟨a2, h0⟩ := bad2 h0
      obtain ⟨a3, h0⟩ := bad2 h0
      obtain ⟨a4, a5⟩ := bad2 h0
      have a1 := of_decide_eq_true a1
      have a2 := of_decide_eq_true a2
      obtain ⟨nm, bs, mro, ns, qn, hd, sn, sub, ab, col, del⟩ := cd
      have a3 : del = false := by
        have z : (!del) = true := a3
        cases del <;> simp_all
      have a4 : hd = true := a4
      have hm : mro = _ := hm
      subst a1 a2 a3 a4 hm
      have hsl : sl = #[k0, k1, k2, k3, some (.builtin "ValueError.__new__"), k5] := by
        rw [← Array.toArray_toList (xs := sl), hs]
      subst hsl
      exact ⟨nm, qn, ns, bs, bm, sn, sub, ab, col, dd, k0, k1, k2, k3, k5, ho, a5⟩
    · cases h0
  · cases h0
theorem excB_ok (h : excB K C = true) : ExcC K C := by
  obtain ⟨h1, h⟩ := bad2 h
  obtain ⟨h2, h⟩ := bad2 h
  obtain ⟨h3, h⟩ := bad2 h
  obtain ⟨h4, h⟩ := bad2 h
  obtain ⟨h5, h⟩ := bad2 h
  obtain ⟨h6, h⟩ := bad2 h
  obtain ⟨h7, h8⟩ := bad2 h
  exact ⟨of_decide_eq_true h1, of_decide_eq_true h2, of_decide_eq_true h3, h4, of_decide_eq_true h5, of_decide_eq_true h6, of_decide_eq_true h7, of_decide_eq_true h8⟩
theorem rdB_ok (h : rdB K C = true) : PySem.W.readsIn K C (.type "type") = true ∧ PySem.W.specialIn K (.ref C) "__getattribute__" = some (some (.builtin "type.__getattribute__")) ∧ PySem.W.findCls K (.ref C) (.type "type") "__init__" = some (.val (.builtin "ValueError.__init__")) := by
  obtain ⟨h1, h⟩ := bad2 h
  obtain ⟨h2, h3⟩ := bad2 h
  refine ⟨h1, of_decide_eq_true h2, ?_⟩
  split at h3
  · rename_i v e
    rw [e, of_decide_eq_true h3]
  · cases h3
theorem smB_ok (h : smB K = true) : SmD K := by
  unfold smB at h
  split at h
  · rename_i o e
    exact ⟨o, e, of_decide_eq_true h⟩
  · cases h
end
/-! ### the Hook -/
def frM (g : Addr → Option Obj) (n : Nat) : PySem.W.Frag := frG g (asD g n ++ [sysModules, cStatics])
abbrev AlM : Type := AlD × Bool
def obsM (n : Nat) (fa : List Fa) (fn : List DefD) (fx : List Fx) (g : Addr → Option Obj) : AlM := (obsD fa fn (frM g n), fx.all fun f => f.ok (frM g n))
structure SaysM (fa : List Fa) (fn : List DefD) (fx : List Fx) (K : PySem.W.Frag) : Prop where
  d : SaysD fa fn K
  x : ∀ f ∈ fx, f.ok K = true
def hookM (n : Nat) (fa : List Fa) (fn : List DefD) (fx : List Fx) : PySem.W.Hook where
  α := AlM
  obs := fun s => obsM n fa fn fx s.heap.get?
  val := fun _ => (He.valD fn, true)
  says := fun _ h => ∃ K : PySem.W.Frag, K.In h ∧ SaysM fa fn fx K
  of := fun _ _ e => ⟨_, frG_in, ⟨congrArg (fun z : AlM => z.1) e, fun f hf => List.all_eq_true.mp (congrArg (fun z : AlM => z.2) e) f hf⟩⟩
  keeps := fun _ _ _ ⟨K, hK, c⟩ k => ⟨K, PySem.W.Frag.In.keeps hK k, c⟩
theorem obsM_eq {n : Nat} {fa : List Fa} {fn : List DefD} {fx : List Fx} {g : Addr → Option Obj} {s : Shared} (h : ∀ a, g a = s.heap.get? a) : obsM n fa fn fx g = (hookM n fa fn fx).obs s := by
  have e : g = s.heap.get? := funext h
  rw [e]
  rfl
section
variable {fa : List Fa} {fn : List DefD} {fx : List Fx} {K : PySem.W.Frag}
theorem SaysM.at (c : SaysM fa fn fx K) (i : Nat) {f : Fx} (h : fx[i]? = some f := by rfl) : f.ok K = true := c.x f (List.mem_of_getElem? h)
end
/-- a class's own def -/
def clsDef (st : Stmt) (i : Nat) : Stmt := match st with
  | .ClassDef _ _ _ body _ _ _ _ _ _ _ => body.getD i (.Pass ⟨0, 0, 0, 0⟩)
  | _ => .Pass ⟨0, 0, 0, 0⟩
theorem fd_eq {K : PySem.W.Frag} {x q x' q' : Str} {ps ps' : Arguments} {b b' : List Stmt} {sc sc' : Scope} {dv dv' : List V} {kw kw' : List (Str × V)} {f : Addr} {fd fd' : FuncData} (F : FunD K x q ps b sc dv kw f fd) (F' : FunD K x' q' ps' b' sc' dv' kw' f fd') : fd = fd' := by
  obtain ⟨_, _, _, _, _, _, _, _, _, _, _, l1, _⟩ := F.ex
  obtain ⟨_, _, _, _, _, _, _, _, _, _, _, l2, _⟩ := F'.ex
  rw [l1] at l2
  cases l2
  rfl
abbrev FnP (K : PySem.W.Frag) (x q : Str) (st : Stmt) (f : Addr) (fd : FuncData) : Prop := FunD K x q (defArgs st) (defBody st) (defScope st) [] [] f fd
end Mi
end T_Hd
section T_G35a
set_option Elab.async false
set_option linter.all false
set_option maxRecDepth 100000
set_option maxHeartbeats 0
namespace Mi
open PySem PySem.Spec PyProof.Rows L2 He
/-- _law_pot: 0 _law_script, 1 _law_k, 2 _law_cell -/
def b_Lpot : SM := (sSeq (sSet 2 (eIf (bOf (e2 mLt (eVar 1) (eN mLen (aCons (eVar 0) aNil)))) (eN mAbs (aCons (e2 mIx (eVar 0) (eVar 1)) aNil)) (eC (.int 0)))) (sRet (eN mNewL (aCons (eN mMax (aCons (eC (.int 0)) (aCons (e2 mSub (eVar 2) (e2 mPow (eC (.int 10)) (eC (.int 18)))) aNil))) (aCons (e2 mMod (eN mInt (aCons (e2 mAdd (e2 mAdd (e2 mMul (e2 mMod (eN mInt (aCons (eVar 2) aNil)) (eC (.int 2147483477))) (eC (.int 40927))) (e2 mMul (eC (.int 70001)) (eVar 1))) (eC (.int 131))) aNil)) (eC (.int 2147483587))) aNil)))))
def m_Lpot : List Dv → M Dv := fnOf 2 3 b_Lpot
/-- _law_turned: 0 _law_step -/
def b_Lturned : SM := (sRet (eN mTup (aCons (e2 mIx (eVar 0) (eC (.int 0))) (aCons (e1 mNeg (e2 mIx (eVar 0) (eC (.int 1)))) aNil))))
def m_Lturned : List Dv → M Dv := fnOf 1 1 b_Lturned
/-- _law_inverse: 0 _law_spelt, 1 _law_step -/
def b_Linverse : SM := (sRet (eN mTuple (aCons (eLcE (e1 mRev (eVar 0)) (gNm 1) bYes (eN m_Lturned (aCons (eVar 1) aNil)) [1]) aNil)))
def m_Linverse : List Dv → M Dv := fnOf 1 2 b_Linverse
/-- _law_folds: 0 _law_spelt, 1 _law_found, 2 _law_at, 3 _law_size, 4 _law_part, 5 _law_rest -/
def b_Lfolds : SM := (sSeq (sSet 1 (eN mNewL aNil)) (sSeq (sFor (iRange1 (aCons (eN mLen (aCons (eVar 0) aNil)) aNil)) (gNm 2) (sFor (iRange2 (aCons (eC (.int 1)) (aCons (e2 mAdd (eN mLen (aCons (eVar 0) aNil)) (eC (.int 1))) aNil))) (gNm 3) (sSeq (sPar [4, 5] (aCons (eSl (eVar 0) (oSome (eVar 2)) (oSome (e2 mAdd (eVar 2) (eVar 3)))) (aCons (eSl (eVar 0) (oSome (e2 mAdd (eVar 2) (eVar 3))) oNone) aNil))) (sIf (bAnd (bOf (e2 mEq (eN mLen (aCons (eVar 4) aNil)) (eVar 3))) (bOf (e2 mEq (eSl (eVar 5) oNone (oSome (e2 mMul (eC (.int 2)) (eVar 3)))) (e2 mAdd (eN m_Linverse (aCons (eVar 4) aNil)) (eVar 4))))) (sExpr (eMth "list" mAppend (eVar 1) (aCons (eN mTup (aCons (eVar 2) (aCons (eVar 3) aNil))) aNil))) sNil)))) (sRet (eVar 1))))
def m_Lfolds : List Dv → M Dv := fnOf 1 6 b_Lfolds
/-- _law_after: 0 _law_spelt, 1 _law_crease, 2 _law_at, 3 _law_size -/
def b_Lafter : SM := (sSeq (sAsg (gTp [(gNm 2), (gNm 3)]) (eVar 1)) (sRet (e2 mAdd (eSl (eVar 0) oNone (oSome (e2 mAdd (eVar 2) (eVar 3)))) (eSl (eVar 0) (oSome (e2 mAdd (eVar 2) (e2 mMul (eC (.int 3)) (eVar 3)))) oNone))))
def m_Lafter : List Dv → M Dv := fnOf 2 4 b_Lafter
/-- _law_all: 0 _law_spelt, 1 _law_found, 2 _law_at, 3 _law_crease, 4 _law_later -/
def b_Lall : SM := (sSeq (sPar [1, 2] (aCons (eN mNewL (aCons (eVar 0) aNil)) (aCons (eC (.int 0)) aNil))) (sSeq (sWhile lim (bOf (e2 mLt (eVar 2) (eN mLen (aCons (eVar 1) aNil)))) (sSeq (sForE (eN m_Lfolds (aCons (e2 mIx (eVar 1) (eVar 2)) aNil)) (gNm 3) (sSeq (sSet 4 (eN m_Lafter (aCons (e2 mIx (eVar 1) (eVar 2)) (aCons (eVar 3) aNil)))) (sIf (bOf (e2 mNotIn (eVar 4) (eVar 1))) (sExpr (eMth "list" mAppend (eVar 1) (aCons (eVar 4) aNil))) sNil))) (sSet 2 (e2 mAdd (eVar 2) (eC (.int 1)))))) (sRet (eVar 1))))
def m_Lall : List Dv → M Dv := fnOf 1 5 b_Lall
/-- _law_draw: 0 _law_pot_here, 1 _law_many, 2 _law_digit -/
def b_Ldraw : SM := (sSeq (sIf (bOf (e2 mGt (e2 mIx (eVar 0) (eC (.int 0))) (eC (.int 0)))) (sSeq (sAsg (gTp [(gIx (eVar 0) (eC (.int 0))), (gNm 2)]) (eN mDivmod (aCons (e2 mIx (eVar 0) (eC (.int 0))) (aCons (eVar 1) aNil)))) (sRet (eVar 2))) sNil) (sSeq (sAsg (gIx (eVar 0) (eC (.int 1))) (e2 mMod (eN mInt (aCons (e2 mAdd (e2 mMul (e2 mIx (eVar 0) (eC (.int 1))) (eC (.int 39409))) (eC (.int 20011))) aNil)) (eC (.int 2147483549)))) (sRet (e2 mMod (eN mInt (aCons (e2 mFdiv (e2 mMod (eN mInt (aCons (e2 mMul (e2 mIx (eVar 0) (eC (.int 1))) (e2 mIx (eVar 0) (eC (.int 1)))) aNil)) (eC (.int 2147483477))) (eC (.int 11))) aNil)) (eVar 1)))))
def m_Ldraw : List Dv → M Dv := fnOf 2 3 b_Ldraw
/-- _law_pick: 0 _law_pot_here, 1 _law_some -/
def b_Lpick : SM := (sRet (e2 mIx (eVar 1) (eN m_Ldraw (aCons (eVar 0) (aCons (eN mLen (aCons (eVar 1) aNil)) aNil)))))
def m_Lpick : List Dv → M Dv := fnOf 2 2 b_Lpick
/-- _law_drawn: 0 _law_pot_here, 1 _law_labels_here, 2 _law_most, 3 _law_turn -/
def b_Ldrawn : SM := (sRet (eN mTuple (aCons (eLc (iRange1 (aCons (eN m_Ldraw (aCons (eVar 0) (aCons (e2 mAdd (eVar 2) (eC (.int 1))) aNil))) aNil)) (gNm 3) bYes (eN mTup (aCons (eN m_Lpick (aCons (eVar 0) (aCons (eVar 1) aNil))) (aCons (eN m_Lpick (aCons (eVar 0) (aCons (eN mLst (aCons (eC (.int 1)) (aCons (e1 mNeg (eC (.int 1))) aNil))) aNil))) aNil))) [3]) aNil)))
def m_Ldrawn : List Dv → M Dv := fnOf 3 4 b_Ldrawn
/-- _law_word: 0 _law_pot_here, 1 _law_labels_here, 2 _law_spelt, 3 _law_turn, 4 _law_at, 5 _law_size, 6 _law_part, 7 _law_longer -/
def b_Lword : SM := (sSeq (sSet 2 (eN m_Ldrawn (aCons (eVar 0) (aCons (eVar 1) (aCons (eC (.int 5)) aNil))))) (sSeq (sFor (iRange1 (aCons (eN m_Ldraw (aCons (eVar 0) (aCons (eC (.int 4)) aNil))) aNil)) (gNm 3) (sSeq (sPar [4, 5] (aCons (eN m_Ldraw (aCons (eVar 0) (aCons (e2 mAdd (eN mLen (aCons (eVar 2) aNil)) (eC (.int 1))) aNil))) (aCons (e2 mAdd (eC (.int 1)) (eN m_Ldraw (aCons (eVar 0) (aCons (eC (.int 3)) aNil)))) aNil))) (sSeq (sSet 6 (eSl (eVar 2) (oSome (eVar 4)) (oSome (e2 mAdd (eVar 4) (eVar 5))))) (sSeq (sSet 7 (e2 mAdd (e2 mAdd (e2 mAdd (eSl (eVar 2) oNone (oSome (eVar 4))) (eVar 6)) (eN m_Linverse (aCons (eVar 6) aNil))) (eSl (eVar 2) (oSome (eVar 4)) oNone))) (sSet 2 (eIf (bOf (e2 mLt (eN mLen (aCons (eVar 7) aNil)) (eC (.int 12)))) (eVar 7) (eVar 2))))))) (sRet (eVar 2))))
def m_Lword : List Dv → M Dv := fnOf 2 8 b_Lword
/-- is_name: 0 value, 1 sign -/
def b_is_name : SM := (sSeq (sIf (bOr (bNot (bOf (e1 (mIsi "str") (eVar 0)))) (bNot (bOf (eChain mLe mLe (eC (.int 1)) (eN mLen (aCons (eVar 0) aNil)) (eC (.int (8))))))) (sRet (eC (.bl false))) sNil) (sRet (eN mAll (aCons (eLcE (eVar 0) (gNm 1) bYes (e2 mIn (eVar 1) (eC (.str "abcdefghijklmnopqrstuvwxyz"))) [1]) aNil))))
def m_is_name : List Dv → M Dv := fnOf 1 2 b_is_name
/-- is_integer: 0 value -/
def b_is_integer : SM := (sRet (eAnd (e1 (mIsi "int") (eVar 0)) (eNot (e1 (mIsi "bool") (eVar 0)))))
def m_is_integer : List Dv → M Dv := fnOf 1 1 b_is_integer
/-- is_step: 0 value -/
def b_is_step : SM := (sSeq (sIf (bOr (bNot (bOf (e1 (mIsi "tuple") (eVar 0)))) (bOf (e2 mNe (eN mLen (aCons (eVar 0) aNil)) (eC (.int 2))))) (sRet (eC (.bl false))) sNil) (sRet (eAnd (eN m_is_name (aCons (e2 mIx (eVar 0) (eC (.int 0))) aNil)) (eAnd (eN m_is_integer (aCons (e2 mIx (eVar 0) (eC (.int 1))) aNil)) (e2 mIn (e2 mIx (eVar 0) (eC (.int 1))) (eN mTup (aCons (eC (.int (1))) (aCons (eC (.int (-1))) aNil))))))))
def m_is_step : List Dv → M Dv := fnOf 1 1 b_is_step
/-- is_word: 0 value, 1 step -/
def b_is_word : SM := (sRet (eAnd (e1 (mIsi "tuple") (eVar 0)) (eN mAll (aCons (eLcE (eVar 0) (gNm 1) bYes (eN m_is_step (aCons (eVar 1) aNil)) [1]) aNil))))
def m_is_word : List Dv → M Dv := fnOf 1 2 b_is_word
/-- want_word: 0 value -/
def b_want_word : SM := (sIf (bNot (bOf (eN m_is_word (aCons (eVar 0) aNil)))) (sRaise "InvalidWord" ["value"] (aCons (eVar 0) aNil)) sNil)
def m_want_word : List Dv → M Dv := fnOf 1 1 b_want_word
/-- inverse_step: 0 step, 1 label, 2 way -/
def b_inverse_step : SM := (sSeq (sAsg (gTp [(gNm 1), (gNm 2)]) (eVar 0)) (sRet (eN mTup (aCons (eVar 1) (aCons (e1 mNeg (eVar 2)) aNil)))))
def m_inverse_step : List Dv → M Dv := fnOf 1 3 b_inverse_step
/-- inverse_of: 0 word, 1 step -/
def b_inverse_of : SM := (sSeq (sExpr (eN m_want_word (aCons (eVar 0) aNil))) (sRet (eN mTuple (aCons (eLcE (e1 mRev (eVar 0)) (gNm 1) bYes (eN m_inverse_step (aCons (eVar 1) aNil)) [1]) aNil))))
def m_inverse_of : List Dv → M Dv := fnOf 1 2 b_inverse_of
/-- can_fold: 0 word, 1 start, 2 size, 3 part -/
def b_can_fold : SM := (sSeq (sIf (bOr (bOf (e2 mLt (eVar 1) (eC (.int 0)))) (bOr (bOf (e2 mLt (eVar 2) (eC (.int 1)))) (bOf (e2 mGt (e2 mAdd (eVar 1) (e2 mMul (eC (.int 3)) (eVar 2))) (eN mLen (aCons (eVar 0) aNil)))))) (sRet (eC (.bl false))) sNil) (sSeq (sSet 3 (eSl (eVar 0) (oSome (eVar 1)) (oSome (e2 mAdd (eVar 1) (eVar 2))))) (sSeq (sIf (bOf (e2 mNe (eSl (eVar 0) (oSome (e2 mAdd (eVar 1) (e2 mMul (eC (.int 2)) (eVar 2)))) (oSome (e2 mAdd (eVar 1) (e2 mMul (eC (.int 3)) (eVar 2))))) (eVar 3))) (sRet (eC (.bl false))) sNil) (sRet (e2 mEq (eSl (eVar 0) (oSome (e2 mAdd (eVar 1) (eVar 2))) (oSome (e2 mAdd (eVar 1) (e2 mMul (eC (.int 2)) (eVar 2))))) (eN m_inverse_of (aCons (eVar 3) aNil)))))))
def m_can_fold : List Dv → M Dv := fnOf 3 4 b_can_fold
/-- folds_of: 0 word, 1 found, 2 start, 3 size -/
def b_folds_of : SM := (sSeq (sExpr (eN m_want_word (aCons (eVar 0) aNil))) (sSeq (sSet 1 (eN mNewL aNil)) (sSeq (sFor (iRange1 (aCons (eN mLen (aCons (eVar 0) aNil)) aNil)) (gNm 2) (sExpr (eMth "list" mExtend (eVar 1) (aCons (eLc (iRange2 (aCons (eC (.int 1)) (aCons (e2 mAdd (e2 mFdiv (e2 mSub (eN mLen (aCons (eVar 0) aNil)) (eVar 2)) (eC (.int 3))) (eC (.int 1))) aNil))) (gNm 3) (bOf (eN m_can_fold (aCons (eVar 0) (aCons (eVar 2) (aCons (eVar 3) aNil))))) (eN mTup (aCons (eVar 2) (aCons (eVar 3) aNil))) [3]) aNil)))) (sRet (eVar 1)))))
def m_folds_of : List Dv → M Dv := fnOf 1 4 b_folds_of
/-- targets_by: 0 links, 1 state, 2 step, 3 taken, 4 other -/
def b_targets_by : SM := (sRet (eLcE (eDGet2 (eVar 0) (eVar 1) (eN mLst aNil)) (gTp [(gNm 3), (gNm 4)]) (bOf (e2 mEq (eVar 3) (eVar 2))) (eVar 4) [3, 4]))
def m_targets_by : List Dv → M Dv := fnOf 3 5 b_targets_by
/-- moves_on: 0 links, 1 word, 2 node, 3 state, 4 found, 5 back, 6 other -/
def b_moves_on : SM := (sSeq (sSet 4 (eN mNewL aNil)) (sSeq (sIf (bOf (e2 mLt (eVar 2) (eN mLen (aCons (eVar 1) aNil)))) (sExpr (eMth "list" mExtend (eVar 4) (aCons (eLcE (eN m_targets_by (aCons (eVar 0) (aCons (eVar 3) (aCons (e2 mIx (eVar 1) (eVar 2)) aNil)))) (gNm 6) bYes (eN mTup (aCons (e2 mAdd (eVar 2) (eC (.int 1))) (aCons (eVar 6) aNil))) [6]) aNil))) sNil) (sSeq (sIf (bOf (e2 mGt (eVar 2) (eC (.int 0)))) (sSeq (sSet 5 (eN m_inverse_step (aCons (e2 mIx (eVar 1) (e2 mSub (eVar 2) (eC (.int 1)))) aNil))) (sExpr (eMth "list" mExtend (eVar 4) (aCons (eLcE (eN m_targets_by (aCons (eVar 0) (aCons (eVar 3) (aCons (eVar 5) aNil)))) (gNm 6) bYes (eN mTup (aCons (e2 mSub (eVar 2) (eC (.int 1))) (aCons (eVar 6) aNil))) [6]) aNil)))) sNil) (sRet (eVar 4)))))
def m_moves_on : List Dv → M Dv := fnOf 4 7 b_moves_on
/-- way_back: 0 before, 1 last, 2 found, 3 here -/
def b_way_back : SM := (sSeq (sPar [2, 3] (aCons (eN mNewL aNil) (aCons (eVar 1) aNil))) (sSeq (sWhile lim (bOf (e2 mIsNot (eVar 3) (eC .non))) (sSeq (sExpr (eMth "list" mAppend (eVar 2) (aCons (eVar 3) aNil))) (sSet 3 (e2 mDGet (eVar 0) (eVar 3))))) (sRet (e1 mRev (eVar 2)))))
def m_way_back : List Dv → M Dv := fnOf 2 4 b_way_back
/-- found_walk: 0 links, 1 ends, 2 word, 3 before, 4 waiting, 5 at, 6 here, 7 later -/
def b_found_walk : SM := (sSeq (sPar [3, 4, 5] (aCons (eDispT (eN mTup (aCons (eC (.int 0)) (aCons (eC (.int 0)) aNil))) (eC .non)) (aCons (eN mNewL (aCons (eN mTup (aCons (eC (.int 0)) (aCons (eC (.int 0)) aNil))) aNil)) (aCons (eC (.int 0)) aNil)))) (sSeq (sWhile lim (bOf (e2 mLt (eVar 5) (eN mLen (aCons (eVar 4) aNil)))) (sSeq (sSet 6 (e2 mIx (eVar 4) (eVar 5))) (sSeq (sIf (bAnd (bOf (e2 mEq (e2 mIx (eVar 6) (eC (.int 0))) (eN mLen (aCons (eVar 2) aNil)))) (bOf (e2 mIn (e2 mIx (eVar 6) (eC (.int 1))) (eVar 1)))) (sRet (eN m_way_back (aCons (eVar 3) (aCons (eVar 6) aNil)))) sNil) (sSeq (sForE (eN m_moves_on (aCons (eVar 0) (aCons (eVar 2) (aCons (e2 mIx (eVar 6) (eC (.int 0))) (aCons (e2 mIx (eVar 6) (eC (.int 1))) aNil))))) (gNm 7) (sIf (bOf (e2 (mDIn not) (eVar 7) (eVar 3))) (sSeq (sDPut (eVar 3) (eVar 7) (eVar 6)) (sExpr (eMth "list" mAppend (eVar 4) (aCons (eVar 7) aNil)))) sNil)) (sAug 5 mAddI (eC (.int 1))))))) (sRet (eC .non))))
def m_found_walk : List Dv → M Dv := fnOf 3 8 b_found_walk
/-- folds_to: 0 one_word, 1 other_word, 2 links, 3 place, 4 step -/
def b_folds_to : SM := (sSeq (sExpr (eN m_want_word (aCons (eVar 0) aNil))) (sSeq (sExpr (eN m_want_word (aCons (eVar 1) aNil))) (sSeq (sSet 2 (eDc (iEnum (aCons (eVar 0) aNil)) (gTp [(gNm 3), (gNm 4)]) bYes (eVar 3) (eN mLst (aCons (eN mTup (aCons (eVar 4) (aCons (e2 mAdd (eVar 3) (eC (.int 1))) aNil))) aNil)) [3, 4])) (sRet (e2 mIsNot (eN m_found_walk (aCons (eVar 2) (aCons (eN mTup (aCons (eN mLen (aCons (eVar 0) aNil)) aNil)) (aCons (eVar 1) aNil)))) (eC .non))))))
def m_folds_to : List Dv → M Dv := fnOf 2 5 b_folds_to
/-- after_fold: 0 word, 1 start, 2 size -/
def b_after_fold : SM := (sRet (e2 mAdd (eSl (eVar 0) oNone (oSome (e2 mAdd (eVar 1) (eVar 2)))) (eSl (eVar 0) (oSome (e2 mAdd (eVar 1) (e2 mMul (eC (.int 3)) (eVar 2)))) oNone)))
def m_after_fold : List Dv → M Dv := fnOf 3 3 b_after_fold
/-- is_fold: 0 word, 1 value -/
def b_is_fold : SM := (sSeq (sIf (bOr (bNot (bOf (e1 (mIsi "tuple") (eVar 1)))) (bOr (bOf (e2 mNe (eN mLen (aCons (eVar 1) aNil)) (eC (.int 2)))) (bOr (bNot (bOf (eN m_is_integer (aCons (e2 mIx (eVar 1) (eC (.int 0))) aNil)))) (bNot (bOf (eN m_is_integer (aCons (e2 mIx (eVar 1) (eC (.int 1))) aNil))))))) (sRet (eC (.bl false))) sNil) (sRet (eN m_can_fold (aCons (eVar 0) (aCons (e2 mIx (eVar 1) (eC (.int 0))) (aCons (e2 mIx (eVar 1) (eC (.int 1))) aNil))))))
def m_is_fold : List Dv → M Dv := fnOf 2 2 b_is_fold
/-- folded: 0 word, 1 fold -/
def b_folded : SM := (sSeq (sExpr (eN m_want_word (aCons (eVar 0) aNil))) (sSeq (sIf (bNot (bOf (eN m_is_fold (aCons (eVar 0) (aCons (eVar 1) aNil))))) (sRaise "InvalidFold" ["value"] (aCons (eVar 1) aNil)) sNil) (sRet (eN m_after_fold (aCons (eVar 0) (aCons (e2 mIx (eVar 1) (eC (.int 0))) (aCons (e2 mIx (eVar 1) (eC (.int 1))) aNil)))))))
def m_folded : List Dv → M Dv := fnOf 2 2 b_folded
/-- _law_refused: 0 _law_spelt, 1 _law_value, 2 _law_told, 3 e -/
def b_Lrefused : SM := (sSeq (sSet 2 (eC .non)) (sSeq (sTry 3 ["InvalidFold", "InvalidWord"] ["InvalidFold"] (sExpr (eN m_folded (aCons (eVar 0) (aCons (eVar 1) aNil)))) (fun x => (sSet 2 (eN mLst (aCons (e2 mEqX (eXf x "InvalidFold" "value") (eVar 1)) (aCons (eXi x "InvalidFold" true) aNil)))))) (sRet (e2 mEq (eVar 2) (eN mLst (aCons (eC (.bl true)) (aCons (eC (.bl true)) aNil)))))))
def m_Lrefused : List Dv → M Dv := fnOf 2 4 b_Lrefused
/-- _law_word_right: 0 _law_pot_here, 1 _law_spelt, 2 _law_due, 3 _law_kept, 4 _law_told, 5 _law_crease, 6 _law_later, 7 _law_odd, 8 _law_wrong, 9 _law_turn, 10 _law_value -/
def b_Lword_right : SM := (sSeq (sAsg (gTp [(gNm 2), (gNm 3)]) (eN mTup (aCons (eN m_Lfolds (aCons (eVar 1) aNil)) (aCons (eN mRepr (aCons (eVar 1) aNil)) aNil)))) (sSeq (sSet 4 (eN m_folds_of (aCons (eVar 1) aNil))) (sSeq (sIf (bOr (bOf (e2 mNe (eN mRepr (aCons (eVar 4) aNil)) (eN mRepr (aCons (eVar 2) aNil)))) (bOf (e2 mNe (eN mRepr (aCons (eK m_folds_of [0] (aCons (eVar 1) aNil)) aNil)) (eN mRepr (aCons (eVar 2) aNil))))) (sRet (eC (.bl false))) sNil) (sSeq (sExpr (eMth "list" mAppend (eVar 4) (aCons (eN mTup (aCons (eC (.int 0)) (aCons (eC (.int 1)) aNil))) aNil))) (sSeq (sIf (bOf (e2 mNe (eN mRepr (aCons (eN m_folds_of (aCons (eVar 1) aNil)) aNil)) (eN mRepr (aCons (eVar 2) aNil)))) (sRet (eC (.bl false))) sNil) (sSeq (sForE (eVar 2) (gNm 5) (sSeq (sSet 6 (eN m_Lafter (aCons (eVar 1) (aCons (eVar 5) aNil)))) (sIf (bOr (bOf (e2 mNe (eN mLst (aCons (eN m_folded (aCons (eVar 1) (aCons (eVar 5) aNil))) (aCons (eK m_folded [1, 0] (aCons (eVar 5) (aCons (eVar 1) aNil))) aNil))) (e2 mMul (eN mLst (aCons (eVar 6) aNil)) (eC (.int 2))))) (bNot (bOf (eN m_folds_to (aCons (eVar 1) (aCons (eVar 6) aNil)))))) (sRet (eC (.bl false))) sNil))) (sSeq (sSet 7 (eN mLst (aCons (eC .non) (aCons (eC (.int 5)) (aCons (eC (.str "ab")) (aCons (eN mTup aNil) (aCons (eN mTup (aCons (eC (.int 0)) aNil)) (aCons (eN mTup (aCons (eC (.int 0)) (aCons (eC (.int 1)) (aCons (eC (.int 0)) aNil)))) (aCons (eN mLst (aCons (eC (.int 0)) (aCons (eC (.int 1)) aNil))) (aCons (eN mTup (aCons (eC (.int 0)) (aCons (eC (.bl true)) aNil))) (aCons (eN mTup (aCons (eC (.bl false)) (aCons (eC (.int 1)) aNil))) (aCons (eN mTup (aCons (eC (.int 0)) (aCons (eC (.int 0)) aNil))) (aCons (eN mTup (aCons (eC (.int 0)) (aCons (e1 mNeg (eC (.int 1))) aNil))) (aCons (eN mTup (aCons (e1 mNeg (eC (.int 1))) (aCons (eC (.int 1)) aNil))) (aCons (eN mTup (aCons (eN mLen (aCons (eVar 1) aNil)) (aCons (eC (.int 1)) aNil))) aNil))))))))))))))) (sSeq (sSet 7 (e2 mAdd (e2 mAdd (eVar 7) (eN mLst (aCons (eN mTup (aCons (eN mLst (aCons (eC (.int 0)) aNil)) (aCons (eC (.int 1)) aNil))) (aCons (eN mTup (aCons (eC (.int 0)) (aCons (eN mLst (aCons (eC (.int 1)) aNil)) aNil))) (aCons (eN mTup (aCons mDct0 (aCons (eC (.int 1)) aNil))) aNil))))) (eLc (iRange1 (aCons (eC (.int 3)) aNil)) (gNm 9) bYes (eN mTup (aCons (eN m_Ldraw (aCons (eVar 0) (aCons (eC (.int 12)) aNil))) (aCons (e2 mAdd (eC (.int 1)) (eN m_Ldraw (aCons (eVar 0) (aCons (eC (.int 4)) aNil)))) aNil))) [9]))) (sSeq (sSet 8 (eLcE (eVar 7) (gNm 10) (bOf (e2 mNotIn (eN mRepr (aCons (eVar 10) aNil)) (eLcE (eVar 2) (gNm 5) bYes (eN mRepr (aCons (eVar 5) aNil)) [5]))) (eVar 10) [10])) (sRet (eAnd (eN mAll (aCons (eLcE (eVar 8) (gNm 10) bYes (eN m_Lrefused (aCons (eVar 1) (aCons (eVar 10) aNil))) [10]) aNil)) (e2 mEq (eN mRepr (aCons (eVar 1) aNil)) (eVar 3)))))))))))))
def m_Lword_right : List Dv → M Dv := fnOf 2 11 b_Lword_right
/-- _law_changed: 0 _law_pot_here, 1 _law_spelt, 2 _law_at -/
def b_Lchanged : SM := (sSeq (sSet 2 (eN m_Ldraw (aCons (eVar 0) (aCons (e2 mAdd (eN mLen (aCons (eVar 1) aNil)) (eC (.int 1))) aNil)))) (sSeq (sIf (bOf (e2 mEq (eVar 2) (eN mLen (aCons (eVar 1) aNil)))) (sRet (eSl (eVar 1) (oSome (eC (.int 1))) oNone)) sNil) (sRet (e2 mAdd (e2 mAdd (eSl (eVar 1) oNone (oSome (eVar 2))) (eN mTup (aCons (eN m_Lturned (aCons (e2 mIx (eVar 1) (eVar 2)) aNil)) aNil))) (eSl (eVar 1) (oSome (e2 mAdd (eVar 2) (eC (.int 1)))) oNone)))))
def m_Lchanged : List Dv → M Dv := fnOf 2 3 b_Lchanged
/-- _law_right: 0 _law_pot_here, 1 _law_labels_here, 2 _law_some, 3 _law_spelt, 4 _law_every, 5 _law_others, 6 _law_other, 7 _law_told, 8 _law_turn, 9 _law_one -/
def b_Lright : SM := (sSeq (sSet 2 (e2 mAdd (eN mLst (aCons (eN mTup aNil) aNil)) (eLc (iRange1 (aCons (eC (.int 7)) aNil)) (gNm 8) bYes (eN m_Lword (aCons (eVar 0) (aCons (eVar 1) aNil))) [8]))) (sSeq (sForE (eVar 2) (gNm 3) (sSeq (sIf (bNot (bOf (eN m_Lword_right (aCons (eVar 0) (aCons (eVar 3) aNil))))) (sRet (eC (.bl false))) sNil) (sSeq (sSet 4 (eN m_Lall (aCons (eVar 3) aNil))) (sSeq (sSet 5 (e2 mAdd (eLcE (eSl (eVar 4) oNone (oSome (eC (.int 6)))) (gNm 9) bYes (eN m_Lchanged (aCons (eVar 0) (aCons (eVar 9) aNil))) [9]) (eLc (iRange1 (aCons (eC (.int 4)) aNil)) (gNm 8) bYes (eN m_Ldrawn (aCons (eVar 0) (aCons (eVar 1) (aCons (eC (.int 4)) aNil)))) [8]))) (sForE (e2 mAdd (e2 mAdd (eSl (eVar 4) oNone (oSome (eC (.int 40)))) (eVar 2)) (eVar 5)) (gNm 6) (sSeq (sSet 7 (eN mLst (aCons (eN m_folds_to (aCons (eVar 3) (aCons (eVar 6) aNil))) (aCons (eK m_folds_to [1, 0] (aCons (eVar 6) (aCons (eVar 3) aNil))) aNil)))) (sIf (bOf (e2 mNe (eN mRepr (aCons (eVar 7) aNil)) (eN mRepr (aCons (e2 mMul (eN mLst (aCons (e2 mIn (eVar 6) (eVar 4)) aNil)) (eC (.int 2))) aNil)))) (sRet (eC (.bl false))) sNil))))))) (sRet (eC (.bl true)))))
def m_Lright : List Dv → M Dv := fnOf 2 10 b_Lright
/-- _law_labels: 0 _law_pot_here, 1 _law_many, 2 _law_letters, 3 _law_found, 4 _law_k, 5 _law_size, 6 _law_spelt, 7 _law_some, 8 _law_turn, 9 _law_letter, 10 _law_one -/
def b_Llabels : SM := (sSeq (sAsg (gTp [(gNm 2), (gNm 3)]) (eN mTup (aCons (eC (.str "abcdefghijklmnopqrstuvwxyz")) (aCons (eN mNewL aNil) aNil)))) (sSeq (sFor (iRange1 (aCons (eVar 1) aNil)) (gNm 4) (sSeq (sSet 5 (eN m_Lpick (aCons (eVar 0) (aCons (eN mLst (aCons (eC (.int 1)) (aCons (eC (.int 1)) (aCons (eC (.int 2)) (aCons (e2 mAdd (eC (.int 1)) (eN m_Ldraw (aCons (eVar 0) (aCons (eC (.int 8)) aNil)))) aNil))))) aNil)))) (sSeq (sSet 6 (eJoin (eC (.str "")) (eLc (iRange1 (aCons (eVar 5) aNil)) (gNm 8) bYes (eN m_Lpick (aCons (eVar 0) (aCons (eVar 2) aNil))) [8]))) (sSeq (sSet 7 (e2 mAdd (eN mLst (aCons (eVar 6) aNil)) (eLcE (eVar 2) (gNm 9) bYes (e2 mAdd (e2 mAdd (eSl (eVar 6) oNone (oSome (eC (.int 6)))) (eVar 9)) (eC (.str "q"))) [9]))) (sExpr (eMth "list" mAppend (eVar 3) (aCons (e2 mIx (eLcE (eVar 7) (gNm 10) (bOf (e2 mNotIn (eVar 10) (eVar 3))) (eVar 10) [10]) (eC (.int 0))) aNil))))))) (sRet (eVar 3))))
def m_Llabels : List Dv → M Dv := fnOf 2 11 b_Llabels
/-- law: 0 _law_script, 1 _law_k, 2 _law_pot_here -/
def b_law : SM := (sSeq (sFor (iRange1 (aCons (eN mMax (aCons (eC (.int 1)) (aCons (eN mMin (aCons (eN mLen (aCons (eVar 0) aNil)) (aCons (eC (.int 3)) aNil))) aNil))) aNil)) (gNm 1) (sSeq (sSet 2 (eN m_Lpot (aCons (eVar 0) (aCons (eVar 1) aNil)))) (sIf (bNot (bOf (eN m_Lright (aCons (eVar 2) (aCons (eN m_Llabels (aCons (eVar 2) (aCons (e2 mAdd (eC (.int 1)) (eN m_Ldraw (aCons (eVar 2) (aCons (eC (.int 2)) aNil)))) aNil))) aNil))))) (sRet (eC (.bl false))) sNil))) (sRet (eC (.bl true))))
def m_law : List Dv → M Dv := fnOf 1 3 b_law
/-! ### the text -/
def top (i : Nat) : Stmt := PySem.Challenge.pw_walkasks_k35_whole_folds.main.body.getD i (.Pass ⟨0, 0, 0, 0⟩)
theorem bb_abs : bootBuiltins "abs" = some (.builtin "abs") := by decide +kernel
theorem bb_all : bootBuiltins "all" = some (.builtin "all") := by decide +kernel
theorem bb_divmod : bootBuiltins "divmod" = some (.builtin "divmod") := by decide +kernel
theorem bb_int : bootBuiltins "int" = some (.type "int") := by decide +kernel
theorem bb_len : bootBuiltins "len" = some (.builtin "len") := by decide +kernel
theorem bb_max : bootBuiltins "max" = some (.builtin "max") := by decide +kernel
theorem bb_min : bootBuiltins "min" = some (.builtin "min") := by decide +kernel
theorem bb_tuple : bootBuiltins "tuple" = some (.type "tuple") := by decide +kernel
/-! ### what is known of the module -/
structure Md (K : PySem.W.Frag) (mg : Str → Option Value) : Prop where
  n_abs : mg "abs" = none
  n_all : mg "all" = none
  n_bool : mg "bool" = none
  n_divmod : mg "divmod" = none
  n_enumerate : mg "enumerate" = none
  n_int : mg "int" = none
  n_isinstance : mg "isinstance" = none
  n_len : mg "len" = none
  n_max : mg "max" = none
  n_min : mg "min" = none
  n_range : mg "range" = none
  n_repr : mg "repr" = none
  n_str : mg "str" = none
  n_tuple : mg "tuple" = none
  i_AGAINST : ∃ t, mg "AGAINST" = some (.int (-1) t)
  i_ALONG : ∃ t, mg "ALONG" = some (.int (1) t)
  i_LONGEST_NAME : ∃ t, mg "LONGEST_NAME" = some (.int (8) t)
  s_LETTERS : ∃ t, mg "LETTERS" = some (.str "abcdefghijklmnopqrstuvwxyz" t)
  g_InvalidFold : mg "InvalidFold" = some (.ref (ga K "InvalidFold"))
  g_InvalidWord : mg "InvalidWord" = some (.ref (ga K "InvalidWord"))
  g_WalkError : mg "WalkError" = some (.ref (ga K "WalkError"))
  sm : SmD K
  oex_InvalidFold : OexC K (ga K "InvalidFold")
  oex_InvalidWord : OexC K (ga K "InvalidWord")
  init_InvalidFold : PySem.W.findIn K (.ref (ga K "InvalidFold")) "__init__" = some (some (.ref (ma K (ga K "InvalidFold") "__init__"))) ∧ PySem.W.typeIn K (.ref (ma K (ga K "InvalidFold") "__init__")) = some (.type "function")
  init_InvalidWord : PySem.W.findIn K (.ref (ga K "InvalidWord")) "__init__" = some (some (.ref (ma K (ga K "InvalidWord") "__init__"))) ∧ PySem.W.typeIn K (.ref (ma K (ga K "InvalidWord") "__init__")) = some (.type "function")
  rd_WalkError : PySem.W.readsIn K (ga K "WalkError") (.type "type") = true ∧ PySem.W.specialIn K (.ref (ga K "WalkError")) "__getattribute__" = some (some (.builtin "type.__getattribute__")) ∧ PySem.W.findCls K (.ref (ga K "WalkError")) (.type "type") "__init__" = some (.val (.builtin "ValueError.__init__"))
  noat_InvalidFold_value : PySem.W.findIn K (.ref (ga K "InvalidFold")) "value" = some none
  noat_InvalidWord_value : PySem.W.findIn K (.ref (ga K "InvalidWord")) "value" = some none
  xf_InvalidFold : XfC K (ga K "InvalidFold")
  exc_InvalidFold : ExcC K (ga K "InvalidFold")
  exm_InvalidFold_InvalidFold : PySem.W.exmOne K (.ref (ga K "InvalidFold")) (.ref (ga K "InvalidFold")) = some true
  exm_InvalidWord_InvalidFold : PySem.W.exmOne K (.ref (ga K "InvalidWord")) (.ref (ga K "InvalidFold")) = some false
  kit_InvalidFold_WalkError : PySem.W.kitOne K (.ref (ga K "InvalidFold")) (.ref (ga K "WalkError")) = some true
section
variable {P : Program} {w : World} {K : PySem.W.Frag} {mg : Str → Option Value} {base : Heap}
abbrev FnX_InvalidFold (K : PySem.W.Frag) (fd : FuncData) : Prop := FnP K "__init__" "InvalidFold.__init__" (clsDef (top 3) 0) (ma K (ga K "InvalidFold") "__init__") fd
theorem scx_InvalidFold : FnScope ["self", "value"] ["self", "value"] (defScope (clsDef (top 3) 0)) := ⟨rfl, rfl, rfl, by decide +kernel, rfl, by decide +kernel, by decide +kernel⟩
theorem bdx_InvalidFold {fd : FuncData} (F : FnX_InvalidFold K fd) : L2.Binds K fd ["self", "value"] [] := F.bindsN fun _ _ _ _ _ _ us hl => match us, hl with | [_, _], _ => rfl
def Oe_InvalidFold (P : Program) (w : World) (K : PySem.W.Frag) (mg : Str → Option Value) (base : Heap) : Prop := ∃ fd, FnX_InvalidFold K fd ∧ FnOk P w K mg base (L2.CX P w) 2 (ma K (ga K "InvalidFold") "__init__") fd ["self", "value"] (spExc K "value")
theorem oe_InvalidFold (M : Md K mg) (F : ∃ fd, FnX_InvalidFold K fd) : Oe_InvalidFold P w K mg base := by
  obtain ⟨fd, F⟩ := F
  refine ⟨fd, F, ok_exc (txt := "this is not a fold of the word") F scx_InvalidFold fun cdv A outer s H E => ?_⟩
  exact pss_cons (ps_expr (pe_clsinit rfl M.g_WalkError M.rd_WalkError.1 M.rd_WalkError.2.1 M.rd_WalkError.2.2 (pa_cons (pv 0) (pa_cons pe_str pa_nil)))) (pss_one (ps_ost (pv 0) (pv 1)))
abbrev FnX_InvalidWord (K : PySem.W.Frag) (fd : FuncData) : Prop := FnP K "__init__" "InvalidWord.__init__" (clsDef (top 2) 0) (ma K (ga K "InvalidWord") "__init__") fd
theorem scx_InvalidWord : FnScope ["self", "value"] ["self", "value"] (defScope (clsDef (top 2) 0)) := ⟨rfl, rfl, rfl, by decide +kernel, rfl, by decide +kernel, by decide +kernel⟩
theorem bdx_InvalidWord {fd : FuncData} (F : FnX_InvalidWord K fd) : L2.Binds K fd ["self", "value"] [] := F.bindsN fun _ _ _ _ _ _ us hl => match us, hl with | [_, _], _ => rfl
def Oe_InvalidWord (P : Program) (w : World) (K : PySem.W.Frag) (mg : Str → Option Value) (base : Heap) : Prop := ∃ fd, FnX_InvalidWord K fd ∧ FnOk P w K mg base (L2.CX P w) 2 (ma K (ga K "InvalidWord") "__init__") fd ["self", "value"] (spExc K "value")
theorem oe_InvalidWord (M : Md K mg) (F : ∃ fd, FnX_InvalidWord K fd) : Oe_InvalidWord P w K mg base := by
  obtain ⟨fd, F⟩ := F
  refine ⟨fd, F, ok_exc (txt := "this is not a word") F scx_InvalidWord fun cdv A outer s H E => ?_⟩
  exact pss_cons (ps_expr (pe_clsinit rfl M.g_WalkError M.rd_WalkError.1 M.rd_WalkError.2.1 M.rd_WalkError.2.2 (pa_cons (pv 0) (pa_cons pe_str pa_nil)))) (pss_one (ps_ost (pv 0) (pv 1)))
/-! _law_pot -/
abbrev Fd_Lpot (K : PySem.W.Frag) (fd : FuncData) : Prop := FnP K "_law_pot" "_law_pot" (top 29) (ga K "_law_pot") fd
theorem nd_Lpot : (["_law_script", "_law_k", "_law_cell"] : List Str).Nodup := by decide +kernel
theorem sc_Lpot : FnScope ["_law_script", "_law_k", "_law_cell"] ["_law_script", "_law_k"] (defScope (top 29)) := ⟨rfl, rfl, rfl, nd_Lpot, rfl, by decide +kernel, by decide +kernel⟩
theorem bd_Lpot {fd : FuncData} (F : Fd_Lpot K fd) : L2.Binds K fd ["_law_script", "_law_k"] [] := F.bindsN fun _ _ _ _ _ _ us hl => match us, hl with | [_, _], _ => rfl
def Ok_Lpot (P : Program) (w : World) (K : PySem.W.Frag) (mg : Str → Option Value) (base : Heap) : Prop := ∃ fd, Fd_Lpot K fd ∧ FnG P w K mg base 1 (ga K "_law_pot") fd ["_law_script", "_law_k"] (spM ⟨K, mg, [], none⟩ 2 m_Lpot) ∧ mg "_law_pot" = some (.ref (ga K "_law_pot"))
theorem ok_Lpot (M : Md K mg) (F : ∃ fd, Fd_Lpot K fd) (g : mg "_law_pot" = some (.ref (ga K "_law_pot")))   : Ok_Lpot P w K mg base := by
  obtain ⟨fd, F⟩ := F
  refine ⟨fd, F, ok_defG F sc_Lpot (fun cdv A outer s H E hgd hr => ?_), g⟩
  have hu := hr.un
  have u1 : (A.deeper (envOfC "_law_pot" (defScope (top 29)) s.heap.objs.size (ga K "_law_pot") cdv)).units + 1 < cLine := by omega
  have u64 : (A.deeper (envOfC "_law_pot" (defScope (top 29)) s.heap.objs.size (ga K "_law_pot") cdv)).units + 64 < cLine := by omega
  have u65 : (A.deeper (envOfC "_law_pot" (defScope (top 29)) s.heap.objs.size (ga K "_law_pot") cdv)).units + 65 < cLine := by omega
  exact (rs_cons (rs_set nd_Lpot rfl (by first | exact .inl rfl | exact .inr rfl) (re_if (rt_cmp op_lt d_cmp (re_var (pv 1)) (re_B call_len d_len rfl M.n_len bb_len (ra_cons (re_var (pv 0)) ra_nil)) (nomark _)) (re_B call_abs d_abs rfl M.n_abs bb_abs (ra_cons (re_ix rfl (re_var (pv 0)) (re_var (pv 1)) (fun _ _ => rfl)) ra_nil)) re_int)) (rs_one (rs_ret (re_lstS (ra_cons (re_B (call_max2 rfl) d_max rfl M.n_max bb_max (ra_cons re_int (ra_cons (re_op op_sub d_sub (re_var (pv 2)) (re_op op_pow d_pow re_int re_int)) ra_nil))) (ra_cons (re_op op_mod d_mod (re_Ty call_int1 d_int rfl M.n_int bb_int (ra_cons (re_op (o_add rfl) d_add (re_op (o_add rfl) d_add (re_op o_mul d_mul (re_op op_mod d_mod (re_Ty call_int1 d_int rfl M.n_int bb_int (ra_cons (re_var (pv 2)) ra_nil)) re_int) re_int) (re_op o_mul d_mul re_int (re_var (pv 1)))) re_int) ra_nil)) re_int) ra_nil))))))
/-! _law_turned -/
abbrev Fd_Lturned (K : PySem.W.Frag) (fd : FuncData) : Prop := FnP K "_law_turned" "_law_turned" (top 33) (ga K "_law_turned") fd
theorem nd_Lturned : (["_law_step"] : List Str).Nodup := by decide +kernel
theorem sc_Lturned : FnScope ["_law_step"] ["_law_step"] (defScope (top 33)) := ⟨rfl, rfl, rfl, nd_Lturned, rfl, by decide +kernel, by decide +kernel⟩
theorem bd_Lturned {fd : FuncData} (F : Fd_Lturned K fd) : L2.Binds K fd ["_law_step"] [] := F.bindsN fun _ _ _ _ _ _ us hl => match us, hl with | [_], _ => rfl
def Ok_Lturned (P : Program) (w : World) (K : PySem.W.Frag) (mg : Str → Option Value) (base : Heap) : Prop := ∃ fd, Fd_Lturned K fd ∧ FnG P w K mg base 1 (ga K "_law_turned") fd ["_law_step"] (spM ⟨K, mg, [], none⟩ 1 m_Lturned) ∧ mg "_law_turned" = some (.ref (ga K "_law_turned"))
theorem ok_Lturned (M : Md K mg) (F : ∃ fd, Fd_Lturned K fd) (g : mg "_law_turned" = some (.ref (ga K "_law_turned")))   : Ok_Lturned P w K mg base := by
  obtain ⟨fd, F⟩ := F
  refine ⟨fd, F, ok_defG F sc_Lturned (fun cdv A outer s H E hgd hr => ?_), g⟩
  have hu := hr.un
  have u1 : (A.deeper (envOfC "_law_turned" (defScope (top 33)) s.heap.objs.size (ga K "_law_turned") cdv)).units + 1 < cLine := by omega
  have u64 : (A.deeper (envOfC "_law_turned" (defScope (top 33)) s.heap.objs.size (ga K "_law_turned") cdv)).units + 64 < cLine := by omega
  have u65 : (A.deeper (envOfC "_law_turned" (defScope (top 33)) s.heap.objs.size (ga K "_law_turned") cdv)).units + 65 < cLine := by omega
  exact (rs_one (rs_ret (re_tup (ra_cons (re_ix rfl (re_var (pv 0)) re_int (fun _ _ => rfl)) (ra_cons (re_un un_neg d_neg (re_ix rfl (re_var (pv 0)) re_int (fun _ _ => rfl))) ra_nil)))))
/-! _law_inverse -/
abbrev Fd_Linverse (K : PySem.W.Frag) (fd : FuncData) : Prop := FnP K "_law_inverse" "_law_inverse" (top 34) (ga K "_law_inverse") fd
theorem nd_Linverse : (["_law_spelt", "_law_step"] : List Str).Nodup := by decide +kernel
theorem sc_Linverse : FnScope ["_law_spelt", "_law_step"] ["_law_spelt"] (defScope (top 34)) := ⟨rfl, rfl, rfl, nd_Linverse, rfl, by decide +kernel, by decide +kernel⟩
theorem bd_Linverse {fd : FuncData} (F : Fd_Linverse K fd) : L2.Binds K fd ["_law_spelt"] [] := F.bindsN fun _ _ _ _ _ _ us hl => match us, hl with | [_], _ => rfl
def Ok_Linverse (P : Program) (w : World) (K : PySem.W.Frag) (mg : Str → Option Value) (base : Heap) : Prop := ∃ fd, Fd_Linverse K fd ∧ FnG P w K mg base 2 (ga K "_law_inverse") fd ["_law_spelt"] (spM ⟨K, mg, [], none⟩ 1 m_Linverse) ∧ mg "_law_inverse" = some (.ref (ga K "_law_inverse"))
theorem ok_Linverse (M : Md K mg) (F : ∃ fd, Fd_Linverse K fd) (g : mg "_law_inverse" = some (.ref (ga K "_law_inverse"))) (c_Lturned : Ok_Lturned P w K mg base)  : Ok_Linverse P w K mg base := by
  obtain ⟨fd, F⟩ := F
  obtain ⟨fd_Lturned, F_Lturned, G_Lturned, g_Lturned⟩ := c_Lturned
  refine ⟨fd, F, ok_defG F sc_Linverse (fun cdv A outer s H E hgd hr => ?_), g⟩
  have hu := hr.un
  have u1 : (A.deeper (envOfC "_law_inverse" (defScope (top 34)) s.heap.objs.size (ga K "_law_inverse") cdv)).units + 1 < cLine := by omega
  have u64 : (A.deeper (envOfC "_law_inverse" (defScope (top 34)) s.heap.objs.size (ga K "_law_inverse") cdv)).units + 64 < cLine := by omega
  have u65 : (A.deeper (envOfC "_law_inverse" (defScope (top 34)) s.heap.objs.size (ga K "_law_inverse") cdv)).units + 65 < cLine := by omega
  exact (rs_one (rs_ret (re_Ty call_tuple_of d_tuple rfl M.n_tuple bb_tuple (ra_cons (re_lcE (own := [("_law_step", 1)]) rfl rfl nd_Linverse (re_rev rfl (re_var (pv 0))) (blkOk_by (by kernel_rfl)) (fun _ _ _ _ _ => (rg_name nd_Linverse rfl (by first | exact .inl rfl | exact .inr rfl))) (fun _ _ _ _ _ => ts_nil) (fun _ _ _ _ _ => (re_callG takes0 G_Lturned fnOf_ar hgd (hr.mono (by decide)) rfl g_Lturned F_Lturned.kp (bd_Lturned F_Lturned) (ra_cons (re_var (pv 1)) ra_nil))) (by decide)) ra_nil))))
/-! _law_folds -/
abbrev Fd_Lfolds (K : PySem.W.Frag) (fd : FuncData) : Prop := FnP K "_law_folds" "_law_folds" (top 35) (ga K "_law_folds") fd
theorem nd_Lfolds : (["_law_spelt", "_law_found", "_law_at", "_law_size", "_law_part", "_law_rest"] : List Str).Nodup := by decide +kernel
theorem sc_Lfolds : FnScope ["_law_spelt", "_law_found", "_law_at", "_law_size", "_law_part", "_law_rest"] ["_law_spelt"] (defScope (top 35)) := ⟨rfl, rfl, rfl, nd_Lfolds, rfl, by decide +kernel, by decide +kernel⟩
theorem bd_Lfolds {fd : FuncData} (F : Fd_Lfolds K fd) : L2.Binds K fd ["_law_spelt"] [] := F.bindsN fun _ _ _ _ _ _ us hl => match us, hl with | [_], _ => rfl
def Ok_Lfolds (P : Program) (w : World) (K : PySem.W.Frag) (mg : Str → Option Value) (base : Heap) : Prop := ∃ fd, Fd_Lfolds K fd ∧ FnG P w K mg base 3 (ga K "_law_folds") fd ["_law_spelt"] (spM ⟨K, mg, [], none⟩ 1 m_Lfolds) ∧ mg "_law_folds" = some (.ref (ga K "_law_folds"))
theorem ok_Lfolds (M : Md K mg) (F : ∃ fd, Fd_Lfolds K fd) (g : mg "_law_folds" = some (.ref (ga K "_law_folds"))) (c_Linverse : Ok_Linverse P w K mg base)  : Ok_Lfolds P w K mg base := by
  obtain ⟨fd, F⟩ := F
  obtain ⟨fd_Linverse, F_Linverse, G_Linverse, g_Linverse⟩ := c_Linverse
  refine ⟨fd, F, ok_defG F sc_Lfolds (fun cdv A outer s H E hgd hr => ?_), g⟩
  have hu := hr.un
  have u1 : (A.deeper (envOfC "_law_folds" (defScope (top 35)) s.heap.objs.size (ga K "_law_folds") cdv)).units + 1 < cLine := by omega
  have u64 : (A.deeper (envOfC "_law_folds" (defScope (top 35)) s.heap.objs.size (ga K "_law_folds") cdv)).units + 64 < cLine := by omega
  have u65 : (A.deeper (envOfC "_law_folds" (defScope (top 35)) s.heap.objs.size (ga K "_law_folds") cdv)).units + 65 < cLine := by omega
  exact (rs_cons (rs_set nd_Lfolds rfl (by first | exact .inl rfl | exact .inr rfl) (re_lstS ra_nil)) (rs_cons (rs_for (passes_of rfl) rfl (ri_range1 rfl M.n_range (ra_cons (re_B call_len d_len rfl M.n_len bb_len (ra_cons (re_var (pv 0)) ra_nil)) ra_nil)) (rg_name nd_Lfolds rfl (by first | exact .inl rfl | exact .inr rfl)) (rs_one (rs_for (passes_of rfl) rfl (ri_range2 rfl M.n_range (ra_cons re_int (ra_cons (re_op (o_add rfl) d_add (re_B call_len d_len rfl M.n_len bb_len (ra_cons (re_var (pv 0)) ra_nil)) re_int) ra_nil))) (rg_name nd_Lfolds rfl (by first | exact .inl rfl | exact .inr rfl)) (rs_cons (rs_par rfl nd_Lfolds rfl rfl (by decide) rfl rfl (ra_cons (re_sl rfl (re_var (pv 0)) (ro_some (re_var (pv 2))) (ro_some (re_op (o_add rfl) d_add (re_var (pv 2)) (re_var (pv 3))))) (ra_cons (re_sl rfl (re_var (pv 0)) (ro_some (re_op (o_add rfl) d_add (re_var (pv 2)) (re_var (pv 3)))) ro_none) ra_nil)) rfl) (rs_one (rs_if (PW.pt (rw_and (rt_cmp (o_eq rfl u64) d_eqv (re_B call_len d_len rfl M.n_len bb_len (ra_cons (re_var (pv 4)) ra_nil)) (re_var (pv 3)) (nomark _)) (rw_and1 (rt_cmp (o_eq rfl u64) d_eqv (re_sl rfl (re_var (pv 5)) ro_none (ro_some (re_op o_mul d_mul re_int (re_var (pv 3))))) (re_op (o_add rfl) d_add (re_callG (takes_of rfl rfl rfl rfl) G_Linverse fnOf_ar hgd (hr.mono (by decide)) rfl g_Linverse F_Linverse.kp (bd_Linverse F_Linverse) (ra_cons (re_var (pv 4)) ra_nil)) (re_var (pv 4))) (nomark _))))) (rs_one (rs_expr (re_bm rfl (.inl rfl) d_append (pe_bm PySem.F.plainAttrs_list PySem.F.slot_list_append PySem.F.type_list_append mt_append (re_var (pv 1)) (ra_cons (re_tup (ra_cons (re_var (pv 2)) (ra_cons (re_var (pv 3)) ra_nil))) ra_nil))))) rs_nil)))))) (rs_one (rs_ret (re_var (pv 1))))))
/-! _law_after -/
abbrev Fd_Lafter (K : PySem.W.Frag) (fd : FuncData) : Prop := FnP K "_law_after" "_law_after" (top 36) (ga K "_law_after") fd
theorem nd_Lafter : (["_law_spelt", "_law_crease", "_law_at", "_law_size"] : List Str).Nodup := by decide +kernel
theorem sc_Lafter : FnScope ["_law_spelt", "_law_crease", "_law_at", "_law_size"] ["_law_spelt", "_law_crease"] (defScope (top 36)) := ⟨rfl, rfl, rfl, nd_Lafter, rfl, by decide +kernel, by decide +kernel⟩
theorem bd_Lafter {fd : FuncData} (F : Fd_Lafter K fd) : L2.Binds K fd ["_law_spelt", "_law_crease"] [] := F.bindsN fun _ _ _ _ _ _ us hl => match us, hl with | [_, _], _ => rfl
def Ok_Lafter (P : Program) (w : World) (K : PySem.W.Frag) (mg : Str → Option Value) (base : Heap) : Prop := ∃ fd, Fd_Lafter K fd ∧ FnG P w K mg base 1 (ga K "_law_after") fd ["_law_spelt", "_law_crease"] (spM ⟨K, mg, [], none⟩ 2 m_Lafter) ∧ mg "_law_after" = some (.ref (ga K "_law_after"))
theorem ok_Lafter (M : Md K mg) (F : ∃ fd, Fd_Lafter K fd) (g : mg "_law_after" = some (.ref (ga K "_law_after")))   : Ok_Lafter P w K mg base := by
  obtain ⟨fd, F⟩ := F
  refine ⟨fd, F, ok_defG F sc_Lafter (fun cdv A outer s H E hgd hr => ?_), g⟩
  have hu := hr.un
  have u1 : (A.deeper (envOfC "_law_after" (defScope (top 36)) s.heap.objs.size (ga K "_law_after") cdv)).units + 1 < cLine := by omega
  have u64 : (A.deeper (envOfC "_law_after" (defScope (top 36)) s.heap.objs.size (ga K "_law_after") cdv)).units + 64 < cLine := by omega
  have u65 : (A.deeper (envOfC "_law_after" (defScope (top 36)) s.heap.objs.size (ga K "_law_after") cdv)).units + 65 < cLine := by omega
  exact (rs_cons (rs_asg (re_var (pv 1)) (rg_tup rfl rfl (rgs_cons (rg_name nd_Lafter rfl (by first | exact .inl rfl | exact .inr rfl)) (rgs_cons (rg_name nd_Lafter rfl (by first | exact .inl rfl | exact .inr rfl)) rgs_nil)) rfl)) (rs_one (rs_ret (re_op (o_add rfl) d_add (re_sl rfl (re_var (pv 0)) ro_none (ro_some (re_op (o_add rfl) d_add (re_var (pv 2)) (re_var (pv 3))))) (re_sl rfl (re_var (pv 0)) (ro_some (re_op (o_add rfl) d_add (re_var (pv 2)) (re_op o_mul d_mul re_int (re_var (pv 3))))) ro_none)))))
/-! _law_all -/
abbrev Fd_Lall (K : PySem.W.Frag) (fd : FuncData) : Prop := FnP K "_law_all" "_law_all" (top 39) (ga K "_law_all") fd
theorem nd_Lall : (["_law_spelt", "_law_found", "_law_at", "_law_crease", "_law_later"] : List Str).Nodup := by decide +kernel
theorem sc_Lall : FnScope ["_law_spelt", "_law_found", "_law_at", "_law_crease", "_law_later"] ["_law_spelt"] (defScope (top 39)) := ⟨rfl, rfl, rfl, nd_Lall, rfl, by decide +kernel, by decide +kernel⟩
theorem bd_Lall {fd : FuncData} (F : Fd_Lall K fd) : L2.Binds K fd ["_law_spelt"] [] := F.bindsN fun _ _ _ _ _ _ us hl => match us, hl with | [_], _ => rfl
def Ok_Lall (P : Program) (w : World) (K : PySem.W.Frag) (mg : Str → Option Value) (base : Heap) : Prop := ∃ fd, Fd_Lall K fd ∧ FnG P w K mg base 4 (ga K "_law_all") fd ["_law_spelt"] (spM ⟨K, mg, [], none⟩ 1 m_Lall) ∧ mg "_law_all" = some (.ref (ga K "_law_all"))
theorem ok_Lall (M : Md K mg) (F : ∃ fd, Fd_Lall K fd) (g : mg "_law_all" = some (.ref (ga K "_law_all"))) (c_Lfolds : Ok_Lfolds P w K mg base) (c_Lafter : Ok_Lafter P w K mg base)  : Ok_Lall P w K mg base := by
  obtain ⟨fd, F⟩ := F
  obtain ⟨fd_Lfolds, F_Lfolds, G_Lfolds, g_Lfolds⟩ := c_Lfolds
  obtain ⟨fd_Lafter, F_Lafter, G_Lafter, g_Lafter⟩ := c_Lafter
  refine ⟨fd, F, ok_defG F sc_Lall (fun cdv A outer s H E hgd hr => ?_), g⟩
  have hu := hr.un
  have u1 : (A.deeper (envOfC "_law_all" (defScope (top 39)) s.heap.objs.size (ga K "_law_all") cdv)).units + 1 < cLine := by omega
  have u64 : (A.deeper (envOfC "_law_all" (defScope (top 39)) s.heap.objs.size (ga K "_law_all") cdv)).units + 64 < cLine := by omega
  have u65 : (A.deeper (envOfC "_law_all" (defScope (top 39)) s.heap.objs.size (ga K "_law_all") cdv)).units + 65 < cLine := by omega
  exact (rs_cons (rs_par rfl nd_Lall rfl rfl (by decide) rfl rfl (ra_cons (re_lstS (ra_cons (re_var (pv 0)) ra_nil)) (ra_cons re_int ra_nil)) rfl) (rs_cons (rs_while (passes_of rfl) (rt_cmp op_lt d_cmp (re_var (pv 2)) (re_B call_len d_len rfl M.n_len bb_len (ra_cons (re_var (pv 1)) ra_nil)) (nomark _)) (rs_cons (rs_forL rfl (passes_of rfl) rfl (re_callG (takes_of rfl rfl rfl rfl) G_Lfolds fnOf_ar hgd (hr.mono (by decide)) rfl g_Lfolds F_Lfolds.kp (bd_Lfolds F_Lfolds) (ra_cons (re_ix rfl (re_var (pv 1)) (re_var (pv 2)) (fun _ _ => rfl)) ra_nil)) (rg_name nd_Lall rfl (by first | exact .inl rfl | exact .inr rfl)) (rs_cons (rs_set nd_Lall rfl (by first | exact .inl rfl | exact .inr rfl) (re_callG (takes_of rfl rfl rfl rfl) G_Lafter fnOf_ar hgd (hr.mono (by decide)) rfl g_Lafter F_Lafter.kp (bd_Lafter F_Lafter) (ra_cons (re_ix rfl (re_var (pv 1)) (re_var (pv 2)) (fun _ _ => rfl)) (ra_cons (re_var (pv 3)) ra_nil)))) (rs_one (rs_if (rt_cmp (o_notin rfl u65) d_in (re_var (pv 4)) (re_var (pv 1)) (by with_unfolding_all rfl)) (rs_one (rs_expr (re_bm rfl (.inl rfl) d_append (pe_bm PySem.F.plainAttrs_list PySem.F.slot_list_append PySem.F.type_list_append mt_append (re_var (pv 1)) (ra_cons (re_var (pv 4)) ra_nil))))) rs_nil)))) (rs_one (rs_set nd_Lall rfl (by first | exact .inl rfl | exact .inr rfl) (re_op (o_add rfl) d_add (re_var (pv 2)) re_int))))) (rs_one (rs_ret (re_var (pv 1))))))
/-! _law_draw -/
abbrev Fd_Ldraw (K : PySem.W.Frag) (fd : FuncData) : Prop := FnP K "_law_draw" "_law_draw" (top 30) (ga K "_law_draw") fd
theorem nd_Ldraw : (["_law_pot_here", "_law_many", "_law_digit"] : List Str).Nodup := by decide +kernel
theorem sc_Ldraw : FnScope ["_law_pot_here", "_law_many", "_law_digit"] ["_law_pot_here", "_law_many"] (defScope (top 30)) := ⟨rfl, rfl, rfl, nd_Ldraw, rfl, by decide +kernel, by decide +kernel⟩
theorem bd_Ldraw {fd : FuncData} (F : Fd_Ldraw K fd) : L2.Binds K fd ["_law_pot_here", "_law_many"] [] := F.bindsN fun _ _ _ _ _ _ us hl => match us, hl with | [_, _], _ => rfl
def Ok_Ldraw (P : Program) (w : World) (K : PySem.W.Frag) (mg : Str → Option Value) (base : Heap) : Prop := ∃ fd, Fd_Ldraw K fd ∧ FnG P w K mg base 1 (ga K "_law_draw") fd ["_law_pot_here", "_law_many"] (spM ⟨K, mg, [], none⟩ 2 m_Ldraw) ∧ mg "_law_draw" = some (.ref (ga K "_law_draw"))
theorem ok_Ldraw (M : Md K mg) (F : ∃ fd, Fd_Ldraw K fd) (g : mg "_law_draw" = some (.ref (ga K "_law_draw")))   : Ok_Ldraw P w K mg base := by
  obtain ⟨fd, F⟩ := F
  refine ⟨fd, F, ok_defG F sc_Ldraw (fun cdv A outer s H E hgd hr => ?_), g⟩
  have hu := hr.un
  have u1 : (A.deeper (envOfC "_law_draw" (defScope (top 30)) s.heap.objs.size (ga K "_law_draw") cdv)).units + 1 < cLine := by omega
  have u64 : (A.deeper (envOfC "_law_draw" (defScope (top 30)) s.heap.objs.size (ga K "_law_draw") cdv)).units + 64 < cLine := by omega
  have u65 : (A.deeper (envOfC "_law_draw" (defScope (top 30)) s.heap.objs.size (ga K "_law_draw") cdv)).units + 65 < cLine := by omega
  exact (rs_cons (rs_if (rt_cmp op_gt d_cmp (re_ix rfl (re_var (pv 0)) re_int (fun _ _ => rfl)) re_int (nomark _)) (rs_cons (rs_asg (re_B call_divmod d_divmod rfl M.n_divmod bb_divmod (ra_cons (re_ix rfl (re_var (pv 0)) re_int (fun _ _ => rfl)) (ra_cons (re_var (pv 1)) ra_nil))) (rg_tup rfl rfl (rgs_cons (rg_ix (W1 := W0) (re_var (pv 0)) re_int (pg_sub (re_var (pv 0)) re_int set_list)) (rgs_cons (rg_name nd_Ldraw rfl (by first | exact .inl rfl | exact .inr rfl)) rgs_nil)) rfl)) (rs_one (rs_ret (re_var (pv 2))))) rs_nil) (rs_cons (rs_asg (re_op op_mod d_mod (re_Ty call_int1 d_int rfl M.n_int bb_int (ra_cons (re_op (o_add rfl) d_add (re_op o_mul d_mul (re_ix rfl (re_var (pv 0)) re_int (fun _ _ => rfl)) re_int) re_int) ra_nil)) re_int) (rg_ix (W1 := W0) (re_var (pv 0)) re_int (pg_sub (re_var (pv 0)) re_int set_list))) (rs_one (rs_ret (re_op op_mod d_mod (re_Ty call_int1 d_int rfl M.n_int bb_int (ra_cons (re_op op_fdiv d_fdiv (re_op op_mod d_mod (re_Ty call_int1 d_int rfl M.n_int bb_int (ra_cons (re_op o_mul d_mul (re_ix rfl (re_var (pv 0)) re_int (fun _ _ => rfl)) (re_ix rfl (re_var (pv 0)) re_int (fun _ _ => rfl))) ra_nil)) re_int) re_int) ra_nil)) (re_var (pv 1)))))))
/-! _law_pick -/
abbrev Fd_Lpick (K : PySem.W.Frag) (fd : FuncData) : Prop := FnP K "_law_pick" "_law_pick" (top 31) (ga K "_law_pick") fd
theorem nd_Lpick : (["_law_pot_here", "_law_some"] : List Str).Nodup := by decide +kernel
theorem sc_Lpick : FnScope ["_law_pot_here", "_law_some"] ["_law_pot_here", "_law_some"] (defScope (top 31)) := ⟨rfl, rfl, rfl, nd_Lpick, rfl, by decide +kernel, by decide +kernel⟩
theorem bd_Lpick {fd : FuncData} (F : Fd_Lpick K fd) : L2.Binds K fd ["_law_pot_here", "_law_some"] [] := F.bindsN fun _ _ _ _ _ _ us hl => match us, hl with | [_, _], _ => rfl
def Ok_Lpick (P : Program) (w : World) (K : PySem.W.Frag) (mg : Str → Option Value) (base : Heap) : Prop := ∃ fd, Fd_Lpick K fd ∧ FnG P w K mg base 2 (ga K "_law_pick") fd ["_law_pot_here", "_law_some"] (spM ⟨K, mg, [], none⟩ 2 m_Lpick) ∧ mg "_law_pick" = some (.ref (ga K "_law_pick"))
theorem ok_Lpick (M : Md K mg) (F : ∃ fd, Fd_Lpick K fd) (g : mg "_law_pick" = some (.ref (ga K "_law_pick"))) (c_Ldraw : Ok_Ldraw P w K mg base)  : Ok_Lpick P w K mg base := by
  obtain ⟨fd, F⟩ := F
  obtain ⟨fd_Ldraw, F_Ldraw, G_Ldraw, g_Ldraw⟩ := c_Ldraw
  refine ⟨fd, F, ok_defG F sc_Lpick (fun cdv A outer s H E hgd hr => ?_), g⟩
  have hu := hr.un
  have u1 : (A.deeper (envOfC "_law_pick" (defScope (top 31)) s.heap.objs.size (ga K "_law_pick") cdv)).units + 1 < cLine := by omega
  have u64 : (A.deeper (envOfC "_law_pick" (defScope (top 31)) s.heap.objs.size (ga K "_law_pick") cdv)).units + 64 < cLine := by omega
  have u65 : (A.deeper (envOfC "_law_pick" (defScope (top 31)) s.heap.objs.size (ga K "_law_pick") cdv)).units + 65 < cLine := by omega
  exact (rs_one (rs_ret (re_ix rfl (re_var (pv 1)) (re_callG (takes_of rfl rfl rfl rfl) G_Ldraw fnOf_ar hgd (hr.mono (by decide)) rfl g_Ldraw F_Ldraw.kp (bd_Ldraw F_Ldraw) (ra_cons (re_var (pv 0)) (ra_cons (re_B call_len d_len rfl M.n_len bb_len (ra_cons (re_var (pv 1)) ra_nil)) ra_nil))) (fun _ _ => rfl))))
/-! _law_drawn -/
abbrev Fd_Ldrawn (K : PySem.W.Frag) (fd : FuncData) : Prop := FnP K "_law_drawn" "_law_drawn" (top 37) (ga K "_law_drawn") fd
theorem nd_Ldrawn : (["_law_pot_here", "_law_labels_here", "_law_most", "_law_turn"] : List Str).Nodup := by decide +kernel
theorem sc_Ldrawn : FnScope ["_law_pot_here", "_law_labels_here", "_law_most", "_law_turn"] ["_law_pot_here", "_law_labels_here", "_law_most"] (defScope (top 37)) := ⟨rfl, rfl, rfl, nd_Ldrawn, rfl, by decide +kernel, by decide +kernel⟩
theorem bd_Ldrawn {fd : FuncData} (F : Fd_Ldrawn K fd) : L2.Binds K fd ["_law_pot_here", "_law_labels_here", "_law_most"] [] := F.bindsN fun _ _ _ _ _ _ us hl => match us, hl with | [_, _, _], _ => rfl
def Ok_Ldrawn (P : Program) (w : World) (K : PySem.W.Frag) (mg : Str → Option Value) (base : Heap) : Prop := ∃ fd, Fd_Ldrawn K fd ∧ FnG P w K mg base 3 (ga K "_law_drawn") fd ["_law_pot_here", "_law_labels_here", "_law_most"] (spM ⟨K, mg, [], none⟩ 3 m_Ldrawn) ∧ mg "_law_drawn" = some (.ref (ga K "_law_drawn"))
theorem ok_Ldrawn (M : Md K mg) (F : ∃ fd, Fd_Ldrawn K fd) (g : mg "_law_drawn" = some (.ref (ga K "_law_drawn"))) (c_Ldraw : Ok_Ldraw P w K mg base) (c_Lpick : Ok_Lpick P w K mg base)  : Ok_Ldrawn P w K mg base := by
  obtain ⟨fd, F⟩ := F
  obtain ⟨fd_Ldraw, F_Ldraw, G_Ldraw, g_Ldraw⟩ := c_Ldraw
  obtain ⟨fd_Lpick, F_Lpick, G_Lpick, g_Lpick⟩ := c_Lpick
  refine ⟨fd, F, ok_defG F sc_Ldrawn (fun cdv A outer s H E hgd hr => ?_), g⟩
  have hu := hr.un
  have u1 : (A.deeper (envOfC "_law_drawn" (defScope (top 37)) s.heap.objs.size (ga K "_law_drawn") cdv)).units + 1 < cLine := by omega
  have u64 : (A.deeper (envOfC "_law_drawn" (defScope (top 37)) s.heap.objs.size (ga K "_law_drawn") cdv)).units + 64 < cLine := by omega
  have u65 : (A.deeper (envOfC "_law_drawn" (defScope (top 37)) s.heap.objs.size (ga K "_law_drawn") cdv)).units + 65 < cLine := by omega
  exact (rs_one (rs_ret (re_Ty call_tuple_of d_tuple rfl M.n_tuple bb_tuple (ra_cons (re_lc (own := [("_law_turn", 3)]) rfl nd_Ldrawn (ri_range1 rfl M.n_range (ra_cons (re_callG (takes_of rfl rfl rfl rfl) G_Ldraw fnOf_ar hgd (hr.mono (by decide)) rfl g_Ldraw F_Ldraw.kp (bd_Ldraw F_Ldraw) (ra_cons (re_var (pv 0)) (ra_cons (re_op (o_add rfl) d_add (re_var (pv 2)) re_int) ra_nil))) ra_nil)) (blkOk_by (by kernel_rfl)) (fun _ _ _ _ _ => (rg_name nd_Ldrawn rfl (by first | exact .inl rfl | exact .inr rfl))) (fun _ _ _ _ _ => ts_nil) (fun _ _ _ _ _ => (re_tup (ra_cons (re_callG takes0 G_Lpick fnOf_ar hgd (hr.mono (by decide)) rfl g_Lpick F_Lpick.kp (bd_Lpick F_Lpick) (ra_cons (re_var (pv 0)) (ra_cons (re_var (pv 1)) ra_nil))) (ra_cons (re_callG takes0 G_Lpick fnOf_ar hgd (hr.mono (by decide)) rfl g_Lpick F_Lpick.kp (bd_Lpick F_Lpick) (ra_cons (re_var (pv 0)) (ra_cons (re_lst (ra_cons re_int (ra_cons (re_un un_neg d_neg re_int) ra_nil))) ra_nil))) ra_nil)))) (by decide)) ra_nil))))
/-! _law_word -/
abbrev Fd_Lword (K : PySem.W.Frag) (fd : FuncData) : Prop := FnP K "_law_word" "_law_word" (top 38) (ga K "_law_word") fd
theorem nd_Lword : (["_law_pot_here", "_law_labels_here", "_law_spelt", "_law_turn", "_law_at", "_law_size", "_law_part", "_law_longer"] : List Str).Nodup := by decide +kernel
theorem sc_Lword : FnScope ["_law_pot_here", "_law_labels_here", "_law_spelt", "_law_turn", "_law_at", "_law_size", "_law_part", "_law_longer"] ["_law_pot_here", "_law_labels_here"] (defScope (top 38)) := ⟨rfl, rfl, rfl, nd_Lword, rfl, by decide +kernel, by decide +kernel⟩
theorem bd_Lword {fd : FuncData} (F : Fd_Lword K fd) : L2.Binds K fd ["_law_pot_here", "_law_labels_here"] [] := F.bindsN fun _ _ _ _ _ _ us hl => match us, hl with | [_, _], _ => rfl
def Ok_Lword (P : Program) (w : World) (K : PySem.W.Frag) (mg : Str → Option Value) (base : Heap) : Prop := ∃ fd, Fd_Lword K fd ∧ FnG P w K mg base 4 (ga K "_law_word") fd ["_law_pot_here", "_law_labels_here"] (spM ⟨K, mg, [], none⟩ 2 m_Lword) ∧ mg "_law_word" = some (.ref (ga K "_law_word"))
theorem ok_Lword (M : Md K mg) (F : ∃ fd, Fd_Lword K fd) (g : mg "_law_word" = some (.ref (ga K "_law_word"))) (c_Ldrawn : Ok_Ldrawn P w K mg base) (c_Ldraw : Ok_Ldraw P w K mg base) (c_Linverse : Ok_Linverse P w K mg base)  : Ok_Lword P w K mg base := by
  obtain ⟨fd, F⟩ := F
  obtain ⟨fd_Ldrawn, F_Ldrawn, G_Ldrawn, g_Ldrawn⟩ := c_Ldrawn
  obtain ⟨fd_Ldraw, F_Ldraw, G_Ldraw, g_Ldraw⟩ := c_Ldraw
  obtain ⟨fd_Linverse, F_Linverse, G_Linverse, g_Linverse⟩ := c_Linverse
  refine ⟨fd, F, ok_defG F sc_Lword (fun cdv A outer s H E hgd hr => ?_), g⟩
  have hu := hr.un
  have u1 : (A.deeper (envOfC "_law_word" (defScope (top 38)) s.heap.objs.size (ga K "_law_word") cdv)).units + 1 < cLine := by omega
  have u64 : (A.deeper (envOfC "_law_word" (defScope (top 38)) s.heap.objs.size (ga K "_law_word") cdv)).units + 64 < cLine := by omega
  have u65 : (A.deeper (envOfC "_law_word" (defScope (top 38)) s.heap.objs.size (ga K "_law_word") cdv)).units + 65 < cLine := by omega
  exact (rs_cons (rs_set nd_Lword rfl (by first | exact .inl rfl | exact .inr rfl) (re_callG (takes_of rfl rfl rfl rfl) G_Ldrawn fnOf_ar hgd (hr.mono (by decide)) rfl g_Ldrawn F_Ldrawn.kp (bd_Ldrawn F_Ldrawn) (ra_cons (re_var (pv 0)) (ra_cons (re_var (pv 1)) (ra_cons re_int ra_nil))))) (rs_cons (rs_for (passes_of rfl) rfl (ri_range1 rfl M.n_range (ra_cons (re_callG (takes_of rfl rfl rfl rfl) G_Ldraw fnOf_ar hgd (hr.mono (by decide)) rfl g_Ldraw F_Ldraw.kp (bd_Ldraw F_Ldraw) (ra_cons (re_var (pv 0)) (ra_cons re_int ra_nil))) ra_nil)) (rg_name nd_Lword rfl (by first | exact .inl rfl | exact .inr rfl)) (rs_cons (rs_par rfl nd_Lword rfl rfl (by decide) rfl rfl (ra_cons (re_callG (takes_of rfl rfl rfl rfl) G_Ldraw fnOf_ar hgd (hr.mono (by decide)) rfl g_Ldraw F_Ldraw.kp (bd_Ldraw F_Ldraw) (ra_cons (re_var (pv 0)) (ra_cons (re_op (o_add rfl) d_add (re_B call_len d_len rfl M.n_len bb_len (ra_cons (re_var (pv 2)) ra_nil)) re_int) ra_nil))) (ra_cons (re_op (o_add rfl) d_add re_int (re_callG (takes_of rfl rfl rfl rfl) G_Ldraw fnOf_ar hgd (hr.mono (by decide)) rfl g_Ldraw F_Ldraw.kp (bd_Ldraw F_Ldraw) (ra_cons (re_var (pv 0)) (ra_cons re_int ra_nil)))) ra_nil)) rfl) (rs_cons (rs_set nd_Lword rfl (by first | exact .inl rfl | exact .inr rfl) (re_sl rfl (re_var (pv 2)) (ro_some (re_var (pv 4))) (ro_some (re_op (o_add rfl) d_add (re_var (pv 4)) (re_var (pv 5)))))) (rs_cons (rs_set nd_Lword rfl (by first | exact .inl rfl | exact .inr rfl) (re_op (o_add rfl) d_add (re_op (o_add rfl) d_add (re_op (o_add rfl) d_add (re_sl rfl (re_var (pv 2)) ro_none (ro_some (re_var (pv 4)))) (re_var (pv 6))) (re_callG (takes_of rfl rfl rfl rfl) G_Linverse fnOf_ar hgd (hr.mono (by decide)) rfl g_Linverse F_Linverse.kp (bd_Linverse F_Linverse) (ra_cons (re_var (pv 6)) ra_nil))) (re_sl rfl (re_var (pv 2)) (ro_some (re_var (pv 4))) ro_none))) (rs_one (rs_set nd_Lword rfl (by first | exact .inl rfl | exact .inr rfl) (re_if (rt_cmp op_lt d_cmp (re_B call_len d_len rfl M.n_len bb_len (ra_cons (re_var (pv 7)) ra_nil)) re_int (nomark _)) (re_var (pv 7)) (re_var (pv 2))))))))) (rs_one (rs_ret (re_var (pv 2))))))
/-! is_name -/
abbrev Fd_is_name (K : PySem.W.Frag) (fd : FuncData) : Prop := FnP K "is_name" "is_name" (top 10) (ga K "is_name") fd
theorem nd_is_name : (["value", "sign"] : List Str).Nodup := by decide +kernel
theorem sc_is_name : FnScope ["value", "sign"] ["value"] (defScope (top 10)) := ⟨rfl, rfl, rfl, nd_is_name, rfl, by decide +kernel, by decide +kernel⟩
theorem bd_is_name {fd : FuncData} (F : Fd_is_name K fd) : L2.Binds K fd ["value"] [] := F.bindsN fun _ _ _ _ _ _ us hl => match us, hl with | [_], _ => rfl
def Ok_is_name (P : Program) (w : World) (K : PySem.W.Frag) (mg : Str → Option Value) (base : Heap) : Prop := ∃ fd, Fd_is_name K fd ∧ FnG P w K mg base 1 (ga K "is_name") fd ["value"] (spM ⟨K, mg, [], none⟩ 1 m_is_name) ∧ mg "is_name" = some (.ref (ga K "is_name"))
theorem ok_is_name (M : Md K mg) (F : ∃ fd, Fd_is_name K fd) (g : mg "is_name" = some (.ref (ga K "is_name")))   : Ok_is_name P w K mg base := by
  obtain ⟨fd, F⟩ := F
  refine ⟨fd, F, ok_defG F sc_is_name (fun cdv A outer s H E hgd hr => ?_), g⟩
  have hu := hr.un
  have u1 : (A.deeper (envOfC "is_name" (defScope (top 10)) s.heap.objs.size (ga K "is_name") cdv)).units + 1 < cLine := by omega
  have u64 : (A.deeper (envOfC "is_name" (defScope (top 10)) s.heap.objs.size (ga K "is_name") cdv)).units + 64 < cLine := by omega
  have u65 : (A.deeper (envOfC "is_name" (defScope (top 10)) s.heap.objs.size (ga K "is_name") cdv)).units + 65 < cLine := by omega
  exact (rs_cons (rs_if (PW.pt (rw_or (rt_not (rt_of (re_isi rfl rfl M.n_isinstance rfl M.n_str (by decide +kernel) (by decide) (re_var (pv 0))))) (rw_or1 (rt_not (rt_chain op_le op_le d_cmp d_cmp re_int (re_B call_len d_len rfl M.n_len bb_len (ra_cons (re_var (pv 0)) ra_nil)) (re_globI rfl M.i_LONGEST_NAME)))))) (rs_one (rs_ret re_bl)) rs_nil) (rs_one (rs_ret (re_B (cr_all rfl) d_allB rfl M.n_all bb_all (ra_cons (re_lcE (own := [("sign", 1)]) rfl rfl nd_is_name (re_var (pv 0)) (blkOk_by (by kernel_rfl)) (fun _ _ _ _ _ => (rg_name nd_is_name rfl (by first | exact .inl rfl | exact .inr rfl))) (fun _ _ _ _ _ => ts_nil) (fun _ _ _ _ _ => (re_cmp (o_in rfl u65) d_in (re_var (pv 1)) (re_globS rfl M.s_LETTERS) (by with_unfolding_all rfl))) (by decide)) ra_nil)))))
/-! is_integer -/
abbrev Fd_is_integer (K : PySem.W.Frag) (fd : FuncData) : Prop := FnP K "is_integer" "is_integer" (top 9) (ga K "is_integer") fd
theorem nd_is_integer : (["value"] : List Str).Nodup := by decide +kernel
theorem sc_is_integer : FnScope ["value"] ["value"] (defScope (top 9)) := ⟨rfl, rfl, rfl, nd_is_integer, rfl, by decide +kernel, by decide +kernel⟩
theorem bd_is_integer {fd : FuncData} (F : Fd_is_integer K fd) : L2.Binds K fd ["value"] [] := F.bindsN fun _ _ _ _ _ _ us hl => match us, hl with | [_], _ => rfl
def Ok_is_integer (P : Program) (w : World) (K : PySem.W.Frag) (mg : Str → Option Value) (base : Heap) : Prop := ∃ fd, Fd_is_integer K fd ∧ FnG P w K mg base 1 (ga K "is_integer") fd ["value"] (spM ⟨K, mg, [], none⟩ 1 m_is_integer) ∧ mg "is_integer" = some (.ref (ga K "is_integer"))
theorem ok_is_integer (M : Md K mg) (F : ∃ fd, Fd_is_integer K fd) (g : mg "is_integer" = some (.ref (ga K "is_integer")))   : Ok_is_integer P w K mg base := by
  obtain ⟨fd, F⟩ := F
  refine ⟨fd, F, ok_defG F sc_is_integer (fun cdv A outer s H E hgd hr => ?_), g⟩
  have hu := hr.un
  have u1 : (A.deeper (envOfC "is_integer" (defScope (top 9)) s.heap.objs.size (ga K "is_integer") cdv)).units + 1 < cLine := by omega
  have u64 : (A.deeper (envOfC "is_integer" (defScope (top 9)) s.heap.objs.size (ga K "is_integer") cdv)).units + 64 < cLine := by omega
  have u65 : (A.deeper (envOfC "is_integer" (defScope (top 9)) s.heap.objs.size (ga K "is_integer") cdv)).units + 65 < cLine := by omega
  exact (rs_one (rs_ret (re_and (re_isi rfl rfl M.n_isinstance rfl M.n_int (by decide +kernel) (by decide) (re_var (pv 0))) (re_one (re_not (re_isi rfl rfl M.n_isinstance rfl M.n_bool (by decide +kernel) (by decide) (re_var (pv 0))))))))
/-! is_step -/
abbrev Fd_is_step (K : PySem.W.Frag) (fd : FuncData) : Prop := FnP K "is_step" "is_step" (top 11) (ga K "is_step") fd
theorem nd_is_step : (["value"] : List Str).Nodup := by decide +kernel
theorem sc_is_step : FnScope ["value"] ["value"] (defScope (top 11)) := ⟨rfl, rfl, rfl, nd_is_step, rfl, by decide +kernel, by decide +kernel⟩
theorem bd_is_step {fd : FuncData} (F : Fd_is_step K fd) : L2.Binds K fd ["value"] [] := F.bindsN fun _ _ _ _ _ _ us hl => match us, hl with | [_], _ => rfl
def Ok_is_step (P : Program) (w : World) (K : PySem.W.Frag) (mg : Str → Option Value) (base : Heap) : Prop := ∃ fd, Fd_is_step K fd ∧ FnG P w K mg base 2 (ga K "is_step") fd ["value"] (spM ⟨K, mg, [], none⟩ 1 m_is_step) ∧ mg "is_step" = some (.ref (ga K "is_step"))
theorem ok_is_step (M : Md K mg) (F : ∃ fd, Fd_is_step K fd) (g : mg "is_step" = some (.ref (ga K "is_step"))) (c_is_name : Ok_is_name P w K mg base) (c_is_integer : Ok_is_integer P w K mg base)  : Ok_is_step P w K mg base := by
  obtain ⟨fd, F⟩ := F
  obtain ⟨fd_is_name, F_is_name, G_is_name, g_is_name⟩ := c_is_name
  obtain ⟨fd_is_integer, F_is_integer, G_is_integer, g_is_integer⟩ := c_is_integer
  refine ⟨fd, F, ok_defG F sc_is_step (fun cdv A outer s H E hgd hr => ?_), g⟩
  have hu := hr.un
  have u1 : (A.deeper (envOfC "is_step" (defScope (top 11)) s.heap.objs.size (ga K "is_step") cdv)).units + 1 < cLine := by omega
  have u64 : (A.deeper (envOfC "is_step" (defScope (top 11)) s.heap.objs.size (ga K "is_step") cdv)).units + 64 < cLine := by omega
  have u65 : (A.deeper (envOfC "is_step" (defScope (top 11)) s.heap.objs.size (ga K "is_step") cdv)).units + 65 < cLine := by omega
  exact (rs_cons (rs_if (PW.pt (rw_or (rt_not (rt_of (re_isi rfl rfl M.n_isinstance rfl M.n_tuple (by decide +kernel) (by decide) (re_var (pv 0))))) (rw_or1 (rt_cmp (o_ne rfl u64) d_eqv (re_B call_len d_len rfl M.n_len bb_len (ra_cons (re_var (pv 0)) ra_nil)) re_int (nomark _))))) (rs_one (rs_ret re_bl)) rs_nil) (rs_one (rs_ret (re_and (re_callG (takes_of rfl rfl rfl rfl) G_is_name fnOf_ar hgd (hr.mono (by decide)) rfl g_is_name F_is_name.kp (bd_is_name F_is_name) (ra_cons (re_ix rfl (re_var (pv 0)) re_int (fun _ _ => rfl)) ra_nil)) (re_and (re_callG (takes_of rfl rfl rfl rfl) G_is_integer fnOf_ar hgd (hr.mono (by decide)) rfl g_is_integer F_is_integer.kp (bd_is_integer F_is_integer) (ra_cons (re_ix rfl (re_var (pv 0)) re_int (fun _ _ => rfl)) ra_nil)) (re_one (re_cmp (o_in rfl u65) d_in (re_ix rfl (re_var (pv 0)) re_int (fun _ _ => rfl)) (re_tup (ra_cons (re_globI rfl M.i_ALONG) (ra_cons (re_globI rfl M.i_AGAINST) ra_nil))) (by with_unfolding_all rfl))))))))
/-! is_word -/
abbrev Fd_is_word (K : PySem.W.Frag) (fd : FuncData) : Prop := FnP K "is_word" "is_word" (top 12) (ga K "is_word") fd
theorem nd_is_word : (["value", "step"] : List Str).Nodup := by decide +kernel
theorem sc_is_word : FnScope ["value", "step"] ["value"] (defScope (top 12)) := ⟨rfl, rfl, rfl, nd_is_word, rfl, by decide +kernel, by decide +kernel⟩
theorem bd_is_word {fd : FuncData} (F : Fd_is_word K fd) : L2.Binds K fd ["value"] [] := F.bindsN fun _ _ _ _ _ _ us hl => match us, hl with | [_], _ => rfl
def Ok_is_word (P : Program) (w : World) (K : PySem.W.Frag) (mg : Str → Option Value) (base : Heap) : Prop := ∃ fd, Fd_is_word K fd ∧ FnG P w K mg base 3 (ga K "is_word") fd ["value"] (spM ⟨K, mg, [], none⟩ 1 m_is_word) ∧ mg "is_word" = some (.ref (ga K "is_word"))
theorem ok_is_word (M : Md K mg) (F : ∃ fd, Fd_is_word K fd) (g : mg "is_word" = some (.ref (ga K "is_word"))) (c_is_step : Ok_is_step P w K mg base)  : Ok_is_word P w K mg base := by
  obtain ⟨fd, F⟩ := F
  obtain ⟨fd_is_step, F_is_step, G_is_step, g_is_step⟩ := c_is_step
  refine ⟨fd, F, ok_defG F sc_is_word (fun cdv A outer s H E hgd hr => ?_), g⟩
  have hu := hr.un
  have u1 : (A.deeper (envOfC "is_word" (defScope (top 12)) s.heap.objs.size (ga K "is_word") cdv)).units + 1 < cLine := by omega
  have u64 : (A.deeper (envOfC "is_word" (defScope (top 12)) s.heap.objs.size (ga K "is_word") cdv)).units + 64 < cLine := by omega
  have u65 : (A.deeper (envOfC "is_word" (defScope (top 12)) s.heap.objs.size (ga K "is_word") cdv)).units + 65 < cLine := by omega
  exact (rs_one (rs_ret (re_and (re_isi rfl rfl M.n_isinstance rfl M.n_tuple (by decide +kernel) (by decide) (re_var (pv 0))) (re_one (re_B (cr_all rfl) d_allB rfl M.n_all bb_all (ra_cons (re_lcE (own := [("step", 1)]) rfl rfl nd_is_word (re_var (pv 0)) (blkOk_by (by kernel_rfl)) (fun _ _ _ _ _ => (rg_name nd_is_word rfl (by first | exact .inl rfl | exact .inr rfl))) (fun _ _ _ _ _ => ts_nil) (fun _ _ _ _ _ => (re_callG takes0 G_is_step fnOf_ar hgd (hr.mono (by decide)) rfl g_is_step F_is_step.kp (bd_is_step F_is_step) (ra_cons (re_var (pv 1)) ra_nil))) (by decide)) ra_nil))))))
/-! want_word -/
abbrev Fd_want_word (K : PySem.W.Frag) (fd : FuncData) : Prop := FnP K "want_word" "want_word" (top 13) (ga K "want_word") fd
theorem nd_want_word : (["value"] : List Str).Nodup := by decide +kernel
theorem sc_want_word : FnScope ["value"] ["value"] (defScope (top 13)) := ⟨rfl, rfl, rfl, nd_want_word, rfl, by decide +kernel, by decide +kernel⟩
theorem bd_want_word {fd : FuncData} (F : Fd_want_word K fd) : L2.Binds K fd ["value"] [] := F.bindsN fun _ _ _ _ _ _ us hl => match us, hl with | [_], _ => rfl
def Ok_want_word (P : Program) (w : World) (K : PySem.W.Frag) (mg : Str → Option Value) (base : Heap) : Prop := ∃ fd, Fd_want_word K fd ∧ FnG P w K mg base 4 (ga K "want_word") fd ["value"] (spM ⟨K, mg, [], none⟩ 1 m_want_word) ∧ mg "want_word" = some (.ref (ga K "want_word"))
theorem ok_want_word (M : Md K mg) (F : ∃ fd, Fd_want_word K fd) (g : mg "want_word" = some (.ref (ga K "want_word"))) (c_is_word : Ok_is_word P w K mg base) (x_InvalidWord : Oe_InvalidWord P w K mg base) : Ok_want_word P w K mg base := by
  obtain ⟨fd, F⟩ := F
  obtain ⟨fd_is_word, F_is_word, G_is_word, g_is_word⟩ := c_is_word
  obtain ⟨fdx_InvalidWord, FX_InvalidWord, X_InvalidWord⟩ := x_InvalidWord
  refine ⟨fd, F, ok_defG F sc_want_word (fun cdv A outer s H E hgd hr => ?_), g⟩
  have hu := hr.un
  have u1 : (A.deeper (envOfC "want_word" (defScope (top 13)) s.heap.objs.size (ga K "want_word") cdv)).units + 1 < cLine := by omega
  have u64 : (A.deeper (envOfC "want_word" (defScope (top 13)) s.heap.objs.size (ga K "want_word") cdv)).units + 64 < cLine := by omega
  have u65 : (A.deeper (envOfC "want_word" (defScope (top 13)) s.heap.objs.size (ga K "want_word") cdv)).units + 65 < cLine := by omega
  exact (rs_one (rs_if (rt_not (rt_of (re_callG (takes_of rfl rfl rfl rfl) G_is_word fnOf_ar hgd (hr.mono (by decide)) rfl g_is_word F_is_word.kp (bd_is_word F_is_word) (ra_cons (re_var (pv 0)) ra_nil)))) (rs_one (rs_raise rfl rfl rfl (takes_of rfl rfl rfl rfl) M.oex_InvalidWord M.noat_InvalidWord_value M.init_InvalidWord.1 M.init_InvalidWord.2 X_InvalidWord (hr.mono (by decide)) (bdx_InvalidWord FX_InvalidWord) rfl M.g_InvalidWord (re_var (pv 0)))) rs_nil))
/-! inverse_step -/
abbrev Fd_inverse_step (K : PySem.W.Frag) (fd : FuncData) : Prop := FnP K "inverse_step" "inverse_step" (top 14) (ga K "inverse_step") fd
theorem nd_inverse_step : (["step", "label", "way"] : List Str).Nodup := by decide +kernel
theorem sc_inverse_step : FnScope ["step", "label", "way"] ["step"] (defScope (top 14)) := ⟨rfl, rfl, rfl, nd_inverse_step, rfl, by decide +kernel, by decide +kernel⟩
theorem bd_inverse_step {fd : FuncData} (F : Fd_inverse_step K fd) : L2.Binds K fd ["step"] [] := F.bindsN fun _ _ _ _ _ _ us hl => match us, hl with | [_], _ => rfl
def Ok_inverse_step (P : Program) (w : World) (K : PySem.W.Frag) (mg : Str → Option Value) (base : Heap) : Prop := ∃ fd, Fd_inverse_step K fd ∧ FnG P w K mg base 1 (ga K "inverse_step") fd ["step"] (spM ⟨K, mg, [], none⟩ 1 m_inverse_step) ∧ mg "inverse_step" = some (.ref (ga K "inverse_step"))
theorem ok_inverse_step (M : Md K mg) (F : ∃ fd, Fd_inverse_step K fd) (g : mg "inverse_step" = some (.ref (ga K "inverse_step")))   : Ok_inverse_step P w K mg base := by
  obtain ⟨fd, F⟩ := F
  refine ⟨fd, F, ok_defG F sc_inverse_step (fun cdv A outer s H E hgd hr => ?_), g⟩
  have hu := hr.un
  have u1 : (A.deeper (envOfC "inverse_step" (defScope (top 14)) s.heap.objs.size (ga K "inverse_step") cdv)).units + 1 < cLine := by omega
  have u64 : (A.deeper (envOfC "inverse_step" (defScope (top 14)) s.heap.objs.size (ga K "inverse_step") cdv)).units + 64 < cLine := by omega
  have u65 : (A.deeper (envOfC "inverse_step" (defScope (top 14)) s.heap.objs.size (ga K "inverse_step") cdv)).units + 65 < cLine := by omega
  exact (rs_cons (rs_asg (re_var (pv 0)) (rg_tup rfl rfl (rgs_cons (rg_name nd_inverse_step rfl (by first | exact .inl rfl | exact .inr rfl)) (rgs_cons (rg_name nd_inverse_step rfl (by first | exact .inl rfl | exact .inr rfl)) rgs_nil)) rfl)) (rs_one (rs_ret (re_tup (ra_cons (re_var (pv 1)) (ra_cons (re_un un_neg d_neg (re_var (pv 2))) ra_nil))))))
/-! inverse_of -/
abbrev Fd_inverse_of (K : PySem.W.Frag) (fd : FuncData) : Prop := FnP K "inverse_of" "inverse_of" (top 15) (ga K "inverse_of") fd
theorem nd_inverse_of : (["word", "step"] : List Str).Nodup := by decide +kernel
theorem sc_inverse_of : FnScope ["word", "step"] ["word"] (defScope (top 15)) := ⟨rfl, rfl, rfl, nd_inverse_of, rfl, by decide +kernel, by decide +kernel⟩
theorem bd_inverse_of {fd : FuncData} (F : Fd_inverse_of K fd) : L2.Binds K fd ["word"] [] := F.bindsN fun _ _ _ _ _ _ us hl => match us, hl with | [_], _ => rfl
def Ok_inverse_of (P : Program) (w : World) (K : PySem.W.Frag) (mg : Str → Option Value) (base : Heap) : Prop := ∃ fd, Fd_inverse_of K fd ∧ FnG P w K mg base 5 (ga K "inverse_of") fd ["word"] (spM ⟨K, mg, [], none⟩ 1 m_inverse_of) ∧ mg "inverse_of" = some (.ref (ga K "inverse_of"))
theorem ok_inverse_of (M : Md K mg) (F : ∃ fd, Fd_inverse_of K fd) (g : mg "inverse_of" = some (.ref (ga K "inverse_of"))) (c_want_word : Ok_want_word P w K mg base) (c_inverse_step : Ok_inverse_step P w K mg base)  : Ok_inverse_of P w K mg base := by
  obtain ⟨fd, F⟩ := F
  obtain ⟨fd_want_word, F_want_word, G_want_word, g_want_word⟩ := c_want_word
  obtain ⟨fd_inverse_step, F_inverse_step, G_inverse_step, g_inverse_step⟩ := c_inverse_step
  refine ⟨fd, F, ok_defG F sc_inverse_of (fun cdv A outer s H E hgd hr => ?_), g⟩
  have hu := hr.un
  have u1 : (A.deeper (envOfC "inverse_of" (defScope (top 15)) s.heap.objs.size (ga K "inverse_of") cdv)).units + 1 < cLine := by omega
  have u64 : (A.deeper (envOfC "inverse_of" (defScope (top 15)) s.heap.objs.size (ga K "inverse_of") cdv)).units + 64 < cLine := by omega
  have u65 : (A.deeper (envOfC "inverse_of" (defScope (top 15)) s.heap.objs.size (ga K "inverse_of") cdv)).units + 65 < cLine := by omega
  exact (rs_cons (rs_expr (re_callG (takes_of rfl rfl rfl rfl) G_want_word fnOf_ar hgd (hr.mono (by decide)) rfl g_want_word F_want_word.kp (bd_want_word F_want_word) (ra_cons (re_var (pv 0)) ra_nil))) (rs_one (rs_ret (re_Ty call_tuple_of d_tuple rfl M.n_tuple bb_tuple (ra_cons (re_lcE (own := [("step", 1)]) rfl rfl nd_inverse_of (re_rev rfl (re_var (pv 0))) (blkOk_by (by kernel_rfl)) (fun _ _ _ _ _ => (rg_name nd_inverse_of rfl (by first | exact .inl rfl | exact .inr rfl))) (fun _ _ _ _ _ => ts_nil) (fun _ _ _ _ _ => (re_callG takes0 G_inverse_step fnOf_ar hgd (hr.mono (by decide)) rfl g_inverse_step F_inverse_step.kp (bd_inverse_step F_inverse_step) (ra_cons (re_var (pv 1)) ra_nil))) (by decide)) ra_nil)))))
/-! can_fold -/
abbrev Fd_can_fold (K : PySem.W.Frag) (fd : FuncData) : Prop := FnP K "can_fold" "can_fold" (top 22) (ga K "can_fold") fd
theorem nd_can_fold : (["word", "start", "size", "part"] : List Str).Nodup := by decide +kernel
theorem sc_can_fold : FnScope ["word", "start", "size", "part"] ["word", "start", "size"] (defScope (top 22)) := ⟨rfl, rfl, rfl, nd_can_fold, rfl, by decide +kernel, by decide +kernel⟩
theorem bd_can_fold {fd : FuncData} (F : Fd_can_fold K fd) : L2.Binds K fd ["word", "start", "size"] [] := F.bindsN fun _ _ _ _ _ _ us hl => match us, hl with | [_, _, _], _ => rfl
def Ok_can_fold (P : Program) (w : World) (K : PySem.W.Frag) (mg : Str → Option Value) (base : Heap) : Prop := ∃ fd, Fd_can_fold K fd ∧ FnG P w K mg base 6 (ga K "can_fold") fd ["word", "start", "size"] (spM ⟨K, mg, [], none⟩ 3 m_can_fold) ∧ mg "can_fold" = some (.ref (ga K "can_fold"))
theorem ok_can_fold (M : Md K mg) (F : ∃ fd, Fd_can_fold K fd) (g : mg "can_fold" = some (.ref (ga K "can_fold"))) (c_inverse_of : Ok_inverse_of P w K mg base)  : Ok_can_fold P w K mg base := by
  obtain ⟨fd, F⟩ := F
  obtain ⟨fd_inverse_of, F_inverse_of, G_inverse_of, g_inverse_of⟩ := c_inverse_of
  refine ⟨fd, F, ok_defG F sc_can_fold (fun cdv A outer s H E hgd hr => ?_), g⟩
  have hu := hr.un
  have u1 : (A.deeper (envOfC "can_fold" (defScope (top 22)) s.heap.objs.size (ga K "can_fold") cdv)).units + 1 < cLine := by omega
  have u64 : (A.deeper (envOfC "can_fold" (defScope (top 22)) s.heap.objs.size (ga K "can_fold") cdv)).units + 64 < cLine := by omega
  have u65 : (A.deeper (envOfC "can_fold" (defScope (top 22)) s.heap.objs.size (ga K "can_fold") cdv)).units + 65 < cLine := by omega
  exact (rs_cons (rs_if (PW.pt (rw_or (rt_cmp op_lt d_cmp (re_var (pv 1)) re_int (nomark _)) (rw_or (rt_cmp op_lt d_cmp (re_var (pv 2)) re_int (nomark _)) (rw_or1 (rt_cmp op_gt d_cmp (re_op (o_add rfl) d_add (re_var (pv 1)) (re_op o_mul d_mul re_int (re_var (pv 2)))) (re_B call_len d_len rfl M.n_len bb_len (ra_cons (re_var (pv 0)) ra_nil)) (nomark _)))))) (rs_one (rs_ret re_bl)) rs_nil) (rs_cons (rs_set nd_can_fold rfl (by first | exact .inl rfl | exact .inr rfl) (re_sl rfl (re_var (pv 0)) (ro_some (re_var (pv 1))) (ro_some (re_op (o_add rfl) d_add (re_var (pv 1)) (re_var (pv 2)))))) (rs_cons (rs_if (rt_cmp (o_ne rfl u64) d_eqv (re_sl rfl (re_var (pv 0)) (ro_some (re_op (o_add rfl) d_add (re_var (pv 1)) (re_op o_mul d_mul re_int (re_var (pv 2))))) (ro_some (re_op (o_add rfl) d_add (re_var (pv 1)) (re_op o_mul d_mul re_int (re_var (pv 2)))))) (re_var (pv 3)) (nomark _)) (rs_one (rs_ret re_bl)) rs_nil) (rs_one (rs_ret (re_cmp (o_eq rfl u64) d_eqv (re_sl rfl (re_var (pv 0)) (ro_some (re_op (o_add rfl) d_add (re_var (pv 1)) (re_var (pv 2)))) (ro_some (re_op (o_add rfl) d_add (re_var (pv 1)) (re_op o_mul d_mul re_int (re_var (pv 2)))))) (re_callG (takes_of rfl rfl rfl rfl) G_inverse_of fnOf_ar hgd (hr.mono (by decide)) rfl g_inverse_of F_inverse_of.kp (bd_inverse_of F_inverse_of) (ra_cons (re_var (pv 3)) ra_nil)) (nomark _)))))))
/-! folds_of -/
abbrev Fd_folds_of (K : PySem.W.Frag) (fd : FuncData) : Prop := FnP K "folds_of" "folds_of" (top 25) (ga K "folds_of") fd
theorem nd_folds_of : (["word", "found", "start", "size"] : List Str).Nodup := by decide +kernel
theorem sc_folds_of : FnScope ["word", "found", "start", "size"] ["word"] (defScope (top 25)) := ⟨rfl, rfl, rfl, nd_folds_of, rfl, by decide +kernel, by decide +kernel⟩
theorem bd_folds_of {fd : FuncData} (F : Fd_folds_of K fd) : L2.Binds K fd ["word"] [] := F.bindsN fun _ _ _ _ _ _ us hl => match us, hl with | [_], _ => rfl
def Ok_folds_of (P : Program) (w : World) (K : PySem.W.Frag) (mg : Str → Option Value) (base : Heap) : Prop := ∃ fd, Fd_folds_of K fd ∧ FnG P w K mg base 7 (ga K "folds_of") fd ["word"] (spM ⟨K, mg, [], none⟩ 1 m_folds_of) ∧ mg "folds_of" = some (.ref (ga K "folds_of"))
theorem ok_folds_of (M : Md K mg) (F : ∃ fd, Fd_folds_of K fd) (g : mg "folds_of" = some (.ref (ga K "folds_of"))) (c_want_word : Ok_want_word P w K mg base) (c_can_fold : Ok_can_fold P w K mg base)  : Ok_folds_of P w K mg base := by
  obtain ⟨fd, F⟩ := F
  obtain ⟨fd_want_word, F_want_word, G_want_word, g_want_word⟩ := c_want_word
  obtain ⟨fd_can_fold, F_can_fold, G_can_fold, g_can_fold⟩ := c_can_fold
  refine ⟨fd, F, ok_defG F sc_folds_of (fun cdv A outer s H E hgd hr => ?_), g⟩
  have hu := hr.un
  have u1 : (A.deeper (envOfC "folds_of" (defScope (top 25)) s.heap.objs.size (ga K "folds_of") cdv)).units + 1 < cLine := by omega
  have u64 : (A.deeper (envOfC "folds_of" (defScope (top 25)) s.heap.objs.size (ga K "folds_of") cdv)).units + 64 < cLine := by omega
  have u65 : (A.deeper (envOfC "folds_of" (defScope (top 25)) s.heap.objs.size (ga K "folds_of") cdv)).units + 65 < cLine := by omega
  exact (rs_cons (rs_expr (re_callG (takes_of rfl rfl rfl rfl) G_want_word fnOf_ar hgd (hr.mono (by decide)) rfl g_want_word F_want_word.kp (bd_want_word F_want_word) (ra_cons (re_var (pv 0)) ra_nil))) (rs_cons (rs_set nd_folds_of rfl (by first | exact .inl rfl | exact .inr rfl) (re_lstS ra_nil)) (rs_cons (rs_for (passes_of rfl) rfl (ri_range1 rfl M.n_range (ra_cons (re_B call_len d_len rfl M.n_len bb_len (ra_cons (re_var (pv 0)) ra_nil)) ra_nil)) (rg_name nd_folds_of rfl (by first | exact .inl rfl | exact .inr rfl)) (rs_one (rs_expr (re_bm rfl (.inl rfl) d_extend (pe_bm PySem.F.plainAttrs_list PySem.F.slot_list_extend PySem.F.type_list_extend mt_extend (re_var (pv 1)) (ra_cons (re_lc (own := [("size", 3)]) rfl nd_folds_of (ri_range2 rfl M.n_range (ra_cons re_int (ra_cons (re_op (o_add rfl) d_add (re_op op_fdiv d_fdiv (re_op op_sub d_sub (re_B call_len d_len rfl M.n_len bb_len (ra_cons (re_var (pv 0)) ra_nil)) (re_var (pv 2))) re_int) re_int) ra_nil))) (blkOk_by (by kernel_rfl)) (fun _ _ _ _ _ => (rg_name nd_folds_of rfl (by first | exact .inl rfl | exact .inr rfl))) (fun _ _ _ _ _ => (ts_one (rt_of (re_callG takes0 G_can_fold fnOf_ar hgd (hr.mono (by decide)) rfl g_can_fold F_can_fold.kp (bd_can_fold F_can_fold) (ra_cons (re_var (pv 0)) (ra_cons (re_var (pv 2)) (ra_cons (re_var (pv 3)) ra_nil))))))) (fun _ _ _ _ _ => (re_tup (ra_cons (re_var (pv 2)) (ra_cons (re_var (pv 3)) ra_nil)))) (by decide)) ra_nil)))))) (rs_one (rs_ret (re_var (pv 1)))))))
/-! targets_by -/
abbrev Fd_targets_by (K : PySem.W.Frag) (fd : FuncData) : Prop := FnP K "targets_by" "targets_by" (top 17) (ga K "targets_by") fd
theorem nd_targets_by : (["links", "state", "step", "taken", "other"] : List Str).Nodup := by decide +kernel
theorem sc_targets_by : FnScope ["links", "state", "step", "taken", "other"] ["links", "state", "step"] (defScope (top 17)) := ⟨rfl, rfl, rfl, nd_targets_by, rfl, by decide +kernel, by decide +kernel⟩
theorem bd_targets_by {fd : FuncData} (F : Fd_targets_by K fd) : L2.Binds K fd ["links", "state", "step"] [] := F.bindsN fun _ _ _ _ _ _ us hl => match us, hl with | [_, _, _], _ => rfl
def Ok_targets_by (P : Program) (w : World) (K : PySem.W.Frag) (mg : Str → Option Value) (base : Heap) : Prop := ∃ fd, Fd_targets_by K fd ∧ FnG P w K mg base 1 (ga K "targets_by") fd ["links", "state", "step"] (spM ⟨K, mg, [], none⟩ 3 m_targets_by) ∧ mg "targets_by" = some (.ref (ga K "targets_by"))
theorem ok_targets_by (M : Md K mg) (F : ∃ fd, Fd_targets_by K fd) (g : mg "targets_by" = some (.ref (ga K "targets_by")))   : Ok_targets_by P w K mg base := by
  obtain ⟨fd, F⟩ := F
  refine ⟨fd, F, ok_defG F sc_targets_by (fun cdv A outer s H E hgd hr => ?_), g⟩
  have hu := hr.un
  have u1 : (A.deeper (envOfC "targets_by" (defScope (top 17)) s.heap.objs.size (ga K "targets_by") cdv)).units + 1 < cLine := by omega
  have u64 : (A.deeper (envOfC "targets_by" (defScope (top 17)) s.heap.objs.size (ga K "targets_by") cdv)).units + 64 < cLine := by omega
  have u65 : (A.deeper (envOfC "targets_by" (defScope (top 17)) s.heap.objs.size (ga K "targets_by") cdv)).units + 65 < cLine := by omega
  exact (rs_one (rs_ret (re_lcE (own := [("taken", 3), ("other", 4)]) rfl rfl nd_targets_by (re_dget2 u1 (re_var (pv 0)) (re_var (pv 1)) (re_lst ra_nil) ⟨rfl, rfl, rfl, rfl⟩) (blkOk_by (by kernel_rfl)) (fun _ _ _ _ _ => (rg_tup rfl rfl (rgs_cons (rg_name nd_targets_by rfl (by first | exact .inl rfl | exact .inr rfl)) (rgs_cons (rg_name nd_targets_by rfl (by first | exact .inl rfl | exact .inr rfl)) rgs_nil)) rfl)) (fun _ _ _ _ _ => (ts_one (rt_cmp (o_eq rfl u64) d_eqv (re_var (pv 3)) (re_var (pv 2)) (nomark _)))) (fun _ _ _ _ _ => (re_var (pv 4))) (by decide))))
/-! moves_on -/
abbrev Fd_moves_on (K : PySem.W.Frag) (fd : FuncData) : Prop := FnP K "moves_on" "moves_on" (top 18) (ga K "moves_on") fd
theorem nd_moves_on : (["links", "word", "node", "state", "found", "back", "other"] : List Str).Nodup := by decide +kernel
theorem sc_moves_on : FnScope ["links", "word", "node", "state", "found", "back", "other"] ["links", "word", "node", "state"] (defScope (top 18)) := ⟨rfl, rfl, rfl, nd_moves_on, rfl, by decide +kernel, by decide +kernel⟩
theorem bd_moves_on {fd : FuncData} (F : Fd_moves_on K fd) : L2.Binds K fd ["links", "word", "node", "state"] [] := F.bindsN fun _ _ _ _ _ _ us hl => match us, hl with | [_, _, _, _], _ => rfl
def Ok_moves_on (P : Program) (w : World) (K : PySem.W.Frag) (mg : Str → Option Value) (base : Heap) : Prop := ∃ fd, Fd_moves_on K fd ∧ FnG P w K mg base 2 (ga K "moves_on") fd ["links", "word", "node", "state"] (spM ⟨K, mg, [], none⟩ 4 m_moves_on) ∧ mg "moves_on" = some (.ref (ga K "moves_on"))
theorem ok_moves_on (M : Md K mg) (F : ∃ fd, Fd_moves_on K fd) (g : mg "moves_on" = some (.ref (ga K "moves_on"))) (c_targets_by : Ok_targets_by P w K mg base) (c_inverse_step : Ok_inverse_step P w K mg base)  : Ok_moves_on P w K mg base := by
  obtain ⟨fd, F⟩ := F
  obtain ⟨fd_targets_by, F_targets_by, G_targets_by, g_targets_by⟩ := c_targets_by
  obtain ⟨fd_inverse_step, F_inverse_step, G_inverse_step, g_inverse_step⟩ := c_inverse_step
  refine ⟨fd, F, ok_defG F sc_moves_on (fun cdv A outer s H E hgd hr => ?_), g⟩
  have hu := hr.un
  have u1 : (A.deeper (envOfC "moves_on" (defScope (top 18)) s.heap.objs.size (ga K "moves_on") cdv)).units + 1 < cLine := by omega
  have u64 : (A.deeper (envOfC "moves_on" (defScope (top 18)) s.heap.objs.size (ga K "moves_on") cdv)).units + 64 < cLine := by omega
  have u65 : (A.deeper (envOfC "moves_on" (defScope (top 18)) s.heap.objs.size (ga K "moves_on") cdv)).units + 65 < cLine := by omega
  exact (rs_cons (rs_set nd_moves_on rfl (by first | exact .inl rfl | exact .inr rfl) (re_lstS ra_nil)) (rs_cons (rs_if (rt_cmp op_lt d_cmp (re_var (pv 2)) (re_B call_len d_len rfl M.n_len bb_len (ra_cons (re_var (pv 1)) ra_nil)) (nomark _)) (rs_one (rs_expr (re_bm rfl (.inl rfl) d_extend (pe_bm PySem.F.plainAttrs_list PySem.F.slot_list_extend PySem.F.type_list_extend mt_extend (re_var (pv 4)) (ra_cons (re_lcE (own := [("other", 6)]) rfl rfl nd_moves_on (re_callG (takes_of rfl rfl rfl rfl) G_targets_by fnOf_ar hgd (hr.mono (by decide)) rfl g_targets_by F_targets_by.kp (bd_targets_by F_targets_by) (ra_cons (re_var (pv 0)) (ra_cons (re_var (pv 3)) (ra_cons (re_ix rfl (re_var (pv 1)) (re_var (pv 2)) (fun _ _ => rfl)) ra_nil)))) (blkOk_by (by kernel_rfl)) (fun _ _ _ _ _ => (rg_name nd_moves_on rfl (by first | exact .inl rfl | exact .inr rfl))) (fun _ _ _ _ _ => ts_nil) (fun _ _ _ _ _ => (re_tup (ra_cons (re_op (o_add rfl) d_add (re_var (pv 2)) re_int) (ra_cons (re_var (pv 6)) ra_nil)))) (by decide)) ra_nil))))) rs_nil) (rs_cons (rs_if (rt_cmp op_gt d_cmp (re_var (pv 2)) re_int (nomark _)) (rs_cons (rs_set nd_moves_on rfl (by first | exact .inl rfl | exact .inr rfl) (re_callG (takes_of rfl rfl rfl rfl) G_inverse_step fnOf_ar hgd (hr.mono (by decide)) rfl g_inverse_step F_inverse_step.kp (bd_inverse_step F_inverse_step) (ra_cons (re_ix rfl (re_var (pv 1)) (re_op op_sub d_sub (re_var (pv 2)) re_int) (fun _ _ => rfl)) ra_nil))) (rs_one (rs_expr (re_bm rfl (.inl rfl) d_extend (pe_bm PySem.F.plainAttrs_list PySem.F.slot_list_extend PySem.F.type_list_extend mt_extend (re_var (pv 4)) (ra_cons (re_lcE (own := [("other", 6)]) rfl rfl nd_moves_on (re_callG (takes_of rfl rfl rfl rfl) G_targets_by fnOf_ar hgd (hr.mono (by decide)) rfl g_targets_by F_targets_by.kp (bd_targets_by F_targets_by) (ra_cons (re_var (pv 0)) (ra_cons (re_var (pv 3)) (ra_cons (re_var (pv 5)) ra_nil)))) (blkOk_by (by kernel_rfl)) (fun _ _ _ _ _ => (rg_name nd_moves_on rfl (by first | exact .inl rfl | exact .inr rfl))) (fun _ _ _ _ _ => ts_nil) (fun _ _ _ _ _ => (re_tup (ra_cons (re_op op_sub d_sub (re_var (pv 2)) re_int) (ra_cons (re_var (pv 6)) ra_nil)))) (by decide)) ra_nil)))))) rs_nil) (rs_one (rs_ret (re_var (pv 4)))))))
/-! way_back -/
abbrev Fd_way_back (K : PySem.W.Frag) (fd : FuncData) : Prop := FnP K "way_back" "way_back" (top 19) (ga K "way_back") fd
theorem nd_way_back : (["before", "last", "found", "here"] : List Str).Nodup := by decide +kernel
theorem sc_way_back : FnScope ["before", "last", "found", "here"] ["before", "last"] (defScope (top 19)) := ⟨rfl, rfl, rfl, nd_way_back, rfl, by decide +kernel, by decide +kernel⟩
theorem bd_way_back {fd : FuncData} (F : Fd_way_back K fd) : L2.Binds K fd ["before", "last"] [] := F.bindsN fun _ _ _ _ _ _ us hl => match us, hl with | [_, _], _ => rfl
def Ok_way_back (P : Program) (w : World) (K : PySem.W.Frag) (mg : Str → Option Value) (base : Heap) : Prop := ∃ fd, Fd_way_back K fd ∧ FnG P w K mg base 1 (ga K "way_back") fd ["before", "last"] (spM ⟨K, mg, [], none⟩ 2 m_way_back) ∧ mg "way_back" = some (.ref (ga K "way_back"))
theorem ok_way_back (M : Md K mg) (F : ∃ fd, Fd_way_back K fd) (g : mg "way_back" = some (.ref (ga K "way_back")))   : Ok_way_back P w K mg base := by
  obtain ⟨fd, F⟩ := F
  refine ⟨fd, F, ok_defG F sc_way_back (fun cdv A outer s H E hgd hr => ?_), g⟩
  have hu := hr.un
  have u1 : (A.deeper (envOfC "way_back" (defScope (top 19)) s.heap.objs.size (ga K "way_back") cdv)).units + 1 < cLine := by omega
  have u64 : (A.deeper (envOfC "way_back" (defScope (top 19)) s.heap.objs.size (ga K "way_back") cdv)).units + 64 < cLine := by omega
  have u65 : (A.deeper (envOfC "way_back" (defScope (top 19)) s.heap.objs.size (ga K "way_back") cdv)).units + 65 < cLine := by omega
  exact (rs_cons (rs_par rfl nd_way_back rfl rfl (by decide) rfl rfl (ra_cons (re_lstS ra_nil) (ra_cons (re_var (pv 1)) ra_nil)) rfl) (rs_cons (rs_while (passes_of rfl) (rt_cmp o_isnot d_isnot (re_var (pv 3)) re_non (nomark _)) (rs_cons (rs_expr (re_bm rfl (.inl rfl) d_append (pe_bm PySem.F.plainAttrs_list PySem.F.slot_list_append PySem.F.type_list_append mt_append (re_var (pv 2)) (ra_cons (re_var (pv 3)) ra_nil)))) (rs_one (rs_set nd_way_back rfl (by first | exact .inl rfl | exact .inr rfl) (re_dget u1 (re_var (pv 0)) (re_var (pv 3)) (fun _ _ => rfl)))))) (rs_one (rs_ret (re_rev rfl (re_var (pv 2)))))))
/-! found_walk -/
abbrev Fd_found_walk (K : PySem.W.Frag) (fd : FuncData) : Prop := FnP K "found_walk" "found_walk" (top 20) (ga K "found_walk") fd
theorem nd_found_walk : (["links", "ends", "word", "before", "waiting", "at", "here", "later"] : List Str).Nodup := by decide +kernel
theorem sc_found_walk : FnScope ["links", "ends", "word", "before", "waiting", "at", "here", "later"] ["links", "ends", "word"] (defScope (top 20)) := ⟨rfl, rfl, rfl, nd_found_walk, rfl, by decide +kernel, by decide +kernel⟩
theorem bd_found_walk {fd : FuncData} (F : Fd_found_walk K fd) : L2.Binds K fd ["links", "ends", "word"] [] := F.bindsN fun _ _ _ _ _ _ us hl => match us, hl with | [_, _, _], _ => rfl
def Ok_found_walk (P : Program) (w : World) (K : PySem.W.Frag) (mg : Str → Option Value) (base : Heap) : Prop := ∃ fd, Fd_found_walk K fd ∧ FnG P w K mg base 3 (ga K "found_walk") fd ["links", "ends", "word"] (spM ⟨K, mg, [], none⟩ 3 m_found_walk) ∧ mg "found_walk" = some (.ref (ga K "found_walk"))
theorem ok_found_walk (M : Md K mg) (F : ∃ fd, Fd_found_walk K fd) (g : mg "found_walk" = some (.ref (ga K "found_walk"))) (c_way_back : Ok_way_back P w K mg base) (c_moves_on : Ok_moves_on P w K mg base)  : Ok_found_walk P w K mg base := by
  obtain ⟨fd, F⟩ := F
  obtain ⟨fd_way_back, F_way_back, G_way_back, g_way_back⟩ := c_way_back
  obtain ⟨fd_moves_on, F_moves_on, G_moves_on, g_moves_on⟩ := c_moves_on
  refine ⟨fd, F, ok_defG F sc_found_walk (fun cdv A outer s H E hgd hr => ?_), g⟩
  have hu := hr.un
  have u1 : (A.deeper (envOfC "found_walk" (defScope (top 20)) s.heap.objs.size (ga K "found_walk") cdv)).units + 1 < cLine := by omega
  have u64 : (A.deeper (envOfC "found_walk" (defScope (top 20)) s.heap.objs.size (ga K "found_walk") cdv)).units + 64 < cLine := by omega
  have u65 : (A.deeper (envOfC "found_walk" (defScope (top 20)) s.heap.objs.size (ga K "found_walk") cdv)).units + 65 < cLine := by omega
  exact (rs_cons (rs_par3 (ps_par3 rfl nd_found_walk rfl rfl rfl (by decide) (by decide) (by decide) rfl rfl rfl (ra_cons (re_dispT u1 (re_tup (ra_cons re_int (ra_cons re_int ra_nil))) re_non) (ra_cons (re_lstS (ra_cons (re_tup (ra_cons re_int (ra_cons re_int ra_nil))) ra_nil)) (ra_cons re_int ra_nil))) rfl)) (rs_cons (rs_while (passes_of rfl) (rt_cmp op_lt d_cmp (re_var (pv 5)) (re_B call_len d_len rfl M.n_len bb_len (ra_cons (re_var (pv 4)) ra_nil)) (nomark _)) (rs_cons (rs_set nd_found_walk rfl (by first | exact .inl rfl | exact .inr rfl) (re_ix rfl (re_var (pv 4)) (re_var (pv 5)) (fun _ _ => rfl))) (rs_cons (rs_if (PW.pt (rw_and (rt_cmp (o_eq rfl u64) d_eqv (re_ix rfl (re_var (pv 6)) re_int (fun _ _ => rfl)) (re_B call_len d_len rfl M.n_len bb_len (ra_cons (re_var (pv 2)) ra_nil)) (nomark _)) (rw_and1 (rt_cmp (o_in rfl u65) d_in (re_ix rfl (re_var (pv 6)) re_int (fun _ _ => rfl)) (re_var (pv 1)) (by with_unfolding_all rfl))))) (rs_one (rs_ret (re_callG (takes_of rfl rfl rfl rfl) G_way_back fnOf_ar hgd (hr.mono (by decide)) rfl g_way_back F_way_back.kp (bd_way_back F_way_back) (ra_cons (re_var (pv 3)) (ra_cons (re_var (pv 6)) ra_nil))))) rs_nil) (rs_cons (rs_forL rfl (passes_of rfl) rfl (re_callG (takes_of rfl rfl rfl rfl) G_moves_on fnOf_ar hgd (hr.mono (by decide)) rfl g_moves_on F_moves_on.kp (bd_moves_on F_moves_on) (ra_cons (re_var (pv 0)) (ra_cons (re_var (pv 2)) (ra_cons (re_ix rfl (re_var (pv 6)) re_int (fun _ _ => rfl)) (ra_cons (re_ix rfl (re_var (pv 6)) re_int (fun _ _ => rfl)) ra_nil))))) (rg_name nd_found_walk rfl (by first | exact .inl rfl | exact .inr rfl)) (rs_one (rs_if (rt_cmp (op_dNotIn u1) d_dIn (re_var (pv 7)) (re_var (pv 3)) (by with_unfolding_all rfl)) (rs_cons (rs_dput u1 (re_var (pv 3)) (re_var (pv 7)) (re_var (pv 6))) (rs_one (rs_expr (re_bm rfl (.inl rfl) d_append (pe_bm PySem.F.plainAttrs_list PySem.F.slot_list_append PySem.F.type_list_append mt_append (re_var (pv 4)) (ra_cons (re_var (pv 7)) ra_nil)))))) rs_nil))) (rs_one (rs_aug d_addI (ps_aug nd_found_walk rfl (by first | exact .inl rfl | exact .inr rfl) re_int ip_add))))))) (rs_one (rs_ret re_non))))
/-! folds_to -/
abbrev Fd_folds_to (K : PySem.W.Frag) (fd : FuncData) : Prop := FnP K "folds_to" "folds_to" (top 27) (ga K "folds_to") fd
theorem nd_folds_to : (["one_word", "other_word", "links", "place", "step"] : List Str).Nodup := by decide +kernel
theorem sc_folds_to : FnScope ["one_word", "other_word", "links", "place", "step"] ["one_word", "other_word"] (defScope (top 27)) := ⟨rfl, rfl, rfl, nd_folds_to, rfl, by decide +kernel, by decide +kernel⟩
theorem bd_folds_to {fd : FuncData} (F : Fd_folds_to K fd) : L2.Binds K fd ["one_word", "other_word"] [] := F.bindsN fun _ _ _ _ _ _ us hl => match us, hl with | [_, _], _ => rfl
def Ok_folds_to (P : Program) (w : World) (K : PySem.W.Frag) (mg : Str → Option Value) (base : Heap) : Prop := ∃ fd, Fd_folds_to K fd ∧ FnG P w K mg base 5 (ga K "folds_to") fd ["one_word", "other_word"] (spM ⟨K, mg, [], none⟩ 2 m_folds_to) ∧ mg "folds_to" = some (.ref (ga K "folds_to"))
theorem ok_folds_to (M : Md K mg) (F : ∃ fd, Fd_folds_to K fd) (g : mg "folds_to" = some (.ref (ga K "folds_to"))) (c_want_word : Ok_want_word P w K mg base) (c_found_walk : Ok_found_walk P w K mg base)  : Ok_folds_to P w K mg base := by
  obtain ⟨fd, F⟩ := F
  obtain ⟨fd_want_word, F_want_word, G_want_word, g_want_word⟩ := c_want_word
  obtain ⟨fd_found_walk, F_found_walk, G_found_walk, g_found_walk⟩ := c_found_walk
  refine ⟨fd, F, ok_defG F sc_folds_to (fun cdv A outer s H E hgd hr => ?_), g⟩
  have hu := hr.un
  have u1 : (A.deeper (envOfC "folds_to" (defScope (top 27)) s.heap.objs.size (ga K "folds_to") cdv)).units + 1 < cLine := by omega
  have u64 : (A.deeper (envOfC "folds_to" (defScope (top 27)) s.heap.objs.size (ga K "folds_to") cdv)).units + 64 < cLine := by omega
  have u65 : (A.deeper (envOfC "folds_to" (defScope (top 27)) s.heap.objs.size (ga K "folds_to") cdv)).units + 65 < cLine := by omega
  exact (rs_cons (rs_expr (re_callG (takes_of rfl rfl rfl rfl) G_want_word fnOf_ar hgd (hr.mono (by decide)) rfl g_want_word F_want_word.kp (bd_want_word F_want_word) (ra_cons (re_var (pv 0)) ra_nil))) (rs_cons (rs_expr (re_callG (takes_of rfl rfl rfl rfl) G_want_word fnOf_ar hgd (hr.mono (by decide)) rfl g_want_word F_want_word.kp (bd_want_word F_want_word) (ra_cons (re_var (pv 1)) ra_nil))) (rs_cons (rs_setDc (own := [("place", 3), ("step", 4)]) rfl nd_folds_to rfl rfl rfl (ri_enum rfl rfl M.n_enumerate (ra_cons (re_var (pv 0)) ra_nil)) (blkOk_by (by kernel_rfl)) (fun _ _ _ _ _ => (rg_tup rfl rfl (rgs_cons (rg_name nd_folds_to rfl (by first | exact .inl rfl | exact .inr rfl)) (rgs_cons (rg_name nd_folds_to rfl (by first | exact .inl rfl | exact .inr rfl)) rgs_nil)) rfl)) (fun _ _ _ _ _ => ts_nil) (fun _ _ _ _ _ => (re_var (pv 3))) (fun _ _ _ _ _ => (re_lst (ra_cons (re_tup (ra_cons (re_var (pv 4)) (ra_cons (re_op (o_add rfl) d_add (re_var (pv 3)) re_int) ra_nil))) ra_nil))) (by decide)) (rs_one (rs_ret (re_cmp o_isnot d_isnot (re_callG (takes_of rfl rfl rfl rfl) G_found_walk fnOf_ar hgd (hr.mono (by decide)) rfl g_found_walk F_found_walk.kp (bd_found_walk F_found_walk) (ra_cons (re_var (pv 2)) (ra_cons (re_tup (ra_cons (re_B call_len d_len rfl M.n_len bb_len (ra_cons (re_var (pv 0)) ra_nil)) ra_nil)) (ra_cons (re_var (pv 1)) ra_nil)))) re_non (nomark _)))))))
/-! after_fold -/
abbrev Fd_after_fold (K : PySem.W.Frag) (fd : FuncData) : Prop := FnP K "after_fold" "after_fold" (top 23) (ga K "after_fold") fd
theorem nd_after_fold : (["word", "start", "size"] : List Str).Nodup := by decide +kernel
theorem sc_after_fold : FnScope ["word", "start", "size"] ["word", "start", "size"] (defScope (top 23)) := ⟨rfl, rfl, rfl, nd_after_fold, rfl, by decide +kernel, by decide +kernel⟩
theorem bd_after_fold {fd : FuncData} (F : Fd_after_fold K fd) : L2.Binds K fd ["word", "start", "size"] [] := F.bindsN fun _ _ _ _ _ _ us hl => match us, hl with | [_, _, _], _ => rfl
def Ok_after_fold (P : Program) (w : World) (K : PySem.W.Frag) (mg : Str → Option Value) (base : Heap) : Prop := ∃ fd, Fd_after_fold K fd ∧ FnG P w K mg base 1 (ga K "after_fold") fd ["word", "start", "size"] (spM ⟨K, mg, [], none⟩ 3 m_after_fold) ∧ mg "after_fold" = some (.ref (ga K "after_fold"))
theorem ok_after_fold (M : Md K mg) (F : ∃ fd, Fd_after_fold K fd) (g : mg "after_fold" = some (.ref (ga K "after_fold")))   : Ok_after_fold P w K mg base := by
  obtain ⟨fd, F⟩ := F
  refine ⟨fd, F, ok_defG F sc_after_fold (fun cdv A outer s H E hgd hr => ?_), g⟩
  have hu := hr.un
  have u1 : (A.deeper (envOfC "after_fold" (defScope (top 23)) s.heap.objs.size (ga K "after_fold") cdv)).units + 1 < cLine := by omega
  have u64 : (A.deeper (envOfC "after_fold" (defScope (top 23)) s.heap.objs.size (ga K "after_fold") cdv)).units + 64 < cLine := by omega
  have u65 : (A.deeper (envOfC "after_fold" (defScope (top 23)) s.heap.objs.size (ga K "after_fold") cdv)).units + 65 < cLine := by omega
  exact (rs_one (rs_ret (re_op (o_add rfl) d_add (re_sl rfl (re_var (pv 0)) ro_none (ro_some (re_op (o_add rfl) d_add (re_var (pv 1)) (re_var (pv 2))))) (re_sl rfl (re_var (pv 0)) (ro_some (re_op (o_add rfl) d_add (re_var (pv 1)) (re_op o_mul d_mul re_int (re_var (pv 2))))) ro_none))))
/-! is_fold -/
abbrev Fd_is_fold (K : PySem.W.Frag) (fd : FuncData) : Prop := FnP K "is_fold" "is_fold" (top 24) (ga K "is_fold") fd
theorem nd_is_fold : (["word", "value"] : List Str).Nodup := by decide +kernel
theorem sc_is_fold : FnScope ["word", "value"] ["word", "value"] (defScope (top 24)) := ⟨rfl, rfl, rfl, nd_is_fold, rfl, by decide +kernel, by decide +kernel⟩
theorem bd_is_fold {fd : FuncData} (F : Fd_is_fold K fd) : L2.Binds K fd ["word", "value"] [] := F.bindsN fun _ _ _ _ _ _ us hl => match us, hl with | [_, _], _ => rfl
def Ok_is_fold (P : Program) (w : World) (K : PySem.W.Frag) (mg : Str → Option Value) (base : Heap) : Prop := ∃ fd, Fd_is_fold K fd ∧ FnG P w K mg base 7 (ga K "is_fold") fd ["word", "value"] (spM ⟨K, mg, [], none⟩ 2 m_is_fold) ∧ mg "is_fold" = some (.ref (ga K "is_fold"))
theorem ok_is_fold (M : Md K mg) (F : ∃ fd, Fd_is_fold K fd) (g : mg "is_fold" = some (.ref (ga K "is_fold"))) (c_is_integer : Ok_is_integer P w K mg base) (c_can_fold : Ok_can_fold P w K mg base)  : Ok_is_fold P w K mg base := by
  obtain ⟨fd, F⟩ := F
  obtain ⟨fd_is_integer, F_is_integer, G_is_integer, g_is_integer⟩ := c_is_integer
  obtain ⟨fd_can_fold, F_can_fold, G_can_fold, g_can_fold⟩ := c_can_fold
  refine ⟨fd, F, ok_defG F sc_is_fold (fun cdv A outer s H E hgd hr => ?_), g⟩
  have hu := hr.un
  have u1 : (A.deeper (envOfC "is_fold" (defScope (top 24)) s.heap.objs.size (ga K "is_fold") cdv)).units + 1 < cLine := by omega
  have u64 : (A.deeper (envOfC "is_fold" (defScope (top 24)) s.heap.objs.size (ga K "is_fold") cdv)).units + 64 < cLine := by omega
  have u65 : (A.deeper (envOfC "is_fold" (defScope (top 24)) s.heap.objs.size (ga K "is_fold") cdv)).units + 65 < cLine := by omega
  exact (rs_cons (rs_if (PW.pt (rw_or (rt_not (rt_of (re_isi rfl rfl M.n_isinstance rfl M.n_tuple (by decide +kernel) (by decide) (re_var (pv 1))))) (rw_or (rt_cmp (o_ne rfl u64) d_eqv (re_B call_len d_len rfl M.n_len bb_len (ra_cons (re_var (pv 1)) ra_nil)) re_int (nomark _)) (rw_or (rt_not (rt_of (re_callG (takes_of rfl rfl rfl rfl) G_is_integer fnOf_ar hgd (hr.mono (by decide)) rfl g_is_integer F_is_integer.kp (bd_is_integer F_is_integer) (ra_cons (re_ix rfl (re_var (pv 1)) re_int (fun _ _ => rfl)) ra_nil)))) (rw_or1 (rt_not (rt_of (re_callG (takes_of rfl rfl rfl rfl) G_is_integer fnOf_ar hgd (hr.mono (by decide)) rfl g_is_integer F_is_integer.kp (bd_is_integer F_is_integer) (ra_cons (re_ix rfl (re_var (pv 1)) re_int (fun _ _ => rfl)) ra_nil))))))))) (rs_one (rs_ret re_bl)) rs_nil) (rs_one (rs_ret (re_callG (takes_of rfl rfl rfl rfl) G_can_fold fnOf_ar hgd (hr.mono (by decide)) rfl g_can_fold F_can_fold.kp (bd_can_fold F_can_fold) (ra_cons (re_var (pv 0)) (ra_cons (re_ix rfl (re_var (pv 1)) re_int (fun _ _ => rfl)) (ra_cons (re_ix rfl (re_var (pv 1)) re_int (fun _ _ => rfl)) ra_nil)))))))
/-! folded -/
abbrev Fd_folded (K : PySem.W.Frag) (fd : FuncData) : Prop := FnP K "folded" "folded" (top 26) (ga K "folded") fd
theorem nd_folded : (["word", "fold"] : List Str).Nodup := by decide +kernel
theorem sc_folded : FnScope ["word", "fold"] ["word", "fold"] (defScope (top 26)) := ⟨rfl, rfl, rfl, nd_folded, rfl, by decide +kernel, by decide +kernel⟩
theorem bd_folded {fd : FuncData} (F : Fd_folded K fd) : L2.Binds K fd ["word", "fold"] [] := F.bindsN fun _ _ _ _ _ _ us hl => match us, hl with | [_, _], _ => rfl
def Ok_folded (P : Program) (w : World) (K : PySem.W.Frag) (mg : Str → Option Value) (base : Heap) : Prop := ∃ fd, Fd_folded K fd ∧ FnG P w K mg base 8 (ga K "folded") fd ["word", "fold"] (spM ⟨K, mg, [], none⟩ 2 m_folded) ∧ mg "folded" = some (.ref (ga K "folded"))
theorem ok_folded (M : Md K mg) (F : ∃ fd, Fd_folded K fd) (g : mg "folded" = some (.ref (ga K "folded"))) (c_want_word : Ok_want_word P w K mg base) (c_is_fold : Ok_is_fold P w K mg base) (c_after_fold : Ok_after_fold P w K mg base) (x_InvalidFold : Oe_InvalidFold P w K mg base) : Ok_folded P w K mg base := by
  obtain ⟨fd, F⟩ := F
  obtain ⟨fd_want_word, F_want_word, G_want_word, g_want_word⟩ := c_want_word
  obtain ⟨fd_is_fold, F_is_fold, G_is_fold, g_is_fold⟩ := c_is_fold
  obtain ⟨fd_after_fold, F_after_fold, G_after_fold, g_after_fold⟩ := c_after_fold
  obtain ⟨fdx_InvalidFold, FX_InvalidFold, X_InvalidFold⟩ := x_InvalidFold
  refine ⟨fd, F, ok_defG F sc_folded (fun cdv A outer s H E hgd hr => ?_), g⟩
  have hu := hr.un
  have u1 : (A.deeper (envOfC "folded" (defScope (top 26)) s.heap.objs.size (ga K "folded") cdv)).units + 1 < cLine := by omega
  have u64 : (A.deeper (envOfC "folded" (defScope (top 26)) s.heap.objs.size (ga K "folded") cdv)).units + 64 < cLine := by omega
  have u65 : (A.deeper (envOfC "folded" (defScope (top 26)) s.heap.objs.size (ga K "folded") cdv)).units + 65 < cLine := by omega
  exact (rs_cons (rs_expr (re_callG (takes_of rfl rfl rfl rfl) G_want_word fnOf_ar hgd (hr.mono (by decide)) rfl g_want_word F_want_word.kp (bd_want_word F_want_word) (ra_cons (re_var (pv 0)) ra_nil))) (rs_cons (rs_if (rt_not (rt_of (re_callG (takes_of rfl rfl rfl rfl) G_is_fold fnOf_ar hgd (hr.mono (by decide)) rfl g_is_fold F_is_fold.kp (bd_is_fold F_is_fold) (ra_cons (re_var (pv 0)) (ra_cons (re_var (pv 1)) ra_nil))))) (rs_one (rs_raise rfl rfl rfl (takes_of rfl rfl rfl rfl) M.oex_InvalidFold M.noat_InvalidFold_value M.init_InvalidFold.1 M.init_InvalidFold.2 X_InvalidFold (hr.mono (by decide)) (bdx_InvalidFold FX_InvalidFold) rfl M.g_InvalidFold (re_var (pv 1)))) rs_nil) (rs_one (rs_ret (re_callG (takes_of rfl rfl rfl rfl) G_after_fold fnOf_ar hgd (hr.mono (by decide)) rfl g_after_fold F_after_fold.kp (bd_after_fold F_after_fold) (ra_cons (re_var (pv 0)) (ra_cons (re_ix rfl (re_var (pv 1)) re_int (fun _ _ => rfl)) (ra_cons (re_ix rfl (re_var (pv 1)) re_int (fun _ _ => rfl)) ra_nil))))))))
/-! _law_refused -/
abbrev Fd_Lrefused (K : PySem.W.Frag) (fd : FuncData) : Prop := FnP K "_law_refused" "_law_refused" (top 40) (ga K "_law_refused") fd
theorem nd_Lrefused : (["_law_spelt", "_law_value", "_law_told", "e"] : List Str).Nodup := by decide +kernel
theorem sc_Lrefused : FnScope ["_law_spelt", "_law_value", "_law_told", "e"] ["_law_spelt", "_law_value"] (defScope (top 40)) := ⟨rfl, rfl, rfl, nd_Lrefused, rfl, by decide +kernel, by decide +kernel⟩
theorem bd_Lrefused {fd : FuncData} (F : Fd_Lrefused K fd) : L2.Binds K fd ["_law_spelt", "_law_value"] [] := F.bindsN fun _ _ _ _ _ _ us hl => match us, hl with | [_, _], _ => rfl
def Ok_Lrefused (P : Program) (w : World) (K : PySem.W.Frag) (mg : Str → Option Value) (base : Heap) : Prop := ∃ fd, Fd_Lrefused K fd ∧ FnG P w K mg base 9 (ga K "_law_refused") fd ["_law_spelt", "_law_value"] (spM ⟨K, mg, [], none⟩ 2 m_Lrefused) ∧ mg "_law_refused" = some (.ref (ga K "_law_refused"))
theorem ok_Lrefused (M : Md K mg) (F : ∃ fd, Fd_Lrefused K fd) (g : mg "_law_refused" = some (.ref (ga K "_law_refused"))) (c_folded : Ok_folded P w K mg base)  : Ok_Lrefused P w K mg base := by
  obtain ⟨fd, F⟩ := F
  obtain ⟨fd_folded, F_folded, G_folded, g_folded⟩ := c_folded
  refine ⟨fd, F, ok_defG F sc_Lrefused (fun cdv A outer s H E hgd hr => ?_), g⟩
  have hu := hr.un
  have u1 : (A.deeper (envOfC "_law_refused" (defScope (top 40)) s.heap.objs.size (ga K "_law_refused") cdv)).units + 1 < cLine := by omega
  have u64 : (A.deeper (envOfC "_law_refused" (defScope (top 40)) s.heap.objs.size (ga K "_law_refused") cdv)).units + 64 < cLine := by omega
  have u65 : (A.deeper (envOfC "_law_refused" (defScope (top 40)) s.heap.objs.size (ga K "_law_refused") cdv)).units + 65 < cLine := by omega
  exact (rs_cons (rs_set nd_Lrefused rfl (by first | exact .inl rfl | exact .inr rfl) re_non) (rs_cons (rs_try rfl rfl rfl rfl nd_Lrefused rfl rfl ⟨rfl, by decide, .inl M.g_InvalidFold⟩ (takes_of rfl rfl rfl rfl) (fun y C hy hm => by dsimp only at hm; rcases List.mem_cons.mp hy with e_ | hy; (subst e_; rw [M.g_InvalidFold] at hm; cases hm; exact M.exm_InvalidFold_InvalidFold); rcases List.mem_cons.mp hy with e_ | hy; (subst e_; rw [M.g_InvalidWord] at hm; cases hm; exact M.exm_InvalidWord_InvalidFold); exact (nomatch hy)) (fun W pn xe tk po => (rs_one (rs_expr (re_callG tk G_folded fnOf_ar hgd (hr.mono (by decide)) rfl g_folded F_folded.kp (bd_folded F_folded) (ra_cons (re_var (pv 0)) (ra_cons (re_var (pv 1)) ra_nil)))))) (fun a oe cls d pn hz hf => ss_of fun x dd C hm1 hm2 hC hd => (rs_one (rs_set nd_Lrefused rfl (by first | exact .inl rfl | exact .inr rfl) (re_lst (ra_cons (re_cmp (o_eqX rfl u64) d_eqX (re_xf rfl hC hd (fun e_ => by have hm3 : mg x.cls = some (.ref C) := hm2; rw [e_, M.g_InvalidFold] at hm3; cases hm3; exact ⟨M.xf_InvalidFold, M.noat_InvalidFold_value⟩) hz hf (pv 3)) (re_var (pv 1)) (nomark _)) (ra_cons (re_xi (b := true) rfl hC hd (fun e_ => by have hm3 : mg x.cls = some (.ref C) := hm2; rw [e_, M.g_InvalidFold] at hm3; cases hm3; exact ⟨M.exc_InvalidFold, M.kit_InvalidFold_WalkError⟩) (.own _) hz hf (pv 3) (pe_glob rfl M.g_WalkError rfl) rfl M.n_isinstance) ra_nil))))))) (rs_one (rs_ret (re_cmp (o_eq rfl u64) d_eqv (re_var (pv 2)) (re_lst (ra_cons re_bl (ra_cons re_bl ra_nil))) (nomark _))))))
/-! _law_word_right -/
abbrev Fd_Lword_right (K : PySem.W.Frag) (fd : FuncData) : Prop := FnP K "_law_word_right" "_law_word_right" (top 41) (ga K "_law_word_right") fd
theorem nd_Lword_right : (["_law_pot_here", "_law_spelt", "_law_due", "_law_kept", "_law_told", "_law_crease", "_law_later", "_law_odd", "_law_wrong", "_law_turn", "_law_value"] : List Str).Nodup := by decide +kernel
theorem sc_Lword_right : FnScope ["_law_pot_here", "_law_spelt", "_law_due", "_law_kept", "_law_told", "_law_crease", "_law_later", "_law_odd", "_law_wrong", "_law_turn", "_law_value"] ["_law_pot_here", "_law_spelt"] (defScope (top 41)) := ⟨rfl, rfl, rfl, nd_Lword_right, rfl, by decide +kernel, by decide +kernel⟩
theorem bd_Lword_right {fd : FuncData} (F : Fd_Lword_right K fd) : L2.Binds K fd ["_law_pot_here", "_law_spelt"] [] := F.bindsN fun _ _ _ _ _ _ us hl => match us, hl with | [_, _], _ => rfl
def Ok_Lword_right (P : Program) (w : World) (K : PySem.W.Frag) (mg : Str → Option Value) (base : Heap) : Prop := ∃ fd, Fd_Lword_right K fd ∧ FnG P w K mg base 10 (ga K "_law_word_right") fd ["_law_pot_here", "_law_spelt"] (spM ⟨K, mg, [], none⟩ 2 m_Lword_right) ∧ mg "_law_word_right" = some (.ref (ga K "_law_word_right"))
theorem ok_Lword_right (M : Md K mg) (F : ∃ fd, Fd_Lword_right K fd) (g : mg "_law_word_right" = some (.ref (ga K "_law_word_right"))) (c_Lfolds : Ok_Lfolds P w K mg base) (c_folds_of : Ok_folds_of P w K mg base) (c_Lafter : Ok_Lafter P w K mg base) (c_folded : Ok_folded P w K mg base) (c_folds_to : Ok_folds_to P w K mg base) (c_Ldraw : Ok_Ldraw P w K mg base) (c_Lrefused : Ok_Lrefused P w K mg base)  : Ok_Lword_right P w K mg base := by
  obtain ⟨fd, F⟩ := F
  obtain ⟨fd_Lfolds, F_Lfolds, G_Lfolds, g_Lfolds⟩ := c_Lfolds
  obtain ⟨fd_folds_of, F_folds_of, G_folds_of, g_folds_of⟩ := c_folds_of
  obtain ⟨fd_Lafter, F_Lafter, G_Lafter, g_Lafter⟩ := c_Lafter
  obtain ⟨fd_folded, F_folded, G_folded, g_folded⟩ := c_folded
  obtain ⟨fd_folds_to, F_folds_to, G_folds_to, g_folds_to⟩ := c_folds_to
  obtain ⟨fd_Ldraw, F_Ldraw, G_Ldraw, g_Ldraw⟩ := c_Ldraw
  obtain ⟨fd_Lrefused, F_Lrefused, G_Lrefused, g_Lrefused⟩ := c_Lrefused
  refine ⟨fd, F, ok_defG F sc_Lword_right (fun cdv A outer s H E hgd hr => ?_), g⟩
  have hu := hr.un
  have u1 : (A.deeper (envOfC "_law_word_right" (defScope (top 41)) s.heap.objs.size (ga K "_law_word_right") cdv)).units + 1 < cLine := by omega
  have u64 : (A.deeper (envOfC "_law_word_right" (defScope (top 41)) s.heap.objs.size (ga K "_law_word_right") cdv)).units + 64 < cLine := by omega
  have u65 : (A.deeper (envOfC "_law_word_right" (defScope (top 41)) s.heap.objs.size (ga K "_law_word_right") cdv)).units + 65 < cLine := by omega
  exact (rs_cons (rs_asg (re_tup (ra_cons (re_callG (takes_of rfl rfl rfl rfl) G_Lfolds fnOf_ar hgd (hr.mono (by decide)) rfl g_Lfolds F_Lfolds.kp (bd_Lfolds F_Lfolds) (ra_cons (re_var (pv 1)) ra_nil)) (ra_cons (re_repr rfl M.sm hgd u64 rfl M.n_repr (ra_cons (re_var (pv 1)) ra_nil)) ra_nil))) (rg_tup rfl rfl (rgs_cons (rg_name nd_Lword_right rfl (by first | exact .inl rfl | exact .inr rfl)) (rgs_cons (rg_name nd_Lword_right rfl (by first | exact .inl rfl | exact .inr rfl)) rgs_nil)) rfl)) (rs_cons (rs_set nd_Lword_right rfl (by first | exact .inl rfl | exact .inr rfl) (re_callG (takes_of rfl rfl rfl rfl) G_folds_of fnOf_ar hgd (hr.mono (by decide)) rfl g_folds_of F_folds_of.kp (bd_folds_of F_folds_of) (ra_cons (re_var (pv 1)) ra_nil))) (rs_cons (rs_if (PW.pt (rw_or (rt_cmp (o_ne rfl u64) d_eqv (re_repr rfl M.sm hgd u64 rfl M.n_repr (ra_cons (re_var (pv 4)) ra_nil)) (re_repr rfl M.sm hgd u64 rfl M.n_repr (ra_cons (re_var (pv 2)) ra_nil)) (nomark _)) (rw_or1 (rt_cmp (o_ne rfl u64) d_eqv (re_repr rfl M.sm hgd u64 rfl M.n_repr (ra_cons (re_callKw (js := [0]) (takes_of rfl rfl rfl rfl) G_folds_of fnOf_ar hgd (hr.mono (by decide)) rfl g_folds_of F_folds_of.kp (kwN (ks := ["word"]) F_folds_of fun _ _ _ _ _ _ ws hl => match ws, hl with | [_], _ => rfl) rfl (by decide) (rk_cons (re_var (pv 1)) rk_nil)) ra_nil)) (re_repr rfl M.sm hgd u64 rfl M.n_repr (ra_cons (re_var (pv 2)) ra_nil)) (nomark _))))) (rs_one (rs_ret re_bl)) rs_nil) (rs_cons (rs_expr (re_bm rfl (.inl rfl) d_append (pe_bm PySem.F.plainAttrs_list PySem.F.slot_list_append PySem.F.type_list_append mt_append (re_var (pv 4)) (ra_cons (re_tup (ra_cons re_int (ra_cons re_int ra_nil))) ra_nil)))) (rs_cons (rs_if (rt_cmp (o_ne rfl u64) d_eqv (re_repr rfl M.sm hgd u64 rfl M.n_repr (ra_cons (re_callG (takes_of rfl rfl rfl rfl) G_folds_of fnOf_ar hgd (hr.mono (by decide)) rfl g_folds_of F_folds_of.kp (bd_folds_of F_folds_of) (ra_cons (re_var (pv 1)) ra_nil)) ra_nil)) (re_repr rfl M.sm hgd u64 rfl M.n_repr (ra_cons (re_var (pv 2)) ra_nil)) (nomark _)) (rs_one (rs_ret re_bl)) rs_nil) (rs_cons (rs_forL rfl (passes_of rfl) rfl (re_var (pv 2)) (rg_name nd_Lword_right rfl (by first | exact .inl rfl | exact .inr rfl)) (rs_cons (rs_set nd_Lword_right rfl (by first | exact .inl rfl | exact .inr rfl) (re_callG (takes_of rfl rfl rfl rfl) G_Lafter fnOf_ar hgd (hr.mono (by decide)) rfl g_Lafter F_Lafter.kp (bd_Lafter F_Lafter) (ra_cons (re_var (pv 1)) (ra_cons (re_var (pv 5)) ra_nil)))) (rs_one (rs_if (PW.pt (rw_or (rt_cmp (o_ne rfl u64) d_eqv (re_lst (ra_cons (re_callG (takes_of rfl rfl rfl rfl) G_folded fnOf_ar hgd (hr.mono (by decide)) rfl g_folded F_folded.kp (bd_folded F_folded) (ra_cons (re_var (pv 1)) (ra_cons (re_var (pv 5)) ra_nil))) (ra_cons (re_callKw (js := [1, 0]) (takes_of rfl rfl rfl rfl) G_folded fnOf_ar hgd (hr.mono (by decide)) rfl g_folded F_folded.kp (kwN (ks := ["fold", "word"]) F_folded fun _ _ _ _ _ _ ws hl => match ws, hl with | [_, _], _ => rfl) rfl (by decide) (rk_cons (re_var (pv 5)) (rk_cons (re_var (pv 1)) rk_nil))) ra_nil))) (re_op o_mul d_mul (re_lst (ra_cons (re_var (pv 6)) ra_nil)) re_int) (nomark _)) (rw_or1 (rt_not (rt_of (re_callG (takes_of rfl rfl rfl rfl) G_folds_to fnOf_ar hgd (hr.mono (by decide)) rfl g_folds_to F_folds_to.kp (bd_folds_to F_folds_to) (ra_cons (re_var (pv 1)) (ra_cons (re_var (pv 6)) ra_nil)))))))) (rs_one (rs_ret re_bl)) rs_nil)))) (rs_cons (rs_set nd_Lword_right rfl (by first | exact .inl rfl | exact .inr rfl) (re_lst (ra_cons re_non (ra_cons re_int (ra_cons re_str (ra_cons (re_tup ra_nil) (ra_cons (re_tup (ra_cons re_int ra_nil)) (ra_cons (re_tup (ra_cons re_int (ra_cons re_int (ra_cons re_int ra_nil)))) (ra_cons (re_lst (ra_cons re_int (ra_cons re_int ra_nil))) (ra_cons (re_tup (ra_cons re_int (ra_cons re_bl ra_nil))) (ra_cons (re_tup (ra_cons re_bl (ra_cons re_int ra_nil))) (ra_cons (re_tup (ra_cons re_int (ra_cons re_int ra_nil))) (ra_cons (re_tup (ra_cons re_int (ra_cons (re_un un_neg d_neg re_int) ra_nil))) (ra_cons (re_tup (ra_cons (re_un un_neg d_neg re_int) (ra_cons re_int ra_nil))) (ra_cons (re_tup (ra_cons (re_B call_len d_len rfl M.n_len bb_len (ra_cons (re_var (pv 1)) ra_nil)) (ra_cons re_int ra_nil))) ra_nil))))))))))))))) (rs_cons (rs_set nd_Lword_right rfl (by first | exact .inl rfl | exact .inr rfl) (re_op (o_add rfl) d_add (re_op (o_add rfl) d_add (re_var (pv 7)) (re_lst (ra_cons (re_tup (ra_cons (re_lst (ra_cons re_int ra_nil)) (ra_cons re_int ra_nil))) (ra_cons (re_tup (ra_cons re_int (ra_cons (re_lst (ra_cons re_int ra_nil)) ra_nil))) (ra_cons (re_tup (ra_cons re_dct0 (ra_cons re_int ra_nil))) ra_nil))))) (re_lc (own := [("_law_turn", 9)]) rfl nd_Lword_right (ri_range1 rfl M.n_range (ra_cons re_int ra_nil)) (blkOk_by (by kernel_rfl)) (fun _ _ _ _ _ => (rg_name nd_Lword_right rfl (by first | exact .inl rfl | exact .inr rfl))) (fun _ _ _ _ _ => ts_nil) (fun _ _ _ _ _ => (re_tup (ra_cons (re_callG takes0 G_Ldraw fnOf_ar hgd (hr.mono (by decide)) rfl g_Ldraw F_Ldraw.kp (bd_Ldraw F_Ldraw) (ra_cons (re_var (pv 0)) (ra_cons re_int ra_nil))) (ra_cons (re_op (o_add rfl) d_add re_int (re_callG takes0 G_Ldraw fnOf_ar hgd (hr.mono (by decide)) rfl g_Ldraw F_Ldraw.kp (bd_Ldraw F_Ldraw) (ra_cons (re_var (pv 0)) (ra_cons re_int ra_nil)))) ra_nil)))) (by decide)))) (rs_cons (rs_setLcE (own := [("_law_value", 10)]) rfl rfl nd_Lword_right rfl rfl rfl (re_var (pv 7)) (blkOk_by (by kernel_rfl)) (fun _ _ _ _ _ => (rg_name nd_Lword_right rfl (by first | exact .inl rfl | exact .inr rfl))) (fun _ _ _ _ _ => (ts_one (rt_cmp (o_notin rfl u65) d_in (re_repr rfl M.sm hgd u64 rfl M.n_repr (ra_cons (re_var (pv 10)) ra_nil)) (re_lcE (own := [("_law_crease", 5)]) rfl rfl nd_Lword_right (re_var (pv 2)) (blkOk_by (by kernel_rfl)) (fun _ _ _ _ _ => (rg_name nd_Lword_right rfl (by first | exact .inl rfl | exact .inr rfl))) (fun _ _ _ _ _ => ts_nil) (fun _ _ _ _ _ => (re_repr rfl M.sm hgd u64 rfl M.n_repr (ra_cons (re_var (pv 5)) ra_nil))) (by decide)) (by with_unfolding_all rfl)))) (fun _ _ _ _ _ => (re_var (pv 10))) (by decide)) (rs_one (rs_ret (re_and (re_B (cr_all rfl) d_allB rfl M.n_all bb_all (ra_cons (re_lcE (own := [("_law_value", 10)]) rfl rfl nd_Lword_right (re_var (pv 8)) (blkOk_by (by kernel_rfl)) (fun _ _ _ _ _ => (rg_name nd_Lword_right rfl (by first | exact .inl rfl | exact .inr rfl))) (fun _ _ _ _ _ => ts_nil) (fun _ _ _ _ _ => (re_callG takes0 G_Lrefused fnOf_ar hgd (hr.mono (by decide)) rfl g_Lrefused F_Lrefused.kp (bd_Lrefused F_Lrefused) (ra_cons (re_var (pv 1)) (ra_cons (re_var (pv 10)) ra_nil)))) (by decide)) ra_nil)) (re_one (re_cmp (o_eq rfl u64) d_eqv (re_repr rfl M.sm hgd u64 rfl M.n_repr (ra_cons (re_var (pv 1)) ra_nil)) (re_var (pv 3)) (nomark _)))))))))))))))
/-! _law_changed -/
abbrev Fd_Lchanged (K : PySem.W.Frag) (fd : FuncData) : Prop := FnP K "_law_changed" "_law_changed" (top 42) (ga K "_law_changed") fd
theorem nd_Lchanged : (["_law_pot_here", "_law_spelt", "_law_at"] : List Str).Nodup := by decide +kernel
theorem sc_Lchanged : FnScope ["_law_pot_here", "_law_spelt", "_law_at"] ["_law_pot_here", "_law_spelt"] (defScope (top 42)) := ⟨rfl, rfl, rfl, nd_Lchanged, rfl, by decide +kernel, by decide +kernel⟩
theorem bd_Lchanged {fd : FuncData} (F : Fd_Lchanged K fd) : L2.Binds K fd ["_law_pot_here", "_law_spelt"] [] := F.bindsN fun _ _ _ _ _ _ us hl => match us, hl with | [_, _], _ => rfl
def Ok_Lchanged (P : Program) (w : World) (K : PySem.W.Frag) (mg : Str → Option Value) (base : Heap) : Prop := ∃ fd, Fd_Lchanged K fd ∧ FnG P w K mg base 2 (ga K "_law_changed") fd ["_law_pot_here", "_law_spelt"] (spM ⟨K, mg, [], none⟩ 2 m_Lchanged) ∧ mg "_law_changed" = some (.ref (ga K "_law_changed"))
theorem ok_Lchanged (M : Md K mg) (F : ∃ fd, Fd_Lchanged K fd) (g : mg "_law_changed" = some (.ref (ga K "_law_changed"))) (c_Ldraw : Ok_Ldraw P w K mg base) (c_Lturned : Ok_Lturned P w K mg base)  : Ok_Lchanged P w K mg base := by
  obtain ⟨fd, F⟩ := F
  obtain ⟨fd_Ldraw, F_Ldraw, G_Ldraw, g_Ldraw⟩ := c_Ldraw
  obtain ⟨fd_Lturned, F_Lturned, G_Lturned, g_Lturned⟩ := c_Lturned
  refine ⟨fd, F, ok_defG F sc_Lchanged (fun cdv A outer s H E hgd hr => ?_), g⟩
  have hu := hr.un
  have u1 : (A.deeper (envOfC "_law_changed" (defScope (top 42)) s.heap.objs.size (ga K "_law_changed") cdv)).units + 1 < cLine := by omega
  have u64 : (A.deeper (envOfC "_law_changed" (defScope (top 42)) s.heap.objs.size (ga K "_law_changed") cdv)).units + 64 < cLine := by omega
  have u65 : (A.deeper (envOfC "_law_changed" (defScope (top 42)) s.heap.objs.size (ga K "_law_changed") cdv)).units + 65 < cLine := by omega
  exact (rs_cons (rs_set nd_Lchanged rfl (by first | exact .inl rfl | exact .inr rfl) (re_callG (takes_of rfl rfl rfl rfl) G_Ldraw fnOf_ar hgd (hr.mono (by decide)) rfl g_Ldraw F_Ldraw.kp (bd_Ldraw F_Ldraw) (ra_cons (re_var (pv 0)) (ra_cons (re_op (o_add rfl) d_add (re_B call_len d_len rfl M.n_len bb_len (ra_cons (re_var (pv 1)) ra_nil)) re_int) ra_nil)))) (rs_cons (rs_if (rt_cmp (o_eq rfl u64) d_eqv (re_var (pv 2)) (re_B call_len d_len rfl M.n_len bb_len (ra_cons (re_var (pv 1)) ra_nil)) (nomark _)) (rs_one (rs_ret (re_sl rfl (re_var (pv 1)) (ro_some re_int) ro_none))) rs_nil) (rs_one (rs_ret (re_op (o_add rfl) d_add (re_op (o_add rfl) d_add (re_sl rfl (re_var (pv 1)) ro_none (ro_some (re_var (pv 2)))) (re_tup (ra_cons (re_callG (takes_of rfl rfl rfl rfl) G_Lturned fnOf_ar hgd (hr.mono (by decide)) rfl g_Lturned F_Lturned.kp (bd_Lturned F_Lturned) (ra_cons (re_ix rfl (re_var (pv 1)) (re_var (pv 2)) (fun _ _ => rfl)) ra_nil)) ra_nil))) (re_sl rfl (re_var (pv 1)) (ro_some (re_op (o_add rfl) d_add (re_var (pv 2)) re_int)) ro_none))))))
/-! _law_right -/
abbrev Fd_Lright (K : PySem.W.Frag) (fd : FuncData) : Prop := FnP K "_law_right" "_law_right" (top 43) (ga K "_law_right") fd
theorem nd_Lright : (["_law_pot_here", "_law_labels_here", "_law_some", "_law_spelt", "_law_every", "_law_others", "_law_other", "_law_told", "_law_turn", "_law_one"] : List Str).Nodup := by decide +kernel
theorem sc_Lright : FnScope ["_law_pot_here", "_law_labels_here", "_law_some", "_law_spelt", "_law_every", "_law_others", "_law_other", "_law_told", "_law_turn", "_law_one"] ["_law_pot_here", "_law_labels_here"] (defScope (top 43)) := ⟨rfl, rfl, rfl, nd_Lright, rfl, by decide +kernel, by decide +kernel⟩
theorem bd_Lright {fd : FuncData} (F : Fd_Lright K fd) : L2.Binds K fd ["_law_pot_here", "_law_labels_here"] [] := F.bindsN fun _ _ _ _ _ _ us hl => match us, hl with | [_, _], _ => rfl
def Ok_Lright (P : Program) (w : World) (K : PySem.W.Frag) (mg : Str → Option Value) (base : Heap) : Prop := ∃ fd, Fd_Lright K fd ∧ FnG P w K mg base 11 (ga K "_law_right") fd ["_law_pot_here", "_law_labels_here"] (spM ⟨K, mg, [], none⟩ 2 m_Lright) ∧ mg "_law_right" = some (.ref (ga K "_law_right"))
theorem ok_Lright (M : Md K mg) (F : ∃ fd, Fd_Lright K fd) (g : mg "_law_right" = some (.ref (ga K "_law_right"))) (c_Lword : Ok_Lword P w K mg base) (c_Lword_right : Ok_Lword_right P w K mg base) (c_Lall : Ok_Lall P w K mg base) (c_Lchanged : Ok_Lchanged P w K mg base) (c_Ldrawn : Ok_Ldrawn P w K mg base) (c_folds_to : Ok_folds_to P w K mg base)  : Ok_Lright P w K mg base := by
  obtain ⟨fd, F⟩ := F
  obtain ⟨fd_Lword, F_Lword, G_Lword, g_Lword⟩ := c_Lword
  obtain ⟨fd_Lword_right, F_Lword_right, G_Lword_right, g_Lword_right⟩ := c_Lword_right
  obtain ⟨fd_Lall, F_Lall, G_Lall, g_Lall⟩ := c_Lall
  obtain ⟨fd_Lchanged, F_Lchanged, G_Lchanged, g_Lchanged⟩ := c_Lchanged
  obtain ⟨fd_Ldrawn, F_Ldrawn, G_Ldrawn, g_Ldrawn⟩ := c_Ldrawn
  obtain ⟨fd_folds_to, F_folds_to, G_folds_to, g_folds_to⟩ := c_folds_to
  refine ⟨fd, F, ok_defG F sc_Lright (fun cdv A outer s H E hgd hr => ?_), g⟩
  have hu := hr.un
  have u1 : (A.deeper (envOfC "_law_right" (defScope (top 43)) s.heap.objs.size (ga K "_law_right") cdv)).units + 1 < cLine := by omega
  have u64 : (A.deeper (envOfC "_law_right" (defScope (top 43)) s.heap.objs.size (ga K "_law_right") cdv)).units + 64 < cLine := by omega
  have u65 : (A.deeper (envOfC "_law_right" (defScope (top 43)) s.heap.objs.size (ga K "_law_right") cdv)).units + 65 < cLine := by omega
  exact (rs_cons (rs_set nd_Lright rfl (by first | exact .inl rfl | exact .inr rfl) (re_op (o_add rfl) d_add (re_lst (ra_cons (re_tup ra_nil) ra_nil)) (re_lc (own := [("_law_turn", 8)]) rfl nd_Lright (ri_range1 rfl M.n_range (ra_cons re_int ra_nil)) (blkOk_by (by kernel_rfl)) (fun _ _ _ _ _ => (rg_name nd_Lright rfl (by first | exact .inl rfl | exact .inr rfl))) (fun _ _ _ _ _ => ts_nil) (fun _ _ _ _ _ => (re_callG takes0 G_Lword fnOf_ar hgd (hr.mono (by decide)) rfl g_Lword F_Lword.kp (bd_Lword F_Lword) (ra_cons (re_var (pv 0)) (ra_cons (re_var (pv 1)) ra_nil)))) (by decide)))) (rs_cons (rs_forL rfl (passes_of rfl) rfl (re_var (pv 2)) (rg_name nd_Lright rfl (by first | exact .inl rfl | exact .inr rfl)) (rs_cons (rs_if (rt_not (rt_of (re_callG (takes_of rfl rfl rfl rfl) G_Lword_right fnOf_ar hgd (hr.mono (by decide)) rfl g_Lword_right F_Lword_right.kp (bd_Lword_right F_Lword_right) (ra_cons (re_var (pv 0)) (ra_cons (re_var (pv 3)) ra_nil))))) (rs_one (rs_ret re_bl)) rs_nil) (rs_cons (rs_set nd_Lright rfl (by first | exact .inl rfl | exact .inr rfl) (re_callG (takes_of rfl rfl rfl rfl) G_Lall fnOf_ar hgd (hr.mono (by decide)) rfl g_Lall F_Lall.kp (bd_Lall F_Lall) (ra_cons (re_var (pv 3)) ra_nil))) (rs_cons (rs_set nd_Lright rfl (by first | exact .inl rfl | exact .inr rfl) (re_op (o_add rfl) d_add (re_lcE (own := [("_law_one", 9)]) rfl rfl nd_Lright (re_sl rfl (re_var (pv 4)) ro_none (ro_some re_int)) (blkOk_by (by kernel_rfl)) (fun _ _ _ _ _ => (rg_name nd_Lright rfl (by first | exact .inl rfl | exact .inr rfl))) (fun _ _ _ _ _ => ts_nil) (fun _ _ _ _ _ => (re_callG takes0 G_Lchanged fnOf_ar hgd (hr.mono (by decide)) rfl g_Lchanged F_Lchanged.kp (bd_Lchanged F_Lchanged) (ra_cons (re_var (pv 0)) (ra_cons (re_var (pv 9)) ra_nil)))) (by decide)) (re_lc (own := [("_law_turn", 8)]) rfl nd_Lright (ri_range1 rfl M.n_range (ra_cons re_int ra_nil)) (blkOk_by (by kernel_rfl)) (fun _ _ _ _ _ => (rg_name nd_Lright rfl (by first | exact .inl rfl | exact .inr rfl))) (fun _ _ _ _ _ => ts_nil) (fun _ _ _ _ _ => (re_callG takes0 G_Ldrawn fnOf_ar hgd (hr.mono (by decide)) rfl g_Ldrawn F_Ldrawn.kp (bd_Ldrawn F_Ldrawn) (ra_cons (re_var (pv 0)) (ra_cons (re_var (pv 1)) (ra_cons re_int ra_nil))))) (by decide)))) (rs_one (rs_forL rfl (passes_of rfl) rfl (re_op (o_add rfl) d_add (re_op (o_add rfl) d_add (re_sl rfl (re_var (pv 4)) ro_none (ro_some re_int)) (re_var (pv 2))) (re_var (pv 5))) (rg_name nd_Lright rfl (by first | exact .inl rfl | exact .inr rfl)) (rs_cons (rs_set nd_Lright rfl (by first | exact .inl rfl | exact .inr rfl) (re_lst (ra_cons (re_callG (takes_of rfl rfl rfl rfl) G_folds_to fnOf_ar hgd (hr.mono (by decide)) rfl g_folds_to F_folds_to.kp (bd_folds_to F_folds_to) (ra_cons (re_var (pv 3)) (ra_cons (re_var (pv 6)) ra_nil))) (ra_cons (re_callKw (js := [1, 0]) (takes_of rfl rfl rfl rfl) G_folds_to fnOf_ar hgd (hr.mono (by decide)) rfl g_folds_to F_folds_to.kp (kwN (ks := ["other_word", "one_word"]) F_folds_to fun _ _ _ _ _ _ ws hl => match ws, hl with | [_, _], _ => rfl) rfl (by decide) (rk_cons (re_var (pv 6)) (rk_cons (re_var (pv 3)) rk_nil))) ra_nil)))) (rs_one (rs_if (rt_cmp (o_ne rfl u64) d_eqv (re_repr rfl M.sm hgd u64 rfl M.n_repr (ra_cons (re_var (pv 7)) ra_nil)) (re_repr rfl M.sm hgd u64 rfl M.n_repr (ra_cons (re_op o_mul d_mul (re_lst (ra_cons (re_cmp (o_in rfl u65) d_in (re_var (pv 6)) (re_var (pv 4)) (by with_unfolding_all rfl)) ra_nil)) re_int) ra_nil)) (nomark _)) (rs_one (rs_ret re_bl)) rs_nil))))))))) (rs_one (rs_ret re_bl))))
/-! _law_labels -/
abbrev Fd_Llabels (K : PySem.W.Frag) (fd : FuncData) : Prop := FnP K "_law_labels" "_law_labels" (top 32) (ga K "_law_labels") fd
theorem nd_Llabels : (["_law_pot_here", "_law_many", "_law_letters", "_law_found", "_law_k", "_law_size", "_law_spelt", "_law_some", "_law_turn", "_law_letter", "_law_one"] : List Str).Nodup := by decide +kernel
theorem sc_Llabels : FnScope ["_law_pot_here", "_law_many", "_law_letters", "_law_found", "_law_k", "_law_size", "_law_spelt", "_law_some", "_law_turn", "_law_letter", "_law_one"] ["_law_pot_here", "_law_many"] (defScope (top 32)) := ⟨rfl, rfl, rfl, nd_Llabels, rfl, by decide +kernel, by decide +kernel⟩
theorem bd_Llabels {fd : FuncData} (F : Fd_Llabels K fd) : L2.Binds K fd ["_law_pot_here", "_law_many"] [] := F.bindsN fun _ _ _ _ _ _ us hl => match us, hl with | [_, _], _ => rfl
def Ok_Llabels (P : Program) (w : World) (K : PySem.W.Frag) (mg : Str → Option Value) (base : Heap) : Prop := ∃ fd, Fd_Llabels K fd ∧ FnG P w K mg base 3 (ga K "_law_labels") fd ["_law_pot_here", "_law_many"] (spM ⟨K, mg, [], none⟩ 2 m_Llabels) ∧ mg "_law_labels" = some (.ref (ga K "_law_labels"))
theorem ok_Llabels (M : Md K mg) (F : ∃ fd, Fd_Llabels K fd) (g : mg "_law_labels" = some (.ref (ga K "_law_labels"))) (c_Lpick : Ok_Lpick P w K mg base) (c_Ldraw : Ok_Ldraw P w K mg base)  : Ok_Llabels P w K mg base := by
  obtain ⟨fd, F⟩ := F
  obtain ⟨fd_Lpick, F_Lpick, G_Lpick, g_Lpick⟩ := c_Lpick
  obtain ⟨fd_Ldraw, F_Ldraw, G_Ldraw, g_Ldraw⟩ := c_Ldraw
  refine ⟨fd, F, ok_defG F sc_Llabels (fun cdv A outer s H E hgd hr => ?_), g⟩
  have hu := hr.un
  have u1 : (A.deeper (envOfC "_law_labels" (defScope (top 32)) s.heap.objs.size (ga K "_law_labels") cdv)).units + 1 < cLine := by omega
  have u64 : (A.deeper (envOfC "_law_labels" (defScope (top 32)) s.heap.objs.size (ga K "_law_labels") cdv)).units + 64 < cLine := by omega
  have u65 : (A.deeper (envOfC "_law_labels" (defScope (top 32)) s.heap.objs.size (ga K "_law_labels") cdv)).units + 65 < cLine := by omega
  exact (rs_cons (rs_asg (re_tup (ra_cons re_str (ra_cons (re_lstS ra_nil) ra_nil))) (rg_tup rfl rfl (rgs_cons (rg_name nd_Llabels rfl (by first | exact .inl rfl | exact .inr rfl)) (rgs_cons (rg_name nd_Llabels rfl (by first | exact .inl rfl | exact .inr rfl)) rgs_nil)) rfl)) (rs_cons (rs_for (passes_of rfl) rfl (ri_range1 rfl M.n_range (ra_cons (re_var (pv 1)) ra_nil)) (rg_name nd_Llabels rfl (by first | exact .inl rfl | exact .inr rfl)) (rs_cons (rs_set nd_Llabels rfl (by first | exact .inl rfl | exact .inr rfl) (re_callG (takes_of rfl rfl rfl rfl) G_Lpick fnOf_ar hgd (hr.mono (by decide)) rfl g_Lpick F_Lpick.kp (bd_Lpick F_Lpick) (ra_cons (re_var (pv 0)) (ra_cons (re_lst (ra_cons re_int (ra_cons re_int (ra_cons re_int (ra_cons (re_op (o_add rfl) d_add re_int (re_callG (takes_of rfl rfl rfl rfl) G_Ldraw fnOf_ar hgd (hr.mono (by decide)) rfl g_Ldraw F_Ldraw.kp (bd_Ldraw F_Ldraw) (ra_cons (re_var (pv 0)) (ra_cons re_int ra_nil)))) ra_nil))))) ra_nil)))) (rs_cons (rs_set nd_Llabels rfl (by first | exact .inl rfl | exact .inr rfl) (re_join rfl re_str (re_lc (own := [("_law_turn", 8)]) rfl nd_Llabels (ri_range1 rfl M.n_range (ra_cons (re_var (pv 5)) ra_nil)) (blkOk_by (by kernel_rfl)) (fun _ _ _ _ _ => (rg_name nd_Llabels rfl (by first | exact .inl rfl | exact .inr rfl))) (fun _ _ _ _ _ => ts_nil) (fun _ _ _ _ _ => (re_callG takes0 G_Lpick fnOf_ar hgd (hr.mono (by decide)) rfl g_Lpick F_Lpick.kp (bd_Lpick F_Lpick) (ra_cons (re_var (pv 0)) (ra_cons (re_var (pv 2)) ra_nil)))) (by decide)))) (rs_cons (rs_set nd_Llabels rfl (by first | exact .inl rfl | exact .inr rfl) (re_op (o_add rfl) d_add (re_lst (ra_cons (re_var (pv 6)) ra_nil)) (re_lcE (own := [("_law_letter", 9)]) rfl rfl nd_Llabels (re_var (pv 2)) (blkOk_by (by kernel_rfl)) (fun _ _ _ _ _ => (rg_name nd_Llabels rfl (by first | exact .inl rfl | exact .inr rfl))) (fun _ _ _ _ _ => ts_nil) (fun _ _ _ _ _ => (re_op (o_add rfl) d_add (re_op (o_add rfl) d_add (re_sl rfl (re_var (pv 6)) ro_none (ro_some re_int)) (re_var (pv 9))) re_str)) (by decide)))) (rs_one (rs_expr (re_bm rfl (.inl rfl) d_append (pe_bm PySem.F.plainAttrs_list PySem.F.slot_list_append PySem.F.type_list_append mt_append (re_var (pv 3)) (ra_cons (re_ix rfl (re_lcE (own := [("_law_one", 10)]) rfl rfl nd_Llabels (re_var (pv 7)) (blkOk_by (by kernel_rfl)) (fun _ _ _ _ _ => (rg_name nd_Llabels rfl (by first | exact .inl rfl | exact .inr rfl))) (fun _ _ _ _ _ => (ts_one (rt_cmp (o_notin rfl u65) d_in (re_var (pv 10)) (re_var (pv 3)) (by with_unfolding_all rfl)))) (fun _ _ _ _ _ => (re_var (pv 10))) (by decide)) re_int (fun _ _ => rfl)) ra_nil))))))))) (rs_one (rs_ret (re_var (pv 3))))))
/-! law -/
abbrev Fd_law (K : PySem.W.Frag) (fd : FuncData) : Prop := FnP K "law" "law" (top 44) (ga K "law") fd
theorem nd_law : (["_law_script", "_law_k", "_law_pot_here"] : List Str).Nodup := by decide +kernel
theorem sc_law : FnScope ["_law_script", "_law_k", "_law_pot_here"] ["_law_script"] (defScope (top 44)) := ⟨rfl, rfl, rfl, nd_law, rfl, by decide +kernel, by decide +kernel⟩
theorem bd_law {fd : FuncData} (F : Fd_law K fd) : L2.Binds K fd ["_law_script"] [] := F.bindsN fun _ _ _ _ _ _ us hl => match us, hl with | [_], _ => rfl
def Ok_law (P : Program) (w : World) (K : PySem.W.Frag) (mg : Str → Option Value) (base : Heap) : Prop := ∃ fd, Fd_law K fd ∧ FnG P w K mg base 12 (ga K "law") fd ["_law_script"] (spM ⟨K, mg, [], none⟩ 1 m_law) ∧ mg "law" = some (.ref (ga K "law"))
theorem ok_law (M : Md K mg) (F : ∃ fd, Fd_law K fd) (g : mg "law" = some (.ref (ga K "law"))) (c_Lpot : Ok_Lpot P w K mg base) (c_Lright : Ok_Lright P w K mg base) (c_Llabels : Ok_Llabels P w K mg base) (c_Ldraw : Ok_Ldraw P w K mg base)  : Ok_law P w K mg base := by
  obtain ⟨fd, F⟩ := F
  obtain ⟨fd_Lpot, F_Lpot, G_Lpot, g_Lpot⟩ := c_Lpot
  obtain ⟨fd_Lright, F_Lright, G_Lright, g_Lright⟩ := c_Lright
  obtain ⟨fd_Llabels, F_Llabels, G_Llabels, g_Llabels⟩ := c_Llabels
  obtain ⟨fd_Ldraw, F_Ldraw, G_Ldraw, g_Ldraw⟩ := c_Ldraw
  refine ⟨fd, F, ok_defG F sc_law (fun cdv A outer s H E hgd hr => ?_), g⟩
  have hu := hr.un
  have u1 : (A.deeper (envOfC "law" (defScope (top 44)) s.heap.objs.size (ga K "law") cdv)).units + 1 < cLine := by omega
  have u64 : (A.deeper (envOfC "law" (defScope (top 44)) s.heap.objs.size (ga K "law") cdv)).units + 64 < cLine := by omega
  have u65 : (A.deeper (envOfC "law" (defScope (top 44)) s.heap.objs.size (ga K "law") cdv)).units + 65 < cLine := by omega
  exact (rs_cons (rs_for (passes_of rfl) rfl (ri_range1 rfl M.n_range (ra_cons (re_B (call_max2 rfl) d_max rfl M.n_max bb_max (ra_cons re_int (ra_cons (re_B (call_min2 rfl) d_min rfl M.n_min bb_min (ra_cons (re_B call_len d_len rfl M.n_len bb_len (ra_cons (re_var (pv 0)) ra_nil)) (ra_cons re_int ra_nil))) ra_nil))) ra_nil)) (rg_name nd_law rfl (by first | exact .inl rfl | exact .inr rfl)) (rs_cons (rs_set nd_law rfl (by first | exact .inl rfl | exact .inr rfl) (re_callG (takes_of rfl rfl rfl rfl) G_Lpot fnOf_ar hgd (hr.mono (by decide)) rfl g_Lpot F_Lpot.kp (bd_Lpot F_Lpot) (ra_cons (re_var (pv 0)) (ra_cons (re_var (pv 1)) ra_nil)))) (rs_one (rs_if (rt_not (rt_of (re_callG (takes_of rfl rfl rfl rfl) G_Lright fnOf_ar hgd (hr.mono (by decide)) rfl g_Lright F_Lright.kp (bd_Lright F_Lright) (ra_cons (re_var (pv 2)) (ra_cons (re_callG (takes_of rfl rfl rfl rfl) G_Llabels fnOf_ar hgd (hr.mono (by decide)) rfl g_Llabels F_Llabels.kp (bd_Llabels F_Llabels) (ra_cons (re_var (pv 2)) (ra_cons (re_op (o_add rfl) d_add re_int (re_callG (takes_of rfl rfl rfl rfl) G_Ldraw fnOf_ar hgd (hr.mono (by decide)) rfl g_Ldraw F_Ldraw.kp (bd_Ldraw F_Ldraw) (ra_cons (re_var (pv 2)) (ra_cons re_int ra_nil)))) ra_nil))) ra_nil))))) (rs_one (rs_ret re_bl)) rs_nil)))) (rs_one (rs_ret re_bl)))
end
end Mi
end T_G35a
section T_Pl
set_option Elab.async false
set_option linter.all false
set_option maxRecDepth 100000
set_option maxHeartbeats 1000000
/-! Pl: reasoning over mirrors: what a word gives. -/
namespace Mi
open PySem L2
/-- it ends well, and Q holds -/
def Wp {α : Type} (r : Res α) (Q : α → Sto → Prop) : Prop := match r with
  | .ok a S => Q a S
  | _ => False
/-- a statement: goes on (N) or returns (R) -/
def WpS (r : SR) (N : En → Sto → Prop) (R : Dv → Sto → Prop) : Prop := match r with
  | .nx δ S => N δ S
  | .rt d S => R d S
  | _ => False
theorem Wp.mono {α : Type} {r : Res α} {Q Q' : α → Sto → Prop} (h : Wp r Q) (k : ∀ a S, Q a S → Q' a S) : Wp r Q' := by
  cases r with
  | ok a S => exact k a S h
  | ex x S => exact h
  | bad => exact h
theorem WpS.mono {r : SR} {N N' : En → Sto → Prop} {R R' : Dv → Sto → Prop} (h : WpS r N R) (k : ∀ a S, N a S → N' a S) (l : ∀ a S, R a S → R' a S) : WpS r N' R' := by
  cases r with
  | nx δ S => exact k δ S h
  | rt d S => exact l d S h
  | bk δ S => exact h
  | ct δ S => exact h
  | ex x δ S => exact h
  | bad => exact h
theorem Wp.ex {α : Type} {r : Res α} {Q : α → Sto → Prop} (h : Wp r Q) : ∃ a S, r = .ok a S ∧ Q a S := by
  cases r with
  | ok a S => exact ⟨a, S, rfl, h⟩
  | ex x S => exact h.elim
  | bad => exact h.elim
theorem Wp.of_eq {α : Type} {r : Res α} {Q : α → Sto → Prop} {a : α} {S : Sto} (e : r = .ok a S) (h : Q a S) : Wp r Q := by
  rw [e]
  exact h
section
variable {α β : Type} {Q : α → Sto → Prop} {S : Sto} {δ : En} {N : En → Sto → Prop} {R : Dv → Sto → Prop} {P : Dv → Sto → Prop} {PB : Bool → Sto → Prop} {PA : List Dv → Sto → Prop}
@[simp] theorem wp_ok {a : α} : Wp (.ok a S) Q = Q a S := rfl
@[simp] theorem wp_pure {a : α} : Wp (M.pure a S) Q = Q a S := rfl
theorem wp_bind {m : M β} {k : β → M α} : Wp (M.bind m k S) Q = Wp (m S) fun b S1 => Wp (k b S1) Q := by
  unfold M.bind
  cases m S <;> rfl
@[simp] theorem wp_var {i : Nat} {d : Dv} (h : δ[i]? = some (some d)) : Wp (eVar i δ S) P = P d S := by
  unfold eVar
  rw [h]
  rfl
@[simp] theorem wp_c {d : Dv} : Wp (eC d δ S) P = P d S := rfl
@[simp] theorem wp_e1 {f : Dv → M Dv} {a : EX} : Wp (e1 f a δ S) P = Wp (a δ S) fun x S1 => Wp (f x S1) P := wp_bind
@[simp] theorem wp_e2 {f : Dv → Dv → M Dv} {a b : EX} : Wp (e2 f a b δ S) P = Wp (a δ S) fun x S1 => Wp (b δ S1) fun y S2 => Wp (f x y S2) P := by
  unfold e2
  rw [wp_bind]
  congr
  funext x S1
  rw [wp_bind]
@[simp] theorem wp_nil : Wp (aNil δ S) PA = PA [] S := rfl
@[simp] theorem wp_cons {a : EX} {r : EA} : Wp (aCons a r δ S) PA = Wp (a δ S) fun x S1 => Wp (r δ S1) fun xs S2 => PA (x :: xs) S2 := by
  unfold aCons
  rw [wp_bind]
  congr
  funext x S1
  rw [wp_bind]
  rfl
@[simp] theorem wp_eN {f : List Dv → M Dv} {a : EA} : Wp (eN f a δ S) P = Wp (a δ S) fun x S1 => Wp (f x S1) P := wp_bind
@[simp] theorem wp_eK {f : List Dv → M Dv} {js : List Nat} {a : EA} : Wp (eK f js a δ S) P = Wp (a δ S) fun ds S1 => Wp ((if ds.length = js.length then f (pick js ds) else mBad) S1) P := wp_bind
@[simp] theorem wp_if {c : EB} {a b : EX} : Wp (eIf c a b δ S) P = Wp (c δ S) fun t S1 => if t = true then Wp (a δ S1) P else Wp (b δ S1) P := by
  unfold eIf
  rw [wp_bind]
  congr
  funext t S1
  cases t <;> rfl
/-- a value is a truth -/
def IsB (d : Dv) (K : Bool → Prop) : Prop := match d with
  | .bl b => K b
  | _ => False
@[simp] theorem isB_bl {b : Bool} {K : Bool → Prop} : IsB (.bl b) K = K b := rfl
@[simp] theorem wp_bOf {a : EX} : Wp (bOf a δ S) PB = Wp (a δ S) fun x S1 => IsB x fun b => PB b S1 := by
  unfold bOf
  rw [wp_bind]
  congr
  funext x S1
  cases x <;> rfl
@[simp] theorem wp_bAnd {a b : EB} : Wp (bAnd a b δ S) PB = Wp (a δ S) fun x S1 => if x = true then Wp (b δ S1) PB else PB false S1 := by
  unfold bAnd
  rw [wp_bind]
  congr
  funext x S1
  cases x <;> rfl
@[simp] theorem wp_bOr {a b : EB} : Wp (bOr a b δ S) PB = Wp (a δ S) fun x S1 => if x = true then PB true S1 else Wp (b δ S1) PB := by
  unfold bOr
  rw [wp_bind]
  congr
  funext x S1
  cases x <;> rfl
@[simp] theorem wp_bNot {a : EB} : Wp (bNot a δ S) PB = Wp (a δ S) fun x S1 => PB (!x) S1 := by
  unfold bNot
  rw [wp_bind]
  rfl
@[simp] theorem wp_eNot {a : EX} : Wp (eNot a δ S) P = Wp (a δ S) fun x S1 => IsB x fun b => P (.bl (!b)) S1 := by
  unfold eNot
  rw [wp_bind]
  congr
  funext x S1
  cases x <;> rfl
@[simp] theorem wp_eAnd {a b : EX} : Wp (eAnd a b δ S) P = Wp (a δ S) fun x S1 => IsB x fun t => if t = true then Wp (b δ S1) P else P (.bl false) S1 := by
  unfold eAnd
  rw [wp_bind]
  congr
  funext x S1
  cases x with
  | bl t => cases t <;> rfl
  | _ => rfl
@[simp] theorem wp_eOr {a b : EX} : Wp (eOr a b δ S) P = Wp (a δ S) fun x S1 => IsB x fun t => if t = true then P (.bl true) S1 else Wp (b δ S1) P := by
  unfold eOr
  rw [wp_bind]
  congr
  funext x S1
  cases x with
  | bl t => cases t <;> rfl
  | _ => rfl
@[simp] theorem wp_chain {f g : Dv → Dv → M Dv} {a b c : EX} : Wp (eChain f g a b c δ S) P = Wp (a δ S) fun x S1 => Wp (b δ S1) fun y S2 => Wp (f x y S2) fun z S3 => IsB z fun t => if t = true then Wp (c δ S3) fun w S4 => Wp (g y w S4) P else P (.bl false) S3 := by
  unfold eChain
  rw [wp_bind]
  congr
  funext x S1
  rw [wp_bind]
  congr
  funext y S2
  rw [wp_bind]
  congr
  funext z S3
  cases z with
  | bl t =>
    cases t
    · rfl
    · show Wp (M.bind _ _ _) P = _
      rw [wp_bind]
      rfl
  | _ => rfl
/-! statements -/
theorem wps_on {r : Res α} {k : α → Sto → SR} : WpS (onOk r δ k) N R = Wp r fun a S1 => WpS (k a S1) N R := by
  cases r <;> rfl
@[simp] theorem wps_nil : WpS (sNil δ S) N R = N δ S := rfl
@[simp] theorem wps_seq {a b : SM} : WpS (sSeq a b δ S) N R = WpS (a δ S) (fun δ' S' => WpS (b δ' S') N R) R := by
  unfold sSeq
  cases a δ S <;> rfl
@[simp] theorem wps_if {c : EB} {a b : SM} : WpS (sIf c a b δ S) N R = Wp (c δ S) fun t S' => if t = true then WpS (a δ S') N R else WpS (b δ S') N R := by
  unfold sIf
  rw [wps_on]
  congr
  funext t S'
  cases t <;> rfl
@[simp] theorem wps_set {i : Nat} {e : EX} : WpS (sSet i e δ S) N R = Wp (e δ S) fun d S' => N (δ.set i (some d)) S' := wps_on
@[simp] theorem wps_ret {e : EX} : WpS (sRet e δ S) N R = Wp (e δ S) R := wps_on
@[simp] theorem wps_expr {e : EX} : WpS (sExpr e δ S) N R = Wp (e δ S) fun _ S' => N δ S' := wps_on
def OnS {α : Type} (o : Option α) (K : α → Prop) : Prop := match o with
  | some a => K a
  | none => False
@[simp] theorem onS_some {a : α} {K : α → Prop} : OnS (some a) K = K a := rfl
@[simp] theorem wps_par {is : List Nat} {a : EA} : WpS (sPar is a δ S) N R = Wp (a δ S) fun ds S' => OnS (setAll δ is ds) fun δ' => N δ' S' := by
  unfold sPar
  rw [wps_on]
  congr
  funext ds S'
  cases setAll δ is ds <;> rfl
@[simp] theorem wps_asg {g : TGm} {e : EX} : WpS (sAsg g e δ S) N R = Wp (e δ S) fun d S' => OnS (g d δ S') fun z => N z.1 z.2 := by
  unfold sAsg
  rw [wps_on]
  congr
  funext d S'
  cases g d δ S' with
  | none => rfl
  | some z => rfl
@[simp] theorem wps_aug {i : Nat} {f : Dv → Dv → M Dv} {e : EX} : WpS (sAug i f e δ S) N R = Wp (eVar i δ S) fun x S1 => Wp (e δ S1) fun y S2 => Wp (f x y S2) fun z S3 => N (δ.set i (some z)) S3 := by
  unfold sAug
  rw [wps_on]
  congr
  funext x S1
  rw [wps_on]
  congr
  funext y S2
  rw [wps_on]
  rfl
theorem wp_fn {k n : Nat} {b : SM} {ds : List Dv} (h : ds.length = k) : Wp (fnOf k n b ds S) P = WpS (b (ds.map some ++ List.replicate (n - k) none) S) (fun _ S' => P .non S') P := by
  unfold fnOf
  rw [if_pos h]
  cases b (ds.map some ++ List.replicate (n - k) none) S <;> rfl
/-! loops -/
theorem wps_for {it : EA} {g : TGm} {body : SM} : WpS (sFor it g body δ S) N R = Wp (it δ S) fun ds S' => WpS (forGo g body ds δ S') N R := wps_on
/-- a loop's invariant: at the rest of the items -/
theorem wps_forGo {g : TGm} {body : SM} (J : List Dv → En → Sto → Prop) (hN : ∀ δ S, J [] δ S → N δ S) (step : ∀ d r δ S, J (d :: r) δ S → OnS (g d δ S) fun z => WpS (body z.1 z.2) (J r) R) : ∀ (ds : List Dv) (δ : En) (S : Sto), J ds δ S → WpS (forGo g body ds δ S) N R
  | [], δ, S, h => hN δ S h
  | d :: r, δ, S, h => by
    have z := step d r δ S h
    unfold forGo
    cases e : g d δ S with
    | none => rw [e] at z; exact z.elim
    | some q =>
      obtain ⟨δ1, S1⟩ := q
      rw [e] at z
      have z : WpS (body δ1 S1) (J r) R := z
      dsimp only
      cases e2 : body δ1 S1 with
      | nx δ' S' => rw [e2] at z; exact wps_forGo J hN step r δ' S' z
      | rt d S' => rw [e2] at z; exact z
      | bk δ' S' => rw [e2] at z; exact z.elim
      | ct δ' S' => rw [e2] at z; exact z.elim
      | ex x δ' S' => rw [e2] at z; exact z.elim
      | bad => rw [e2] at z; exact z.elim
/-- a walk over a list of the store that stays as it is -/
theorem wps_forL {n : Nat} {g : TGm} {body : SM} (J : List Dv → En → Sto → Prop) (ds : List Dv) (hS : ∀ r δ S, J r δ S → S[n]? = some (.lst ds)) (hN : ∀ δ S, J [] δ S → N δ S) (step : ∀ d r δ S, J (d :: r) δ S → OnS (g d δ S) fun z => WpS (body z.1 z.2) (J r) R) :
    ∀ (f i : Nat) (δ : En) (S : Sto), ds.length < i + f → i ≤ ds.length → J (ds.drop i) δ S → WpS (forLGo n g body f i δ S) N R
  | 0, i, δ, S, hf, hl, h => by omega
  | f + 1, i, δ, S, hf, hl, h => by
    unfold forLGo nxL
    rw [hS _ _ _ h]
    by_cases hi : i < ds.length
    · have e0 : ds.drop i = ds[i] :: ds.drop (i + 1) := List.drop_eq_getElem_cons hi
      rw [e0] at h
      have z := step _ _ δ S h
      dsimp only
      rw [List.getElem?_eq_getElem hi]
      dsimp only
      cases e : g ds[i] δ S with
      | none => rw [e] at z; exact z.elim
      | some q =>
        obtain ⟨δ1, S1⟩ := q
        rw [e] at z
        have z : WpS (body δ1 S1) (J (ds.drop (i + 1))) R := z
        dsimp only
        cases e2 : body δ1 S1 with
        | nx δ' S' => rw [e2] at z; exact wps_forL J ds hS hN step f (i + 1) δ' S' (by omega) (by omega) z
        | rt d S' => rw [e2] at z; exact z
        | bk δ' S' => rw [e2] at z; exact z.elim
        | ct δ' S' => rw [e2] at z; exact z.elim
        | ex x δ' S' => rw [e2] at z; exact z.elim
        | bad => rw [e2] at z; exact z.elim
    · have e : ds.drop i = [] := List.drop_eq_nil_of_le (by omega)
      rw [e] at h
      dsimp only
      rw [List.getElem?_eq_none (by omega)]
      exact hN δ S h
@[simp] theorem wps_forE {e : EX} {g : TGm} {body : SM} : WpS (sForE e g body δ S) N R = Wp (e δ S) fun d S' => WpS (forE g body d δ S') N R := wps_on
/-- while: by an invariant with a measure -/
theorem wps_while {c : EB} {body : SM} (J : Nat → En → Sto → Prop) (step : ∀ m δ S, J m δ S → Wp (c δ S) fun t S1 => if t = true then 0 < m ∧ WpS (body δ S1) (J (m - 1)) R else N δ S1) : ∀ (n m : Nat) (δ : En) (S : Sto), m < n → J m δ S → WpS (sWhile n c body δ S) N R
  | 0, m, _, _, h, _ => by omega
  | n + 1, m, δ, S, h, j => by
    unfold sWhile whGo
    rw [wps_on]
    refine (step m δ S j).mono fun t S1 q => ?_
    cases t with
    | false => exact q
    | true =>
      obtain ⟨hm, z⟩ := q
      rw [if_pos rfl]
      cases e2 : body δ S1 with
      | nx δ' S' => rw [e2] at z; exact wps_while J step n (m - 1) δ' S' (by omega) z
      | rt d S' => rw [e2] at z; exact z
      | bk δ' S' => rw [e2] at z; exact z.elim
      | ct δ' S' => rw [e2] at z; exact z.elim
      | ex x δ' S' => rw [e2] at z; exact z.elim
      | bad => rw [e2] at z; exact z.elim
/-! comprehensions -/
/-- the turns, by an invariant of what was made -/
theorem wp_lcGo {g : TGm} {t : EB} {e : EX} (J : List Dv → List Dv → Sto → Prop) (step : ∀ d r acc S, J (d :: r) acc S → OnS (g d δ S) fun z => Wp (t z.1 z.2) fun b S2 => if b = true then Wp (e z.1 S2) fun y S3 => J r (acc ++ [y]) S3 else J r acc S2) :
    ∀ (ds acc : List Dv) (S : Sto), J ds acc S → Wp (lcGo g t e δ ds acc S) fun ys S' => J [] ys S'
  | [], acc, S, h => h
  | d :: r, acc, S, h => by
    have z := step d r acc S h
    unfold lcGo
    cases e1 : g d δ S with
    | none => rw [e1] at z; exact z.elim
    | some q =>
      obtain ⟨δ1, S1⟩ := q
      rw [e1] at z
      have z : Wp (t δ1 S1) fun b S2 => if b = true then Wp (e δ1 S2) fun y S3 => J r (acc ++ [y]) S3 else J r acc S2 := z
      dsimp only
      cases e2 : t δ1 S1 with
      | bad => rw [e2] at z; exact z.elim
      | ex x S2 => rw [e2] at z; exact z.elim
      | ok b S2 =>
        rw [e2] at z
        cases b with
        | false => exact wp_lcGo J step r acc S2 z
        | true =>
          have z : Wp (e δ1 S2) fun y S3 => J r (acc ++ [y]) S3 := z
          dsimp only
          cases e3 : e δ1 S2 with
          | bad => rw [e3] at z; exact z.elim
          | ex x S3 => rw [e3] at z; exact z.elim
          | ok y S3 =>
            rw [e3] at z
            exact wp_lcGo J step r (acc ++ [y]) S3 z
/-- pure turns -/
theorem lcGo_pure {ι : Type} {g : TGm} {t : EB} {e : EX} {p : ι → Bool} {f : ι → Dv} (enc : ι → Dv) : ∀ (xs : List ι) (acc : List Dv), (∀ x ∈ xs, OnS (g (enc x) δ S) fun z => z.2 = S ∧ t z.1 S = .ok (p x) S ∧ (p x = true → e z.1 S = .ok (f x) S)) → lcGo g t e δ (xs.map enc) acc S = .ok (acc ++ (xs.filter p).map f) S
  | [], acc, _ => by simp [lcGo]
  | x :: r, acc, h => by
    have z := h x (by simp)
    have ih := fun acc => lcGo_pure enc r acc fun x hx => h x (List.mem_cons_of_mem _ hx)
    rw [List.map_cons]
    unfold lcGo
    cases e1 : g (enc x) δ S with
    | none => rw [e1] at z; exact z.elim
    | some q =>
      obtain ⟨δ1, S1⟩ := q
      rw [e1] at z
      obtain ⟨rfl, z2, z3⟩ := z
      dsimp only
      have z2 : t δ1 S1 = .ok (p x) S1 := z2
      rw [z2]
      cases hp : p x with
      | false =>
        dsimp only
        rw [ih acc, List.filter_cons_of_neg (by simp [hp])]
      | true =>
        have z3 : e δ1 S1 = .ok (f x) S1 := z3 hp
        dsimp only
        rw [z3]
        dsimp only
        rw [ih (acc ++ [f x]), List.filter_cons_of_pos hp]
        simp
theorem lcEnd_filter {ι : Type} {g : TGm} {t : EB} {e : EX} {p : ι → Bool} {f : ι → Dv} (enc : ι → Dv) (xs : List ι) (hl : xs.length ≤ lim) (h : ∀ x ∈ xs, OnS (g (enc x) δ S) fun z => z.2 = S ∧ t z.1 S = .ok (p x) S ∧ (p x = true → e z.1 S = .ok (f x) S)) : lcEnd g t e δ (xs.map enc) S = .ok (.lst ((xs.filter p).map f)) S := by
  unfold lcEnd
  rw [if_pos (by simpa using hl), lcGo_pure enc xs [] h]
  rfl
theorem lcEnd_map {ι : Type} {g : TGm} {e : EX} {f : ι → Dv} (enc : ι → Dv) (xs : List ι) (hl : xs.length ≤ lim) (h : ∀ x ∈ xs, OnS (g (enc x) δ S) fun z => z.2 = S ∧ e z.1 S = .ok (f x) S) : lcEnd g bYes e δ (xs.map enc) S = .ok (.lst (xs.map f)) S := by
  have := lcEnd_filter (t := bYes) (δ := δ) (S := S) (p := fun _ => true) (f := f) (g := g) (e := e) enc xs hl fun x hx => by
    have z := h x hx
    cases e1 : g (enc x) δ S with
    | none => rw [e1] at z; exact z.elim
    | some q => rw [e1] at z; exact ⟨z.1, rfl, fun _ => z.2⟩
  rw [this, List.filter_eq_self.mpr (fun _ _ => rfl)]
theorem Wp.eq {r : Res α} {x : α} (h : Wp r fun a S' => a = x ∧ S' = S) : r = .ok x S := by
  obtain ⟨a, S', e, rfl, rfl⟩ := h.ex
  exact e
/-- a def's call -/
theorem fn_eq {k n : Nat} {b : SM} {ds : List Dv} {d : Dv} {S' : Sto} (h : ds.length = k) (hb : WpS (b (ds.map some ++ List.replicate (n - k) none) S) (fun _ S1 => d = .non ∧ S1 = S') (fun x S1 => x = d ∧ S1 = S')) : fnOf k n b ds S = .ok d S' := by
  apply Wp.eq
  rw [wp_fn h]
  exact hb.mono (fun _ _ z => ⟨z.1.symm, z.2⟩) (fun _ _ z => z)
@[simp] theorem wp_lc {it : EA} {g : TGm} {t : EB} {e : EX} {vs : List Nat} : Wp (eLc it g t e vs δ S) P = Wp (it δ S) fun ds S' => Wp (lcEnd g t e (wipeD δ vs) ds S') P := wp_bind
@[simp] theorem wp_lcE {a : EX} {g : TGm} {t : EB} {e : EX} {vs : List Nat} : Wp (eLcE a g t e vs δ S) P = Wp (a δ S) fun d S' => Wp (lcE g t e (wipeD δ vs) d S') P := wp_bind
theorem wp_lcEnd {g : TGm} {t : EB} {e : EX} {ds : List Dv} (h : ds.length ≤ lim) : Wp (lcEnd g t e δ ds S) P = Wp (lcGo g t e δ ds [] S) fun ys S' => P (.lst ys) S' := by
  unfold lcEnd
  rw [if_pos h]
  cases lcGo g t e δ ds [] S <;> rfl
@[simp] theorem lcE_tup {g : TGm} {t : EB} {e : EX} {ds : List Dv} : lcE g t e δ (.tup ds) S = lcEnd g t e δ ds S := rfl
@[simp] theorem lcE_lst {g : TGm} {t : EB} {e : EX} {ds : List Dv} : lcE g t e δ (.lst ds) S = lcEnd g t e δ ds S := rfl
@[simp] theorem lcE_str {g : TGm} {t : EB} {e : EX} {x : Str} : lcE g t e δ (.str x) S = lcEnd g t e δ (x.cps.toList.map fun c => .str ⟨#[c]⟩) S := rfl
/-! ranges -/
@[simp] theorem wp_range1 {a : EA} : Wp (iRange1 a δ S) PA = Wp (a δ S) fun ds S1 => Wp (mRange1 ds S1) PA := wp_bind
@[simp] theorem wp_range2 {a : EA} : Wp (iRange2 a δ S) PA = Wp (a δ S) fun ds S1 => Wp (mRange2 ds S1) PA := wp_bind
@[simp] theorem wp_iOf {a : EX} : Wp (iOf a δ S) PA = Wp (a δ S) fun d S1 => Wp (mItems d S1) PA := wp_bind
@[simp] theorem wp_iEnum {a : EA} : Wp (iEnum a δ S) PA = Wp (a δ S) fun ds S1 => Wp (mEnum ds S1) PA := wp_bind
/-! slices, methods -/
@[simp] theorem wp_sl {a : EX} {lo hi : EO} : Wp (eSl a lo hi δ S) P = Wp (a δ S) fun x S1 => Wp (lo δ S1) fun l S2 => Wp (hi δ S2) fun h S3 => Wp (mSl l h x S3) P := by
  unfold eSl
  rw [wp_bind]
  congr
  funext x S1
  rw [wp_bind]
  congr
  funext l S2
  rw [wp_bind]
@[simp] theorem wp_oNone {Q : Option Int → Sto → Prop} : Wp (oNone δ S) Q = Q none S := rfl
def IsI (d : Dv) (K : Int → Prop) : Prop := match d with
  | .int i => K i
  | _ => False
@[simp] theorem isI_int {i : Int} {K : Int → Prop} : IsI (.int i) K = K i := rfl
@[simp] theorem wp_oSome {a : EX} {Q : Option Int → Sto → Prop} : Wp (oSome a δ S) Q = Wp (a δ S) fun x S1 => IsI x fun i => Q (some i) S1 := by
  unfold oSome
  rw [wp_bind]
  congr
  funext x S1
  cases x <;> rfl
@[simp] theorem wp_mth {T : String} {f : Dv → List Dv → M Dv} {o : EX} {a : EA} : Wp (eMth T f o a δ S) P = Wp (o δ S) fun x S1 => kind S1 x = some T ∧ Wp (a δ S1) fun ds S2 => Wp (f x ds S2) P := by
  unfold eMth
  rw [wp_bind]
  congr
  funext x S1
  by_cases h : kind S1 x = some T
  · rw [if_pos h, wp_bind]
    simp [h]
  · rw [if_neg h]
    simp [h, Wp]
theorem lim_eq : lim = 100000 := rfl
def IsS (d : Dv) (K : Str → Prop) : Prop := match d with
  | .str i => K i
  | _ => False
@[simp] theorem isS_str {i : Str} {K : Str → Prop} : IsS (.str i) K = K i := rfl
theorem wp_join {o a : EX} : Wp (eJoin o a δ S) P = Wp (o δ S) fun d S1 => IsS d fun x => Wp (a δ S1) fun l S2 => Wp (mJoin (.str x) [l] S2) P := by
  unfold eJoin
  rw [wp_bind]
  congr
  funext d S1
  cases d with
  | str x =>
    show Wp (M.bind _ _ _) P = _
    rw [wp_bind]
    rfl
  | _ => rfl
theorem strsOf_map : ∀ xs : List Str, strsOf (xs.map Dv.str) = some xs
  | [] => rfl
  | x :: xs => by
    show (strsOf (xs.map Dv.str)).map _ = _
    rw [strsOf_map xs]
    rfl
theorem mJoin_lst {x : Str} {ys : List Str} (h : (ys.map fun y : Str => y.length).sum + ys.length * x.length ≤ lim) : mJoin (.str x) [.lst (ys.map Dv.str)] S = .ok (.str (Str.join x ys)) S := by
  show (match strsOf (ys.map Dv.str) with | some ys => if (ys.map fun y : Str => y.length).sum + ys.length * x.length ≤ lim then Res.ok (Dv.str (Str.join x ys)) S else .bad | none => .bad) = _
  rw [strsOf_map]
  dsimp only
  rw [if_pos h]
theorem fn_wp {k n : Nat} {b : SM} {ds : List Dv} (h : ds.length = k) (hb : WpS (b (ds.map some ++ List.replicate (n - k) none) S) (fun _ S' => P .non S') P) : Wp (fnOf k n b ds S) P := by
  rw [wp_fn h]
  exact hb
/-- a loop by the number of the turn -/
theorem wps_forIx {g : TGm} {body : SM} (J : Nat → En → Sto → Prop) (ds : List Dv) (h0 : J 0 δ S) (hN : ∀ δ S, J ds.length δ S → N δ S) (step : ∀ k (hk : k < ds.length) δ S, J k δ S → OnS (g ds[k] δ S) fun z => WpS (body z.1 z.2) (J (k + 1)) R) : WpS (forGo g body ds δ S) N R := by
  refine wps_forGo (fun r δ S => ∃ k, k ≤ ds.length ∧ r = ds.drop k ∧ J k δ S) (fun δ S ⟨k, h1, h2, h3⟩ => ?hn) (fun d r δ S ⟨k, h1, h2, h3⟩ => ?hs) ds δ S ⟨0, Nat.zero_le _, rfl, h0⟩
  case hn =>
    have e : k = ds.length := by
      have := congrArg List.length h2
      simp at this
      omega
    subst e
    exact hN δ S h3
  case hs =>
    by_cases hk : k < ds.length
    · rw [List.drop_eq_getElem_cons hk] at h2
      have e1 := (List.cons.inj h2).1
      have e2 := (List.cons.inj h2).2
      subst e1 e2
      have z := step k hk δ S h3
      cases e : g ds[k] δ S with
      | none => rw [e] at z; exact z
      | some q =>
        rw [e] at z
        exact WpS.mono z (fun δ' S' j => ⟨k + 1, hk, rfl, j⟩) fun _ _ q => q
    · rw [List.drop_eq_nil_of_le (by omega)] at h2
      cases h2
/-- .. over a list of the store that stays -/
theorem wps_forLIx {n : Nat} {g : TGm} {body : SM} (J : Nat → En → Sto → Prop) (ds : List Dv) (hl : ds.length < lim) (hS : ∀ k δ S, J k δ S → S[n]? = some (.lst ds)) (h0 : J 0 δ S) (hN : ∀ δ S, J ds.length δ S → N δ S) (step : ∀ k (hk : k < ds.length) δ S, J k δ S → OnS (g ds[k] δ S) fun z => WpS (body z.1 z.2) (J (k + 1)) R) :
    WpS (forE g body (.loc n) δ S) N R := by
  show WpS (forLGo n g body lim 0 δ S) N R
  refine wps_forL (fun r δ S => ∃ k, k ≤ ds.length ∧ r = ds.drop k ∧ J k δ S) ds (fun r δ S ⟨k, _, _, h⟩ => hS k δ S h) (fun δ S ⟨k, h1, h2, h3⟩ => ?hn) (fun d r δ S ⟨k, h1, h2, h3⟩ => ?hs) lim 0 δ S (by omega) (Nat.zero_le _) ⟨0, Nat.zero_le _, rfl, h0⟩
  case hn =>
    have e : k = ds.length := by
      have := congrArg List.length h2
      simp at this
      omega
    subst e
    exact hN δ S h3
  case hs =>
    by_cases hk : k < ds.length
    · rw [List.drop_eq_getElem_cons hk] at h2
      have e1 := (List.cons.inj h2).1
      have e2 := (List.cons.inj h2).2
      subst e1 e2
      have z := step k hk δ S h3
      cases e : g ds[k] δ S with
      | none => rw [e] at z; exact z
      | some q =>
        rw [e] at z
        exact WpS.mono z (fun δ' S' j => ⟨k + 1, hk, rfl, j⟩) fun _ _ q => q
    · rw [List.drop_eq_nil_of_le (by omega)] at h2
      cases h2
/-- a comprehension by the number of the turn -/
theorem wp_lcIx {g : TGm} {t : EB} {e : EX} (J : Nat → List Dv → Sto → Prop) (ds : List Dv) (hl : ds.length ≤ lim) (h0 : J 0 [] S) (hP : ∀ ys S, J ds.length ys S → P (.lst ys) S) (step : ∀ k (hk : k < ds.length) acc S, J k acc S → OnS (g ds[k] δ S) fun z => Wp (t z.1 z.2) fun b S2 => if b = true then Wp (e z.1 S2) fun y S3 => J (k + 1) (acc ++ [y]) S3 else J (k + 1) acc S2) :
    Wp (lcEnd g t e δ ds S) P := by
  rw [wp_lcEnd hl]
  refine (wp_lcGo (fun r acc S => ∃ k, k ≤ ds.length ∧ r = ds.drop k ∧ J k acc S) (fun d r acc S ⟨k, h1, h2, h3⟩ => ?_) ds [] S ⟨0, Nat.zero_le _, rfl, h0⟩).mono fun ys S' ⟨k, h1, h2, h3⟩ => ?_
  · by_cases hk : k < ds.length
    · rw [List.drop_eq_getElem_cons hk] at h2
      have e1 := (List.cons.inj h2).1
      have e2 := (List.cons.inj h2).2
      subst e1 e2
      have z := step k hk acc S h3
      cases e : g ds[k] δ S with
      | none => rw [e] at z; exact z
      | some q =>
        rw [e] at z
        refine Wp.mono z fun b S2 z2 => ?_
        cases b with
        | false => exact ⟨k + 1, hk, rfl, z2⟩
        | true => exact Wp.mono z2 fun y S3 z3 => ⟨k + 1, hk, rfl, z3⟩
    · rw [List.drop_eq_nil_of_le (by omega)] at h2
      cases h2
  · have e : k = ds.length := by
      have := congrArg List.length h2
      simp at this
      omega
    subst e
    exact hP ys S' h3
@[simp] theorem get_last {o : Ob} : (S ++ [o])[S.length]? = some o := by simp
@[simp] theorem set_last {o o' : Ob} : (S ++ [o]).set S.length o' = S ++ [o'] := by simp
theorem mRange1_nat {n : Nat} (h : n ≤ lim) : mRange1 [.int (n : Int)] S = .ok ((List.range n).map fun i => .int (i : Nat)) S := by
  show (if -(lim : Int) ≤ (n : Int) ∧ (n : Int) ≤ lim then M.pure _ else mBad) S = _
  rw [if_pos ⟨by omega, by omega⟩]
  rfl
theorem mRange2_nat {a n : Nat} (h : a + n ≤ lim) {j : Int} (hj : j = ((a + n : Nat) : Int)) : mRange2 [.int (a : Int), .int j] S = .ok ((List.range n).map fun i => .int ((a : Int) + (i : Nat))) S := by
  subst hj
  show (if -(lim : Int) ≤ (a : Int) ∧ (a : Int) ≤ lim ∧ -(lim : Int) ≤ ((a + n : Nat) : Int) ∧ ((a + n : Nat) : Int) ≤ lim then M.pure _ else mBad) S = _
  rw [if_pos ⟨by omega, by omega, by omega, by omega⟩]
  have e : (((a + n : Nat) : Int) - (a : Int)).toNat = n := by omega
  rw [e]
  rfl
theorem blsOf_map : ∀ bs : List Bool, blsOf (bs.map Dv.bl) = some bs
  | [] => rfl
  | b :: bs => by
    show (blsOf (bs.map Dv.bl)).map (b :: ·) = _
    rw [blsOf_map bs]
    rfl
theorem mAll_lst {bs : List Bool} : mAll [.lst (bs.map Dv.bl)] S = .ok (.bl (bs.all id)) S := by
  show (match blsOf (bs.map Dv.bl) with | some bs => Res.ok (Dv.bl (bs.all id)) S | none => .bad) = _
  rw [blsOf_map]
theorem mAll_map {ι : Type} {xs : List ι} {p : ι → Bool} : mAll [.lst (xs.map fun x => Dv.bl (p x))] S = .ok (.bl (xs.all p)) S := by
  have := mAll_lst (S := S) (bs := xs.map p)
  simpa [List.map_map, Function.comp_def] using this
end
end Mi
end T_Pl
section T_P35
set_option Elab.async false
set_option linter.all false
set_option maxRecDepth 100000
set_option maxHeartbeats 1000000
namespace Mi
open PySem L2
abbrev Wst := Str × Int
def sD (s : Wst) : Dv := .tup [.str s.1, .int s.2]
def wD (w : List Wst) : Dv := .tup (w.map sD)
def inv1 (s : Wst) : Wst := (s.1, -s.2)
def inv (w : List Wst) : List Wst := w.reverse.map inv1
theorem turned_ok (s : Wst) (S : Sto) : m_Lturned [sD s] S = .ok (sD (inv1 s)) S := rfl
theorem istep_ok (s : Wst) (S : Sto) : m_inverse_step [sD s] S = .ok (sD (inv1 s)) S := rfl
theorem Linverse_ok (w : List Wst) (S : Sto) (h : w.length ≤ lim) : m_Linverse [wD w] S = .ok (wD (inv w)) S := by
  refine fn_eq rfl ?_
  have key : lcEnd (gNm 1) bYes (eN m_Lturned (aCons (eVar 1) aNil)) [some (wD w), none] ((w.map sD).reverse) S = .ok (.lst ((inv w).map sD)) S := by
    rw [← List.map_reverse]
    refine (lcEnd_map (f := fun s => sD (inv1 s)) sD _ (by simpa using h) fun s _ => by exact ⟨rfl, rfl⟩).trans ?_
    simp [inv]
  simp [b_Linverse, wD, mRev, wipeD] at key ⊢
  rw [key]
  simp [mTuple, asC, asL]
/-! ### names, steps, words -/
def isLt (c : Nat) : Bool := decide (97 ≤ c) && decide (c ≤ 122)
def GoodL (x : Str) : Prop := 1 ≤ x.length ∧ x.length ≤ 8 ∧ ∀ c ∈ x.cps.toList, isLt c = true
def GoodS (s : Wst) : Prop := GoodL s.1 ∧ (s.2 = 1 ∨ s.2 = -1)
def GoodW (w : List Wst) : Prop := ∀ s ∈ w, GoodS s
theorem letter_in : ∀ c, isLt c = true → (!(Builtin.Str.occurrences "abcdefghijklmnopqrstuvwxyz" ⟨#[c]⟩ 0 (Str.length "abcdefghijklmnopqrstuvwxyz") 1).isEmpty) = true := by
  intro c h
  obtain ⟨h1, h2⟩ := Bool.and_eq_true_iff.mp h
  have h1 := of_decide_eq_true h1
  have h2 := of_decide_eq_true h2
  have key : ∀ k : Fin 26, (!(Builtin.Str.occurrences "abcdefghijklmnopqrstuvwxyz" ⟨#[97 + k.val]⟩ 0 (Str.length "abcdefghijklmnopqrstuvwxyz") 1).isEmpty) = true := by decide +kernel
  have z := key ⟨c - 97, by omega⟩
  have e : 97 + (c - 97) = c := by omega
  simpa [e] using z
theorem isint_int (i : Int) (S : Sto) : m_is_integer [.int i] S = .ok (.bl true) S := rfl
theorem isname_ok {x : Str} (h : GoodL x) (S : Sto) : m_is_name [.str x] S = .ok (.bl true) S := by
  refine fn_eq rfl ?_
  obtain ⟨h1, h2, h3⟩ := h
  have key : lcEnd (gNm 1) bYes (e2 mIn (eVar 1) (eC (.str "abcdefghijklmnopqrstuvwxyz"))) [some (.str x), none] (x.cps.toList.map fun c => .str ⟨#[c]⟩) S = .ok (.lst (x.cps.toList.map fun _ => .bl true)) S := by
    refine lcEnd_map (fun c => Dv.str ⟨#[c]⟩) _ (by have : x.cps.size = x.length := rfl; show _ ≤ 100000; simp; omega) fun c hc => ⟨rfl, ?_⟩
    show Res.ok (Dv.bl (id _)) S = _
    rw [show id (!(Builtin.Str.occurrences "abcdefghijklmnopqrstuvwxyz" ⟨#[c]⟩ 0 (Str.length "abcdefghijklmnopqrstuvwxyz") 1).isEmpty) = true from letter_in c (h3 c hc)]
  have hl : x.length ≤ lim := by show x.length ≤ 100000; omega
  simp [b_is_name, mIsi, kind, subK, mLen, hl, mLe, mCmp, M.pure, wipeD] at key ⊢
  rw [key]
  refine ⟨by omega, by omega, ?_⟩
  rw [wp_ok, mAll_map (p := fun _ => true)]
  simp
theorem isstep_ok {s : Wst} (h : GoodS s) (S : Sto) : m_is_step [sD s] S = .ok (.bl true) S := by
  refine fn_eq rfl ?_
  have e1 := isname_ok h.1 S
  have e2 := isint_int s.2 S
  simp [b_is_step, sD, mIsi, kind, subK, mLen, mNe, mEqv, deep, noDict, PyData.eqv, mIx, atI, ixN, e1, e2, mTup, lim_eq, M.pure, mIn, mInB, optAll, noDictA]
  rcases h.2 with e | e <;> simp [e]
theorem bls_true {α : Type} (xs : List α) : (xs.map fun _ => Dv.bl true) = xs.map fun x => Dv.bl ((fun _ => true) x) := rfl
theorem isword_ok {w : List Wst} (h : GoodW w) (hl : w.length ≤ lim) (S : Sto) : m_is_word [wD w] S = .ok (.bl true) S := by
  refine fn_eq rfl ?_
  have key : lcEnd (gNm 1) bYes (eN m_is_step (aCons (eVar 1) aNil)) [some (wD w), none] (w.map sD) S = .ok (.lst (w.map fun _ => .bl true)) S :=
    lcEnd_map sD _ hl fun s hs => by
      refine ⟨rfl, ?_⟩
      apply Wp.eq
      simp [isstep_ok (h s hs)]
  simp [b_is_word, wD, mIsi, kind, subK, wipeD, M.pure] at key ⊢
  rw [key, wp_ok, mAll_map (p := fun _ => true)]
  simp
theorem want_ok {w : List Wst} (h : GoodW w) (hl : w.length ≤ lim) (S : Sto) : m_want_word [wD w] S = .ok .non S := by
  refine fn_eq rfl ?_
  simp [b_want_word, isword_ok h hl]
theorem GoodW.inv {w : List Wst} (h : GoodW w) : GoodW (inv w) := by
  intro s hs
  obtain ⟨t, ht, rfl⟩ := List.mem_map.mp hs
  have z := h t (List.mem_reverse.mp ht)
  refine ⟨z.1, ?_⟩
  rcases z.2 with e | e
  · exact .inr (by simp [inv1, e])
  · exact .inl (by simp [inv1, e])
theorem GoodW.drop {w : List Wst} (h : GoodW w) (n : Nat) : GoodW (w.drop n) := fun s hs => h s (List.mem_of_mem_drop hs)
theorem GoodW.take {w : List Wst} (h : GoodW w) (n : Nat) : GoodW (w.take n) := fun s hs => h s (List.mem_of_mem_take hs)
theorem GoodW.app {w v : List Wst} (h : GoodW w) (k : GoodW v) : GoodW (w ++ v) := fun s hs => (List.mem_append.mp hs).elim (h s) (k s)
theorem inv_len (w : List Wst) : (inv w).length = w.length := by simp [inv]
theorem inverse_ok {w : List Wst} (hg : GoodW w) (h : w.length ≤ lim) (S : Sto) : m_inverse_of [wD w] S = .ok (wD (inv w)) S := by
  refine fn_eq rfl ?_
  have key : lcEnd (gNm 1) bYes (eN m_inverse_step (aCons (eVar 1) aNil)) [some (wD w), none] ((w.map sD).reverse) S = .ok (.lst ((inv w).map sD)) S := by
    rw [← List.map_reverse]
    refine (lcEnd_map (f := fun s => sD (inv1 s)) sD _ (by simpa using h) fun s _ => by exact ⟨rfl, rfl⟩).trans ?_
    simp [inv]
  have hw := want_ok hg h S
  simp [b_inverse_of, wD, mRev, wipeD] at key hw ⊢
  rw [hw, wp_ok, key]
  simp [mTuple, asC, asL]
/-! ### words as data -/
def sP (s : Wst) : PyData := .tuple [.str s.1, .int s.2]
def wP (w : List Wst) : PyData := .tuple (w.map sP)
theorem optAll_map {α β : Type} {f : α → Option β} {g : α → β} : ∀ {xs : List α}, (∀ x ∈ xs, f x = some (g x)) → optAll (xs.map f) = some (xs.map g)
  | [], _ => rfl
  | x :: xs, h => by
    rw [List.map_cons, h x (by simp)]
    show (optAll (xs.map f)).map _ = _
    rw [optAll_map fun y hy => h y (List.mem_cons_of_mem _ hy)]
    rfl
theorem deep_s (s : Wst) (S : Sto) (k : Nat) : deep S (k + 2) (sD s) = some (sP s) := rfl
theorem deep_w (w : List Wst) (S : Sto) (k : Nat) : deep S (k + 3) (wD w) = some (wP w) := by
  show (optAll ((w.map sD).map (deep S (k + 2)))).map PyData.tuple = _
  rw [List.map_map, show w.map (deep S (k + 2) ∘ sD) = w.map (fun s => deep S (k + 2) (sD s)) from rfl, optAll_map (g := sP) fun s _ => deep_s s S k]
  rfl
theorem noDict_all {α : Type} {f : α → PyData} {xs : List α} (h : ∀ x ∈ xs, noDict (f x) = true) : noDictA (xs.map f) = true := by
  induction xs with
  | nil => rfl
  | cons x xs ih =>
    rw [List.map_cons]
    show (noDict (f x) && noDictA (xs.map f)) = true
    rw [h x (by simp), ih fun y hy => h y (List.mem_cons_of_mem _ hy)]
    rfl
theorem noDict_w (w : List Wst) : noDict (wP w) = true := noDict_all (f := sP) fun _ _ => rfl
theorem eqv_s (s t : Wst) : PyData.eqv (sP s) (sP t) = decide (s = t) := by
  show (s.1 == t.1 && (s.2 == t.2 && true)) = _
  rw [Bool.eq_iff_iff]
  simp [Prod.ext_iff]
theorem eqv_all {α : Type} [DecidableEq α] {f : α → PyData} (h : ∀ x y, PyData.eqv (f x) (f y) = decide (x = y)) : ∀ xs ys : List α, PyData.eqvAll (xs.map f) (ys.map f) = decide (xs = ys)
  | [], [] => rfl
  | [], _ :: _ => rfl
  | _ :: _, [] => rfl
  | x :: xs, y :: ys => by
    show (PyData.eqv (f x) (f y) && PyData.eqvAll (xs.map f) (ys.map f)) = _
    rw [h, eqv_all h xs ys, Bool.eq_iff_iff]
    simp
theorem eqv_w (a b : List Wst) : PyData.eqv (wP a) (wP b) = decide (a = b) := eqv_all eqv_s a b
theorem mEq_w (a b : List Wst) (S : Sto) : mEq (wD a) (wD b) S = .ok (.bl (decide (a = b))) S := by
  unfold mEq mEqv
  rw [deep_w a S 9, deep_w b S 9]
  simp [noDict_w, eqv_w]
theorem mNe_w (a b : List Wst) (S : Sto) : mNe (wD a) (wD b) S = .ok (.bl (!decide (a = b))) S := by
  unfold mNe mEqv
  rw [deep_w a S 9, deep_w b S 9]
  simp [noDict_w, eqv_w]
/-! ### slices -/
def cutW {α : Type} (w : List α) (lo hi : Option Int) : List α := List.take (HT.sIx w.length w.length hi - HT.sIx w.length 0 lo) (List.drop (HT.sIx w.length 0 lo) w)
theorem cutD_map {α : Type} (f : α → Dv) (w : List α) (lo hi : Option Int) : cutD (w.map f) lo hi = (cutW w lo hi).map f := by
  unfold cutD cutW
  rw [List.length_map, ← List.map_drop, ← List.map_take]
theorem mSl_w (w : List Wst) (lo hi : Option Int) (S : Sto) : mSl lo hi (wD w) S = .ok (wD (cutW w lo hi)) S := by
  show Res.ok (Dv.tup (cutD (w.map sD) lo hi)) S = _
  rw [cutD_map]
  rfl
theorem sIx_nat (n d k : Nat) : HT.sIx n d (some (k : Int)) = min k n := by
  unfold HT.sIx
  simp
  omega
theorem sIx_none (n d : Nat) : HT.sIx n d none = d := rfl
theorem cut_fromto {α : Type} (w : List α) (a b : Nat) : cutW w (some (a : Int)) (some (b : Int)) = (w.drop a).take (b - a) := by
  unfold cutW
  rw [sIx_nat, sIx_nat]
  by_cases ha : a ≤ w.length
  · rw [Nat.min_eq_left ha]
    by_cases hb : b ≤ w.length
    · rw [Nat.min_eq_left hb]
    · rw [Nat.min_eq_right (by omega), List.take_of_length_le (by simp), List.take_of_length_le (by simp; omega)]
  · have e1 : min a w.length = w.length := by omega
    rw [e1, List.drop_length, List.drop_eq_nil_of_le (show w.length ≤ a by omega)]
    simp
theorem cut_from {α : Type} (w : List α) (a : Nat) : cutW w (some (a : Int)) none = w.drop a := by
  unfold cutW
  rw [sIx_nat, sIx_none]
  by_cases ha : a ≤ w.length
  · rw [Nat.min_eq_left ha, List.take_of_length_le (by simp)]
  · rw [Nat.min_eq_right (by omega), List.drop_length, List.drop_eq_nil_of_le (by omega)]
    simp
theorem cut_to {α : Type} (w : List α) (b : Nat) : cutW w none (some (b : Int)) = w.take b := by
  unfold cutW
  rw [sIx_nat, sIx_none]
  simp
/-! ### folds -/
def canF (w : List Wst) (a b : Nat) : Bool := decide (1 ≤ b) && (decide (a + 3 * b ≤ w.length) && (decide ((w.drop (a + 2 * b)).take b = (w.drop a).take b) && decide ((w.drop (a + b)).take b = inv ((w.drop a).take b))))
def canI (w : List Wst) (i j : Int) : Bool := if i < 0 ∨ j < 1 ∨ i + 3 * j > w.length then false else canF w i.toNat j.toNat
def aftF (w : List Wst) (a b : Nat) : List Wst := w.take (a + b) ++ w.drop (a + 3 * b)
theorem mMul_small {i j : Int} {S : Sto} (h : i.natAbs < 2 ^ 64) : mMul (.int i) (.int j) S = .ok (.int (i * j)) S := by
  show (if i.natAbs < 2 ^ 64 ∨ j.natAbs < 2 ^ 64 then Res.ok (Dv.int (i * j)) S else .bad) = _
  rw [if_pos (.inl h)]
theorem mSl_ft (w : List Wst) {i j : Int} {a b : Nat} (hi : i = a) (hj : j = b) (S : Sto) : mSl (some i) (some j) (wD w) S = .ok (wD ((w.drop a).take (b - a))) S := by
  rw [mSl_w, hi, hj, cut_fromto]
theorem mSl_f (w : List Wst) {i : Int} {a : Nat} (hi : i = a) (S : Sto) : mSl (some i) none (wD w) S = .ok (wD (w.drop a)) S := by
  rw [mSl_w, hi, cut_from]
theorem mSl_t (w : List Wst) {i : Int} {a : Nat} (hi : i = a) (S : Sto) : mSl none (some i) (wD w) S = .ok (wD (w.take a)) S := by
  rw [mSl_w, hi, cut_to]
theorem mAdd_int (i j : Int) (S : Sto) : mAdd (.int i) (.int j) S = .ok (.int (i + j)) S := rfl
theorem mAdd_w {a b : List Wst} (h : a.length + b.length ≤ lim) (S : Sto) : mAdd (wD a) (wD b) S = .ok (wD (a ++ b)) S := by
  show (if (a.map sD).length + (b.map sD).length ≤ lim then Res.ok (Dv.tup (a.map sD ++ b.map sD)) S else .bad) = _
  rw [if_pos (by simpa using h)]
  simp [wD]
theorem mLen_w (w : List Wst) (S : Sto) : mLen [wD w] S = .ok (.int w.length) S := by simp [mLen, wD]
theorem canfold_ok {w : List Wst} (hg : GoodW w) (hl : w.length ≤ lim) (i j : Int) (S : Sto) : m_can_fold [wD w, .int i, .int j] S = .ok (.bl (canI w i j)) S := by
  refine fn_eq rfl ?_
  have m2 : mMul (.int 2) (.int j) S = .ok (.int (2 * j)) S := mMul_small (by decide)
  have m3 : mMul (.int 3) (.int j) S = .ok (.int (3 * j)) S := mMul_small (by decide)
  have ml : mLen [wD w] S = .ok (.int w.length) S := by simp [mLen, wD]
  unfold canI
  by_cases h1 : i < 0
  · simp [b_can_fold, mLt, mCmp, M.pure, h1]
  by_cases h2 : j < 1
  · simp [b_can_fold, mLt, mCmp, M.pure, h1, h2]
  by_cases h3 : i + 3 * j > w.length
  · simp [b_can_fold, mLt, mGt, mCmp, M.pure, h1, h2, h3, m3, ml, mAdd]
  obtain ⟨a, rfl⟩ := Int.eq_ofNat_of_zero_le (show 0 ≤ i by omega)
  obtain ⟨b, rfl⟩ := Int.eq_ofNat_of_zero_le (show 0 ≤ j by omega)
  have hp : GoodW ((w.drop a).take b) := (hg.drop a).take b
  have hpl : ((w.drop a).take b).length ≤ lim := by simp; omega
  have s1 := mSl_ft w (i := (a : Int)) (j := (a : Int) + b) (a := a) (b := a + b) rfl (by omega) S
  have s2 := mSl_ft w (i := (a : Int) + 2 * b) (j := (a : Int) + 3 * b) (a := a + 2 * b) (b := a + 3 * b) (by omega) (by omega) S
  have s3 := mSl_ft w (i := (a : Int) + b) (j := (a : Int) + 2 * b) (a := a + b) (b := a + 2 * b) (by omega) (by omega) S
  rw [show a + b - a = b by omega] at s1
  rw [show a + 3 * b - (a + 2 * b) = b by omega] at s2
  rw [show a + 2 * b - (a + b) = b by omega] at s3
  have q1 : ¬ ((a : Int) < 0 ∨ (b : Int) < 1 ∨ (a : Int) + 3 * b > w.length) := by omega
  have q2 : 1 ≤ b ∧ a + 3 * b ≤ w.length := by omega
  rw [if_neg q1]
  simp only [Int.toNat_natCast, canF, decide_eq_true q2.1, decide_eq_true q2.2, Bool.true_and]
  by_cases e1 : (w.drop (a + 2 * b)).take b = (w.drop a).take b
  · simp [b_can_fold, mLt, mGt, mCmp, M.pure, h1, h2, h3, m2, m3, ml, mAdd_int, s1, s2, s3, mNe_w, mEq_w, inverse_ok hp hpl, e1]
  · simp [b_can_fold, mLt, mGt, mCmp, M.pure, h1, h2, h3, m2, m3, ml, mAdd_int, s1, s2, s3, mNe_w, mEq_w, inverse_ok hp hpl, e1]
end Mi
end T_P35
section T_P35b
set_option Elab.async false
set_option linter.all false
set_option maxRecDepth 100000
set_option maxHeartbeats 1000000
namespace Mi
open PySem L2
abbrev Pr := Nat × Nat
def pD (p : Pr) : Dv := .tup [.int p.1, .int p.2]
theorem afterfold_ok {w : List Wst} (hl : w.length + w.length ≤ lim) {a b : Nat} (S : Sto) : m_after_fold [wD w, .int a, .int b] S = .ok (wD (aftF w a b)) S := by
  refine fn_eq rfl ?_
  have m3 : mMul (.int 3) (.int b) S = .ok (.int (3 * b)) S := mMul_small (by decide)
  have s1 := mSl_t w (i := (a : Int) + b) (a := a + b) (by omega) S
  have s2 := mSl_f w (i := (a : Int) + 3 * b) (a := a + 3 * b) (by omega) S
  have ad := mAdd_w (a := w.take (a + b)) (b := w.drop (a + 3 * b)) (by simp; omega) S
  simp [b_after_fold, m3, mAdd_int, s1, s2, ad, aftF]
theorem Lafter_ok {w : List Wst} (hl : w.length + w.length ≤ lim) {p : Pr} (S : Sto) : m_Lafter [wD w, pD p] S = .ok (wD (aftF w p.1 p.2)) S := by
  refine fn_eq rfl ?_
  obtain ⟨a, b⟩ := p
  have m3 : mMul (.int 3) (.int b) S = .ok (.int (3 * b)) S := mMul_small (by decide)
  have s1 := mSl_t w (i := (a : Int) + b) (a := a + b) (by omega) S
  have s2 := mSl_f w (i := (a : Int) + 3 * b) (a := a + 3 * b) (by omega) S
  have ad := mAdd_w (a := w.take (a + b)) (b := w.drop (a + 3 * b)) (by simp; omega) S
  simp [b_Lafter, pD, gTp, gAll, gNm, m3, mAdd_int, s1, s2, ad, aftF]
/-! ### folds_of -/
def foldsAt (w : List Wst) (a : Nat) : List Pr := ((List.range ((w.length - a) / 3)).filter fun i => canF w a (1 + i)).map fun i => (a, 1 + i)
def foldsL (w : List Wst) : List Pr := (List.range w.length).flatMap (foldsAt w)
theorem canI_nat (w : List Wst) (a b : Nat) : canI w a b = canF w a b := by
  unfold canI canF
  by_cases h : (a : Int) < 0 ∨ (b : Int) < 1 ∨ (a : Int) + 3 * b > w.length
  · rw [if_pos h]
    have q : ¬ (1 ≤ b ∧ a + 3 * b ≤ w.length) := by omega
    by_cases h1 : 1 ≤ b
    · rw [decide_eq_false (show ¬ a + 3 * b ≤ w.length by omega)]
      simp
    · simp [h1]
  · rw [if_neg h]
    simp
theorem foldsAt_len (w : List Wst) (a : Nat) : (foldsAt w a).length ≤ w.length := by
  unfold foldsAt
  rw [List.length_map]
  refine Nat.le_trans (List.length_filter_le _ _) ?_
  simp
  omega
theorem folds_comp {w : List Wst} (hg : GoodW w) (hl : w.length < 1000) (a : Nat) (ha : a < w.length) (x1 x2 : Option Dv) (S : Sto) :
    lcEnd (gNm 3) (bOf (eN m_can_fold (aCons (eVar 0) (aCons (eVar 2) (aCons (eVar 3) aNil))))) (eN mTup (aCons (eVar 2) (aCons (eVar 3) aNil))) [some (wD w), x1, some (.int (a : Nat)), x2] ((List.range ((w.length - a) / 3)).map fun i => .int (1 + (i : Nat))) S = .ok (.lst ((foldsAt w a).map pD)) S := by
  refine (lcEnd_filter (p := fun i => canF w a (1 + i)) (f := fun i => pD (a, 1 + i)) (fun i : Nat => Dv.int (1 + (i : Nat))) _ (by simp [lim_eq]; omega) fun i hi => ?_).trans ?_
  · have c := canfold_ok hg (by rw [lim_eq]; omega) (a : Int) ((1 + i : Nat) : Int) S
    rw [canI_nat] at c
    have e1 : ((1 + i : Nat) : Int) = 1 + (i : Nat) := by omega
    rw [e1] at c
    refine ⟨rfl, ?_, fun _ => ?_⟩
    · apply Wp.eq
      simp [c]
    · apply Wp.eq
      simp [mTup, lim_eq, M.pure, pD]
  · simp [foldsAt, Function.comp_def]
theorem foldsof_ok {w : List Wst} (hg : GoodW w) (hl : w.length < 100) (S : Sto) : m_folds_of [wD w] S = .ok (.loc S.length) (S ++ [.lst ((foldsL w).map pD)]) := by
  refine fn_eq rfl ?_
  have hw := want_ok hg (by rw [lim_eq]; omega) S
  have r1 := mRange1_nat (n := w.length) (S := S ++ [Ob.lst []]) (by rw [lim_eq]; omega)
  simp [b_folds_of, hw, mNewL, lim_eq, mLen_w, wps_for, r1]
  refine wps_forIx (fun k δ S' => ∃ x2 x3, δ = [some (wD w), some (.loc S.length), x2, x3] ∧ S' = S ++ [.lst (((List.range k).flatMap (foldsAt w)).map pD)]) _ ⟨none, none, rfl, rfl⟩ ?_ ?_
  · rintro δ S' ⟨x2, x3, rfl, rfl⟩
    simp [foldsL]
  · rintro k hk δ S' ⟨x2, x3, rfl, rfl⟩
    have hk' : k < w.length := by simpa using hk
    have fd : mFdiv (.int ((w.length : Int) - k)) (.int 3) (S ++ [Ob.lst (((List.range k).flatMap (foldsAt w)).map pD)]) = .ok (.int (((w.length - k) / 3 : Nat) : Int)) (S ++ [Ob.lst (((List.range k).flatMap (foldsAt w)).map pD)]) := by
      unfold mFdiv
      simp [M.pure]
      omega
    have r2 : mRange2 [.int 1, .int (((w.length - k : Nat) : Int) / 3 + 1)] (S ++ [Ob.lst (((List.range k).flatMap (foldsAt w)).map pD)]) = .ok ((List.range ((w.length - k) / 3)).map fun i => .int (1 + (i : Nat))) (S ++ [Ob.lst (((List.range k).flatMap (foldsAt w)).map pD)]) :=
      mRange2_nat (a := 1) (n := (w.length - k) / 3) (by rw [lim_eq]; omega) (by omega)
    have cp := folds_comp hg (by omega) k hk' (some (.loc S.length)) none (S ++ [Ob.lst (((List.range k).flatMap (foldsAt w)).map pD)])
    have hlen : (List.map pD (List.flatMap (foldsAt w) (List.range k))).length + (List.map pD (foldsAt w k)).length < lim := by
      rw [List.length_map, List.length_map, List.length_flatMap]
      have h1 : ((List.range k).map fun a => (foldsAt w a).length).sum ≤ k * w.length := by
        clear r2 cp fd hk
        induction k with
        | zero => simp
        | succ k ih =>
          rw [List.range_succ, List.map_append, List.sum_append, Nat.succ_mul]
          have := foldsAt_len w k
          have := ih (by omega)
          simp
          omega
      have h2 := foldsAt_len w k
      have h3 : k * w.length ≤ 100 * 100 := Nat.mul_le_mul (by omega) (by omega)
      rw [lim_eq]
      omega
    simp [gNm, kind, mSub, M.pure, mLen_w, fd, mAdd_int, r2]
    rw [show wipeD [some (wD w), some (Dv.loc (List.length S)), some (Dv.int (k : Int)), x3] [3] = [some (wD w), some (Dv.loc (List.length S)), some (Dv.int (k : Int)), none] from rfl, cp]
    simp only [wp_ok, mExtend, get_last]
    rw [if_pos hlen]
    simp [List.range_succ]
end Mi
end T_P35b
section T_P35c
set_option Elab.async false
set_option linter.all false
set_option maxRecDepth 100000
set_option maxHeartbeats 1000000
namespace Mi
open PySem L2
theorem mEq_int (i j : Int) (S : Sto) : mEq (.int i) (.int j) S = .ok (.bl (decide (i = j))) S := by
  show Res.ok (Dv.bl (id (i == j))) S = _
  by_cases h : i = j <;> simp [h]
theorem mNe_int (i j : Int) (S : Sto) : mNe (.int i) (.int j) S = .ok (.bl (!decide (i = j))) S := by
  show Res.ok (Dv.bl (not (i == j))) S = _
  by_cases h : i = j <;> simp [h]
def condF (w : List Wst) (a b : Nat) : Bool := decide (((w.drop a).take b).length = b) && decide ((w.drop (a + b)).take (2 * b) = inv ((w.drop a).take b) ++ (w.drop a).take b)
theorem take_two {α : Type} (l : List α) (b : Nat) : l.take (2 * b) = l.take b ++ (l.drop b).take b := by
  rw [show 2 * b = b + b by omega, List.take_add]
theorem condF_eq (w : List Wst) (a b : Nat) (hb : 1 ≤ b) : condF w a b = canF w a b := by
  unfold condF canF
  rw [take_two, List.drop_drop, show a + b + b = a + 2 * b by omega, decide_eq_true hb, Bool.true_and, Bool.eq_iff_iff]
  simp only [Bool.and_eq_true, decide_eq_true_eq]
  constructor
  · rintro ⟨h1, h2⟩
    have hi : (inv ((w.drop a).take b)).length = b := by rw [inv_len, h1]
    have h3 := congrArg List.length h2
    rw [List.length_append, List.length_append, hi, h1] at h3
    simp at h3 h1
    have hl : ((w.drop (a + b)).take b).length = (inv ((w.drop a).take b)).length := by
      rw [hi]
      simp
      omega
    obtain ⟨e1, e2⟩ := List.append_inj h2 hl
    exact ⟨by omega, e2, e1⟩
  · rintro ⟨h1, h2, h3⟩
    exact ⟨by simp; omega, by rw [h2, h3]⟩
theorem filter_range {p : Nat → Bool} {m : Nat} : ∀ n, m ≤ n → (∀ i, m ≤ i → i < n → p i = false) → (List.range n).filter p = (List.range m).filter p := by
  intro n
  induction n with
  | zero =>
    intro h _
    rw [Nat.le_zero.mp h]
  | succ n ih =>
    intro h hp
    by_cases e : m = n + 1
    · rw [e]
    · rw [List.range_succ, List.filter_append, ih (by omega) fun i h1 h2 => hp i h1 (by omega)]
      simp [hp n (by omega) (by omega)]
theorem condAt (w : List Wst) (a : Nat) : ((List.range w.length).filter fun i => condF w a (1 + i)).map (fun i => (a, 1 + i)) = foldsAt w a := by
  unfold foldsAt
  congr 1
  have e : (List.range w.length).filter (fun i => condF w a (1 + i)) = (List.range w.length).filter (fun i => canF w a (1 + i)) := by
    apply List.filter_congr
    intro i _
    exact condF_eq w a (1 + i) (by omega)
  rw [e]
  apply filter_range
  · omega
  · intro i h1 _
    unfold canF
    rw [decide_eq_false (show ¬ a + 3 * (1 + i) ≤ w.length by omega)]
    simp
theorem Lfolds_ok {w : List Wst} (hg : GoodW w) (hl : w.length < 100) (S : Sto) : m_Lfolds [wD w] S = .ok (.loc S.length) (S ++ [.lst ((foldsL w).map pD)]) := by
  refine fn_eq rfl ?_
  have r1 := mRange1_nat (n := w.length) (S := S ++ [Ob.lst []]) (by rw [lim_eq]; omega)
  simp [b_Lfolds, mNewL, lim_eq, mLen_w, wps_for, r1]
  refine wps_forIx (fun k δ S' => ∃ x2 x3 x4 x5, δ = [some (wD w), some (.loc S.length), x2, x3, x4, x5] ∧ S' = S ++ [.lst (((List.range k).flatMap (foldsAt w)).map pD)]) _ ⟨none, none, none, none, rfl, rfl⟩ ?_ ?_
  · rintro δ S' ⟨x2, x3, x4, x5, rfl, rfl⟩
    simp [foldsL]
  · rintro a hk δ S' ⟨x2, x3, x4, x5, rfl, rfl⟩
    have ha : a < w.length := by simpa using hk
    generalize hX : (((List.range a).flatMap (foldsAt w)).map pD) = X
    have hXl : X.length ≤ a * w.length := by
      rw [← hX, List.length_map, List.length_flatMap]
      clear hX hk
      induction a with
      | zero => simp
      | succ a ih =>
        rw [List.range_succ, List.map_append, List.sum_append, Nat.succ_mul]
        have := foldsAt_len w a
        have := ih (by omega)
        simp
        omega
    have h3 : a * w.length ≤ 100 * 100 := Nat.mul_le_mul (by omega) (by omega)
    have r2 : mRange2 [.int 1, .int ((w.length : Int) + 1)] (S ++ [Ob.lst X]) = .ok ((List.range w.length).map fun i => .int (1 + (i : Nat))) (S ++ [Ob.lst X]) :=
      mRange2_nat (a := 1) (n := w.length) (by rw [lim_eq]; omega) (by omega)
    simp [gNm, mLen_w, mAdd_int, wps_for, r2]
    refine wps_forIx (fun i δ S' => ∃ x3 x4 x5, δ = [some (wD w), some (.loc S.length), some (.int (a : Nat)), x3, x4, x5] ∧ S' = S ++ [.lst (X ++ ((List.range i).filter fun j => condF w a (1 + j)).map fun j => pD (a, 1 + j))]) _ ⟨x3, x4, x5, rfl, by simp⟩ ?_ ?_
    · rintro δ S' ⟨x3, x4, x5, rfl, rfl⟩
      have e := condAt w a
      have e2 : (((List.range w.length).filter fun j => condF w a (1 + j)).map fun j => pD (a, 1 + j)) = (foldsAt w a).map pD := by
        rw [← e, List.map_map]
        rfl
      simp [e2, List.range_succ, hX]
    · rintro i hi δ S' ⟨x3, x4, x5, rfl, rfl⟩
      have hi' : i < w.length := by simpa using hi
      generalize hY : ((List.range i).filter fun j => condF w a (1 + j)) = Y
      have hYl : Y.length ≤ i := by
        rw [← hY]
        refine Nat.le_trans (List.length_filter_le _ _) (by simp)
      generalize hS1 : S ++ [Ob.lst (X ++ Y.map fun j => pD (a, 1 + j))] = S1
      have s1 := mSl_ft w (i := (a : Int)) (j := (a : Int) + (1 + i)) (a := a) (b := a + (1 + i)) rfl (by omega) S1
      have s2 := mSl_f w (i := (a : Int) + (1 + i)) (a := a + (1 + i)) (by omega) S1
      rw [show a + (1 + i) - a = 1 + i by omega] at s1
      have m2 : mMul (.int 2) (.int (1 + (i : Int))) S1 = .ok (.int (2 * (1 + (i : Int)))) S1 := mMul_small (by decide)
      have s3 := mSl_t (w.drop (a + (1 + i))) (i := 2 * (1 + (i : Int))) (a := 2 * (1 + i)) (by omega) S1
      have li : ((w.drop a).take (1 + i)).length ≤ 1 + i := by simp; omega
      have iv := Linverse_ok ((w.drop a).take (1 + i)) S1 (by rw [lim_eq]; omega)
      have ad := mAdd_w (a := inv ((w.drop a).take (1 + i))) (b := (w.drop a).take (1 + i)) (by rw [inv_len, lim_eq]; omega) S1
      have g0 : S1[S.length]? = some (Ob.lst (X ++ Y.map fun j => pD (a, 1 + j))) := by rw [← hS1]; simp
      have hlen : (X ++ Y.map fun j => pD (a, 1 + j)).length < lim := by rw [List.length_append, List.length_map, lim_eq]; omega
      have fin : ∀ t : Bool, condF w a (1 + i) = t → (S ++ [Ob.lst (X ++ ((List.range (i + 1)).filter fun j => condF w a (1 + j)).map fun j => pD (a, 1 + j))]) = if t then S ++ [Ob.lst (X ++ (Y.map fun j => pD (a, 1 + j)) ++ [pD (a, 1 + i)])] else S1 := by
        intro t ht
        rw [List.range_succ, List.filter_append, hY]
        cases t with
        | true => simp [ht]
        | false => simp [ht, ← hS1]
      have ml : (((w.drop a).take (1 + i)).length = 1 + i) ↔ (((min (1 + i) (w.length - a) : Nat) : Int) = 1 + (i : Int)) := by
        simp
        omega
      by_cases c1 : (((min (1 + i) (w.length - a) : Nat) : Int) = 1 + (i : Int))
      · have c1' := ml.mpr c1
        have cF : condF w a (1 + i) = decide ((w.drop (a + (1 + i))).take (2 * (1 + i)) = inv ((w.drop a).take (1 + i)) ++ (w.drop a).take (1 + i)) := by unfold condF; rw [decide_eq_true c1']; rfl
        cases c2 : decide ((w.drop (a + (1 + i))).take (2 * (1 + i)) = inv ((w.drop a).take (1 + i)) ++ (w.drop a).take (1 + i)) with
        | false =>
          have ct := fin false (cF.trans c2)
          simp [gNm, mAdd_int, s1, s2, s3, m2, setAll, mLen_w, mEq_int, c1, iv, ad, mEq_w, c2]
          exact ct.symm
        | true =>
          have ct := fin true (cF.trans c2)
          simp [gNm, mAdd_int, s1, s2, s3, m2, setAll, mLen_w, mEq_int, c1, iv, ad, mEq_w, c2, kind, g0, mTup, lim_eq, M.pure, mAppend]
          rw [← lim_eq, if_pos (by simpa using hlen), wp_ok, ct, ← hS1]
          simp [pD]
      · have ct := fin false (by unfold condF; rw [decide_eq_false fun z => c1 (ml.mp z)]; rfl)
        simp [gNm, mAdd_int, s1, s2, setAll, mLen_w, mEq_int, c1]
        exact ct.symm
end Mi
end T_P35c
section T_T35
set_option Elab.async false
set_option linter.all false
set_option maxRecDepth 100000
set_option maxHeartbeats 1000000
/-! T35: a word folds to another one exactly if it labels a walk along the other one's line. -/
namespace Mi
/-- one fold -/
def F1 (x y : List Wst) : Prop := ∃ a p b, p ≠ [] ∧ x = a ++ (p ++ (inv p ++ (p ++ b))) ∧ y = a ++ (p ++ b)
inductive Fs : List Wst → List Wst → Prop
  | refl (x : List Wst) : Fs x x
  | step {x y z : List Wst} : F1 x y → Fs y z → Fs x z
theorem Fs.trans {x y z : List Wst} (h : Fs x y) (k : Fs y z) : Fs x z := by
  induction h with
  | refl => exact k
  | step f _ ih => exact .step f (ih k)
theorem F1.ctx {x y : List Wst} (a b : List Wst) (h : F1 x y) : F1 (a ++ (x ++ b)) (a ++ (y ++ b)) := by
  obtain ⟨c, p, d, hp, rfl, rfl⟩ := h
  exact ⟨a ++ c, p, d ++ b, hp, by simp, by simp⟩
theorem Fs.ctx {x y : List Wst} (a b : List Wst) (h : Fs x y) : Fs (a ++ (x ++ b)) (a ++ (y ++ b)) := by
  induction h with
  | refl => exact .refl _
  | step f _ ih => exact .step (f.ctx a b) ih
theorem inv1_inv1 (s : Wst) : inv1 (inv1 s) = s := by simp [inv1]
theorem inv_inv (w : List Wst) : inv (inv w) = w := by
  unfold inv
  rw [← List.map_reverse, List.reverse_reverse, List.map_map]
  conv => rhs; rw [← List.map_id w]
  congr 1
  funext s
  exact inv1_inv1 s
theorem inv_app (a b : List Wst) : inv (a ++ b) = inv b ++ inv a := by simp [inv]
theorem F1.inv {x y : List Wst} (h : F1 x y) : F1 (Mi.inv x) (Mi.inv y) := by
  obtain ⟨a, p, b, hp, rfl, rfl⟩ := h
  refine ⟨Mi.inv b, Mi.inv p, Mi.inv a, fun e => hp ?_, ?_, ?_⟩
  · have := congrArg List.length e
    rw [inv_len] at this
    exact List.eq_nil_of_length_eq_zero (by simpa using this)
  · simp [inv_app, inv_inv]
  · simp [inv_app]
theorem Fs.inv {x y : List Wst} (h : Fs x y) : Fs (Mi.inv x) (Mi.inv y) := by
  induction h with
  | refl => exact .refl _
  | step f _ ih => exact .step f.inv ih
/-! ### walks along a line -/
/-- within lo .. hi -/
inductive Wk (v : List Wst) (lo hi : Nat) : Nat → List Wst → Nat → Prop
  | nil {n : Nat} : lo ≤ n → n ≤ hi → Wk v lo hi n [] n
  | up {n m : Nat} {s : Wst} {u : List Wst} : lo ≤ n → v[n]? = some s → Wk v lo hi (n + 1) u m → Wk v lo hi n (s :: u) m
  | dn {n m : Nat} {s : Wst} {u : List Wst} : n + 1 ≤ hi → v[n]? = some s → Wk v lo hi n u m → Wk v lo hi (n + 1) (inv1 s :: u) m
section
variable {v : List Wst} {lo hi : Nat}
theorem Wk.start {a b : Nat} {w : List Wst} (h : Wk v lo hi a w b) : lo ≤ a ∧ a ≤ hi := by
  induction h with
  | nil h1 h2 => exact ⟨h1, h2⟩
  | up h1 _ _ ih => exact ⟨h1, by omega⟩
  | dn h1 _ _ ih => exact ⟨by omega, h1⟩
theorem Wk.end_ {a b : Nat} {w : List Wst} (h : Wk v lo hi a w b) : lo ≤ b ∧ b ≤ hi := by
  induction h with
  | nil h1 h2 => exact ⟨h1, h2⟩
  | up _ _ _ ih => exact ih
  | dn _ _ _ ih => exact ih
theorem Wk.app {a b c : Nat} {x y : List Wst} (h : Wk v lo hi a x b) (k : Wk v lo hi b y c) : Wk v lo hi a (x ++ y) c := by
  induction h with
  | nil _ _ => exact k
  | up h1 h2 _ ih => exact .up h1 h2 (ih k)
  | dn h1 h2 _ ih => exact .dn h1 h2 (ih k)
theorem Wk.wide {lo' hi' a b : Nat} {w : List Wst} (h : Wk v lo hi a w b) (h1 : lo' ≤ lo) (h2 : hi ≤ hi') : Wk v lo' hi' a w b := by
  induction h with
  | nil k1 k2 => exact .nil (by omega) (by omega)
  | up k1 k2 _ ih => exact .up (by omega) k2 ih
  | dn k1 k2 _ ih => exact .dn (by omega) k2 ih
theorem Wk.rev {a b : Nat} {w : List Wst} (h : Wk v lo hi a w b) : Wk v lo hi b (inv w) a := by
  induction h with
  | nil k1 k2 => exact .nil k1 k2
  | @up n m s u k1 k2 k3 ih =>
    have e : inv (s :: u) = inv u ++ [inv1 s] := by simp [inv]
    rw [e]
    exact ih.app (.dn k3.start.2 k2 (.nil k1 (by have := k3.start.2; omega)))
  | @dn n m s u k1 k2 k3 ih =>
    have e : inv (inv1 s :: u) = inv u ++ [s] := by simp [inv, inv1_inv1]
    rw [e]
    exact ih.app (.up k3.start.1 k2 (.nil (by have := k3.start.1; omega) k1))
/-- the straight way up -/
theorem Wk.line (k : Nat) : ∀ n, lo ≤ n → n + k ≤ hi → hi ≤ v.length → Wk v lo hi n ((v.drop n).take k) (n + k) := by
  induction k with
  | zero =>
    intro n h1 h2 _
    simpa using Wk.nil h1 (by omega)
  | succ k ih =>
    intro n h1 h2 h3
    have hn : n < v.length := by omega
    have e : (v.drop n).take (k + 1) = v[n] :: (v.drop (n + 1)).take k := by
      rw [List.drop_eq_getElem_cons hn]
      rfl
    rw [e, show n + (k + 1) = n + 1 + k by omega]
    exact .up h1 (List.getElem?_eq_getElem hn) (ih (n + 1) (by omega) (by omega) h3)
/-- it stays above lo, or comes there -/
theorem Wk.avoid {a b : Nat} {w : List Wst} (h : Wk v lo hi a w b) (ha : lo < a) : Wk v (lo + 1) hi a w b ∨ ∃ x y, w = x ++ y ∧ Wk v lo hi a x lo ∧ Wk v lo hi lo y b := by
  induction h with
  | @nil n k1 k2 => exact .inl (.nil ha k2)
  | @up n m s u k1 k2 k3 ih =>
    rcases ih (by omega) with q | ⟨x, y, e, q1, q2⟩
    · exact .inl (.up ha k2 q)
    · exact .inr ⟨s :: x, y, by rw [e]; rfl, .up k1 k2 q1, q2⟩
  | @dn n m s u k1 k2 k3 ih =>
    by_cases hn : lo < n
    · rcases ih hn with q | ⟨x, y, e, q1, q2⟩
      · exact .inl (.dn k1 k2 q)
      · exact .inr ⟨inv1 s :: x, y, by rw [e]; rfl, .dn k1 k2 q1, q2⟩
    · have e : n = lo := by have := k3.start.1; omega
      subst e
      exact .inr ⟨[inv1 s], u, rfl, .dn k1 k2 (.nil (Nat.le_refl _) (by omega)), k3⟩
/-- the highest place -/
theorem Wk.top {a b : Nat} {w : List Wst} (h : Wk v lo hi a w b) : ∃ k x y, k ≤ hi ∧ w = x ++ y ∧ Wk v lo k a x k ∧ Wk v lo k k y b := by
  induction h with
  | @nil n k1 k2 => exact ⟨n, [], [], k2, rfl, .nil k1 (Nat.le_refl _), .nil k1 (Nat.le_refl _)⟩
  | @up n m s u k1 k2 k3 ih =>
    obtain ⟨k, x, y, q0, e, q1, q2⟩ := ih
    exact ⟨k, s :: x, y, q0, by rw [e]; rfl, .up k1 k2 q1, q2⟩
  | @dn n m s u k1 k2 k3 ih =>
    obtain ⟨k, x, y, q0, e, q1, q2⟩ := ih
    by_cases hk : n + 1 ≤ k
    · exact ⟨k, inv1 s :: x, y, q0, by rw [e]; rfl, .dn hk k2 q1, q2⟩
    · have e2 : n = k := by have := q1.start.2; omega
      subst e2
      refine ⟨n + 1, [], inv1 s :: u, k1, rfl, .nil (by have := q1.start.1; omega) (Nat.le_refl _), .dn (Nat.le_refl _) k2 ?_⟩
      rw [e]
      exact (q1.app q2).wide (Nat.le_refl _) (Nat.le_succ _)
/-- where it comes to k first -/
theorem Wk.reach {a b : Nat} {w : List Wst} (h : Wk v lo hi a w b) {k : Nat} (h1 : a ≤ k) (h2 : k ≤ b) : ∃ x y, w = x ++ y ∧ Wk v lo k a x k ∧ Wk v lo hi k y b := by
  induction h with
  | @nil n k1 k2 =>
    have e : n = k := by omega
    subst e
    exact ⟨[], [], rfl, .nil k1 (Nat.le_refl _), .nil k1 k2⟩
  | @up n m s u k1 k2 k3 ih =>
    by_cases hn : n = k
    · subst hn
      exact ⟨[], s :: u, rfl, .nil k1 (Nat.le_refl _), .up k1 k2 k3⟩
    · obtain ⟨x, y, e, q1, q2⟩ := ih (by omega) h2
      exact ⟨s :: x, y, by rw [e]; rfl, .up k1 k2 q1, q2⟩
  | @dn n m s u k1 k2 k3 ih =>
    by_cases hn : n + 1 = k
    · exact ⟨[], inv1 s :: u, rfl, hn ▸ .nil (by have := k3.start.1; omega) (Nat.le_refl _), hn ▸ .dn k1 k2 k3⟩
    · obtain ⟨x, y, e, q1, q2⟩ := ih (by omega) h2
      exact ⟨inv1 s :: x, y, by rw [e]; rfl, .dn h1 k2 q1, q2⟩
theorem Wk.split : ∀ {x y : List Wst} {a b : Nat}, Wk v lo hi a (x ++ y) b → ∃ m, Wk v lo hi a x m ∧ Wk v lo hi m y b
  | [], y, a, b, h => ⟨a, .nil h.start.1 h.start.2, h⟩
  | s :: x, y, a, b, h => by
    cases h with
    | up h1 h2 h3 =>
      obtain ⟨m, q1, q2⟩ := Wk.split h3
      exact ⟨m, .up h1 h2 q1, q2⟩
    | dn h1 h2 h3 =>
      obtain ⟨m, q1, q2⟩ := Wk.split h3
      exact ⟨m, .dn h1 h2 q1, q2⟩
theorem Wk.long {a b : Nat} {w : List Wst} (h : Wk v lo hi a w b) : b ≤ a + w.length ∧ a ≤ b + w.length := by
  induction h with
  | nil _ _ => exact ⟨by simp, by simp⟩
  | up _ _ _ ih => simp; omega
  | dn _ _ _ ih => simp; omega
end
/-- a walk from the lowest place to the highest one folds to the straight way -/
theorem fold_up {v : List Wst} : ∀ (N : Nat) (lo hi : Nat) (w : List Wst), w.length ≤ N → hi ≤ v.length → Wk v lo hi lo w hi → Fs w ((v.drop lo).take (hi - lo)) := by
  intro N
  induction N with
  | zero =>
    intro lo hi w hw hv h
    have e : w = [] := List.eq_nil_of_length_eq_zero (by omega)
    subst e
    have := h.long
    have e2 : hi = lo := by have := h.start; simp at *; omega
    subst e2
    simp
    exact .refl _
  | succ N ih =>
    intro lo hi w hw hv h
    cases h with
    | nil h1 h2 =>
      simp
      exact .refl _
    | @dn n m s u k1 k2 k3 =>
      have := k3.start.1
      omega
    | @up n m s u k1 k2 k3 =>
      have hu : u.length ≤ N := by simpa using hw
      rcases k3.avoid (Nat.lt_succ_self _) with q | ⟨x, y, e, q1, q2⟩
      · have hlt : lo < v.length := (List.getElem?_eq_some_iff.mp k2).1
        have es : v[lo] = s := (List.getElem?_eq_some_iff.mp k2).2
        have f := ih (lo + 1) hi u hu hv q
        have f2 := f.ctx [s] []
        have hle := q.start.2
        have e : (v.drop lo).take (hi - lo) = s :: (v.drop (lo + 1)).take (hi - (lo + 1)) := by
          rw [List.drop_eq_getElem_cons hlt, es, show hi - lo = (hi - (lo + 1)) + 1 by omega]
          rfl
        rw [e]
        simpa using f2
      · -- it comes back to lo
        subst e
        have c1 : Wk v lo hi lo (s :: x) lo := .up k1 k2 q1
        obtain ⟨k, xa, xb, hk, e, t1, t2⟩ := c1.top
        have hlk : lo ≤ k := t1.start.2
        have hlk2 : lo < k := by
          cases xa with
          | nil =>
            exfalso
            simp at e
            subst e
            have z := t1.long
            simp at z
            have ek : k = lo := by omega
            subst ek
            cases t2 with
            | up r1 r2 r3 =>
              have := r3.start.2
              omega
            | dn r1 r2 r3 =>
              have := r3.start.1
              omega
          | cons t ta =>
            rcases Nat.lt_or_ge lo k with z | z
            · exact z
            · exfalso
              have ek : k = lo := by omega
              subst ek
              cases t1 with
              | up r1 r2 r3 =>
                have := r3.start.2
                omega
              | dn r1 r2 r3 =>
                have := r3.start.1
                omega
        have hxl : (s :: x).length = xa.length + xb.length := by rw [e]; simp
        have hyl : (x ++ y).length = x.length + y.length := by simp
        simp at hxl
        obtain ⟨ya, yb, e2, r1, r2⟩ := q2.reach hlk hk
        have hy2 : y.length = ya.length + yb.length := by rw [e2]; simp
        have l2 := t2.long
        have l1 := t1.long
        have f1 := ih lo k xa (by omega) (by omega) t1
        have f2 := (ih lo k (inv xb) (by rw [inv_len]; omega) (by omega) t2.rev).inv
        rw [inv_inv] at f2
        have f3 := ih lo k ya (by omega) (by omega) r1
        generalize hP : (v.drop lo).take (k - lo) = P at f1 f2 f3
        have hPl : P.length = k - lo := by rw [← hP]; simp; omega
        have hPw : Wk v lo k lo P k := by
          have z := Wk.line (v := v) (lo := lo) (hi := k) (k - lo) lo (Nat.le_refl _) (by omega) (by omega)
          rw [hP, show lo + (k - lo) = k by omega] at z
          exact z
        have l3 := r1.long
        have g1 : Fs (s :: (x ++ y)) (P ++ (inv P ++ (P ++ yb))) := by
          have e3 : s :: (x ++ y) = xa ++ (xb ++ (ya ++ yb)) := by
            have : s :: x = xa ++ xb := e
            rw [← List.cons_append, this, e2]
            simp
          rw [e3]
          have a1 := f1.ctx [] (xb ++ (ya ++ yb))
          have a2 := f2.ctx P (ya ++ yb)
          have a3 := f3.ctx (P ++ inv P) yb
          simp only [List.nil_append] at a1
          refine a1.trans (a2.trans ?_)
          simpa using a3
        have g2 : F1 (P ++ (inv P ++ (P ++ yb))) (P ++ yb) := ⟨[], P, yb, fun z => by rw [z] at hPl; simp at hPl; omega, rfl, rfl⟩
        have wk2 : Wk v lo hi lo (P ++ yb) hi := (hPw.wide (Nat.le_refl _) hk).app r2
        have g3 := ih lo hi (P ++ yb) (by simp [hPl]; omega) hv wk2
        exact g1.trans (.step g2 g3)
/-- .. and back -/
theorem walk_of_fold {u v : List Wst} (h : Fs u v) : Wk v 0 v.length 0 u v.length := by
  induction h with
  | refl x =>
    have z := Wk.line (v := x) (lo := 0) (hi := x.length) x.length 0 (Nat.le_refl _) (by omega) (Nat.le_refl _)
    simpa using z
  | @step x y z f _ ih =>
    obtain ⟨a, p, b, hp, rfl, rfl⟩ := f
    obtain ⟨m1, q1, q2⟩ := ih.split
    obtain ⟨m2, q3, q4⟩ := q2.split
    exact q1.app (q3.app (q3.rev.app (q3.app q4)))
theorem folds_iff {u v : List Wst} : Fs u v ↔ Wk v 0 v.length 0 u v.length := by
  refine ⟨walk_of_fold, fun h => ?_⟩
  have z := fold_up u.length 0 v.length u (Nat.le_refl _) (Nat.le_refl _) h
  simpa using z
end Mi
end T_T35
section T_P35d
set_option Elab.async false
set_option linter.all false
set_option maxRecDepth 100000
set_option maxHeartbeats 1000000
namespace Mi
open PySem L2
/-! ### is_fold, folded, refused -/
theorem isfold_int {w : List Wst} (hg : GoodW w) (hl : w.length ≤ lim) (i j : Int) (S : Sto) : m_is_fold [wD w, .tup [.int i, .int j]] S = .ok (.bl (canI w i j)) S := by
  refine fn_eq rfl ?_
  simp [b_is_fold, mIsi, kind, subK, mLen, mNe_int, mIx, atI, ixN, isint_int, canfold_ok hg hl]
/-- a value that is_fold refuses without a look at the word -/
def NotF (v : Dv) : Prop := ∀ (w : Dv) (S : Sto), m_is_fold [w, v] S = .ok (.bl false) S
theorem isint_bl (b : Bool) (S : Sto) : m_is_integer [.bl b] S = .ok (.bl false) S := rfl
theorem isint_lst (xs : List Dv) (S : Sto) : m_is_integer [.lst xs] S = .ok (.bl false) S := rfl
theorem isint_dct (xs : List (Key × Dv)) (S : Sto) : m_is_integer [.dct xs] S = .ok (.bl false) S := rfl
theorem isint_str (x : Str) (S : Sto) : m_is_integer [.str x] S = .ok (.bl false) S := rfl
theorem nf_non : NotF .non := fun w S => by
  refine fn_eq rfl ?_
  simp [b_is_fold, mIsi, kind, subK]
theorem nf_int (i : Int) : NotF (.int i) := fun w S => by
  refine fn_eq rfl ?_
  simp [b_is_fold, mIsi, kind, subK]
theorem nf_str (x : Str) : NotF (.str x) := fun w S => by
  refine fn_eq rfl ?_
  simp [b_is_fold, mIsi, kind, subK]
theorem nf_lst (xs : List Dv) : NotF (.lst xs) := fun w S => by
  refine fn_eq rfl ?_
  simp [b_is_fold, mIsi, kind, subK]
theorem nf_len (xs : List Dv) (h : xs.length ≠ 2) : NotF (.tup xs) := fun w S => by
  refine fn_eq rfl ?_
  have h' : ¬ ((xs.length : Int) = 2) := by omega
  simp [b_is_fold, mIsi, kind, subK, mLen, mNe_int, h']
theorem nf_fst (x y : Dv) (h : ∀ S, m_is_integer [x] S = .ok (.bl false) S) : NotF (.tup [x, y]) := fun w S => by
  refine fn_eq rfl ?_
  simp [b_is_fold, mIsi, kind, subK, mLen, mNe_int, mIx, atI, ixN, h]
theorem nf_snd (i : Int) (y : Dv) (h : ∀ S, m_is_integer [y] S = .ok (.bl false) S) : NotF (.tup [.int i, y]) := fun w S => by
  refine fn_eq rfl ?_
  simp [b_is_fold, mIsi, kind, subK, mLen, mNe_int, mIx, atI, ixN, h, isint_int]
theorem folded_ok {w : List Wst} (hg : GoodW w) (hl : w.length + w.length ≤ lim) {a b : Nat} (hc : canF w a b = true) (S : Sto) : m_folded [wD w, pD (a, b)] S = .ok (wD (aftF w a b)) S := by
  refine fn_eq rfl ?_
  have h1 := isfold_int hg (by omega) (a : Int) (b : Int) S
  rw [canI_nat, hc] at h1
  simp [b_folded, pD, want_ok hg (show w.length ≤ lim by omega), h1, mIx, atI, ixN, afterfold_ok hl]
theorem fnEnd_ex {x : Exn} {δ : En} {S : Sto} : fnEnd (.ex x δ S) = .ex x S := rfl
theorem folded_ex {w : List Wst} (hg : GoodW w) (hl : w.length ≤ lim) {v : Dv} (S : Sto) (hf : m_is_fold [wD w, v] S = .ok (.bl false) S) : m_folded [wD w, v] S = .ex ⟨"InvalidFold", [("value", v)]⟩ S := by
  have hw := want_ok hg hl S
  simp [m_folded, fnOf, b_folded, sSeq, sExpr, eN, aCons, eVar, aNil, M.bind, M.pure, hw, onOk, sIf, bNot, bOf, hf, sRaise, fnEnd]
theorem mEq_tt (S : Sto) : mEq (.lst [.bl true, .bl true]) (.lst [.bl true, .bl true]) S = .ok (.bl true) S := rfl
theorem refused_ok {w : List Wst} (hg : GoodW w) (hl : w.length ≤ lim) {v : Dv} (S : Sto) (hf : m_is_fold [wD w, v] S = .ok (.bl false) S) (he : mEqX v v S = .ok (.bl true) S) : m_Lrefused [wD w, v] S = .ok (.bl true) S := by
  have h := folded_ex hg hl S hf
  simp [m_Lrefused, fnOf, b_Lrefused, sSeq, sSet, eC, onOk, M.pure, sTry, sExpr, eN, aCons, aNil, eVar, M.bind, h, suEnd, e2, eXf, eXi, List.lookup, he, mLst, lim_eq, sRet, fnEnd, mEq_tt, mOpt]
end Mi
end T_P35d
section T_P35e
set_option Elab.async false
set_option linter.all false
set_option maxRecDepth 100000
set_option maxHeartbeats 1000000
namespace Mi
open PySem L2
/-! ### the pot, draws -/
def Pt (S : Sto) (p : Nat) : Prop := ∃ a b : Int, S[p]? = some (.lst [.int a, .int b]) ∧ 0 ≤ a ∧ 0 ≤ b
/-- all but the pot stays; there may be more -/
structure Fr (p : Nat) (S S' : Sto) : Prop where
  len : S.length ≤ S'.length
  get : ∀ i, i < S.length → i ≠ p → S'[i]? = S[i]?
  pt : Pt S' p
theorem Pt.lt {S : Sto} {p : Nat} (h : Pt S p) : p < S.length := by
  obtain ⟨a, b, e, _⟩ := h
  exact (List.getElem?_eq_some_iff.mp e).1
theorem Fr.refl {p : Nat} {S : Sto} (h : Pt S p) : Fr p S S := ⟨Nat.le_refl _, fun _ _ _ => rfl, h⟩
theorem Fr.trans {p : Nat} {S S1 S2 : Sto} (a : Fr p S S1) (b : Fr p S1 S2) : Fr p S S2 :=
  ⟨Nat.le_trans a.len b.len, fun i h n => (b.get i (Nat.lt_of_lt_of_le h a.len) n).trans (a.get i h n), b.pt⟩
theorem Fr.new {p : Nat} {S S1 : Sto} {T : List Ob} (a : Fr p S S1) : Fr p S (S1 ++ T) := by
  refine a.trans ⟨by simp, fun i h n => List.getElem?_append_left h, ?_⟩
  obtain ⟨x, y, e, h⟩ := a.pt
  exact ⟨x, y, by rw [List.getElem?_append_left (List.getElem?_eq_some_iff.mp e).1]; exact e, h⟩
theorem Fr.set {p : Nat} {S : Sto} {a b : Int} (h : Pt S p) (ha : 0 ≤ a) (hb : 0 ≤ b) : Fr p S (S.set p (.lst [.int a, .int b])) :=
  ⟨by simp, fun i _ n => List.getElem?_set_ne (Ne.symm n), ⟨a, b, List.getElem?_set_self h.lt, ha, hb⟩⟩
theorem mIx_lst {xs : List Dv} {k : Nat} (h : k < xs.length) (S : Sto) : mIx (.lst xs) (.int k) S = .ok xs[k] S := by
  have e : atI xs (k : Int) = some xs[k] := by
    unfold atI ixN
    simp [h]
  show (match atI xs (k : Int) with | some v => Res.ok v S | none => .bad) = _
  rw [e]
theorem mIx_loc {xs : List Dv} {n k : Nat} {S : Sto} (hn : S[n]? = some (.lst xs)) (h : k < xs.length) : mIx (.loc n) (.int k) S = .ok xs[k] S := by
  have e : atI xs (k : Int) = some xs[k] := by
    unfold atI ixN
    simp [h]
  show (match (match S[n]? with | some (.lst ds) => some ds | _ => none) with | some xs => (match atI xs (k : Int) with | some v => Res.ok v S | none => .bad) | none => .bad) = _
  rw [hn]
  dsimp only
  rw [e]
theorem mIx_str {x : Str} {k : Nat} (h : k < x.length) (hl : x.length ≤ lim) (S : Sto) : mIx (.str x) (.int k) S = .ok (.str ⟨#[x.cps[k]'h]⟩) S := by
  have e : atI x.cps.toList (k : Int) = some (x.cps[k]'h) := by
    have h0 : k < x.cps.size := h
    unfold atI ixN
    simp [h0]
    rfl
  show (if x.length ≤ lim then (match atI x.cps.toList (k : Int) with | some c => Res.ok (Dv.str ⟨#[c]⟩) S | none => .bad) else .bad) = _
  rw [if_pos hl, e]
theorem pot_0 {S : Sto} {p : Nat} {a b : Int} (e : S[p]? = some (.lst [.int a, .int b])) : mIx (.loc p) (.int 0) S = .ok (.int a) S := mIx_loc (k := 0) e (by simp)
theorem pot_1 {S : Sto} {p : Nat} {a b : Int} (e : S[p]? = some (.lst [.int a, .int b])) : mIx (.loc p) (.int 1) S = .ok (.int b) S := mIx_loc (k := 1) e (by simp)
theorem gIx_0 {S : Sto} {p : Nat} {a b : Int} {d : Dv} {δ : En} (hδ : δ[0]? = some (some (.loc p))) (e : S[p]? = some (.lst [.int a, .int b])) : gIx (eVar 0) (eC (.int 0)) d δ S = some (δ, S.set p (.lst [d, .int b])) := by
  simp [gIx, eVar, hδ, M.pure, eC, e, ixN]
theorem gIx_1 {S : Sto} {p : Nat} {a b : Int} {d : Dv} {δ : En} (hδ : δ[0]? = some (some (.loc p))) (e : S[p]? = some (.lst [.int a, .int b])) : gIx (eVar 0) (eC (.int 1)) d δ S = some (δ, S.set p (.lst [.int a, d])) := by
  simp [gIx, eVar, hδ, M.pure, eC, e, ixN]
theorem draw_ok {S : Sto} {p m : Nat} (h : Pt S p) (h1 : 0 < m) (h2 : m < 1000) : Wp (m_Ldraw [.loc p, .int m] S) fun d S' => ∃ k : Nat, d = .int k ∧ k < m ∧ Fr p S S' := by
  have hp := h
  obtain ⟨a, b, e, ha, hb⟩ := h
  refine fn_wp rfl ?_
  have hm : (0 : Int) < m := by omega
  have hm2 : (m : Int) < 1073741824 := by omega
  have i0 := pot_0 e
  have i1 := pot_1 e
  by_cases hz : 0 < a
  · have q : a / (m : Int) ≥ 0 := Int.ediv_nonneg ha (by omega)
    have q1 : a % (m : Int) ≥ 0 := Int.emod_nonneg _ (by omega)
    have q2 : a % (m : Int) < m := Int.emod_lt_of_pos _ hm
    have dm : mDivmod [.int a, .int m] S = .ok (.tup [.int (a / m), .int (a % m)]) S := by
      show (if (0 : Int) < m ∧ (m : Int) < 1073741824 then M.pure _ else mBad) S = _
      rw [if_pos ⟨hm, hm2⟩]
      rfl
    have g0 := gIx_0 (d := .int (a / m)) (δ := [some (.loc p), some (.int m), none]) rfl e
    simp [b_Ldraw, i0, mGt, mCmp, M.pure, hz, dm, gTp, gAll, g0, gNm]
    exact ⟨(a % (m : Int)).toNat, by omega, by omega, Fr.set hp q hb⟩
  · have a0 : ¬ 0 < a := hz
    have hb2 : 0 ≤ (b * 39409 + 20011) % 2147483549 := Int.emod_nonneg _ (by decide)
    have hb3 : (b * 39409 + 20011) % 2147483549 < 2147483549 := Int.emod_lt_of_pos _ (by decide)
    have mm : ∀ S1, mMul (.int b) (.int 39409) S1 = .ok (.int (b * 39409)) S1 := fun S1 => by
      show (if b.natAbs < 2 ^ 64 ∨ (39409 : Int).natAbs < 2 ^ 64 then Res.ok (Dv.int (b * 39409)) S1 else .bad) = _
      rw [if_pos (.inr (by decide))]
    generalize hc : (b * 39409 + 20011) % 2147483549 = c at hb2 hb3
    have mc : ∀ S1, mMul (.int c) (.int c) S1 = .ok (.int (c * c)) S1 := fun S1 => mMul_small (by omega)
    have q1 : (c * c % 2147483477 / 11) % (m : Int) ≥ 0 := Int.emod_nonneg _ (by omega)
    have q2 : (c * c % 2147483477 / 11) % (m : Int) < m := Int.emod_lt_of_pos _ hm
    have e' : (S.set p (.lst [.int a, .int c]))[p]? = some (.lst [.int a, .int c]) := List.getElem?_set_self hp.lt
    have j1 := pot_1 e'
    have g1 := gIx_1 (d := .int c) (δ := [some (.loc p), some (.int m), none]) rfl e
    simp [b_Ldraw, i0, i1, mGt, mCmp, M.pure, a0, mm, mAdd_int, mInt, mMod, hc, g1, j1, mc, mFdiv, h1]
    exact ⟨((c * c % 2147483477 / 11) % (m : Int)).toNat, by omega, by omega, Fr.set hp ha hb2⟩
theorem pick_ok {S : Sto} {p n : Nat} {d : Dv} {R : Dv → Prop} (h : Pt S p) (h1 : 0 < n) (h2 : n < 1000) (hl : mLen [d] S = .ok (.int n) S) (hx : ∀ S' (k : Nat), Fr p S S' → k < n → ∃ v, mIx d (.int k) S' = .ok v S' ∧ R v) : Wp (m_Lpick [.loc p, d] S) fun v S' => R v ∧ Fr p S S' := by
  refine fn_wp rfl ?_
  simp [b_Lpick, hl]
  refine (draw_ok h h1 h2).mono fun dd S' ⟨k, e1, e2, f⟩ => ?_
  subst e1
  obtain ⟨v, e3, r⟩ := hx S' k f e2
  rw [e3]
  exact ⟨r, f⟩
/-! ### labels -/
def lettersS : Str := "abcdefghijklmnopqrstuvwxyz"
theorem letters_at : ∀ k : Fin 26, isLt ((lettersS.cps[k.val]?).getD 0) = true := by decide +kernel
theorem letters_len : lettersS.length = 26 := by decide +kernel
def OneL (x : Str) : Prop := ∃ c, x = ⟨#[c]⟩ ∧ isLt c = true
theorem pick_letter {S : Sto} {p : Nat} (h : Pt S p) : Wp (m_Lpick [.loc p, .str lettersS] S) fun v S' => (∃ x, v = .str x ∧ OneL x) ∧ Fr p S S' := by
  refine pick_ok (n := 26) h (by decide) (by decide) ?_ fun S' k f hk => ?_
  · show (if lettersS.length ≤ lim then Res.ok (Dv.int lettersS.length) S else .bad) = _
    rw [letters_len]
    rfl
  · have hk' : k < lettersS.length := by rw [letters_len]; exact hk
    refine ⟨_, mIx_str hk' (by rw [letters_len]; decide) S', _, rfl, _, rfl, ?_⟩
    have z := letters_at ⟨k, hk⟩
    rw [Array.getElem?_eq_getElem hk'] at z
    exact z
/-- letters alone, n of them at most -/
def LtsL (x : Str) : Prop := ∀ c ∈ x.cps.toList, isLt c = true
theorem lts_app {x y : Str} (hx : LtsL x) (hy : LtsL y) : LtsL (x ++ y) := fun c hc => by
  have e : (x ++ y).cps = x.cps ++ y.cps := rfl
  rw [e, Array.toList_append] at hc
  exact (List.mem_append.mp hc).elim (hx c) (hy c)
theorem len_app (x y : Str) : (x ++ y).length = x.length + y.length := by
  show (x.cps ++ y.cps).size = _
  simp
  rfl
theorem one_len {x : Str} (h : OneL x) : x.length = 1 ∧ LtsL x := by
  obtain ⟨c, rfl, hc⟩ := h
  exact ⟨rfl, fun d hd => by simp at hd; rw [hd]; exact hc⟩
theorem lts_emp : LtsL (Str.ofString "") := fun c hc => by
  have e : (Str.ofString "").cps.toList = [] := by decide +kernel
  rw [e] at hc
  cases hc
theorem join_ones : ∀ {xs : List Str}, (∀ x ∈ xs, OneL x) → (Str.join "" xs).length = xs.length ∧ LtsL (Str.join "" xs)
  | [], _ => ⟨rfl, fun c hc => by simp [Str.join, Str.empty] at hc⟩
  | [x], h => one_len (h x (by simp))
  | x :: y :: r, h => by
    obtain ⟨a1, a2⟩ := one_len (h x (by simp))
    obtain ⟨b1, b2⟩ := join_ones (xs := y :: r) fun z hz => h z (List.mem_cons_of_mem _ hz)
    have e : Str.join "" (x :: y :: r) = x ++ "" ++ Str.join "" (y :: r) := rfl
    rw [e]
    refine ⟨?_, lts_app (lts_app a2 lts_emp) b2⟩
    rw [len_app, len_app, a1, b1]
    have : (Str.ofString "").length = 0 := by decide +kernel
    rw [this]
    simp
    omega
end Mi
end T_P35e
section T_P35f
set_option Elab.async false
set_option linter.all false
set_option maxRecDepth 100000
set_option maxHeartbeats 1000000
namespace Mi
open PySem L2
def strsP (xs : List Str) : PyData := .list (xs.map PyData.str)
theorem deep_strs (xs : List Str) (S : Sto) (k : Nat) : optAll ((xs.map Dv.str).map (deep S (k + 1))) = some (xs.map PyData.str) := by
  rw [List.map_map]
  exact optAll_map (f := fun x => deep S (k + 1) (Dv.str x)) fun x _ => rfl
theorem any_str (x : Str) (xs : List Str) : ((xs.map PyData.str).any fun z => PyData.eqv z (.str x)) = decide (x ∈ xs) := by
  rw [Bool.eq_iff_iff, decide_eq_true_eq, List.any_eq_true]
  constructor
  · rintro ⟨z, hz, h⟩
    obtain ⟨y, hy, rfl⟩ := List.mem_map.mp hz
    have e : y = x := eq_of_beq (show (y == x) = true from h)
    rw [← e]; exact hy
  · intro h
    exact ⟨.str x, List.mem_map.mpr ⟨x, h, rfl⟩, beq_self_eq_true x⟩
theorem mNotIn_loc {S : Sto} {n : Nat} {x : Str} {xs : List Str} (h : S[n]? = some (.lst (xs.map Dv.str))) : mNotIn (.str x) (.loc n) S = .ok (.bl (!decide (x ∈ xs))) S := by
  have e : deep S dpt (.loc n) = some (.list (xs.map PyData.str)) := by
    show (match S[n]? with | some (.lst xs) => (optAll (xs.map (deep S 11))).map PyData.list | _ => none) = _
    rw [h]
    dsimp only
    rw [deep_strs xs S 10]
    rfl
  show (match deep S dpt (.str x), deep S dpt (.loc n) with
    | some p, some (.list ps) => if noDict p && noDictA ps then Res.ok (Dv.bl (not (ps.any fun z => PyData.eqv z p))) S else .bad
    | some p, some (.tuple ps) => if noDict p && noDictA ps then Res.ok (Dv.bl (not (ps.any fun z => PyData.eqv z p))) S else .bad
    | _, _ => .bad) = _
  rw [e]
  show (if noDict (.str x) && noDictA (xs.map PyData.str) then Res.ok (Dv.bl (not ((xs.map PyData.str).any fun z => PyData.eqv z (.str x)))) S else .bad) = _
  rw [noDict_all (f := PyData.str) (fun _ _ => rfl), any_str]
  rfl
theorem mAdd_str {x y : Str} (h : x.length + y.length ≤ lim) (S : Sto) : mAdd (.str x) (.str y) S = .ok (.str (x ++ y)) S := by
  show (if x.length + y.length ≤ lim then Res.ok (Dv.str (x ++ y)) S else .bad) = _
  rw [if_pos h]
theorem mSl_str {x : Str} (h : x.length ≤ lim) (lo hi : Option Int) (S : Sto) : mSl lo hi (.str x) S = .ok (.str (cutS x lo hi)) S := by
  show (if x.length ≤ lim then Res.ok (Dv.str (cutS x lo hi)) S else .bad) = _
  rw [if_pos h]
theorem cutS_len (x : Str) (k : Nat) : (cutS x none (some (k : Int))).length ≤ k := by
  unfold cutS
  show (List.toArray _).size ≤ k
  simp [sIx_none, sIx_nat]
  omega
theorem cutS_lts {x : Str} (h : LtsL x) (lo hi : Option Int) : LtsL (cutS x lo hi) := by
  intro c hc
  unfold cutS at hc
  exact h c (List.mem_of_mem_drop (List.mem_of_mem_take (by simpa using hc)))
def qS : Str := "q"
theorem q_ok : qS.length = 1 ∧ LtsL qS := ⟨by decide +kernel, fun c hc => by
  have e : qS.cps.toList = [113] := by decide +kernel
  rw [e] at hc
  rw [List.mem_singleton.mp hc]
  rfl⟩
/-- what labels may be made of a spelt one -/
def cands (x : Str) : List Str := x :: lettersS.cps.toList.map fun c => cutS x none (some (6 : Int)) ++ ⟨#[c]⟩ ++ qS
theorem cands_good {x y : Str} (h : LtsL x) (h1 : 1 ≤ x.length) (h2 : x.length ≤ 8) (hy : y ∈ cands x) : GoodL y := by
  rcases List.mem_cons.mp hy with e | hy
  · subst e
    exact ⟨h1, h2, h⟩
  · obtain ⟨c, hc, rfl⟩ := List.mem_map.mp hy
    have hl : isLt c = true := by
      obtain ⟨k, hk, e⟩ := List.mem_iff_getElem.mp hc
      have hk' : k < 26 := by
        have : lettersS.cps.toList.length = 26 := letters_len
        omega
      have z := letters_at ⟨k, hk'⟩
      have hk2 : k < lettersS.cps.size := by simpa using hk
      rw [Array.getElem?_eq_getElem hk2] at z
      rw [← e]
      simpa using z
    have l1 := cutS_len x 6
    have o := one_len (x := ⟨#[c]⟩) ⟨c, rfl, hl⟩
    refine ⟨?_, ?_, lts_app (lts_app (cutS_lts h _ _) o.2) q_ok.2⟩
    · rw [len_app, len_app, o.1, q_ok.1]; omega
    · rw [len_app, len_app, o.1, q_ok.1]
      have : (cutS x none (some ((6 : Nat) : Int))).length ≤ 6 := l1
      have e6 : ((6 : Nat) : Int) = 6 := rfl
      rw [e6] at this
      omega
/-- two of them at least -/
theorem cands_two (x : Str) : ∃ a b, a ∈ cands x ∧ b ∈ cands x ∧ a ≠ b := by
  refine ⟨cutS x none (some (6 : Int)) ++ ⟨#[97]⟩ ++ qS, cutS x none (some (6 : Int)) ++ ⟨#[98]⟩ ++ qS, List.mem_cons_of_mem _ (List.mem_map.mpr ⟨97, by decide +kernel, rfl⟩), List.mem_cons_of_mem _ (List.mem_map.mpr ⟨98, by decide +kernel, rfl⟩), fun e => ?_⟩
  have e1 := congrArg (fun s : Str => s.cps.toList) e
  have ap : ∀ a b : Str, (a ++ b).cps.toList = a.cps.toList ++ b.cps.toList := fun a b => by
    show (a.cps ++ b.cps).toList = _
    simp
  simp only [ap] at e1
  have e2 := List.append_cancel_right e1
  have e3 := List.append_cancel_left e2
  simp at e3
theorem cands_left (x : Str) {ls : List Str} (h : ls.length ≤ 1) : ∃ y r, (cands x).filter (fun z => !decide (z ∈ ls)) = y :: r ∧ y ∈ cands x := by
  obtain ⟨a, b, ha, hb, hab⟩ := cands_two x
  cases e : (cands x).filter (fun z => !decide (z ∈ ls)) with
  | cons y r =>
    refine ⟨y, r, rfl, ?_⟩
    have : y ∈ (cands x).filter (fun z => !decide (z ∈ ls)) := by rw [e]; simp
    exact (List.mem_filter.mp this).1
  | nil =>
    exfalso
    have no := List.filter_eq_nil_iff.mp e
    have ia : a ∈ ls := by simpa using no a ha
    have ib : b ∈ ls := by simpa using no b hb
    match ls, h, ia, ib with
    | [l], _, ia, ib =>
      rw [List.mem_singleton.mp ia, List.mem_singleton.mp ib] at hab
      exact hab rfl
    | [], _, ia, _ => cases ia
end Mi
end T_P35f
section T_P35g
set_option Elab.async false
set_option linter.all false
set_option maxRecDepth 100000
set_option maxHeartbeats 1000000
namespace Mi
open PySem L2
theorem Fr.keep {p n : Nat} {S S' : Sto} {o : Ob} (f : Fr p S S') (h : S[n]? = some o) (hn : n ≠ p) : S'[n]? = some o := by
  rw [f.get n (List.getElem?_eq_some_iff.mp h).1 hn]
  exact h
/-- a list of the store is changed -/
theorem Fr.put {p n : Nat} {S S' : Sto} {o : Ob} (f : Fr p S S') (hn : n ≠ p) (h : S.length ≤ n) : Fr p S (S'.set n o) := by
  refine ⟨by simpa using f.len, fun i hi hp => ?_, ?_⟩
  · rw [List.getElem?_set_ne (by omega)]
    exact f.get i hi hp
  · obtain ⟨a, b, e, q⟩ := f.pt
    exact ⟨a, b, by rw [List.getElem?_set_ne hn]; exact e, q⟩
theorem mNewL_ok (ds : List Dv) (S : Sto) (h : ds.length ≤ lim) : mNewL ds S = .ok (.loc S.length) (S ++ [.lst ds]) := by
  show (if ds.length ≤ lim then Res.ok (Dv.loc S.length) (S ++ [Ob.lst ds]) else .bad) = _
  rw [if_pos h]
theorem mLst_ok (ds : List Dv) (S : Sto) (h : ds.length ≤ lim) : mLst ds S = .ok (.lst ds) S := by
  show (if ds.length ≤ lim then M.pure (Dv.lst ds) else mBad) S = _
  rw [if_pos h]
  rfl
theorem mTup_ok (ds : List Dv) (S : Sto) (h : ds.length ≤ lim) : mTup ds S = .ok (.tup ds) S := by
  show (if ds.length ≤ lim then M.pure (Dv.tup ds) else mBad) S = _
  rw [if_pos h]
  rfl
theorem mAppend_ok {S : Sto} {n : Nat} {xs : List Dv} {d : Dv} (h : S[n]? = some (.lst xs)) (hl : xs.length < lim) : mAppend (.loc n) [d] S = .ok .non (S.set n (.lst (xs ++ [d]))) := by
  show (match S[n]? with | some (.lst xs) => if xs.length < lim then Res.ok Dv.non (S.set n (.lst (xs ++ [d]))) else .bad | _ => .bad) = _
  rw [h]
  dsimp only
  rw [if_pos hl]
theorem kind_loc {S : Sto} {n : Nat} {xs : List Dv} (h : S[n]? = some (.lst xs)) : kind S (.loc n) = some "list" := by
  show (match S[n]? with | some (.lst _) => some "list" | some (.dK _) => some "dict" | some (.dT _) => some "dict" | none => none) = _
  rw [h]
/-- one spelt label -/
theorem spelt_ok {S : Sto} {p s : Nat} (h : Pt S p) (h1 : 1 ≤ s) (h2 : s ≤ 8) {δ : En} (d0 : δ[0]? = some (some (.loc p))) (d2 : δ[2]? = some (some (.str lettersS))) (d5 : δ[5]? = some (some (.int (s : Int)))) (hl : δ.length = 11) :
    Wp (eJoin (eC (.str "")) (eLc (iRange1 (aCons (eVar 5) aNil)) (gNm 8) bYes (eN m_Lpick (aCons (eVar 0) (aCons (eVar 2) aNil))) [8]) δ S) fun v S' => ∃ x, v = .str x ∧ LtsL x ∧ 1 ≤ x.length ∧ x.length ≤ 8 ∧ Fr p S S' := by
  have r1 := mRange1_nat (n := s) (S := S) (by rw [lim_eq]; omega)
  simp only [wp_join, wp_c, isS_str, wp_lc, wp_range1, wp_cons, wp_nil, wp_var d5, r1, wp_ok]
  refine wp_lcIx (fun i acc S' => ∃ xs : List Str, acc = xs.map Dv.str ∧ xs.length = i ∧ (∀ x ∈ xs, OneL x) ∧ Fr p S S') _ (by simp [lim_eq]; omega) ⟨[], rfl, rfl, fun _ z => (nomatch z), Fr.refl h⟩ ?_ ?_
  · rintro ys S' ⟨xs, rfl, hx, ho, f⟩
    have hx' : xs.length = s := by simpa using hx
    obtain ⟨j1, j2⟩ := join_ones ho
    have hsum : ∀ {ys : List Str}, (∀ x ∈ ys, OneL x) → (ys.map fun y : Str => y.length).sum = ys.length := fun {ys} hy => by
      induction ys with
      | nil => rfl
      | cons y ys ih =>
        simp only [List.map_cons, List.sum_cons, List.length_cons]
        rw [(one_len (hy y (by simp))).1, ih fun x hx => hy x (List.mem_cons_of_mem _ hx)]
        omega
    have e0 : (Str.ofString "").length = 0 := by decide +kernel
    rw [mJoin_lst (by rw [hsum ho, e0, lim_eq]; omega), wp_ok]
    exact ⟨_, rfl, j2, by rw [j1]; omega, by rw [j1]; omega, f⟩
  · rintro i hi acc S' ⟨xs, rfl, hx, ho, f⟩
    have w0 : (wipeD δ [8])[0]? = some (some (.loc p)) := by
      show (List.set δ 8 none)[0]? = _
      rw [List.getElem?_set_ne (by decide)]; exact d0
    have w2 : (wipeD δ [8])[2]? = some (some (.str lettersS)) := by
      show (List.set δ 8 none)[2]? = _
      rw [List.getElem?_set_ne (by decide)]; exact d2
    have v0 : ∀ d : Dv, ((wipeD δ [8]).set 8 (some d))[0]? = some (some (.loc p)) := fun d => by rw [List.getElem?_set_ne (by decide)]; exact w0
    have v2 : ∀ d : Dv, ((wipeD δ [8]).set 8 (some d))[2]? = some (some (.str lettersS)) := fun d => by rw [List.getElem?_set_ne (by decide)]; exact w2
    simp only [gNm, onS_some, wp_eN, wp_cons, wp_nil, wp_var (v0 _), wp_var (v2 _)]
    show Wp (bYes _ S') _
    simp only [bYes, wp_pure, if_true]
    refine (pick_letter f.pt).mono fun v S2 ⟨⟨x, e, hx1⟩, f2⟩ => ?_
    subst e
    refine ⟨xs ++ [x], by simp, by simp [hx], fun y hy => ?_, f.trans f2⟩
    rcases List.mem_append.mp hy with hy | hy
    · exact ho y hy
    · rw [List.mem_singleton.mp hy]; exact hx1
theorem cand_comp {x : Str} (hx : x.length ≤ 8) {δ : En} (d6 : δ[6]? = some (some (.str x))) (S : Sto) (hl : δ.length = 11) :
    lcEnd (gNm 9) bYes (e2 mAdd (e2 mAdd (eSl (eVar 6) oNone (oSome (eC (.int 6)))) (eVar 9)) (eC (.str "q"))) (wipeD δ [9]) (lettersS.cps.toList.map fun c => .str ⟨#[c]⟩) S = .ok (.lst (lettersS.cps.toList.map fun c => .str (cutS x none (some (6 : Int)) ++ ⟨#[c]⟩ ++ qS))) S := by
  refine lcEnd_map (fun c => Dv.str ⟨#[c]⟩) _ (by have : lettersS.cps.toList.length = 26 := letters_len; rw [this]; decide) fun c _ => ?_
  refine ⟨rfl, ?_⟩
  have w6 : ((wipeD δ [9]).set 9 (some (Dv.str ⟨#[c]⟩)))[6]? = some (some (.str x)) := by
    show ((List.set δ 9 none).set 9 _)[6]? = _
    rw [List.getElem?_set_ne (by decide), List.getElem?_set_ne (by decide)]
    exact d6
  have w9 : ((wipeD δ [9]).set 9 (some (Dv.str ⟨#[c]⟩)))[9]? = some (some (.str ⟨#[c]⟩)) := by
    refine List.getElem?_set_self ?_
    show 9 < (List.set δ 9 none).length
    rw [List.length_set, hl]
    decide
  have l6 : (cutS x none (some (6 : Int))).length ≤ 6 := cutS_len x 6
  have o : (⟨#[c]⟩ : Str).length = 1 := rfl
  have a1 := mAdd_str (x := cutS x none (some (6 : Int))) (y := ⟨#[c]⟩) (by rw [o, lim_eq]; omega) S
  have a2 := mAdd_str (x := cutS x none (some (6 : Int)) ++ ⟨#[c]⟩) (y := qS) (by rw [len_app, o, q_ok.1, lim_eq]; omega) S
  apply Wp.eq
  show Wp (e2 mAdd (e2 mAdd (eSl (eVar 6) oNone (oSome (eC (.int 6)))) (eVar 9)) (eC (.str qS)) _ S) _
  simp only [wp_e2, wp_sl, wp_var w6, wp_var w9, wp_oNone, wp_oSome, wp_c, isI_int, mSl_str (show x.length ≤ lim by rw [lim_eq]; omega), wp_ok, a1, a2]
  simp
theorem pick_size {S : Sto} {p k : Nat} (h : Pt S p) (hk : k < 8) : Wp (m_Lpick [.loc p, .lst [.int 1, .int 1, .int 2, .int (1 + (k : Int))]] S) fun v S' => (∃ s : Nat, v = .int (s : Int) ∧ 1 ≤ s ∧ s ≤ 8) ∧ Fr p S S' := by
  refine pick_ok (n := 4) h (by decide) (by decide) rfl fun S' i f hi => ?_
  refine ⟨_, mIx_lst (by simpa using hi) S', ?_⟩
  match i, hi with
  | 0, _ => exact ⟨1, rfl, by decide, by decide⟩
  | 1, _ => exact ⟨1, rfl, by decide, by decide⟩
  | 2, _ => exact ⟨2, rfl, by decide, by decide⟩
  | 3, _ => exact ⟨1 + k, by show Dv.int (1 + (k : Int)) = Dv.int ((1 + k : Nat) : Int); congr 1, by omega, by omega⟩
section
variable {δ : En} {S : Sto} {N : En → Sto → Prop} {R : Dv → Sto → Prop} {P : Dv → Sto → Prop}
theorem set_then {i : Nat} {e : EX} {b : SM} (Q : Dv → Sto → Prop) (h : Wp (e δ S) Q) (k : ∀ d S', Q d S' → WpS (b (δ.set i (some d)) S') N R) : WpS (sSeq (sSet i e) b δ S) N R := by
  rw [wps_seq, wps_set]
  exact h.mono k
theorem expr_then {e : EX} {b : SM} (Q : Sto → Prop) (h : Wp (e δ S) fun _ S' => Q S') (k : ∀ S', Q S' → WpS (b δ S') N R) : WpS (sSeq (sExpr e) b δ S) N R := by
  rw [wps_seq, wps_expr]
  exact h.mono fun _ S' q => k S' q
theorem seq_then {a b : SM} (Q : En → Sto → Prop) (h : WpS (a δ S) Q R) (k : ∀ δ S', Q δ S' → WpS (b δ S') N R) : WpS (sSeq a b δ S) N R := by
  rw [wps_seq]
  exact h.mono k fun _ _ q => q
end
theorem size_ok {S : Sto} {p : Nat} (h : Pt S p) {δ : En} (d0 : δ[0]? = some (some (.loc p))) : Wp (eN m_Lpick (aCons (eVar 0) (aCons (eN mLst (aCons (eC (.int 1)) (aCons (eC (.int 1)) (aCons (eC (.int 2)) (aCons (e2 mAdd (eC (.int 1)) (eN m_Ldraw (aCons (eVar 0) (aCons (eC (.int 8)) aNil)))) aNil))))) aNil)) δ S) fun v S' => (∃ s : Nat, v = .int (s : Int) ∧ 1 ≤ s ∧ s ≤ 8) ∧ Fr p S S' := by
  simp only [wp_eN, wp_cons, wp_nil, wp_var d0, wp_c, wp_e2]
  refine (draw_ok (m := 8) h (by decide) (by decide)).mono fun dd S1 ⟨k, e1, e2, f1⟩ => ?_
  subst e1
  rw [mAdd_int, wp_ok, mLst_ok _ _ (by simp [lim_eq]), wp_ok]
  exact (pick_size f1.pt e2).mono fun v S2 ⟨q, f2⟩ => ⟨q, f1.trans f2⟩
theorem some_ok {x : Str} (hx : x.length ≤ 8) {δ : En} (d2 : δ[2]? = some (some (.str lettersS))) (d6 : δ[6]? = some (some (.str x))) (S : Sto) (hl : δ.length = 11) :
    Wp (e2 mAdd (eN mLst (aCons (eVar 6) aNil)) (eLcE (eVar 2) (gNm 9) bYes (e2 mAdd (e2 mAdd (eSl (eVar 6) oNone (oSome (eC (.int 6)))) (eVar 9)) (eC (.str "q"))) [9]) δ S) fun v S' => v = .lst ((cands x).map Dv.str) ∧ S' = S := by
  simp only [wp_e2, wp_eN, wp_cons, wp_nil, wp_var d6, wp_lcE, wp_var d2, lcE_str]
  rw [mLst_ok _ _ (by simp [lim_eq]), wp_ok, cand_comp hx d6 S hl, wp_ok]
  have l26 : lettersS.cps.toList.length = 26 := letters_len
  show Wp (if [Dv.str x].length + (lettersS.cps.toList.map fun c => Dv.str (cutS x none (some (6 : Int)) ++ ⟨#[c]⟩ ++ qS)).length ≤ lim then Res.ok (Dv.lst ([Dv.str x] ++ _)) S else .bad) _
  rw [if_pos (by rw [List.length_map, l26]; simp [lim_eq]), wp_ok]
  refine ⟨?_, rfl⟩
  simp [cands, Function.comp_def]
theorem left_ok {x : Str} {ls : List Str} {n : Nat} (hls : ls.length ≤ 1) {δ : En} (d3 : δ[3]? = some (some (.loc n))) (d7 : δ[7]? = some (some (.lst ((cands x).map Dv.str)))) {S : Sto} (hn : S[n]? = some (.lst (ls.map Dv.str))) (hl : δ.length = 11) :
    Wp (e2 mIx (eLcE (eVar 7) (gNm 10) (bOf (e2 mNotIn (eVar 10) (eVar 3))) (eVar 10) [10]) (eC (.int 0)) δ S) fun v S' => (∃ y, v = .str y ∧ y ∈ cands x) ∧ S' = S := by
  have lc : lcEnd (gNm 10) (bOf (e2 mNotIn (eVar 10) (eVar 3))) (eVar 10) (wipeD δ [10]) ((cands x).map Dv.str) S = .ok (.lst (((cands x).filter fun z => !decide (z ∈ ls)).map Dv.str)) S := by
    have l26 : lettersS.cps.toList.length = 26 := letters_len
    refine lcEnd_filter Dv.str _ (by simp only [cands, List.length_cons, List.length_map, l26]; decide) fun z _ => ?_
    have w3 : ((wipeD δ [10]).set 10 (some (Dv.str z)))[3]? = some (some (.loc n)) := by
      show ((List.set δ 10 none).set 10 _)[3]? = _
      rw [List.getElem?_set_ne (by decide), List.getElem?_set_ne (by decide)]
      exact d3
    have w10 : ((wipeD δ [10]).set 10 (some (Dv.str z)))[10]? = some (some (.str z)) := by
      refine List.getElem?_set_self ?_
      show 10 < (List.set δ 10 none).length
      rw [List.length_set, hl]
      decide
    refine ⟨rfl, ?_, fun _ => ?_⟩
    · apply Wp.eq
      simp only [gNm, wp_bOf, wp_e2, wp_var w10, wp_var w3, mNotIn_loc hn, wp_ok, isB_bl]
      exact ⟨trivial, trivial⟩
    · apply Wp.eq
      simp only [gNm, wp_var w10]
      exact ⟨trivial, trivial⟩
  obtain ⟨y, r, e, hy⟩ := cands_left x hls
  simp only [wp_e2, wp_lcE, wp_var d7, lcE_lst, lc, wp_ok, wp_c]
  rw [e]
  have ix := mIx_lst (xs := (y :: r).map Dv.str) (k := 0) (by simp) S
  rw [show ((0 : Nat) : Int) = 0 from rfl] at ix
  rw [ix, wp_ok]
  exact ⟨⟨y, rfl, hy⟩, rfl⟩
theorem labels_ok {S : Sto} {p m : Nat} (h : Pt S p) (hm : m ≤ 2) : Wp (m_Llabels [.loc p, .int (m : Int)] S) fun d S' => ∃ ls : List Str, d = .loc S.length ∧ S'[S.length]? = some (.lst (ls.map Dv.str)) ∧ ls.length = m ∧ (∀ l ∈ ls, GoodL l) ∧ Fr p S S' := by
  refine fn_wp rfl ?_
  have hpl := h.lt
  unfold b_Llabels
  refine seq_then (fun δ S' => δ = [some (.loc p), some (.int (m : Int)), some (.str lettersS), some (.loc S.length), none, none, none, none, none, none, none] ∧ S' = S ++ [Ob.lst []]) ?_ ?_
  · rw [wps_asg]
    simp only [wp_eN, wp_cons, wp_nil, wp_c]
    rw [mNewL_ok _ _ (by simp [lim_eq]), wp_ok, mTup_ok _ _ (by simp [lim_eq]), wp_ok]
    exact ⟨rfl, rfl⟩
  rintro δ S' ⟨rfl, rfl⟩
  have r1 := mRange1_nat (n := m) (S := S ++ [Ob.lst []]) (by rw [lim_eq]; omega)
  refine seq_then (fun δ S' => ∃ x4 x5 x6 x7 x8 x9 x10, ∃ ls : List Str, δ = [some (.loc p), some (.int (m : Int)), some (.str lettersS), some (.loc S.length), x4, x5, x6, x7, x8, x9, x10] ∧ S'[S.length]? = some (.lst (ls.map Dv.str)) ∧ ls.length = m ∧ (∀ l ∈ ls, GoodL l) ∧ Fr p S S') ?_ ?_
  · rw [wps_for]
    simp only [wp_range1, wp_cons, wp_nil]
    rw [wp_var rfl, r1, wp_ok]
    refine wps_forIx (fun i δ S' => ∃ x4 x5 x6 x7 x8 x9 x10, ∃ ls : List Str, δ = [some (.loc p), some (.int (m : Int)), some (.str lettersS), some (.loc S.length), x4, x5, x6, x7, x8, x9, x10] ∧ S'[S.length]? = some (.lst (ls.map Dv.str)) ∧ ls.length = i ∧ (∀ l ∈ ls, GoodL l) ∧ Fr p S S') _ ⟨none, none, none, none, none, none, none, [], rfl, by simp, rfl, fun _ z => (nomatch z), (Fr.refl h).new⟩ ?_ ?_
    · rintro δ S' ⟨x4, x5, x6, x7, x8, x9, x10, ls, rfl, h1, h2, h3, f⟩
      exact ⟨x4, x5, x6, x7, x8, x9, x10, ls, rfl, h1, by simpa using h2, h3, f⟩
    · rintro i hi δ S' ⟨x4, x5, x6, x7, x8, x9, x10, ls, rfl, h1, h2, h3, f⟩
      have him : i < m := by simpa using hi
      generalize hd : (List.map (fun i : Nat => Dv.int (i : Int)) (List.range m))[i] = dd
      show WpS (sSeq _ _ [some (.loc p), some (.int (m : Int)), some (.str lettersS), some (.loc S.length), some dd, x5, x6, x7, x8, x9, x10] S') _ _
      refine set_then _ (size_ok f.pt rfl) ?_
      rintro _ S1 ⟨⟨s, rfl, s1, s2⟩, f1⟩
      refine set_then _ (spelt_ok f1.pt s1 s2 rfl rfl rfl rfl) ?_
      rintro _ S2 ⟨x, rfl, l1, l2, l3, f2⟩
      refine set_then _ (some_ok l3 rfl rfl S2 rfl) ?_
      rintro _ S3 ⟨rfl, rfl⟩
      have fa := (f.trans f1).trans f2
      have hne : S.length ≠ p := by omega
      have hk : S3[S.length]? = some (.lst (ls.map Dv.str)) := (f1.trans f2).keep h1 hne
      rw [wps_expr, wp_mth, wp_var rfl]
      refine ⟨kind_loc hk, ?_⟩
      rw [wp_cons]
      refine (left_ok (ls := ls) (by omega) rfl rfl hk rfl).mono ?_
      rintro _ S4 ⟨⟨y, rfl, hy⟩, rfl⟩
      rw [wp_nil, mAppend_ok hk (by rw [List.length_map, lim_eq]; omega), wp_ok]
      refine ⟨_, _, _, _, _, _, _, ls ++ [y], rfl, ?_, by simp [h2], fun l hl => ?_, fa.put hne (Nat.le_refl _)⟩
      · rw [List.getElem?_set_self (List.getElem?_eq_some_iff.mp hk).1]
        simp
      · rcases List.mem_append.mp hl with hl | hl
        · exact h3 l hl
        · rw [List.mem_singleton.mp hl]
          exact cands_good l1 l2 l3 hy
  · rintro δ S' ⟨x4, x5, x6, x7, x8, x9, x10, ls, rfl, h1, h2, h3, f⟩
    rw [wps_ret, wp_var rfl]
    exact ⟨ls, rfl, h1, h2, h3, f⟩
end Mi
end T_P35g
section T_P35h
set_option Elab.async false
set_option linter.all false
set_option maxRecDepth 100000
set_option maxHeartbeats 1000000
namespace Mi
open PySem L2
theorem pick_label {S : Sto} {p n : Nat} {ls : List Str} (h : Pt S p) (hn : S[n]? = some (.lst (ls.map Dv.str))) (hne : n ≠ p) (h1 : 0 < ls.length) (h2 : ls.length < 1000) (hg : ∀ l ∈ ls, GoodL l) : Wp (m_Lpick [.loc p, .loc n] S) fun v S' => (∃ x, v = .str x ∧ GoodL x) ∧ Fr p S S' := by
  refine pick_ok (n := ls.length) h h1 h2 ?_ fun S' i f hi => ?_
  · show (match (match S[n]? with | some (.lst ds) => some ds | _ => none) with | some xs => Res.ok (Dv.int xs.length) S | none => .bad) = _
    rw [hn]
    simp
  · have hn' := f.keep hn hne
    refine ⟨_, mIx_loc hn' (by simpa using hi), ls[i], by simp, hg _ (List.getElem_mem _)⟩
theorem pick_way {S : Sto} {p : Nat} (h : Pt S p) : Wp (m_Lpick [.loc p, .lst [.int 1, .int (-1)]] S) fun v S' => (∃ i : Int, v = .int i ∧ (i = 1 ∨ i = -1)) ∧ Fr p S S' := by
  refine pick_ok (n := 2) h (by decide) (by decide) rfl fun S' i f hi => ?_
  refine ⟨_, mIx_lst (by simpa using hi) S', ?_⟩
  match i, hi with
  | 0, _ => exact ⟨1, rfl, .inl rfl⟩
  | 1, _ => exact ⟨-1, rfl, .inr rfl⟩
/-- the labels stand in the store -/
structure Lb (S : Sto) (p n : Nat) (ls : List Str) : Prop where
  pt : Pt S p
  at_ : S[n]? = some (.lst (ls.map Dv.str))
  ne : n ≠ p
  pos : 0 < ls.length
  few : ls.length ≤ 2
  good : ∀ l ∈ ls, GoodL l
theorem Lb.keep {S S' : Sto} {p n : Nat} {ls : List Str} (l : Lb S p n ls) (f : Fr p S S') : Lb S' p n ls := ⟨f.pt, f.keep l.at_ l.ne, l.ne, l.pos, l.few, l.good⟩
theorem step_ok {S : Sto} {p n : Nat} {ls : List Str} (l : Lb S p n ls) {δ : En} (d0 : δ[0]? = some (some (.loc p))) (d1 : δ[1]? = some (some (.loc n))) :
    Wp (eN mTup (aCons (eN m_Lpick (aCons (eVar 0) (aCons (eVar 1) aNil))) (aCons (eN m_Lpick (aCons (eVar 0) (aCons (eN mLst (aCons (eC (.int 1)) (aCons (e1 mNeg (eC (.int 1))) aNil))) aNil))) aNil)) δ S) fun v S' => ∃ s, v = sD s ∧ GoodS s ∧ Fr p S S' := by
  simp only [wp_eN, wp_cons, wp_nil, wp_var d0, wp_var d1, wp_c, wp_e1]
  refine (pick_label l.pt l.at_ l.ne l.pos (by have := l.few; omega) l.good).mono ?_
  rintro _ S1 ⟨⟨x, rfl, gx⟩, f1⟩
  rw [show mNeg (.int 1) S1 = .ok (.int (-1)) S1 from rfl, wp_ok, mLst_ok _ _ (by simp [lim_eq]), wp_ok]
  refine (pick_way f1.pt).mono ?_
  rintro _ S2 ⟨⟨i, rfl, gi⟩, f2⟩
  rw [mTup_ok _ _ (by simp [lim_eq]), wp_ok]
  exact ⟨(x, i), rfl, ⟨gx, gi⟩, f1.trans f2⟩
theorem drawn_ok {S : Sto} {p n m : Nat} {ls : List Str} (l : Lb S p n ls) (hm : m < 100) : Wp (m_Ldrawn [.loc p, .loc n, .int (m : Int)] S) fun v S' => ∃ w, v = wD w ∧ GoodW w ∧ w.length ≤ m ∧ Fr p S S' := by
  refine fn_wp rfl ?_
  unfold b_Ldrawn
  rw [wps_ret, wp_eN, wp_cons, wp_lc]
  simp only [wp_range1, wp_cons, wp_nil, wp_eN, wp_e2]
  rw [wp_var rfl, wp_var rfl, wp_c, mAdd_int, wp_ok, show ((m : Int) + 1) = ((m + 1 : Nat) : Int) from rfl]
  refine (draw_ok (m := m + 1) l.pt (by omega) (by omega)).mono ?_
  rintro _ S1 ⟨k, rfl, hk, f1⟩
  rw [mRange1_nat (by rw [lim_eq]; omega), wp_ok]
  refine wp_lcIx (fun i acc S' => ∃ w : List Wst, acc = w.map sD ∧ w.length = i ∧ GoodW w ∧ Fr p S S') _ (by simp [lim_eq]; omega) ⟨[], rfl, rfl, fun _ z => (nomatch z), f1⟩ ?_ ?_
  · rintro ys S' ⟨w, rfl, hw, hg, f⟩
    show Wp (Res.ok (Dv.tup (w.map sD)) S') _
    have : w.length = k := by simpa using hw
    exact ⟨w, rfl, hg, by omega, f⟩
  · rintro i hi acc S' ⟨w, rfl, hw, hg, f⟩
    generalize (List.map (fun i : Nat => Dv.int (i : Int)) (List.range k))[i] = dd
    simp only [gNm, onS_some, bYes, wp_pure, if_true]
    refine (step_ok (l.keep f) rfl rfl).mono ?_
    rintro _ S2 ⟨s, rfl, gs, f2⟩
    refine ⟨w ++ [s], by simp, by simp [hw], hg.app fun t ht => ?_, f.trans f2⟩
    rw [List.mem_singleton.mp ht]
    exact gs
/-! ### longer words -/
theorem longer_ok {w : List Wst} (hg : GoodW w) (hl : w.length < 12) (a b : Nat) {δ : En} (d2 : δ[2]? = some (some (wD w))) (d4 : δ[4]? = some (some (.int (a : Int)))) (d6 : δ[6]? = some (some (wD ((w.drop a).take b)))) (S : Sto) :
    Wp (e2 mAdd (e2 mAdd (e2 mAdd (eSl (eVar 2) oNone (oSome (eVar 4))) (eVar 6)) (eN m_Linverse (aCons (eVar 6) aNil))) (eSl (eVar 2) (oSome (eVar 4)) oNone) δ S) fun v S' => (∃ u, v = wD u ∧ GoodW u ∧ u.length < 100) ∧ S' = S := by
  have s1 := mSl_t w (i := (a : Int)) (a := a) rfl S
  have s2 := mSl_f w (i := (a : Int)) (a := a) rfl S
  have lp : ((w.drop a).take b).length ≤ w.length := by simp; omega
  have lt : (w.take a).length ≤ w.length := by simp; omega
  have ld : (w.drop a).length ≤ w.length := by simp
  have iv := Linverse_ok ((w.drop a).take b) S (by rw [lim_eq]; omega)
  have li := inv_len ((w.drop a).take b)
  have a1 := mAdd_w (a := w.take a) (b := (w.drop a).take b) (by rw [lim_eq]; omega) S
  have a2 := mAdd_w (a := w.take a ++ (w.drop a).take b) (b := inv ((w.drop a).take b)) (by rw [List.length_append, lim_eq]; omega) S
  have a3 := mAdd_w (a := w.take a ++ (w.drop a).take b ++ inv ((w.drop a).take b)) (b := w.drop a) (by rw [List.length_append, List.length_append, lim_eq]; omega) S
  simp only [wp_e2, wp_sl, wp_var d2, wp_var d4, wp_var d6, wp_oNone, wp_oSome, isI_int, s1, s2, wp_ok, a1, wp_eN, wp_cons, wp_nil, iv, a2, a3]
  have gp := (hg.drop a).take b
  refine ⟨⟨_, rfl, (((hg.take a).app gp).app gp.inv).app (hg.drop a), ?_⟩, trivial⟩
  rw [List.length_append, List.length_append, List.length_append]
  omega
theorem word_ok {S : Sto} {p n : Nat} {ls : List Str} (l : Lb S p n ls) : Wp (m_Lword [.loc p, .loc n] S) fun v S' => ∃ w, v = wD w ∧ GoodW w ∧ w.length < 12 ∧ Fr p S S' := by
  refine fn_wp rfl ?_
  unfold b_Lword
  have d5 : Wp (eN m_Ldrawn (aCons (eVar 0) (aCons (eVar 1) (aCons (eC (.int 5)) aNil))) [some (.loc p), some (.loc n), none, none, none, none, none, none] S) fun v S' => ∃ w, v = wD w ∧ GoodW w ∧ w.length ≤ 5 ∧ Fr p S S' := by
    simp only [wp_eN, wp_cons, wp_nil]
    rw [wp_var rfl, wp_var rfl, wp_c]
    exact drawn_ok (m := 5) l (by decide)
  refine set_then _ d5 ?_
  rintro _ S1 ⟨w, rfl, hg, hl, f1⟩
  refine seq_then (fun δ S' => ∃ x3 x4 x5 x6 x7 w, δ = [some (.loc p), some (.loc n), some (wD w), x3, x4, x5, x6, x7] ∧ GoodW w ∧ w.length < 12 ∧ Fr p S S') ?_ ?_
  · rw [wps_for]
    simp only [wp_range1, wp_cons, wp_nil, wp_eN]
    rw [wp_var rfl, wp_c]
    refine (draw_ok (m := 4) f1.pt (by decide) (by decide)).mono ?_
    rintro _ S2 ⟨k, rfl, hk, f2⟩
    rw [mRange1_nat (by rw [lim_eq]; omega), wp_ok]
    refine wps_forIx (fun i δ S' => ∃ x3 x4 x5 x6 x7 w, δ = [some (.loc p), some (.loc n), some (wD w), x3, x4, x5, x6, x7] ∧ GoodW w ∧ w.length < 12 ∧ Fr p S S') _ ⟨_, _, _, _, _, w, rfl, hg, by omega, f1.trans f2⟩ (fun _ _ z => z) ?_
    rintro i hi δ S' ⟨x3, x4, x5, x6, x7, w, rfl, hg, hl, f⟩
    generalize (List.map (fun i : Nat => Dv.int (i : Int)) (List.range k))[i] = dd
    show WpS (sSeq _ _ [some (.loc p), some (.loc n), some (wD w), some dd, x4, x5, x6, x7] S') _ _
    refine seq_then (fun δ S' => ∃ a b : Nat, δ = [some (.loc p), some (.loc n), some (wD w), some dd, some (.int (a : Int)), some (.int (b : Int)), x6, x7] ∧ b < 4 ∧ a ≤ w.length ∧ Fr p S S') ?_ ?_
    · rw [wps_par]
      simp only [wp_cons, wp_nil, wp_eN, wp_e2]
      rw [wp_var rfl, wp_var rfl, mLen_w, wp_ok, wp_c, mAdd_int, wp_ok, show ((w.length : Int) + 1) = ((w.length + 1 : Nat) : Int) from rfl]
      refine (draw_ok (m := w.length + 1) f.pt (by omega) (by omega)).mono ?_
      rintro _ S3 ⟨a, rfl, ha, f3⟩
      rw [wp_c]
      refine (draw_ok (m := 3) f3.pt (by decide) (by decide)).mono ?_
      rintro _ S4 ⟨b, rfl, hb, f4⟩
      rw [mAdd_int, wp_ok]
      refine ⟨a, 1 + b, ?_, by omega, by omega, (f.trans f3).trans f4⟩
      show [some (Dv.loc p), some (Dv.loc n), some (wD w), some dd, some (Dv.int (a : Int)), some (Dv.int (1 + (b : Int))), x6, x7] = _
      congr
    · rintro δ S3 ⟨a, b, rfl, hb, ha, f3⟩
      have pt_ : Wp (eSl (eVar 2) (oSome (eVar 4)) (oSome (e2 mAdd (eVar 4) (eVar 5))) [some (.loc p), some (.loc n), some (wD w), some dd, some (.int (a : Int)), some (.int (b : Int)), x6, x7] S3) fun v S' => v = wD ((w.drop a).take b) ∧ S' = S3 := by
        have s := mSl_ft w (i := (a : Int)) (j := (a : Int) + b) (a := a) (b := a + b) rfl (by omega) S3
        rw [show a + b - a = b by omega] at s
        simp only [wp_sl, wp_oSome, wp_e2]
        rw [wp_var rfl, wp_var rfl, isI_int, wp_var rfl, wp_var rfl, mAdd_int, wp_ok, isI_int, s]
        exact ⟨rfl, rfl⟩
      refine set_then _ pt_ ?_
      rintro _ S4 ⟨rfl, rfl⟩
      refine set_then _ (longer_ok hg hl a b rfl rfl rfl S4) ?_
      rintro _ S5 ⟨⟨u, rfl, gu, lu⟩, rfl⟩
      rw [wps_set, wp_if]
      simp only [wp_bOf, wp_e2, wp_eN, wp_cons, wp_nil]
      rw [wp_var rfl, mLen_w, wp_ok, wp_c]
      show (if decide ((u.length : Int) < 12) = true then _ else _)
      by_cases h12 : (u.length : Int) < 12
      · rw [decide_eq_true h12, if_pos rfl, wp_var rfl]
        exact ⟨_, _, _, _, _, u, rfl, gu, by omega, f3⟩
      · rw [decide_eq_false h12, if_neg Bool.false_ne_true, wp_var rfl]
        exact ⟨_, _, _, _, _, w, rfl, hg, hl, f3⟩
  · rintro δ S' ⟨x3, x4, x5, x6, x7, w, rfl, hg, hl, f⟩
    rw [wps_ret, wp_var rfl]
    exact ⟨w, rfl, hg, hl, f⟩
end Mi
end T_P35h
section T_P35i
set_option Elab.async false
set_option linter.all false
set_option maxRecDepth 100000
set_option maxHeartbeats 1000000
namespace Mi
open PySem L2
theorem mLen_con (xs : List Dv) (S : Sto) : mLen [.con xs] S = .ok (.int xs.length) S := rfl
theorem mIx_con {xs : List Dv} {k : Nat} (h : k < xs.length) (S : Sto) : mIx (.con xs) (.int k) S = .ok xs[k] S := by
  have e : atI xs (k : Int) = some xs[k] := by
    unfold atI ixN
    simp [h]
  show (match atI xs (k : Int) with | some v => Res.ok v S | none => .bad) = _
  rw [e]
theorem pot_cell {ns : List Int} {k : Nat} {δ : En} (d0 : δ[0]? = some (some (.con (ns.map Dv.int)))) (d1 : δ[1]? = some (some (.int (k : Int)))) (S : Sto) :
    Wp (eIf (bOf (e2 mLt (eVar 1) (eN mLen (aCons (eVar 0) aNil)))) (eN mAbs (aCons (e2 mIx (eVar 0) (eVar 1)) aNil)) (eC (.int 0)) δ S) fun v S' => (∃ c : Int, v = .int c ∧ 0 ≤ c) ∧ S' = S := by
  simp only [wp_if, wp_bOf, wp_e2, wp_var d0, wp_var d1, wp_eN, wp_cons, wp_nil, mLen_con, wp_ok]
  show (if decide ((k : Int) < ((ns.map Dv.int).length : Int)) = true then _ else _)
  by_cases h : (k : Int) < ((ns.map Dv.int).length : Int)
  · have hk : k < (ns.map Dv.int).length := by omega
    rw [decide_eq_true h, if_pos rfl, mIx_con hk, wp_ok]
    have e : (ns.map Dv.int)[k] = Dv.int (ns[k]'(by simpa using hk)) := by simp
    rw [e]
    show Wp (Res.ok (Dv.int (if ns[k]'_ < 0 then -(ns[k]'_) else ns[k]'_)) S) _
    rw [wp_ok]
    refine ⟨⟨_, rfl, ?_⟩, rfl⟩
    split <;> omega
  · rw [decide_eq_false h, if_neg Bool.false_ne_true, wp_c]
    exact ⟨⟨0, rfl, Int.le_refl _⟩, rfl⟩
theorem pot_list {c : Int} {k : Nat} {δ : En} (d1 : δ[1]? = some (some (.int (k : Int)))) (d2 : δ[2]? = some (some (.int c))) (S1 : Sto) :
    Wp (eN mNewL (aCons (eN mMax (aCons (eC (.int 0)) (aCons (e2 mSub (eVar 2) (e2 mPow (eC (.int 10)) (eC (.int 18)))) aNil))) (aCons (e2 mMod (eN mInt (aCons (e2 mAdd (e2 mAdd (e2 mMul (e2 mMod (eN mInt (aCons (eVar 2) aNil)) (eC (.int 2147483477))) (eC (.int 40927))) (e2 mMul (eC (.int 70001)) (eVar 1))) (eC (.int 131))) aNil)) (eC (.int 2147483587))) aNil)) δ S1) fun v S' => ∃ a b : Int, v = .loc S1.length ∧ S' = S1 ++ [.lst [.int a, .int b]] ∧ 0 ≤ a ∧ 0 ≤ b := by
  have p18 : mPow (.int 10) (.int 18) S1 = .ok (.int (10 ^ 18)) S1 := rfl
  have m1 : mMod (.int c) (.int 2147483477) S1 = .ok (.int (c % 2147483477)) S1 := rfl
  have m2 : mMul (.int (c % 2147483477)) (.int 40927) S1 = .ok (.int (c % 2147483477 * 40927)) S1 := by
    show (if (c % 2147483477).natAbs < 2 ^ 64 ∨ (40927 : Int).natAbs < 2 ^ 64 then Res.ok (Dv.int (c % 2147483477 * 40927)) S1 else .bad) = _
    rw [if_pos (.inr (by decide))]
  have m3 : mMul (.int 70001) (.int (k : Int)) S1 = .ok (.int (70001 * (k : Int))) S1 := mMul_small (by decide)
  have m4 : ∀ i : Int, mMod (.int i) (.int 2147483587) S1 = .ok (.int (i % 2147483587)) S1 := fun i => rfl
  have mi : ∀ i : Int, mInt [.int i] S1 = .ok (.int i) S1 := fun i => rfl
  have ms : ∀ i j : Int, mSub (.int i) (.int j) S1 = .ok (.int (i - j)) S1 := fun i j => rfl
  have mx : ∀ i j : Int, mMax [.int i, .int j] S1 = .ok (.int (if j > i then j else i)) S1 := fun i j => rfl
  simp only [wp_eN, wp_cons, wp_nil, wp_e2, wp_c, wp_var d1, wp_var d2]
  rw [p18, wp_ok, ms, wp_ok, mx, wp_ok, mi, wp_ok, m1, wp_ok, m2, wp_ok, m3, wp_ok, mAdd_int, wp_ok, mAdd_int, wp_ok, mi, wp_ok, m4, wp_ok, mNewL_ok _ _ (by simp [lim_eq]), wp_ok]
  refine ⟨_, _, rfl, rfl, ?_, Int.emod_nonneg _ (by decide)⟩
  split <;> omega
theorem pot_ok (ns : List Int) (k : Nat) (S : Sto) : Wp (m_Lpot [.con (ns.map Dv.int), .int (k : Int)] S) fun v S' => ∃ a b : Int, v = .loc S.length ∧ S' = S ++ [.lst [.int a, .int b]] ∧ 0 ≤ a ∧ 0 ≤ b := by
  refine fn_wp rfl ?_
  unfold b_Lpot
  refine set_then _ (pot_cell rfl rfl S) ?_
  rintro _ S1 ⟨⟨c, rfl, hc⟩, rfl⟩
  rw [wps_ret]
  exact pot_list rfl rfl S1
/-! ### a word otherwise -/
theorem changed_ok {S : Sto} {p : Nat} (h : Pt S p) {w : List Wst} (hg : GoodW w) (hl : w.length < 100) : Wp (m_Lchanged [.loc p, wD w] S) fun v S' => ∃ u, v = wD u ∧ GoodW u ∧ u.length ≤ w.length ∧ Fr p S S' := by
  refine fn_wp rfl ?_
  unfold b_Lchanged
  have d : Wp (eN m_Ldraw (aCons (eVar 0) (aCons (e2 mAdd (eN mLen (aCons (eVar 1) aNil)) (eC (.int 1))) aNil)) [some (.loc p), some (wD w), none] S) fun v S' => ∃ k : Nat, v = .int (k : Int) ∧ k < w.length + 1 ∧ Fr p S S' := by
    simp only [wp_eN, wp_cons, wp_nil, wp_e2]
    rw [wp_var rfl, wp_var rfl, mLen_w, wp_ok, wp_c, mAdd_int, wp_ok, show ((w.length : Int) + 1) = ((w.length + 1 : Nat) : Int) from rfl]
    exact draw_ok h (by omega) (by omega)
  refine set_then _ d ?_
  rintro _ S1 ⟨k, rfl, hk, f⟩
  rw [wps_seq, wps_if]
  simp only [wp_bOf, wp_e2, wp_eN, wp_cons, wp_nil]
  rw [wp_var rfl, wp_var rfl, mLen_w, wp_ok, mEq_int, wp_ok, isB_bl]
  by_cases hw : (k : Int) = (w.length : Int)
  · rw [decide_eq_true hw, if_pos rfl, wps_ret]
    have s := mSl_f w (i := 1) (a := 1) rfl S1
    simp only [wp_sl, wp_oSome, wp_oNone, wp_c, isI_int]
    rw [wp_var rfl, s, wp_ok]
    exact ⟨_, rfl, hg.drop 1, by simp, f⟩
  · rw [decide_eq_false hw, if_neg Bool.false_ne_true, wps_nil, wps_ret]
    have hk' : k < w.length := by omega
    have s1 := mSl_t w (i := (k : Int)) (a := k) rfl S1
    have s2 := mSl_f w (i := (k : Int) + 1) (a := k + 1) (by omega) S1
    have ix : mIx (wD w) (.int (k : Int)) S1 = .ok (sD w[k]) S1 := by
      have e : atI (w.map sD) (k : Int) = some (sD w[k]) := by
        unfold atI ixN
        simp [hk']
      show (match atI (w.map sD) (k : Int) with | some v => Res.ok v S1 | none => .bad) = _
      rw [e]
    have tp : mTup [sD (inv1 w[k])] S1 = .ok (wD [inv1 w[k]]) S1 := mTup_ok _ _ (by simp [lim_eq])
    have a1 := mAdd_w (a := w.take k) (b := [inv1 w[k]]) (by simp [lim_eq]; omega) S1
    have a2 := mAdd_w (a := w.take k ++ [inv1 w[k]]) (b := w.drop (k + 1)) (by simp [lim_eq]; omega) S1
    simp only [wp_e2, wp_sl, wp_oSome, wp_oNone, wp_eN, wp_cons, wp_nil]
    rw [wp_var rfl, wp_var rfl, isI_int, s1, wp_ok, wp_var rfl, wp_var rfl, ix, wp_ok, turned_ok, wp_ok, tp, wp_ok, a1, wp_ok, wp_var rfl, wp_var rfl, wp_c, mAdd_int, wp_ok, isI_int, s2, wp_ok, a2, wp_ok]
    refine ⟨_, rfl, ((hg.take k).app fun t ht => ?_).app (hg.drop _), by simp; omega, f⟩
    rw [List.mem_singleton.mp ht]
    have z := hg w[k] (List.getElem_mem _)
    refine ⟨z.1, ?_⟩
    rcases z.2 with e | e
    · exact .inr (by simp [inv1, e])
    · exact .inl (by simp [inv1, e])
end Mi
end T_P35i
section T_P35j
set_option Elab.async false
set_option linter.all false
set_option maxRecDepth 100000
set_option maxHeartbeats 1000000
namespace Mi
open PySem L2
/-! ### the links of a word's line -/
def lkV (u : List Wst) (i : Nat) : Dv := .lst [.tup [sD (u.getD i ("", 0)), .int ((i : Int) + 1)]]
def lkD (u : List Wst) : Dv := .dct ((List.range u.length).map fun i : Nat => ((Sum.inl (i : Int) : Key), lkV u i))
theorem valD_range (f : Nat → Dv) : ∀ (n j : Nat), valD ((List.range n).map fun i : Nat => ((Sum.inl (i : Int) : Key), f i)) (Sum.inl (j : Int)) = if j < n then some (f j) else none := by
  intro n
  induction n with
  | zero => intro j; rfl
  | succ n ih =>
    intro j
    have h := ih j
    unfold valD at h ⊢
    rw [List.range_succ, List.map_append, List.find?_append]
    by_cases hj : j < n
    · rw [if_pos hj] at h
      rw [if_pos (by omega)]
      cases e : List.find? (fun kv => decide (kv.1 = (Sum.inl (j : Int) : Key))) ((List.range n).map fun i : Nat => ((Sum.inl (i : Int) : Key), f i)) with
      | none => rw [e] at h; cases h
      | some z => rw [e] at h; simpa using h
    · rw [if_neg hj] at h
      cases e : List.find? (fun kv => decide (kv.1 = (Sum.inl (j : Int) : Key))) ((List.range n).map fun i : Nat => ((Sum.inl (i : Int) : Key), f i)) with
      | some z => rw [e] at h; cases h
      | none =>
        by_cases hn : j = n
        · subst hn
          simp
        · rw [if_neg (by omega)]
          have : ¬ ((n : Int) = (j : Int)) := by omega
          simp [this]
theorem dGet_lk (u : List Wst) (j : Nat) (S : Sto) : dGet S (lkD u) (.int (j : Int)) = some (if j < u.length then some (lkV u j) else none) := by
  show (keyOf (.int (j : Int))).map (valD _) = _
  show some (valD _ _) = _
  rw [valD_range]
theorem mEq_s (s t : Wst) (S : Sto) : mEq (sD s) (sD t) S = .ok (.bl (decide (s = t))) S := by
  unfold mEq mEqv
  rw [deep_s s S 10, deep_s t S 10]
  show (if noDict (sP s) && noDict (sP t) then Res.ok (Dv.bl (id (PyData.eqv (sP s) (sP t)))) S else .bad) = _
  rw [eqv_s]
  rfl
theorem targets_ok (u : List Wst) (j : Nat) (s : Wst) (S : Sto) : m_targets_by [lkD u, .int (j : Int), sD s] S = .ok (.lst (if j < u.length ∧ u.getD j ("", 0) = s then [.int ((j : Int) + 1)] else [])) S := by
  refine fn_eq rfl ?_
  unfold b_targets_by
  rw [wps_ret, wp_lcE]
  have hg : Wp (eDGet2 (eVar 0) (eVar 1) (eN mLst aNil) ([lkD u, .int (j : Int), sD s].map some ++ List.replicate (5 - 3) none) S) fun d S' => d = (if j < u.length then lkV u j else .lst []) ∧ S' = S := by
    unfold eDGet2
    rw [wp_bind, wp_var rfl]
    rw [if_pos (show kind S (lkD u) = some "dict" from rfl), wp_bind, wp_var rfl, wp_bind, wp_eN, wp_nil, mLst_ok _ _ (by simp [lim_eq]), wp_ok, dGet_lk]
    show Wp (Res.ok (Option.getD (if j < u.length then some (lkV u j) else none) (.lst [])) S) _
    rw [wp_ok]
    refine ⟨?_, rfl⟩
    by_cases h : j < u.length <;> simp [h]
  refine hg.mono ?_
  rintro _ S' ⟨rfl, rfl⟩
  by_cases h : j < u.length
  · rw [if_pos h]
    unfold lkV
    rw [lcE_lst]
    generalize u.getD j ("", 0) = t
    have lc : lcEnd (gTp [gNm 3, gNm 4]) (bOf (e2 mEq (eVar 3) (eVar 2))) (eVar 4) (wipeD ([lkD u, .int (j : Int), sD s].map some ++ List.replicate (5 - 3) none) [3, 4]) ([t].map fun t => Dv.tup [sD t, .int ((j : Int) + 1)]) S' = .ok (.lst (([t].filter fun t => decide (t = s)).map fun _ => Dv.int ((j : Int) + 1))) S' := by
      refine lcEnd_filter (p := fun t => decide (t = s)) (f := fun _ => Dv.int ((j : Int) + 1)) (fun t => Dv.tup [sD t, .int ((j : Int) + 1)]) _ (by simp [lim_eq]) fun t _ => ?_
      refine ⟨rfl, ?_, fun _ => rfl⟩
      apply Wp.eq
      rw [wp_bOf, wp_e2, wp_var rfl, wp_var rfl, mEq_s, wp_ok, isB_bl]
      exact ⟨rfl, rfl⟩
    have e : (.lst [.tup [sD t, .int ((j : Int) + 1)]] : Dv) = .lst ([t].map fun t => Dv.tup [sD t, .int ((j : Int) + 1)]) := rfl
    show Wp (lcEnd _ _ _ _ ([t].map fun t => Dv.tup [sD t, .int ((j : Int) + 1)]) S') _
    rw [lc, wp_ok]
    refine ⟨?_, rfl⟩
    by_cases ht : t = s
    · simp [h, ht]
    · simp [h, ht]
  · rw [if_neg h, lcE_lst]
    show Wp (lcEnd _ _ _ _ [] S') _
    rw [wp_lcEnd (by simp)]
    show (Dv.lst [] = _ ∧ S' = S')
    simp [h]
end Mi
end T_P35j
section T_P35k
set_option Elab.async false
set_option linter.all false
set_option maxRecDepth 100000
set_option maxHeartbeats 1000000
namespace Mi
open PySem L2
def fwF (u v : List Wst) (n j : Nat) : Bool := decide (n < v.length ∧ j < u.length ∧ u.getD j ("", 0) = v.getD n ("", 0))
def bwF (u v : List Wst) (n j : Nat) : Bool := decide (0 < n ∧ j < u.length ∧ u.getD j ("", 0) = inv1 (v.getD (n - 1) ("", 0)))
def mvF (u v : List Wst) (n j : Nat) : List Pr := (if fwF u v n j = true then [(n + 1, j + 1)] else []) ++ (if bwF u v n j = true then [(n - 1, j + 1)] else [])
theorem mIx_w {w : List Wst} {k : Nat} (h : k < w.length) (S : Sto) : mIx (wD w) (.int (k : Int)) S = .ok (sD (w.getD k ("", 0))) S := by
  have e : atI (w.map sD) (k : Int) = some (sD (w.getD k ("", 0))) := by
    unfold atI ixN
    simp [h]
  show (match atI (w.map sD) (k : Int) with | some v => Res.ok v S | none => .bad) = _
  rw [e]
theorem mExtend_ok {S : Sto} {n : Nat} {xs ys : List Dv} (h : S[n]? = some (.lst xs)) (hl : xs.length + ys.length < lim) : mExtend (.loc n) [.lst ys] S = .ok .non (S.set n (.lst (xs ++ ys))) := by
  show (match S[n]? with | some (.lst xs) => if xs.length + ys.length < lim then Res.ok Dv.non (S.set n (.lst (xs ++ ys))) else .bad | _ => .bad) = _
  rw [h]
  dsimp only
  rw [if_pos hl]
/-- the first half, the second half -/
theorem ext_ok {e : EX} {i : Int} {xs ys : List Dv} {S : Sto} {δ : En} {n : Nat} (d4 : δ[4]? = some (some (.loc n))) (hl : δ.length = 7) (hn : S[n]? = some (.lst xs)) (h1 : xs.length ≤ 10) (h2 : ys.length ≤ 1) {c : EX} (hc : c δ S = .ok (.lst ys) S) (he : ∀ d, e ((wipeD δ [6]).set 6 (some d)) S = .ok (.int i) S) :
    Wp (eMth "list" mExtend (eVar 4) (aCons (eLcE c (gNm 6) bYes (eN mTup (aCons e (aCons (eVar 6) aNil))) [6]) aNil) δ S) fun _ S' => S' = S.set n (.lst (xs ++ ys.map fun y => .tup [.int i, y])) := by
  have lc : lcEnd (gNm 6) bYes (eN mTup (aCons e (aCons (eVar 6) aNil))) (wipeD δ [6]) (ys.map id) S = .ok (.lst (ys.map fun y => .tup [.int i, y])) S := by
    refine lcEnd_map id _ (by rw [lim_eq]; omega) fun y _ => ⟨rfl, ?_⟩
    have w6 : ((wipeD δ [6]).set 6 (some y))[6]? = some (some y) := by
      refine List.getElem?_set_self ?_
      show 6 < (List.set δ 6 none).length
      rw [List.length_set, hl]
      decide
    apply Wp.eq
    simp only [gNm, id, wp_eN, wp_cons, wp_nil, he, wp_ok, wp_var w6]
    rw [mTup_ok _ _ (by simp [lim_eq]), wp_ok]
    exact ⟨rfl, rfl⟩
  rw [List.map_id] at lc
  rw [wp_mth, wp_var d4]
  refine ⟨kind_loc hn, ?_⟩
  rw [wp_cons, wp_lcE, hc, wp_ok, lcE_lst, lc, wp_ok, wp_nil, mExtend_ok hn (by rw [List.length_map, lim_eq]; omega), wp_ok]
theorem moves_ok {u v : List Wst} (n j : Nat) (hn : n ≤ v.length) (S : Sto) : Wp (m_moves_on [lkD u, wD v, .int (n : Int), .int (j : Int)] S) fun d S' => d = .loc S.length ∧ S' = S ++ [.lst ((mvF u v n j).map pD)] := by
  refine fn_wp rfl ?_
  unfold b_moves_on
  refine set_then (fun d S' => d = .loc S.length ∧ S' = S ++ [.lst []]) ?_ ?_
  · rw [wp_eN, wp_nil, mNewL_ok _ _ (by simp [lim_eq]), wp_ok]
    exact ⟨rfl, rfl⟩
  rintro _ _ ⟨rfl, rfl⟩
  refine seq_then (fun δ S' => δ = [some (lkD u), some (wD v), some (.int (n : Int)), some (.int (j : Int)), some (.loc S.length), none, none] ∧ S' = S ++ [.lst ((if fwF u v n j = true then [(n + 1, j + 1)] else []).map pD)]) ?_ ?_
  · rw [wps_if]
    simp only [wp_bOf, wp_e2, wp_eN, wp_cons, wp_nil]
    rw [wp_var rfl, wp_var rfl, mLen_w, wp_ok]
    show (if decide ((n : Int) < (v.length : Int)) = true then _ else _)
    by_cases h : n < v.length
    · rw [decide_eq_true (show (n : Int) < (v.length : Int) by omega), if_pos rfl, wps_expr]
      refine (ext_ok (i := (n : Int) + 1) (xs := []) (ys := if j < u.length ∧ u.getD j ("", 0) = v.getD n ("", 0) then [.int ((j : Int) + 1)] else []) (n := S.length) rfl rfl (by simp) (by simp) (by split <;> simp) ?_ fun d => ?_).mono ?_
      · apply Wp.eq
        simp only [wp_eN, wp_cons, wp_nil, wp_e2]
        rw [wp_var rfl, wp_var rfl, wp_var rfl, wp_var rfl, mIx_w h, wp_ok, targets_ok, wp_ok]
        exact ⟨rfl, rfl⟩
      · apply Wp.eq
        rw [wp_e2, wp_var rfl, wp_c, mAdd_int, wp_ok]
        exact ⟨rfl, rfl⟩
      · rintro _ _ rfl
        refine ⟨rfl, ?_⟩
        rw [set_last]
        congr 1
        congr 1
        congr 1
        unfold fwF
        by_cases hc : j < u.length ∧ u.getD j ("", 0) = v.getD n ("", 0)
        · rw [if_pos hc, if_pos (by simpa [h] using hc)]
          rfl
        · rw [if_neg hc, if_neg (by simpa [h] using hc)]
          rfl
    · rw [decide_eq_false (show ¬ (n : Int) < (v.length : Int) by omega), if_neg Bool.false_ne_true, wps_nil]
      refine ⟨rfl, ?_⟩
      rw [if_neg (by simp [fwF, h])]
      rfl
  rintro _ _ ⟨rfl, rfl⟩
  generalize hX : (if fwF u v n j = true then [(n + 1, j + 1)] else []) = X
  have hXl : X.length ≤ 1 := by rw [← hX]; split <;> simp
  refine seq_then (fun δ S' => ∃ x5, δ = [some (lkD u), some (wD v), some (.int (n : Int)), some (.int (j : Int)), some (.loc S.length), x5, none] ∧ S' = S ++ [.lst ((mvF u v n j).map pD)]) ?_ ?_
  · rw [wps_if]
    simp only [wp_bOf, wp_e2]
    rw [wp_var rfl, wp_c]
    show (if decide ((0 : Int) < (n : Int)) = true then _ else _)
    by_cases h : 0 < n
    · rw [decide_eq_true (show (0 : Int) < (n : Int) by omega), if_pos rfl]
      have hk : n - 1 < v.length := by omega
      refine set_then (fun d S' => d = sD (inv1 (v.getD (n - 1) ("", 0))) ∧ S' = S ++ [.lst (X.map pD)]) ?_ ?_
      · simp only [wp_eN, wp_cons, wp_nil, wp_e2]
        rw [wp_var rfl, wp_var rfl, wp_c]
        show Wp (mIx (wD v) (.int ((n : Int) - 1)) _) _
        rw [show ((n : Int) - 1) = ((n - 1 : Nat) : Int) by omega, mIx_w hk, wp_ok, istep_ok, wp_ok]
        exact ⟨rfl, rfl⟩
      rintro _ _ ⟨rfl, rfl⟩
      rw [wps_expr]
      refine (ext_ok (i := ((n - 1 : Nat) : Int)) (xs := X.map pD) (ys := if j < u.length ∧ u.getD j ("", 0) = inv1 (v.getD (n - 1) ("", 0)) then [.int ((j : Int) + 1)] else []) (n := S.length) rfl rfl (by simp) (by simp; omega) (by split <;> simp) ?_ fun d => ?_).mono ?_
      · apply Wp.eq
        simp only [wp_eN, wp_cons, wp_nil]
        rw [wp_var rfl, wp_var rfl, wp_var rfl, targets_ok, wp_ok]
        exact ⟨rfl, rfl⟩
      · apply Wp.eq
        rw [wp_e2, wp_var rfl, wp_c]
        show (Dv.int ((n : Int) - 1) = _ ∧ _)
        rw [show ((n : Int) - 1) = ((n - 1 : Nat) : Int) by omega]
        exact ⟨rfl, rfl⟩
      · rintro _ _ rfl
        refine ⟨_, rfl, ?_⟩
        rw [set_last]
        congr 1
        congr 1
        congr 1
        unfold mvF bwF
        rw [hX]
        by_cases hc : j < u.length ∧ u.getD j ("", 0) = inv1 (v.getD (n - 1) ("", 0))
        · rw [if_pos hc, if_pos (by simpa [h] using hc), List.map_append]
          rfl
        · rw [if_neg hc, if_neg (by simpa [h] using hc), List.map_append]
          rfl
    · rw [decide_eq_false (show ¬ (0 : Int) < (n : Int) by omega), if_neg Bool.false_ne_true, wps_nil]
      refine ⟨_, rfl, ?_⟩
      unfold mvF
      rw [hX, if_neg (by simp [bwF, h]), List.append_nil]
  rintro _ _ ⟨x5, rfl, rfl⟩
  rw [wps_ret, wp_var rfl]
  exact ⟨rfl, rfl⟩
end Mi
end T_P35k
section T_P35l
set_option Elab.async false
set_option linter.all false
set_option maxRecDepth 100000
set_option maxHeartbeats 1000000
namespace Mi
open PySem L2
/-- more may stand behind -/
structure Ex (S S' : Sto) : Prop where
  len : S.length ≤ S'.length
  get : ∀ i, i < S.length → S'[i]? = S[i]?
theorem Ex.refl {S : Sto} : Ex S S := ⟨Nat.le_refl _, fun _ _ => rfl⟩
theorem Ex.trans {S S1 S2 : Sto} (a : Ex S S1) (b : Ex S1 S2) : Ex S S2 := ⟨Nat.le_trans a.len b.len, fun i h => (b.get i (Nat.lt_of_lt_of_le h a.len)).trans (a.get i h)⟩
theorem Ex.new {S : Sto} {T : List Ob} : Ex S (S ++ T) := ⟨by simp, fun i h => List.getElem?_append_left h⟩
theorem Ex.put {S S' : Sto} {n : Nat} {o : Ob} (a : Ex S S') (h : S.length ≤ n) : Ex S (S'.set n o) := ⟨by simpa using a.len, fun i hi => by rw [List.getElem?_set_ne (by omega)]; exact a.get i hi⟩
theorem Ex.keep {S S' : Sto} {n : Nat} {o : Ob} (a : Ex S S') (h : S[n]? = some o) : S'[n]? = some o := by
  rw [a.get n (List.getElem?_eq_some_iff.mp h).1]
  exact h
def pk (p : Pr) : List Key := [Sum.inl (p.1 : Int), Sum.inl (p.2 : Int)]
theorem pk_inj {p q : Pr} (h : pk p = pk q) : p = q := by
  unfold pk at h
  simp at h
  exact Prod.ext (by omega) (by omega)
theorem dGet_T {S : Sto} {B : Nat} {kvs : List (List Key × Dv)} (h : S[B]? = some (.dT kvs)) (p : Pr) : dGet S (.loc B) (pD p) = some (valD kvs (pk p)) := by
  show (match S[B]? with
    | some (.dK kvs) => (keyOf (pD p)).map (valD kvs)
    | some (.dT kvs) => (match pD p with
      | .tup xs => (keysOf xs).map (valD kvs)
      | _ => none)
    | _ => none) = _
  rw [h]
  rfl
/-- before: where each pair came from -/
def Cd (kvs : List (List Key × Dv)) : Prop := ∀ (p : Pr) (d : Dv), valD kvs (pk p) = some d → (p = (0, 0) ∧ d = .non) ∨ ∃ q : Pr, d = pD q ∧ q.2 + 1 = p.2 ∧ (valD kvs (pk q)).isSome = true
theorem wayback_ok {S : Sto} {B : Nat} {kvs : List (List Key × Dv)} (h : S[B]? = some (.dT kvs)) (hc : Cd kvs) {p : Pr} (hp : (valD kvs (pk p)).isSome = true) (hb : p.2 < 1000) : Wp (m_way_back [.loc B, pD p] S) fun d S' => (∃ xs, d = .lst xs) ∧ Ex S S' := by
  refine fn_wp rfl ?_
  unfold b_way_back
  have hBl := (List.getElem?_eq_some_iff.mp h).1
  refine seq_then (fun δ S' => δ = [some (.loc B), some (pD p), some (.loc S.length), some (pD p)] ∧ S' = S ++ [.lst []]) ?_ ?_
  · rw [wps_par]
    simp only [wp_cons, wp_nil, wp_eN]
    rw [mNewL_ok _ _ (by simp [lim_eq]), wp_ok, wp_var rfl]
    exact ⟨rfl, rfl⟩
  rintro _ _ ⟨rfl, rfl⟩
  refine seq_then (fun δ S' => ∃ x3 xs, δ = [some (.loc B), some (pD p), some (.loc S.length), x3] ∧ S'[S.length]? = some (.lst xs) ∧ Ex S S') ?_ ?_
  · refine wps_while (fun m δ S' => ∃ d xs, δ = [some (.loc B), some (pD p), some (.loc S.length), some d] ∧ S'[S.length]? = some (.lst xs) ∧ xs.length + m ≤ 1001 ∧ Ex S S' ∧ ((d = .non ∧ m = 0) ∨ ∃ q : Pr, d = pD q ∧ m = q.2 + 1 ∧ (valD kvs (pk q)).isSome = true)) ?_ lim (p.2 + 1) _ _ (by rw [lim_eq]; omega) ⟨pD p, [], rfl, by simp, by simp; omega, Ex.new, .inr ⟨p, rfl, rfl, hp⟩⟩
    rintro m δ S' ⟨d, xs, rfl, h1, h2, f, h3⟩
    rw [wp_bOf, wp_e2, wp_var rfl, wp_c]
    rcases h3 with ⟨rfl, rfl⟩ | ⟨q, rfl, rfl, hq⟩
    · rw [show mIsNot .non .non S' = .ok (.bl false) S' from rfl, wp_ok, isB_bl, if_neg Bool.false_ne_true]
      exact ⟨_, xs, rfl, h1, f⟩
    · rw [show mIsNot (pD q) .non S' = .ok (.bl true) S' from rfl, wp_ok, isB_bl, if_pos rfl]
      refine ⟨Nat.succ_pos _, ?_⟩
      have hB : S'[B]? = some (.dT kvs) := f.keep h
      refine expr_then (fun S1 => S1 = S'.set S.length (.lst (xs ++ [pD q]))) ?_ ?_
      · rw [wp_mth, wp_var rfl]
        refine ⟨kind_loc h1, ?_⟩
        rw [wp_cons, wp_var rfl, wp_nil, mAppend_ok h1 (by rw [lim_eq]; omega), wp_ok]
      rintro _ rfl
      have hl : S.length < S'.length := (List.getElem?_eq_some_iff.mp h1).1
      have hB2 : (S'.set S.length (.lst (xs ++ [pD q])))[B]? = some (.dT kvs) := by
        rw [List.getElem?_set_ne (by omega)]
        exact hB
      rw [wps_set, wp_e2, wp_var rfl, wp_var rfl]
      obtain ⟨d2, e2⟩ := Option.isSome_iff_exists.mp hq
      have g : mDGet (.loc B) (pD q) (S'.set S.length (.lst (xs ++ [pD q]))) = .ok d2 (S'.set S.length (.lst (xs ++ [pD q]))) := by
        unfold mDGet
        rw [dGet_T hB2, e2]
      rw [g, wp_ok]
      refine ⟨d2, xs ++ [pD q], rfl, by rw [List.getElem?_set_self hl], by simp; omega, f.put (Nat.le_refl _), ?_⟩
      rcases hc q d2 e2 with ⟨rfl, rfl⟩ | ⟨r, rfl, hr, hr2⟩
      · exact .inl ⟨rfl, rfl⟩
      · exact .inr ⟨r, rfl, by omega, hr2⟩
  rintro _ S' ⟨x3, xs, rfl, h1, f⟩
  rw [wps_ret, wp_e1, wp_var rfl]
  have e : mRev (.loc S.length) S' = .ok (.lst xs.reverse) S' := by
    show (match (match S'[S.length]? with | some (.lst ds) => some ds | _ => none) with | some xs => Res.ok (Dv.lst xs.reverse) S' | none => .bad) = _
    rw [h1]
  rw [e, wp_ok]
  exact ⟨⟨_, rfl⟩, f⟩
end Mi
end T_P35l
section T_P35m
set_option Elab.async false
set_option linter.all false
set_option maxRecDepth 100000
set_option maxHeartbeats 1000000
namespace Mi
open PySem L2
/-! ### the search -/
def Rc (u v : List Wst) (p : Pr) : Prop := p.2 ≤ u.length ∧ Wk v 0 v.length 0 (u.take p.2) p.1
theorem getD_some {w : List Wst} {n : Nat} (h : n < w.length) : w[n]? = some (w.getD n ("", 0)) := by
  rw [List.getD_eq_getElem?_getD, List.getElem?_eq_getElem h]
  rfl
theorem take_succ' {u : List Wst} {j : Nat} (h : j < u.length) : u.take (j + 1) = u.take j ++ [u.getD j ("", 0)] := by
  rw [List.take_succ, getD_some h]
  rfl
theorem mv_step {u v : List Wst} {p q : Pr} (hp : Rc u v p) (hq : q ∈ mvF u v p.1 p.2) : Rc u v q ∧ q.2 = p.2 + 1 := by
  obtain ⟨n, j⟩ := p
  obtain ⟨h1, h2⟩ := hp
  have hb := h2.end_
  unfold mvF at hq
  rcases List.mem_append.mp hq with hq | hq
  · by_cases hc : fwF u v n j = true
    · rw [if_pos hc] at hq
      rw [List.mem_singleton.mp hq]
      obtain ⟨a, b, c⟩ := of_decide_eq_true hc
      refine ⟨⟨b, ?_⟩, rfl⟩
      show Wk v 0 v.length 0 (u.take (j + 1)) (n + 1)
      rw [take_succ' b, c]
      exact h2.app (.up (Nat.zero_le _) (getD_some a) (.nil (Nat.zero_le _) a))
    · rw [if_neg hc] at hq
      cases hq
  · by_cases hc : bwF u v n j = true
    · rw [if_pos hc] at hq
      rw [List.mem_singleton.mp hq]
      obtain ⟨a, b, c⟩ := of_decide_eq_true hc
      refine ⟨⟨b, ?_⟩, rfl⟩
      show Wk v 0 v.length 0 (u.take (j + 1)) (n - 1)
      rw [take_succ' b, c]
      have hb2 : n ≤ v.length := hb.2
      obtain ⟨m, rfl⟩ : ∃ m, n = m + 1 := ⟨n - 1, by omega⟩
      have z : Wk v 0 v.length (m + 1) [inv1 (v.getD m ("", 0))] m := .dn hb2 (getD_some (by omega)) (.nil (Nat.zero_le _) (by omega))
      exact h2.app z
    · rw [if_neg hc] at hq
      cases hq
/-- what is closed has all that is reached -/
theorem rc_all {u v : List Wst} {Q : List Pr} (h0 : (0, 0) ∈ Q) (hc : ∀ p ∈ Q, ∀ q ∈ mvF u v p.1 p.2, q ∈ Q) : ∀ (j n : Nat), j ≤ u.length → Wk v 0 v.length 0 (u.take j) n → (n, j) ∈ Q := by
  intro j
  induction j with
  | zero =>
    intro n _ h
    simp at h
    cases h
    exact h0
  | succ j ih =>
    intro n hj h
    rw [take_succ' (show j < u.length by omega)] at h
    obtain ⟨m, q1, q2⟩ := h.split
    have hm := ih m (by omega) q1
    have hb := q1.end_.2
    generalize hs : u.getD j ("", 0) = s at q2
    cases q2 with
    | up a1 a2 a3 =>
      cases a3
      have hlt := (List.getElem?_eq_some_iff.mp a2).1
      refine hc _ hm _ ?_
      unfold mvF
      refine List.mem_append_left _ ?_
      have hf : fwF u v m j = true := decide_eq_true ⟨hlt, by omega, by rw [hs]; have := getD_some hlt; rw [a2] at this; exact Option.some.inj this⟩
      show (m + 1, j + 1) ∈ if fwF u v m j = true then [(m + 1, j + 1)] else []
      rw [if_pos hf]
      simp
    | @dn _ _ t _ a1 a2 a3 =>
      cases a3
      have hlt := (List.getElem?_eq_some_iff.mp a2).1
      refine hc _ hm _ ?_
      unfold mvF
      refine List.mem_append_right _ ?_
      have e : v.getD n ("", 0) = t := by
        have := getD_some hlt
        rw [a2] at this
        exact (Option.some.inj this).symm
      have hf : bwF u v (n + 1) j = true := decide_eq_true ⟨Nat.succ_pos _, by omega, by rw [hs]; show inv1 t = inv1 (v.getD n ("", 0)); rw [e]⟩
      show (n, j + 1) ∈ if bwF u v (n + 1) j = true then [(n, j + 1)] else []
      rw [if_pos hf]
      simp
theorem nodup_le {α : Type} [DecidableEq α] : ∀ {l m : List α}, l.Nodup → (∀ x ∈ l, x ∈ m) → l.length ≤ m.length
  | [], _, _, _ => Nat.zero_le _
  | x :: l, m, h, s => by
    obtain ⟨h1, h2⟩ := List.nodup_cons.mp h
    have hx : x ∈ m := s x (by simp)
    have z := nodup_le (m := m.erase x) h2 fun y hy => (List.mem_erase_of_ne (fun e => h1 (by rw [← e]; exact hy))).mpr (s y (List.mem_cons_of_mem _ hy))
    rw [List.length_erase_of_mem hx] at z
    have := List.length_pos_of_mem hx
    simp
    omega
theorem valD_snoc {κ : Type} [DecidableEq κ] (kvs : List (κ × Dv)) (k : κ) (y : Dv) (j : κ) (h : valD kvs k = none) : valD (putD kvs k y) j = if j = k then some y else valD kvs j := by
  have ha : (kvs.any fun kv => decide (kv.1 = k)) = false := by
    cases e : kvs.any fun kv => decide (kv.1 = k) with
    | false => rfl
    | true =>
      obtain ⟨z, hz, hk⟩ := List.any_eq_true.mp e
      unfold valD at h
      have : (kvs.find? fun kv => decide (kv.1 = k)).isSome = true := List.find?_isSome.mpr ⟨z, hz, hk⟩
      cases q : kvs.find? fun kv => decide (kv.1 = k) with
      | none => rw [q] at this; cases this
      | some w => rw [q] at h; cases h
  unfold putD
  rw [ha, if_neg Bool.false_ne_true]
  unfold valD at h ⊢
  rw [List.find?_append]
  by_cases hj : j = k
  · subst hj
    rw [if_pos rfl]
    cases q : kvs.find? fun kv => decide (kv.1 = j) with
    | none => simp
    | some w => rw [q] at h; cases h
  · rw [if_neg hj]
    have : ¬ k = j := fun e => hj e.symm
    cases q : kvs.find? fun kv => decide (kv.1 = j) with
    | none => simp [this]
    | some w => simp
structure Bs (u v : List Wst) (S : Sto) (Q : List Pr) (kvs : List (List Key × Dv)) (S' : Sto) : Prop where
  ex : Ex S S'
  d : S'[S.length]? = some (.dT kvs)
  w : S'[S.length + 1]? = some (.lst (Q.map pD))
  nd : Q.Nodup
  ks : ∀ p, (valD kvs (pk p)).isSome = true ↔ p ∈ Q
  kl : kvs.length = Q.length
  cd : Cd kvs
  rc : ∀ p ∈ Q, Rc u v p
  z : (0, 0) ∈ Q
theorem sum_const (n k : Nat) : ((List.range n).map fun _ => k).sum = n * k := by
  induction n with
  | zero => simp
  | succ n ih =>
    rw [List.range_succ, List.map_append, List.sum_append, ih, Nat.succ_mul]
    simp
/-- so few pairs -/
theorem Bs.few {u v : List Wst} {S S' : Sto} {Q : List Pr} {kvs : List (List Key × Dv)} (b : Bs u v S Q kvs S') : Q.length ≤ (v.length + 1) * (u.length + 1) := by
  have sub : ∀ p ∈ Q, p ∈ (List.range (v.length + 1)).flatMap fun n => (List.range (u.length + 1)).map fun j => (n, j) := by
    rintro ⟨n, j⟩ hp
    obtain ⟨h1, h2⟩ := b.rc _ hp
    have h3 := h2.end_.2
    exact List.mem_flatMap.mpr ⟨n, List.mem_range.mpr (Nat.lt_succ_of_le h3), List.mem_map.mpr ⟨j, List.mem_range.mpr (Nat.lt_succ_of_le h1), rfl⟩⟩
  have l := nodup_le b.nd sub
  refine Nat.le_trans l (Nat.le_of_eq ?_)
  rw [List.length_flatMap]
  simp only [List.length_map, List.length_range]
  exact sum_const _ _
theorem Bs.more {u v : List Wst} {S S' : Sto} {Q : List Pr} {kvs : List (List Key × Dv)} (b : Bs u v S Q kvs S') {S2 : Sto} (e : Ex S' S2) : Bs u v S Q kvs S2 :=
  ⟨b.ex.trans e, e.keep b.d, e.keep b.w, b.nd, b.ks, b.kl, b.cd, b.rc, b.z⟩
theorem Bs.add {u v : List Wst} {S S' : Sto} {Q : List Pr} {kvs : List (List Key × Dv)} (b : Bs u v S Q kvs S') {p q : Pr} (hp : p ∈ Q) (hq : q ∈ mvF u v p.1 p.2) (hn : q ∉ Q) :
    Bs u v S (Q ++ [q]) (putD kvs (pk q) (pD p)) ((S'.set S.length (.dT (putD kvs (pk q) (pD p)))).set (S.length + 1) (.lst ((Q ++ [q]).map pD))) := by
  have hnone : valD kvs (pk q) = none := by
    cases e : valD kvs (pk q) with
    | none => rfl
    | some d => exact absurd ((b.ks q).mp (by rw [e]; rfl)) hn
  have vl := fun j => valD_snoc kvs (pk q) (pD p) j hnone
  obtain ⟨r1, r2⟩ := mv_step (b.rc p hp) hq
  have l1 : S.length + 1 < S'.length := (List.getElem?_eq_some_iff.mp b.w).1
  refine ⟨(b.ex.put (Nat.le_refl _)).put (Nat.le_succ _), ?_, ?_, ?_, fun r => ?_, ?_, ?_, fun r hr => ?_, List.mem_append_left _ b.z⟩
  · rw [List.getElem?_set_ne (by omega), List.getElem?_set_self (by omega)]
  · rw [List.getElem?_set_self (by rw [List.length_set]; exact l1)]
  · exact List.nodup_append.mpr ⟨b.nd, by simp, fun a ha c hc e => hn (by rw [List.mem_singleton.mp hc] at e; rw [← e]; exact ha)⟩
  · rw [vl]
    by_cases hr : pk r = pk q
    · rw [if_pos hr]
      have := pk_inj hr
      subst this
      simp
    · rw [if_neg hr, b.ks r]
      constructor
      · exact fun h => List.mem_append_left _ h
      · intro h
        rcases List.mem_append.mp h with h | h
        · exact h
        · exact absurd (by rw [List.mem_singleton.mp h]) hr
  · unfold putD
    split
    · rename_i h
      exfalso
      obtain ⟨z, hz, hk⟩ := List.any_eq_true.mp h
      have : (kvs.find? fun kv => decide (kv.1 = pk q)).isSome = true := List.find?_isSome.mpr ⟨z, hz, hk⟩
      unfold valD at hnone
      cases e : kvs.find? fun kv => decide (kv.1 = pk q) with
      | none => rw [e] at this; cases this
      | some w => rw [e] at hnone; cases hnone
    · simp [b.kl]
  · intro r d hd
    rw [vl] at hd
    have keep : ∀ t : Pr, (valD kvs (pk t)).isSome = true → (valD (putD kvs (pk q) (pD p)) (pk t)).isSome = true := fun t ht => by
      rw [vl]
      split
      · rfl
      · exact ht
    by_cases hr : pk r = pk q
    · rw [if_pos hr] at hd
      cases hd
      have := pk_inj hr
      subst this
      exact .inr ⟨p, rfl, r2.symm, keep p ((b.ks p).mpr hp)⟩
    · rw [if_neg hr] at hd
      rcases b.cd r d hd with h | ⟨t, h1, h2, h3⟩
      · exact .inl h
      · exact .inr ⟨t, h1, h2, keep t h3⟩
  · rcases List.mem_append.mp hr with hr | hr
    · exact b.rc r hr
    · rw [List.mem_singleton.mp hr]
      exact r1
end Mi
end T_P35m
section T_P35n
set_option Elab.async false
set_option linter.all false
set_option maxRecDepth 100000
set_option maxHeartbeats 1000000
namespace Mi
open PySem L2
theorem mDIn_T {S : Sto} {B : Nat} {kvs : List (List Key × Dv)} (h : S[B]? = some (.dT kvs)) (p : Pr) : mDIn not (pD p) (.loc B) S = .ok (.bl (!(valD kvs (pk p)).isSome)) S := by
  unfold mDIn
  rw [dGet_T h]
theorem dPut_T {S : Sto} {B : Nat} {kvs : List (List Key × Dv)} (h : S[B]? = some (.dT kvs)) (hl : kvs.length < lim) (p : Pr) (d : Dv) : dPut S (.loc B) (pD p) d = some (S.set B (.dT (putD kvs (pk p) d))) := by
  show (match S[B]? with
    | some (.dK kvs) => (match keyOf (pD p) with
      | some k => if kvs.length < lim then some (S.set B (.dK (putD kvs k d))) else none
      | none => none)
    | some (.dT kvs) => (match pD p with
      | .tup xs => (match keysOf xs with
        | some k => if kvs.length < lim then some (S.set B (.dT (putD kvs k d))) else none
        | none => none)
      | _ => none)
    | _ => none) = _
  rw [h]
  show (if kvs.length < lim then some (S.set B (.dT (putD kvs (pk p) d))) else none) = _
  rw [if_pos hl]
theorem wps_dput {a b v : EX} {δ : En} {S : Sto} {N : En → Sto → Prop} {R : Dv → Sto → Prop} : WpS (sDPut a b v δ S) N R = Wp (v δ S) fun y S1 => Wp (a δ S1) fun d S2 => Wp (b δ S2) fun e S3 => OnS (dPut S3 d e y) fun S4 => N δ S4 := by
  unfold sDPut
  rw [wps_on]
  congr
  funext y S1
  rw [wps_on]
  congr
  funext d S2
  rw [wps_on]
  congr
  funext e S3
  cases dPut S3 d e y <;> rfl
/-- the words of the search's environment -/
abbrev fE (u v : List Wst) (S : Sto) (i : Nat) (x6 x7 : Option Dv) : En := [some (lkD u), some (.tup [.int (u.length : Int)]), some (wD v), some (.loc S.length), some (.loc (S.length + 1)), some (.int (i : Int)), x6, x7]
/-- one later pair -/
theorem later_ok {u v : List Wst} (hu : u.length < 100) (hv : v.length < 100) {S S' : Sto} {Q : List Pr} {kvs : List (List Key × Dv)} (b : Bs u v S Q kvs S') {p q : Pr} (hp : p ∈ Q) (hq : q ∈ mvF u v p.1 p.2) (i : Nat) :
    WpS (sIf (bOf (e2 (mDIn not) (eVar 7) (eVar 3))) (sSeq (sDPut (eVar 3) (eVar 7) (eVar 6)) (sExpr (eMth "list" mAppend (eVar 4) (aCons (eVar 7) aNil)))) sNil (fE u v S i (some (pD p)) (some (pD q))) S')
      (fun δ S2 => δ = fE u v S i (some (pD p)) (some (pD q)) ∧ ∃ more kvs2, Bs u v S (Q ++ more) kvs2 S2 ∧ q ∈ Q ++ more ∧ (∀ n, S.length + 2 ≤ n → S2[n]? = S'[n]?)) (fun _ _ => False) := by
  rw [wps_if, wp_bOf, wp_e2, wp_var rfl, wp_var rfl, mDIn_T b.d, wp_ok, isB_bl]
  by_cases hin : q ∈ Q
  · rw [(b.ks q).mpr hin, Bool.not_true, if_neg Bool.false_ne_true, wps_nil]
    exact ⟨rfl, [], kvs, by simpa using b, by simpa using hin, fun _ _ => rfl⟩
  · have hs : (valD kvs (pk q)).isSome = false := by
      cases e : (valD kvs (pk q)).isSome with
      | false => rfl
      | true => exact absurd ((b.ks q).mp e) hin
    rw [hs, Bool.not_false, if_pos rfl]
    have few := b.few
    have hm : (v.length + 1) * (u.length + 1) ≤ 100 * 100 := Nat.mul_le_mul (by omega) (by omega)
    have ba := b.add hp hq hin
    have l1 : S.length + 1 < S'.length := (List.getElem?_eq_some_iff.mp b.w).1
    rw [wps_seq, wps_dput, wp_var rfl, wp_var rfl, wp_var rfl, dPut_T b.d (by rw [b.kl, lim_eq]; omega), onS_some, wps_expr, wp_mth, wp_var rfl]
    have hw : (S'.set S.length (.dT (putD kvs (pk q) (pD p))))[S.length + 1]? = some (.lst (Q.map pD)) := by
      rw [List.getElem?_set_ne (by omega)]
      exact b.w
    refine ⟨kind_loc hw, ?_⟩
    rw [wp_cons, wp_var rfl, wp_nil, mAppend_ok hw (by rw [List.length_map, lim_eq]; omega), wp_ok]
    refine ⟨rfl, [q], putD kvs (pk q) (pD p), ?_, by simp, fun n hn => ?_⟩
    · have e : Q.map pD ++ [pD q] = (Q ++ [q]).map pD := by simp
      rw [e]
      exact ba
    · rw [List.getElem?_set_ne (by omega), List.getElem?_set_ne (by omega)]
/-- all later pairs -/
theorem laters_ok {u v : List Wst} (hu : u.length < 100) (hv : v.length < 100) {S S' : Sto} {Q : List Pr} {kvs : List (List Key × Dv)} (b : Bs u v S Q kvs S') {p : Pr} (hp : p ∈ Q) (i : Nat) (x7 : Option Dv) :
    WpS (sForE (eN m_moves_on (aCons (eVar 0) (aCons (eVar 2) (aCons (e2 mIx (eVar 6) (eC (.int 0))) (aCons (e2 mIx (eVar 6) (eC (.int 1))) aNil))))) (gNm 7) (sIf (bOf (e2 (mDIn not) (eVar 7) (eVar 3))) (sSeq (sDPut (eVar 3) (eVar 7) (eVar 6)) (sExpr (eMth "list" mAppend (eVar 4) (aCons (eVar 7) aNil)))) sNil) (fE u v S i (some (pD p)) x7) S')
      (fun δ S2 => ∃ x7 more kvs2, δ = fE u v S i (some (pD p)) x7 ∧ Bs u v S (Q ++ more) kvs2 S2 ∧ ∀ q ∈ mvF u v p.1 p.2, q ∈ Q ++ more) (fun _ _ => False) := by
  rw [wps_forE]
  simp only [wp_eN, wp_cons, wp_nil, wp_e2]
  rw [wp_var rfl, wp_var rfl, wp_var rfl, wp_c, show mIx (pD p) (.int 0) S' = .ok (.int (p.1 : Int)) S' from rfl, wp_ok, wp_var rfl, wp_c, show mIx (pD p) (.int 1) S' = .ok (.int (p.2 : Int)) S' from rfl, wp_ok]
  have hrc := b.rc p hp
  refine (moves_ok (u := u) p.1 p.2 hrc.2.end_.2 S').mono ?_
  rintro _ _ ⟨rfl, rfl⟩
  have l1 : S.length + 1 < S'.length := (List.getElem?_eq_some_iff.mp b.w).1
  have hml : (mvF u v p.1 p.2).length ≤ 2 := by
    unfold mvF
    rw [List.length_append]
    split <;> split <;> simp
  refine wps_forLIx (fun k δ S2 => ∃ x7 more kvs2, δ = fE u v S i (some (pD p)) x7 ∧ Bs u v S (Q ++ more) kvs2 S2 ∧ (∀ q ∈ (mvF u v p.1 p.2).take k, q ∈ Q ++ more) ∧ S2[S'.length]? = some (.lst ((mvF u v p.1 p.2).map pD))) ((mvF u v p.1 p.2).map pD) (by rw [List.length_map, lim_eq]; omega) ?_ ?_ ?_ ?_
  · rintro k δ S2 ⟨_, _, _, _, _, _, h⟩
    exact h
  · exact ⟨x7, [], kvs, rfl, by simpa using b.more Ex.new, fun q hq => by simp at hq, by simp⟩
  · rintro δ S2 ⟨x, more, kvs2, h1, h2, h3, _⟩
    refine ⟨x, more, kvs2, h1, h2, fun q hq => h3 q ?_⟩
    rw [List.length_map, List.take_length]
    exact hq
  · rintro k hk δ S2 ⟨x, more, kvs2, rfl, h2, h3, h4⟩
    have hk' : k < (mvF u v p.1 p.2).length := by simpa using hk
    rw [List.getElem_map]
    show WpS _ _ _
    refine (later_ok hu hv h2 (List.mem_append_left _ hp) (List.getElem_mem hk') i).mono ?_ (fun _ _ z => z.elim)
    rintro δ S3 ⟨rfl, m2, kvs3, g1, g2, g3⟩
    refine ⟨_, more ++ m2, kvs3, rfl, by simpa using g1, fun q hq => ?_, by rw [g3 _ (by omega)]; exact h4⟩
    rw [List.take_succ, List.getElem?_eq_getElem hk'] at hq
    rcases List.mem_append.mp hq with hq | hq
    · have := h3 q hq
      simp at this ⊢
      rcases this with z | z
      · exact .inl z
      · exact .inr (.inl z)
    · have e : q = (mvF u v p.1 p.2)[k] := by simpa using hq
      rw [e]
      simpa using g2
end Mi
end T_P35n
section T_P35o
set_option Elab.async false
set_option linter.all false
set_option maxRecDepth 100000
set_option maxHeartbeats 1000000
namespace Mi
open PySem L2
theorem bs_start (u v : List Wst) (S : Sto) : Bs u v S [(0, 0)] [(pk (0, 0), .non)] (S ++ [.dT [(pk (0, 0), .non)]] ++ [.lst [pD (0, 0)]]) := by
  have vl : ∀ p : Pr, valD [(pk (0, 0), Dv.non)] (pk p) = if pk (0, 0) = pk p then some .non else none := fun p => by
    unfold valD
    by_cases h : pk (0, 0) = pk p <;> simp [h]
  refine ⟨Ex.new.trans Ex.new, ?_, ?_, by simp, fun p => ?_, rfl, fun p d hd => ?_, fun p hp => ?_, by simp⟩
  · rw [List.getElem?_append_left (by simp)]
    simp
  · rw [List.getElem?_append_right (by simp)]
    simp
  · rw [vl]
    by_cases h : pk (0, 0) = pk p
    · rw [if_pos h]
      have := pk_inj h
      simp [← this]
    · rw [if_neg h]
      simp
      exact fun e => h (by rw [e])
  · rw [vl] at hd
    by_cases h : pk (0, 0) = pk p
    · rw [if_pos h] at hd
      cases hd
      exact .inl ⟨(pk_inj h).symm, rfl⟩
    · rw [if_neg h] at hd
      cases hd
  · rw [List.mem_singleton.mp hp]
    exact ⟨Nat.zero_le _, by simpa using Wk.nil (Nat.le_refl _) (Nat.zero_le _)⟩
theorem mIn_one (i j : Int) (S : Sto) : mIn (.int i) (.tup [.int j]) S = .ok (.bl (decide (j = i))) S := by
  show Res.ok (Dv.bl (id ((j == i) || false))) S = _
  by_cases h : j = i <;> simp [h]
theorem foundwalk_ok {u v : List Wst} (hu : u.length < 100) (hv : v.length < 100) (S : Sto) : Wp (m_found_walk [lkD u, .tup [.int (u.length : Int)], wD v] S) fun d S' => Ex S S' ∧ (((∃ xs, d = .lst xs) ∧ Wk v 0 v.length 0 u v.length) ∨ (d = .non ∧ ¬ Wk v 0 v.length 0 u v.length)) := by
  refine fn_wp rfl ?_
  unfold b_found_walk
  have hm : (v.length + 1) * (u.length + 1) ≤ 100 * 100 := Nat.mul_le_mul (by omega) (by omega)
  refine seq_then (fun δ S' => δ = fE u v S 0 none none ∧ Bs u v S [(0, 0)] [(pk (0, 0), .non)] S') ?_ ?_
  · rw [wps_par]
    simp only [wp_cons, wp_nil]
    rw [show eDispT (eN mTup (aCons (eC (.int 0)) (aCons (eC (.int 0)) aNil))) (eC .non) ([lkD u, .tup [.int (u.length : Int)], wD v].map some ++ List.replicate (8 - 3) none) S = .ok (.loc S.length) (S ++ [.dT [(pk (0, 0), .non)]]) from rfl, wp_ok]
    simp only [wp_eN, wp_cons, wp_nil, wp_c]
    rw [mTup_ok _ _ (by simp [lim_eq]), wp_ok, mNewL_ok _ _ (by simp [lim_eq]), wp_ok]
    refine ⟨?_, bs_start u v S⟩
    show [some (lkD u), some (.tup [.int (u.length : Int)]), some (wD v), some (.loc S.length), some (.loc (S ++ [Ob.dT [(pk (0, 0), Dv.non)]]).length), some (.int 0), none, none] = _
    rw [List.length_append]
    rfl
  rintro _ S0 ⟨rfl, b0⟩
  refine seq_then (fun δ S' => Ex S S' ∧ ¬ Wk v 0 v.length 0 u v.length) ?_ ?_
  · refine wps_while (fun m δ S' => ∃ i Q kvs x6 x7, δ = fE u v S i x6 x7 ∧ Bs u v S Q kvs S' ∧ i ≤ Q.length ∧ m = (v.length + 1) * (u.length + 1) - i ∧ ∀ k p, k < i → Q[k]? = some p → (∀ q ∈ mvF u v p.1 p.2, q ∈ Q) ∧ p ≠ (v.length, u.length)) ?_ lim _ _ _ (show (v.length + 1) * (u.length + 1) < lim by rw [lim_eq]; omega) ⟨0, _, _, none, none, rfl, b0, Nat.zero_le _, rfl, fun k p h => by omega⟩
    rintro m δ S' ⟨i, Q, kvs, x6, x7, rfl, b, hi, rfl, hc⟩
    have few := b.few
    rw [wp_bOf, wp_e2, wp_var rfl, wp_eN, wp_cons, wp_var rfl, wp_nil]
    have ml : mLen [.loc (S.length + 1)] S' = .ok (.int (Q.length : Int)) S' := by
      show (match (match S'[S.length + 1]? with | some (.lst ds) => some ds | _ => none) with | some xs => Res.ok (Dv.int xs.length) S' | none => .bad) = _
      rw [b.w]
      simp
    rw [ml, wp_ok]
    show (if decide ((i : Int) < (Q.length : Int)) = true then _ else _)
    by_cases hlt : i < Q.length
    · rw [decide_eq_true (show (i : Int) < (Q.length : Int) by omega), if_pos rfl]
      refine ⟨by omega, ?_⟩
      refine set_then (fun d S1 => d = pD Q[i] ∧ S' = S1) ?_ ?_
      · rw [wp_e2, wp_var rfl, wp_var rfl, mIx_loc b.w (by simpa using hlt), wp_ok]
        exact ⟨by simp, rfl⟩
      rintro _ S1 ⟨rfl, e1⟩
      subst e1
      generalize hp : Q[i] = p
      have hpQ : p ∈ Q := by rw [← hp]; exact List.getElem_mem _
      have hpi : Q[i]? = some p := by rw [← hp]; exact List.getElem?_eq_getElem hlt
      have hrc := b.rc p hpQ
      refine seq_then (fun δ S1 => δ = fE u v S i (some (pD p)) x7 ∧ S' = S1 ∧ p ≠ (v.length, u.length)) ?_ ?_
      · rw [wps_if, wp_bAnd]
        simp only [wp_bOf, wp_e2, wp_eN, wp_cons, wp_nil]
        rw [wp_var rfl, wp_c, show mIx (pD p) (.int 0) S' = .ok (.int (p.1 : Int)) S' from rfl, wp_ok, wp_var rfl, mLen_w, wp_ok, mEq_int, wp_ok, isB_bl]
        by_cases h1 : (p.1 : Int) = (v.length : Int)
        · rw [decide_eq_true h1, if_pos rfl, wp_var rfl, wp_c, show mIx (pD p) (.int 1) S' = .ok (.int (p.2 : Int)) S' from rfl, wp_ok, wp_var rfl, mIn_one, wp_ok, isB_bl]
          by_cases h2 : (u.length : Int) = (p.2 : Int)
          · rw [decide_eq_true h2, if_pos rfl, wps_ret]
            simp only [wp_eN, wp_cons, wp_nil]
            rw [wp_var rfl, wp_var rfl]
            refine (wayback_ok b.d b.cd ((b.ks p).mpr hpQ) (by have := hrc.1; omega)).mono ?_
            rintro d S2 ⟨⟨xs, rfl⟩, f⟩
            refine ⟨b.ex.trans f, .inl ⟨⟨xs, rfl⟩, ?_⟩⟩
            have z := hrc.2
            rw [show p.1 = v.length by omega, show p.2 = u.length by omega, List.take_length] at z
            exact z
          · rw [decide_eq_false h2, if_neg Bool.false_ne_true, wps_nil]
            exact ⟨rfl, rfl, fun e => h2 (by rw [e])⟩
        · rw [decide_eq_false h1, if_neg Bool.false_ne_true, if_neg Bool.false_ne_true, wps_nil]
          exact ⟨rfl, rfl, fun e => h1 (by rw [e])⟩
      rintro _ S1 ⟨rfl, e1, hng⟩
      subst e1
      refine seq_then (fun δ S2 => ∃ x7 more kvs2, δ = fE u v S i (some (pD p)) x7 ∧ Bs u v S (Q ++ more) kvs2 S2 ∧ ∀ q ∈ mvF u v p.1 p.2, q ∈ Q ++ more) ?_ ?_
      · exact (laters_ok hu hv b hpQ i x7).mono (fun _ _ z => z) fun _ _ z => z.elim
      rintro _ S2 ⟨x7', more, kvs2, rfl, b2, hcl⟩
      rw [wps_aug, wp_var rfl, wp_c]
      refine ⟨i + 1, Q ++ more, kvs2, _, _, rfl, b2, by rw [List.length_append]; omega, by omega, fun k q hk hq => ?_⟩
      by_cases hki : k = i
      · subst hki
        rw [List.getElem?_append_left hlt, hpi] at hq
        cases hq
        exact ⟨hcl, hng⟩
      · rw [List.getElem?_append_left (by omega)] at hq
        obtain ⟨c1, c2⟩ := hc k q (by omega) hq
        exact ⟨fun r hr => List.mem_append_left _ (c1 r hr), c2⟩
    · rw [decide_eq_false (show ¬ (i : Int) < (Q.length : Int) by omega), if_neg Bool.false_ne_true]
      refine ⟨b.ex, fun hw => ?_⟩
      have ei : i = Q.length := by omega
      have all : ∀ p ∈ Q, (∀ q ∈ mvF u v p.1 p.2, q ∈ Q) ∧ p ≠ (v.length, u.length) := fun p hp => by
        obtain ⟨k, hk, e⟩ := List.mem_iff_getElem.mp hp
        exact hc k p (by omega) (by rw [List.getElem?_eq_getElem hk, e])
      have z := rc_all b.z (fun p hp => (all p hp).1) u.length v.length (Nat.le_refl _) (by rw [List.take_length]; exact hw)
      exact (all _ z).2 rfl
  rintro δ S' ⟨f, hn⟩
  rw [wps_ret, wp_c]
  exact ⟨f, .inr ⟨rfl, hn⟩⟩
end Mi
end T_P35o
section T_P35p
set_option Elab.async false
set_option linter.all false
set_option maxRecDepth 100000
set_option maxHeartbeats 1000000
namespace Mi
open PySem L2
/-! ### the links of a word's line, as the program builds them -/
def lkL (u : List Wst) (n : Nat) : List (Key × Dv) := (List.range n).map fun i : Nat => ((Sum.inl (i : Int) : Key), lkV u i)
theorem putD_lk (u : List Wst) (n : Nat) : putD (lkL u n) (Sum.inl (n : Int)) (lkV u n) = lkL u (n + 1) := by
  unfold putD
  rw [if_neg]
  · unfold lkL
    rw [List.range_succ, List.map_append]
    rfl
  · intro h
    obtain ⟨kv, h1, h2⟩ := List.any_eq_true.mp h
    unfold lkL at h1
    obtain ⟨i, hi, e⟩ := List.mem_map.mp h1
    rw [List.mem_range] at hi
    subst e
    have := of_decide_eq_true h2
    have e := Sum.inl.inj this
    omega
theorem enumD_w (u : List Wst) : enumD (u.map sD) = (List.range u.length).map fun i : Nat => Dv.tup [.int (i : Int), sD (u.getD i ("", 0))] := by
  apply List.ext_getElem?
  intro i
  unfold enumD
  rw [List.getElem?_mapIdx, List.getElem?_map, List.getElem?_map]
  by_cases h : i < u.length
  · rw [List.getElem?_range h, List.getElem?_eq_getElem h]
    simp [List.getD_eq_getElem?_getD, List.getElem?_eq_getElem h]
  · rw [List.getElem?_eq_none (by omega), List.getElem?_eq_none (l := List.range _) (by simp; omega)]
    rfl
theorem dcGo_lk {g : TGm} {ek ev : EX} {δ : En} {S : Sto} (u : List Wst) (h : ∀ i : Nat, OnS (g (.tup [.int (i : Int), sD (u.getD i ("", 0))]) δ S) fun z => z.2 = S ∧ ek z.1 S = .ok (.int (i : Int)) S ∧ ev z.1 S = .ok (lkV u i) S) :
    ∀ m n, dcGo g bYes ek ev δ ((List.range' n m).map fun i : Nat => Dv.tup [.int (i : Int), sD (u.getD i ("", 0))]) (lkL u n) S = .ok (lkL u (n + m)) S := by
  intro m
  induction m with
  | zero => intro n; rfl
  | succ m ih =>
    intro n
    rw [List.range'_succ, List.map_cons]
    unfold dcGo
    have z := h n
    cases e : g (.tup [.int (n : Int), sD (u.getD n ("", 0))]) δ S with
    | none => rw [e] at z; exact z.elim
    | some q =>
      rw [e] at z
      obtain ⟨δ1, S1⟩ := q
      obtain ⟨z1, z2, z3⟩ := z
      simp only at z1 z2 z3
      subst z1
      simp only [e, show bYes δ1 S1 = Res.ok true S1 from rfl, z2, z3]
      show dcGo g bYes ek ev δ _ (putD (lkL u n) (Sum.inl (n : Int)) (lkV u n)) S1 = _
      rw [putD_lk, ih (n + 1), show n + 1 + m = n + (m + 1) by omega]
theorem foldsto_ok {u v : List Wst} (gu : GoodW u) (gv : GoodW v) (hu : u.length < 100) (hv : v.length < 100) (S : Sto) : Wp (m_folds_to [wD u, wD v] S) fun d S' => Ex S S' ∧ ∃ b, d = .bl b ∧ (b = true ↔ Fs u v) := by
  refine fn_wp rfl ?_
  unfold b_folds_to
  refine expr_then (fun S' => S' = S) ?_ ?_
  · rw [wp_eN, wp_cons, wp_var rfl, wp_nil, want_ok gu (by rw [lim_eq]; omega), wp_ok]
  rintro S1 rfl
  refine expr_then (fun S' => S' = S1) ?_ ?_
  · rw [wp_eN, wp_cons, wp_var rfl, wp_nil, want_ok gv (by rw [lim_eq]; omega), wp_ok]
  rintro S2 rfl
  refine set_then (fun d S' => d = lkD u ∧ S' = S2) ?_ ?_
  · unfold eDc
    rw [wp_bind]
    unfold iEnum
    rw [wp_bind, wp_cons, wp_var rfl, wp_nil]
    show Wp (Res.ok (enumD (u.map sD)) S2) _
    rw [wp_ok, enumD_w]
    unfold dcEnd
    rw [if_pos (by rw [List.length_map, List.length_range, lim_eq]; omega), List.range_eq_range']
    have z := dcGo_lk (g := gTp [gNm 3, gNm 4]) (ek := eVar 3) (ev := eN mLst (aCons (eN mTup (aCons (eVar 4) (aCons (e2 mAdd (eVar 3) (eC (.int 1))) aNil))) aNil)) (δ := wipeD ([wD u, wD v].map some ++ List.replicate (5 - 2) none) [3, 4]) (S := S2) u (fun i => ⟨rfl, rfl, rfl⟩) u.length 0
    rw [show lkL u 0 = [] from rfl] at z
    rw [z]
    show Wp (Res.ok (Dv.dct (lkL u (0 + u.length))) S2) _
    rw [wp_ok, Nat.zero_add]
    exact ⟨rfl, rfl⟩
  rintro _ S3 ⟨rfl, rfl⟩
  rw [wps_ret, wp_e2, wp_eN]
  simp only [wp_cons, wp_nil, wp_eN]
  rw [wp_var rfl, wp_var rfl, mLen_w, wp_ok, mTup_ok _ _ (by simp [lim_eq]), wp_ok, wp_var rfl]
  refine (foundwalk_ok hu hv S3).mono ?_
  rintro d S4 ⟨f, h⟩
  rw [wp_c]
  rcases h with ⟨⟨xs, rfl⟩, w⟩ | ⟨rfl, w⟩
  · exact ⟨f, true, rfl, by simpa using (folds_iff).mpr w⟩
  · exact ⟨f, false, rfl, by simpa using fun z => w ((folds_iff).mp z)⟩
end Mi
end T_P35p
section T_P35q
set_option Elab.async false
set_option linter.all false
set_option maxRecDepth 100000
set_option maxHeartbeats 1000000
namespace Mi
open PySem L2
/-! ### folds of a word: the numbers and the relation -/
theorem canF_iff (w : List Wst) (a b : Nat) : canF w a b = true ↔ 1 ≤ b ∧ a + 3 * b ≤ w.length ∧ (w.drop (a + 2 * b)).take b = (w.drop a).take b ∧ (w.drop (a + b)).take b = inv ((w.drop a).take b) := by
  unfold canF
  rw [Bool.and_eq_true, Bool.and_eq_true, Bool.and_eq_true, decide_eq_true_iff, decide_eq_true_iff, decide_eq_true_iff, decide_eq_true_iff]
theorem mem_folds (w : List Wst) (p : Pr) : p ∈ foldsL w ↔ canF w p.1 p.2 = true := by
  obtain ⟨a, b⟩ := p
  unfold foldsL foldsAt
  rw [List.mem_flatMap]
  constructor
  · rintro ⟨c, hc, h⟩
    obtain ⟨i, hi, e⟩ := List.mem_map.mp h
    cases e
    exact (List.mem_filter.mp hi).2
  · intro h
    obtain ⟨h1, h2, _, _⟩ := (canF_iff w a b).mp h
    refine ⟨a, List.mem_range.mpr (by simp only at *; omega), List.mem_map.mpr ⟨b - 1, List.mem_filter.mpr ⟨List.mem_range.mpr ?_, ?_⟩, ?_⟩⟩
    · simp only at *
      omega
    · rw [show 1 + (b - 1) = b by omega]
      exact h
    · rw [show 1 + (b - 1) = b by omega]
theorem drop_split (w : List Wst) (a b : Nat) : w.drop a = (w.drop a).take b ++ w.drop (a + b) := by
  rw [← List.drop_drop]
  exact (List.take_append_drop b (w.drop a)).symm
theorem canF_F1 {w : List Wst} {a b : Nat} (h : canF w a b = true) : F1 w (aftF w a b) := by
  obtain ⟨h1, h2, h3, h4⟩ := (canF_iff w a b).mp h
  refine ⟨w.take a, (w.drop a).take b, w.drop (a + 3 * b), fun e => ?_, ?_, ?_⟩
  · have := congrArg List.length e
    simp at this
    omega
  · rw [← h4]
    have e3 : (w.drop a).take b ++ w.drop (a + 3 * b) = w.drop (a + 2 * b) := by
      rw [← h3, show a + 3 * b = a + 2 * b + b by omega]
      exact (drop_split w _ _).symm
    rw [e3]
    have e2 : (w.drop (a + b)).take b ++ w.drop (a + 2 * b) = w.drop (a + b) := by
      rw [show a + 2 * b = a + b + b by omega]
      exact (drop_split w _ _).symm
    rw [e2, ← drop_split w a b]
    exact (List.take_append_drop a w).symm
  · unfold aftF
    rw [← List.append_assoc, List.take_add]
theorem F1_canF {x y : List Wst} (h : F1 x y) : ∃ a b, canF x a b = true ∧ y = aftF x a b := by
  obtain ⟨a, p, b, hp, rfl, rfl⟩ := h
  have hpl : 1 ≤ p.length := List.length_pos_iff.mpr hp
  have il := inv_len p
  have d1 : (a ++ (p ++ (inv p ++ (p ++ b)))).drop a.length = p ++ (inv p ++ (p ++ b)) := by simp
  have d2 : (a ++ (p ++ (inv p ++ (p ++ b)))).drop (a.length + p.length) = inv p ++ (p ++ b) := by
    rw [← List.drop_drop, d1]; simp
  have d3 : (a ++ (p ++ (inv p ++ (p ++ b)))).drop (a.length + 2 * p.length) = p ++ b := by
    rw [show a.length + 2 * p.length = a.length + p.length + p.length by omega, ← List.drop_drop, d2, ← il]; simp
  have d4 : (a ++ (p ++ (inv p ++ (p ++ b)))).drop (a.length + 3 * p.length) = b := by
    rw [show a.length + 3 * p.length = a.length + 2 * p.length + p.length by omega, ← List.drop_drop, d3]; simp
  refine ⟨a.length, p.length, (canF_iff _ _ _).mpr ⟨hpl, ?_, ?_, ?_⟩, ?_⟩
  · simp only [List.length_append, il]; omega
  · rw [d3, d1]; simp
  · rw [d2, d1]
    simp
    rw [← il]; simp
  · unfold aftF
    rw [d4, List.take_add, d1]
    simp
theorem aftF_sub (w : List Wst) (a b : Nat) : (aftF w a b).Sublist w := by
  unfold aftF
  have e := List.take_append_drop (a + b) w
  have : (w.take (a + b) ++ w.drop (a + 3 * b)).Sublist (w.take (a + b) ++ w.drop (a + b)) := by
    refine List.Sublist.append (List.Sublist.refl _) ?_
    rw [show a + 3 * b = a + b + 2 * b by omega, ← List.drop_drop]
    exact List.drop_sublist _ _
  rw [e] at this
  exact this
theorem Fs.sub {x y : List Wst} (h : Fs x y) : y.Sublist x := by
  induction h with
  | refl => exact List.Sublist.refl _
  | step f _ ih =>
    obtain ⟨a, b, _, rfl⟩ := F1_canF f
    exact ih.trans (aftF_sub _ _ _)
/-- all sublists -/
def subs {α : Type} : List α → List (List α)
  | [] => [[]]
  | a :: l => subs l ++ (subs l).map (a :: ·)
theorem subs_len {α : Type} : ∀ l : List α, (subs l).length = 2 ^ l.length
  | [] => rfl
  | a :: l => by
    unfold subs
    rw [List.length_append, List.length_map, subs_len l, List.length_cons]
    omega
theorem mem_subs {α : Type} {x l : List α} (h : x.Sublist l) : x ∈ subs l := by
  induction h with
  | slnil => exact List.mem_singleton.mpr rfl
  | cons a _ ih => exact List.mem_append_left _ ih
  | cons_cons a _ ih => exact List.mem_append_right _ (List.mem_map.mpr ⟨_, ih, rfl⟩)
theorem goodW_sub {x y : List Wst} (h : y.Sublist x) (g : GoodW x) : GoodW y := fun s hs => g s (h.subset hs)
/-- what a search closed under folds has found -/
theorem all_folds {u : List Wst} {Q : List (List Wst)} (h0 : u ∈ Q) (hc : ∀ w ∈ Q, ∀ p ∈ foldsL w, aftF w p.1 p.2 ∈ Q) {v : List Wst} (h : Fs u v) : v ∈ Q := by
  induction h with
  | refl => exact h0
  | step f _ ih =>
    obtain ⟨a, b, e, rfl⟩ := F1_canF f
    exact ih (hc _ h0 (a, b) ((mem_folds _ _).mpr e))
theorem Fs.snoc {x y z : List Wst} (h : Fs x y) (k : F1 y z) : Fs x z := h.trans (.step k (.refl _))
end Mi
end T_P35q
section T_P35r
set_option Elab.async false
set_option linter.all false
set_option maxRecDepth 100000
set_option maxHeartbeats 1000000
namespace Mi
open PySem L2
/-! ### _law_all -/
theorem deep_ws {S : Sto} {n : Nat} {Q : List (List Wst)} (h : S[n]? = some (.lst (Q.map wD))) (k : Nat) : deep S (k + 4) (.loc n) = some (.list (Q.map wP)) := by
  show (match S[n]? with | some (.lst xs) => (optAll (xs.map (deep S (k + 3)))).map PyData.list | _ => none) = _
  rw [h]
  show (optAll ((Q.map wD).map (deep S (k + 3)))).map PyData.list = _
  rw [List.map_map, show Q.map (deep S (k + 3) ∘ wD) = Q.map (fun s => deep S (k + 3) (wD s)) from rfl, optAll_map (g := wP) fun s _ => deep_w s S k]
  rfl
theorem any_w (Q : List (List Wst)) (v : List Wst) : ((Q.map wP).any fun z => PyData.eqv z (wP v)) = decide (v ∈ Q) := by
  rw [Bool.eq_iff_iff, List.any_eq_true, decide_eq_true_iff]
  constructor
  · rintro ⟨z, h1, h2⟩
    obtain ⟨w, hw, rfl⟩ := List.mem_map.mp h1
    rw [eqv_w, decide_eq_true_iff] at h2
    rw [← h2]; exact hw
  · intro h
    exact ⟨wP v, List.mem_map.mpr ⟨v, h, rfl⟩, by rw [eqv_w, decide_eq_true_iff]⟩
theorem mInB_ws {S : Sto} {n : Nat} {Q : List (List Wst)} (h : S[n]? = some (.lst (Q.map wD))) (k : Bool → Bool) (v : List Wst) : mInB k (wD v) (.loc n) S = .ok (.bl (k (decide (v ∈ Q)))) S := by
  show (match deep S dpt (wD v), deep S dpt (.loc n) with
    | some p, some (.list ps) => if noDict p && noDictA ps then Res.ok (Dv.bl (k (ps.any fun z => PyData.eqv z p))) S else .bad
    | some p, some (.tuple ps) => if noDict p && noDictA ps then Res.ok (Dv.bl (k (ps.any fun z => PyData.eqv z p))) S else .bad
    | _, _ => .bad) = _
  rw [deep_w v S 9, deep_ws h 8]
  show (if noDict (wP v) && noDictA (Q.map wP) then Res.ok (Dv.bl (k ((Q.map wP).any fun z => PyData.eqv z (wP v)))) S else .bad) = _
  rw [noDict_w, noDict_all (f := wP) fun w _ => noDict_w w, any_w]
  rfl
structure Ax (u : List Wst) (S : Sto) (Q : List (List Wst)) (S' : Sto) : Prop where
  ex : Ex S S'
  at_ : S'[S.length]? = some (.lst (Q.map wD))
  nd : Q.Nodup
  fs : ∀ v ∈ Q, Fs u v
  z : u ∈ Q
theorem Ax.few {u : List Wst} {S : Sto} {Q : List (List Wst)} {S' : Sto} (a : Ax u S Q S') : Q.length ≤ 2 ^ u.length := by
  rw [← subs_len u]
  exact nodup_le a.nd fun v hv => mem_subs (a.fs v hv).sub
theorem Ax.more {u : List Wst} {S : Sto} {Q : List (List Wst)} {S' S2 : Sto} (a : Ax u S Q S') (f : Ex S' S2) : Ax u S Q S2 := ⟨a.ex.trans f, f.keep a.at_, a.nd, a.fs, a.z⟩
abbrev aE (u : List Wst) (S : Sto) (i : Nat) (x3 x4 : Option Dv) : En := [some (wD u), some (.loc S.length), some (.int (i : Int)), x3, x4]
theorem two_pow_few {n : Nat} (h : n < 12) : 2 ^ n ≤ 2048 := by
  have : 2 ^ n ≤ 2 ^ 11 := Nat.pow_le_pow_right (by omega) (by omega)
  omega
theorem allstep_ok {u : List Wst} (hu : u.length < 12) {S S' : Sto} {Q : List (List Wst)} (a : Ax u S Q S') {i : Nat} {w : List Wst} (hi : Q[i]? = some w) {p : Pr} (hp : p ∈ foldsL w) (x4 : Option Dv) :
    WpS (sSeq (sSet 4 (eN m_Lafter (aCons (e2 mIx (eVar 1) (eVar 2)) (aCons (eVar 3) aNil)))) (sIf (bOf (e2 mNotIn (eVar 4) (eVar 1))) (sExpr (eMth "list" mAppend (eVar 1) (aCons (eVar 4) aNil))) sNil) (aE u S i (some (pD p)) x4) S')
      (fun δ S2 => ∃ x4 more, δ = aE u S i (some (pD p)) x4 ∧ Ax u S (Q ++ more) S2 ∧ aftF w p.1 p.2 ∈ Q ++ more ∧ (∀ n, S.length + 1 ≤ n → S2[n]? = S'[n]?)) (fun _ _ => False) := by
  have few := a.few
  have t := two_pow_few hu
  have hil : i < Q.length := (List.getElem?_eq_some_iff.mp hi).1
  have hwQ : w ∈ Q := List.mem_of_getElem? hi
  have hwl : w.length ≤ u.length := (a.fs w hwQ).sub.length_le
  refine set_then (fun d S1 => d = wD (aftF w p.1 p.2) ∧ S' = S1) ?_ ?_
  · simp only [wp_eN, wp_cons, wp_nil, wp_e2]
    rw [wp_var rfl, wp_var rfl, mIx_loc a.at_ (by simpa using hil), wp_ok, wp_var rfl]
    have e : (Q.map wD)[i]'(by simpa using hil) = wD w := by
      rw [List.getElem_map]
      exact congrArg wD (Option.some.inj ((List.getElem?_eq_getElem hil).symm.trans hi))
    rw [e, Lafter_ok (by rw [lim_eq]; omega), wp_ok]
    exact ⟨rfl, rfl⟩
  rintro _ S1 ⟨rfl, e1⟩
  subst e1
  rw [wps_if, wp_bOf, wp_e2, wp_var rfl, wp_var rfl]
  rw [show mNotIn (wD (aftF w p.1 p.2)) (.loc S.length) S' = _ from mInB_ws a.at_ not _, wp_ok, isB_bl]
  by_cases hin : aftF w p.1 p.2 ∈ Q
  · rw [decide_eq_true hin, Bool.not_true, if_neg Bool.false_ne_true, wps_nil]
    exact ⟨_, [], rfl, by simpa using a, by simpa using hin, fun _ _ => rfl⟩
  · rw [decide_eq_false hin, Bool.not_false, if_pos rfl, wps_expr, wp_mth, wp_var rfl]
    refine ⟨kind_loc a.at_, ?_⟩
    rw [wp_cons, wp_var rfl, wp_nil, mAppend_ok a.at_ (by rw [List.length_map, lim_eq]; omega), wp_ok]
    have hlt : S.length < S'.length := (List.getElem?_eq_some_iff.mp a.at_).1
    refine ⟨_, [aftF w p.1 p.2], rfl, ⟨a.ex.put (Nat.le_refl _), ?_, ?_, ?_, List.mem_append_left _ a.z⟩, by simp, fun n hn => List.getElem?_set_ne (by omega)⟩
    · rw [List.getElem?_set_self hlt, List.map_append]
      rfl
    · rw [List.nodup_append]
      refine ⟨a.nd, by simp, fun x hx y hy e => hin ?_⟩
      rw [List.mem_singleton.mp hy] at e
      rw [← e]; exact hx
    · intro v hv
      rcases List.mem_append.mp hv with h | h
      · exact a.fs v h
      · rw [List.mem_singleton.mp h]
        exact (a.fs w hwQ).snoc (canF_F1 ((mem_folds w p).mp hp))
theorem foldsL_few (w : List Wst) (h : w.length < 100) : (foldsL w).length ≤ 100 * 100 := by
  unfold foldsL
  have : ∀ l : List Nat, (∀ a ∈ l, a < 100) → (l.flatMap (foldsAt w)).length ≤ l.length * 100 := by
    intro l
    induction l with
    | nil => intro _; simp
    | cons a l ih =>
      intro ha
      rw [List.flatMap_cons, List.length_append, List.length_cons]
      have h1 := ih fun b hb => ha b (List.mem_cons_of_mem _ hb)
      have h2 : (foldsAt w a).length ≤ 100 := by
        unfold foldsAt
        rw [List.length_map]
        refine Nat.le_trans (List.length_filter_le _ _) ?_
        rw [List.length_range]
        omega
      rw [Nat.add_mul]
      omega
  have z := this (List.range w.length) (fun a ha => by have := List.mem_range.mp ha; omega)
  rw [List.length_range] at z
  refine Nat.le_trans z (Nat.mul_le_mul (by omega) (Nat.le_refl _))
theorem Lall_ok {u : List Wst} (gu : GoodW u) (hu : u.length < 12) (S : Sto) : Wp (m_Lall [wD u] S) fun d S' => Ex S S' ∧ ∃ Q : List (List Wst), d = .loc S.length ∧ S'[S.length]? = some (.lst (Q.map wD)) ∧ Q.length ≤ 2048 ∧ Q ≠ [] ∧ ∀ v, v ∈ Q ↔ Fs u v := by
  refine fn_wp rfl ?_
  unfold b_Lall
  have t := two_pow_few hu
  refine seq_then (fun δ S' => δ = aE u S 0 none none ∧ Ax u S [u] S') ?_ ?_
  · rw [wps_par]
    simp only [wp_cons, wp_nil, wp_eN]
    rw [wp_var rfl, mNewL_ok _ _ (by simp [lim_eq]), wp_ok, wp_c]
    refine ⟨rfl, Ex.new, by simp, by simp, fun v hv => ?_, by simp⟩
    rw [List.mem_singleton.mp hv]
    exact .refl _
  rintro _ S0 ⟨rfl, a0⟩
  refine seq_then (fun δ S' => ∃ i x3 x4 Q, δ = aE u S i x3 x4 ∧ Ax u S Q S' ∧ ∀ w ∈ Q, ∀ p ∈ foldsL w, aftF w p.1 p.2 ∈ Q) ?_ ?_
  · refine wps_while (fun m δ S' => ∃ i Q x3 x4, δ = aE u S i x3 x4 ∧ Ax u S Q S' ∧ i ≤ Q.length ∧ m = 2048 - i ∧ ∀ k w, k < i → Q[k]? = some w → ∀ p ∈ foldsL w, aftF w p.1 p.2 ∈ Q) ?_ lim _ _ _ (show 2048 < lim by rw [lim_eq]; omega) ⟨0, _, none, none, rfl, a0, Nat.zero_le _, rfl, fun k p h => by omega⟩
    rintro m δ S' ⟨i, Q, x3, x4, rfl, a, hi, rfl, hc⟩
    have few := a.few
    rw [wp_bOf, wp_e2, wp_var rfl, wp_eN, wp_cons, wp_var rfl, wp_nil]
    have ml : mLen [.loc S.length] S' = .ok (.int (Q.length : Int)) S' := by
      show (match (match S'[S.length]? with | some (.lst ds) => some ds | _ => none) with | some xs => Res.ok (Dv.int xs.length) S' | none => .bad) = _
      rw [a.at_]
      simp
    rw [ml, wp_ok]
    show (if decide ((i : Int) < (Q.length : Int)) = true then _ else _)
    by_cases hlt : i < Q.length
    · rw [decide_eq_true (show (i : Int) < (Q.length : Int) by omega), if_pos rfl]
      refine ⟨by omega, ?_⟩
      generalize hw : Q[i] = w
      have hwi : Q[i]? = some w := by rw [← hw]; exact List.getElem?_eq_getElem hlt
      have hwQ : w ∈ Q := List.mem_of_getElem? hwi
      have hws := (a.fs w hwQ).sub
      have hwl := hws.length_le
      have hlS : S.length < S'.length := (List.getElem?_eq_some_iff.mp a.at_).1
      refine seq_then (fun δ S2 => ∃ x3 x4 more, δ = aE u S i x3 x4 ∧ Ax u S (Q ++ more) S2 ∧ ∀ p ∈ foldsL w, aftF w p.1 p.2 ∈ Q ++ more) ?_ ?_
      · rw [wps_forE]
        simp only [wp_eN, wp_cons, wp_nil, wp_e2]
        rw [wp_var rfl, wp_var rfl, mIx_loc a.at_ (by simpa using hlt), wp_ok, List.getElem_map, hw, Lfolds_ok (goodW_sub hws gu) (by omega), wp_ok]
        have fl := foldsL_few w (by omega)
        refine wps_forLIx (fun k δ S2 => ∃ x3 x4 more, δ = aE u S i x3 x4 ∧ Ax u S (Q ++ more) S2 ∧ (∀ p ∈ (foldsL w).take k, aftF w p.1 p.2 ∈ Q ++ more) ∧ S2[S'.length]? = some (.lst ((foldsL w).map pD))) ((foldsL w).map pD) (by rw [List.length_map, lim_eq]; omega) ?_ ?_ ?_ ?_
        · rintro k δ S2 ⟨_, _, _, _, _, _, h⟩
          exact h
        · exact ⟨x3, x4, [], rfl, by simpa using a.more Ex.new, fun q hq => by simp at hq, by simp⟩
        · rintro δ S2 ⟨x, y, more, h1, h2, h3, _⟩
          refine ⟨x, y, more, h1, h2, fun q hq => h3 q ?_⟩
          rw [List.length_map, List.take_length]
          exact hq
        · rintro k hk δ S2 ⟨x, y, more, rfl, h2, h3, h4⟩
          have hk' : k < (foldsL w).length := by simpa using hk
          rw [List.getElem_map]
          show WpS _ _ _
          refine (allstep_ok hu h2 (i := i) (w := w) (by rw [List.getElem?_append_left hlt]; exact hwi) (List.getElem_mem hk') y).mono ?_ (fun _ _ z => z.elim)
          rintro δ S3 ⟨y', m2, rfl, g1, g2, g3⟩
          refine ⟨_, _, more ++ m2, rfl, by simpa using g1, fun q hq => ?_, by rw [g3 _ (by omega)]; exact h4⟩
          rw [List.take_succ, List.getElem?_eq_getElem hk'] at hq
          rw [← List.append_assoc]
          rcases List.mem_append.mp hq with hq | hq
          · exact List.mem_append_left _ (h3 q hq)
          · have e : q = (foldsL w)[k] := by simpa using hq
            rw [e]
            exact g2
      rintro _ S2 ⟨x3', x4', more, rfl, a2, hcl⟩
      rw [wps_set, wp_e2, wp_var rfl, wp_c]
      refine ⟨i + 1, Q ++ more, _, _, rfl, a2, by rw [List.length_append]; omega, by omega, fun k q hk hq => ?_⟩
      by_cases hki : k = i
      · subst hki
        rw [List.getElem?_append_left hlt, hwi] at hq
        cases hq
        exact hcl
      · rw [List.getElem?_append_left (by omega)] at hq
        exact fun p hp => List.mem_append_left _ (hc k q (by omega) hq p hp)
    · rw [decide_eq_false (show ¬ (i : Int) < (Q.length : Int) by omega), if_neg Bool.false_ne_true]
      refine ⟨i, x3, x4, Q, rfl, a, fun w hw => ?_⟩
      obtain ⟨k, hk, e⟩ := List.mem_iff_getElem.mp hw
      exact hc k w (by omega) (by rw [List.getElem?_eq_getElem hk, e])
  rintro _ S' ⟨i, x3, x4, Q, rfl, a, hcl⟩
  rw [wps_ret, wp_var rfl]
  have few := a.few
  exact ⟨a.ex, Q, rfl, a.at_, by omega, List.ne_nil_of_mem a.z, fun v => ⟨a.fs v, fun h => all_folds a.z hcl h⟩⟩
end Mi
end T_P35r
section T_P35s
set_option Elab.async false
set_option linter.all false
set_option maxRecDepth 100000
set_option maxHeartbeats 1000000
namespace Mi
open PySem L2
/-! ### reprs -/
/-- short enough to be shown -/
structure Sh (p : PyData) (n : Nat) : Prop where
  s : p.showable = true
  l : p.leavesShort 400 = true
  b : p.bulk ≤ n
theorem mRepr_ok {S : Sto} {d : Dv} {p : PyData} {n : Nat} (h : deep S dpt d = some p) (q : Sh p n) (hn : n ≤ 30000) : mRepr [d] S = .ok (.str p.shown) S := by
  show (match deep S dpt d with
    | some p => if p.showable && p.leavesShort 400 && decide (p.bulk ≤ 30000) then Res.ok (Dv.str p.shown) S else .bad
    | none => .bad) = _
  rw [h]
  dsimp only
  rw [q.s, q.l, decide_eq_true (Nat.le_trans q.b hn)]
  rfl
theorem sh_int {i : Int} (h0 : 0 ≤ i) (h1 : i < 1000) : Sh (.int i) 0 := by
  refine ⟨?_, ?_, Nat.le_refl _⟩
  · show decide (i.natAbs.log2 < 1920) = true
    rw [decide_eq_true_iff]
    by_cases hz : i.natAbs = 0
    · rw [hz]; decide
    · rw [Nat.log2_lt hz]
      exact Nat.lt_of_lt_of_le (show i.natAbs < 2 ^ 10 by omega) (Nat.pow_le_pow_right (by omega) (by omega))
  · show decide ((PyData.shown (.int i)).length ≤ 400) = true
    rw [decide_eq_true_iff]
    have := PyProof.Rows.toString_length_le (v := i) (k := 3) h0 (by decide) (by omega)
    exact Nat.le_trans this (by omega)
theorem sh_m1 : Sh (.int (-1)) 0 := ⟨by decide, by decide, Nat.le_refl _⟩
theorem sh_str {x : Str} (h : GoodL x) : Sh (.str x) 8 := by
  refine ⟨rfl, ?_, h.2.1⟩
  show (x.cps.toList.all fun c => decide (c < 16 ^ 8)) = true
  rw [List.all_eq_true]
  intro c hc
  have := h.2.2 c hc
  rw [decide_eq_true_iff]
  unfold isLt at this
  simp at this
  omega
theorem sh_all {α : Type} {f : α → PyData} {n : Nat} : ∀ {xs : List α}, (∀ x ∈ xs, Sh (f x) n) → PyData.showableAll (xs.map f) = true ∧ PyData.leavesShortAll 400 (xs.map f) = true ∧ PyData.bulkAll (xs.map f) ≤ xs.length * (n + 1)
  | [], _ => ⟨rfl, rfl, Nat.zero_le _⟩
  | x :: xs, h => by
    obtain ⟨a, b, c⟩ := sh_all (f := f) fun y hy => h y (List.mem_cons_of_mem _ hy)
    have z := h x (by simp)
    refine ⟨?_, ?_, ?_⟩
    · show ((f x).showable && PyData.showableAll (xs.map f)) = true
      rw [z.s, a]; rfl
    · show ((f x).leavesShort 400 && PyData.leavesShortAll 400 (xs.map f)) = true
      rw [z.l, b]; rfl
    · show (f x).bulk + 1 + PyData.bulkAll (xs.map f) ≤ (xs.length + 1) * (n + 1)
      have := z.b
      rw [Nat.add_mul]
      omega
theorem sh_tup {α : Type} {f : α → PyData} {n : Nat} {xs : List α} (h : ∀ x ∈ xs, Sh (f x) n) : Sh (.tuple (xs.map f)) (xs.length * (n + 1)) := ⟨(sh_all h).1, (sh_all h).2.1, (sh_all h).2.2⟩
theorem sh_lst {α : Type} {f : α → PyData} {n : Nat} {xs : List α} (h : ∀ x ∈ xs, Sh (f x) n) : Sh (.list (xs.map f)) (xs.length * (n + 1)) := ⟨(sh_all h).1, (sh_all h).2.1, (sh_all h).2.2⟩
theorem Sh.up {p : PyData} {n m : Nat} (h : Sh p n) (k : n ≤ m) : Sh p m := ⟨h.s, h.l, Nat.le_trans h.b k⟩
theorem sh_two {p q : PyData} {n : Nat} (h : Sh p n) (k : Sh q n) : Sh (.tuple [p, q]) (2 * (n + 1)) := by
  have := sh_tup (f := id) (xs := [p, q]) (n := n) (fun x hx => by
    rcases List.mem_cons.mp hx with rfl | hx
    · exact h
    · rw [List.mem_singleton.mp hx]; exact k)
  simpa using this
theorem sh_s {s : Wst} (h : GoodS s) : Sh (sP s) 18 := by
  refine sh_two (n := 8) (sh_str h.1) ?_
  rcases h.2 with e | e
  · rw [e]; exact (sh_int (by decide) (by decide)).up (by decide)
  · rw [e]; exact sh_m1.up (by decide)
theorem sh_w {w : List Wst} (h : GoodW w) : Sh (wP w) (w.length * 19) := sh_tup (f := sP) (n := 18) fun s hs => sh_s (h s hs)
theorem repr_w {w : List Wst} (h : GoodW w) (hl : w.length < 100) (S : Sto) : mRepr [wD w] S = .ok (.str (wP w).shown) S := mRepr_ok (deep_w w S 9) (sh_w h) (by omega)
def pP (p : Pr) : PyData := .tuple [.int p.1, .int p.2]
theorem sh_p {p : Pr} (h1 : p.1 < 100) (h2 : p.2 < 100) : Sh (pP p) 2 := sh_two (n := 0) (sh_int (by omega) (by omega)) (sh_int (by omega) (by omega))
theorem deep_p (p : Pr) (S : Sto) (k : Nat) : deep S (k + 2) (pD p) = some (pP p) := rfl
theorem deep_ps (ps : List Pr) (S : Sto) (k : Nat) : optAll ((ps.map pD).map (deep S (k + 2))) = some (ps.map pP) := by
  rw [List.map_map, show ps.map (deep S (k + 2) ∘ pD) = ps.map (fun s => deep S (k + 2) (pD s)) from rfl, optAll_map (g := pP) fun s _ => deep_p s S k]
theorem fold_small {w : List Wst} (hl : w.length < 100) {p : Pr} (h : p ∈ foldsL w) : p.1 < 100 ∧ p.2 < 100 := by
  obtain ⟨h1, h2, _⟩ := (canF_iff w p.1 p.2).mp ((mem_folds w p).mp h)
  omega
theorem deep_fs {S : Sto} {n : Nat} {ps : List Pr} (h : S[n]? = some (.lst (ps.map pD))) (k : Nat) : deep S (k + 3) (.loc n) = some (.list (ps.map pP)) := by
  show (match S[n]? with | some (.lst xs) => (optAll (xs.map (deep S (k + 2)))).map PyData.list | _ => none) = _
  rw [h]
  show (optAll ((ps.map pD).map (deep S (k + 2)))).map PyData.list = _
  rw [deep_ps]
  rfl
theorem repr_fs {S : Sto} {n : Nat} {w : List Wst} (hl : w.length < 100) (h : S[n]? = some (.lst ((foldsL w).map pD))) : mRepr [.loc n] S = .ok (.str (PyData.list ((foldsL w).map pP)).shown) S := by
  refine mRepr_ok (deep_fs h 9) (sh_lst (f := pP) (n := 2) fun p hp => sh_p (fold_small hl hp).1 (fold_small hl hp).2) ?_
  have := foldsL_few w hl
  omega
end Mi
end T_P35s
section T_P35t
set_option Elab.async false
set_option linter.all false
set_option maxRecDepth 100000
set_option maxHeartbeats 1000000
namespace Mi
open PySem L2
/-! ### comprehensions over a list of the store -/
theorem lcLGo_map {ι : Type} {g : TGm} {e : EX} {f : ι → Dv} {δ : En} {S : Sto} {n : Nat} (enc : ι → Dv) (xs : List ι) (hn : S[n]? = some (.lst (xs.map enc))) (h : ∀ x ∈ xs, OnS (g (enc x) δ S) fun z => z.2 = S ∧ e z.1 S = .ok (f x) S) :
    ∀ (m i fuel : Nat) (acc : List Dv), i + m = xs.length → m < fuel → lcLGo n g bYes e δ fuel i acc S = .ok (acc ++ (xs.drop i).map f) S := by
  intro m
  induction m with
  | zero =>
    intro i fuel acc hi hf
    obtain ⟨fu, rfl⟩ : ∃ k, fuel = k + 1 := ⟨fuel - 1, by omega⟩
    have nx : nxL S n i = some none := by
      unfold nxL
      rw [hn]
      show some ((xs.map enc)[i]?) = _
      rw [List.getElem?_eq_none (by simp; omega)]
    unfold lcLGo
    rw [nx, List.drop_eq_nil_of_le (by omega)]
    simp
  | succ m ih =>
    intro i fuel acc hi hf
    obtain ⟨fu, rfl⟩ : ∃ k, fuel = k + 1 := ⟨fuel - 1, by omega⟩
    have hil : i < xs.length := by omega
    have nx : nxL S n i = some (some (enc xs[i])) := by
      unfold nxL
      rw [hn]
      show some ((xs.map enc)[i]?) = _
      rw [List.getElem?_map, List.getElem?_eq_getElem hil]
      rfl
    unfold lcLGo
    rw [nx]
    have z := h xs[i] (List.getElem_mem hil)
    cases e1 : g (enc xs[i]) δ S with
    | none => rw [e1] at z; exact z.elim
    | some q =>
      rw [e1] at z
      obtain ⟨δ1, S1⟩ := q
      obtain ⟨z1, z2⟩ := z
      simp only at z1 z2
      subst z1
      simp only [e1, show bYes δ1 S1 = Res.ok true S1 from rfl, z2]
      rw [ih (i + 1) fu _ (by omega) (by omega), List.drop_eq_getElem_cons hil, List.map_cons, List.append_assoc]
      rfl
theorem lcE_loc {ι : Type} {g : TGm} {e : EX} {f : ι → Dv} {δ : En} {S : Sto} {n : Nat} (enc : ι → Dv) (xs : List ι) (hl : xs.length < lim) (hn : S[n]? = some (.lst (xs.map enc))) (h : ∀ x ∈ xs, OnS (g (enc x) δ S) fun z => z.2 = S ∧ e z.1 S = .ok (f x) S) :
    lcE g bYes e δ (.loc n) S = .ok (.lst (xs.map f)) S := by
  show lcOk (lcLGo n g bYes e δ lim 0 [] S) = _
  rw [lcLGo_map enc xs hn h xs.length 0 lim [] (by omega) hl]
  simp [lcOk]
end Mi
end T_P35t
section T_P35u
set_option Elab.async false
set_option linter.all false
set_option maxRecDepth 100000
set_option maxHeartbeats 1000000
namespace Mi
open PySem L2
/-! ### values that are no folds -/
theorem eqv_str (x y : Str) : PyData.eqv (.str x) (.str y) = decide (x = y) := by
  show (x == y) = _
  by_cases h : x = y <;> simp [h]
theorem mNe_str (x y : Str) (S : Sto) : mNe (.str x) (.str y) S = .ok (.bl (!decide (x = y))) S := by
  show Res.ok (Dv.bl (not (PyData.eqv (.str x) (.str y)))) S = _
  rw [eqv_str]
theorem mEq_str (x y : Str) (S : Sto) : mEq (.str x) (.str y) S = .ok (.bl (decide (x = y))) S := by
  show Res.ok (Dv.bl (id (PyData.eqv (.str x) (.str y)))) S = _
  rw [eqv_str]
  rfl
theorem mNotIn_lst {S : Sto} {x : Str} {xs : List Str} : mNotIn (.str x) (.lst (xs.map Dv.str)) S = .ok (.bl (!decide (x ∈ xs))) S := by
  have e : deep S dpt (.lst (xs.map Dv.str)) = some (.list (xs.map PyData.str)) := by
    show (optAll ((xs.map Dv.str).map (deep S 11))).map PyData.list = _
    rw [deep_strs xs S 10]
    rfl
  show (match deep S dpt (.str x), deep S dpt (.lst (xs.map Dv.str)) with
    | some p, some (.list ps) => if noDict p && noDictA ps then Res.ok (Dv.bl (not (ps.any fun z => PyData.eqv z p))) S else .bad
    | some p, some (.tuple ps) => if noDict p && noDictA ps then Res.ok (Dv.bl (not (ps.any fun z => PyData.eqv z p))) S else .bad
    | _, _ => .bad) = _
  rw [e]
  show (if noDict (.str x) && noDictA (xs.map PyData.str) then Res.ok (Dv.bl (not ((xs.map PyData.str).any fun z => PyData.eqv z (.str x)))) S else .bad) = _
  rw [noDict_all (f := PyData.str) (fun _ _ => rfl), any_str]
  rfl
/-- the reprs of the folds -/
def rpF (u : List Wst) : List Str := (foldsL u).map fun p => (pP p).shown
structure OddV (u : List Wst) (v : Dv) : Prop where
  eq : ∀ S, mEqX v v S = .ok (.bl true) S
  rp : ∃ x : Str, (∀ S, mRepr [v] S = .ok (.str x) S) ∧ (x ∉ rpF u → ∀ S, m_is_fold [wD u, v] S = .ok (.bl false) S)
theorem odd_not {u : List Wst} {v : Dv} {p : PyData} (hn : NotF v) (he : ∀ S, mEqX v v S = .ok (.bl true) S) (hd : ∀ S, deep S dpt v = some p) (hs : Sh p 30000) : OddV u v :=
  ⟨he, p.shown, fun S => mRepr_ok (hd S) hs (Nat.le_refl _), fun _ S => hn _ S⟩
theorem odd_can {u : List Wst} (hg : GoodW u) (hl : u.length ≤ lim) {i j : Int} (h : canI u i j = false) (hs : Sh (.tuple [.int i, .int j]) 30000) : OddV u (.tup [.int i, .int j]) :=
  ⟨fun S => by
    show Res.ok (Dv.bl (id (PyData.eqv (.tuple [.int i, .int j]) (.tuple [.int i, .int j])))) S = _
    simp [PyData.eqv, PyData.eqvAll], _, fun S => mRepr_ok (p := .tuple [.int i, .int j]) rfl hs (Nat.le_refl _), fun _ S => by rw [isfold_int hg hl, h]⟩
theorem odd_nat {u : List Wst} (hg : GoodW u) (hl : u.length ≤ lim) {a b : Nat} (ha : a < 100) (hb : b < 100) : OddV u (.tup [.int (a : Int), .int (b : Int)]) :=
  ⟨fun S => by
    show Res.ok (Dv.bl (id (PyData.eqv (.tuple [.int a, .int b]) (.tuple [.int a, .int b])))) S = _
    simp [PyData.eqv, PyData.eqvAll], _, fun S => mRepr_ok (p := pP (a, b)) rfl (sh_p ha hb) (by omega), fun hx S => by
      rw [isfold_int hg hl, canI_nat]
      cases hc : canF u a b with
      | false => rfl
      | true => exact (hx (List.mem_map.mpr ⟨(a, b), (mem_folds u (a, b)).mpr hc, rfl⟩)).elim⟩
theorem canI_neg1 (u : List Wst) (i j : Int) (h : i < 0) : canI u i j = false := by
  unfold canI
  rw [if_pos (Or.inl h)]
theorem canI_neg2 (u : List Wst) (i j : Int) (h : j < 1) : canI u i j = false := by
  unfold canI
  rw [if_pos (Or.inr (Or.inl h))]
def oddL (n : Nat) : List Dv := [.non, .int 5, .str "ab", .tup [], .tup [.int 0], .tup [.int 0, .int 1, .int 0], .lst [.int 0, .int 1], .tup [.int 0, .bl true], .tup [.bl false, .int 1], .tup [.int 0, .int 0], .tup [.int 0, .int (-1)], .tup [.int (-1), .int 1], .tup [.int (n : Int), .int 1]]
def oddM : List Dv := [.tup [.lst [.int 0], .int 1], .tup [.int 0, .lst [.int 1]], .tup [.dct [], .int 1]]
theorem sh_dec {p : PyData} (s : p.showable = true) (l : p.leavesShort 400 = true) (b : p.bulk ≤ 30000) : Sh p 30000 := ⟨s, l, b⟩
theorem oddL_ok {u : List Wst} (hg : GoodW u) (hl : u.length < 100) : ∀ v ∈ oddL u.length, OddV u v := by
  have hl' : u.length ≤ lim := by rw [lim_eq]; omega
  have o1 : OddV u .non := odd_not (p := .none) nf_non (fun _ => rfl) (fun _ => rfl) (sh_dec rfl rfl (by decide))
  have o2 : OddV u (.int 5) := odd_not (p := .int 5) (nf_int 5) (fun _ => rfl) (fun _ => rfl) (sh_dec (by decide +kernel) (by decide +kernel) (by decide))
  have o3 : OddV u (.str "ab") := odd_not (p := .str "ab") (nf_str _) (fun _ => by
    show Res.ok (Dv.bl (id (PyData.eqv (.str "ab") (.str "ab")))) _ = _
    rw [eqv_str]; simp) (fun _ => rfl) (sh_dec rfl (by decide +kernel) (by decide +kernel))
  have o4 : OddV u (.tup []) := odd_not (p := .tuple []) (nf_len _ (by decide)) (fun _ => rfl) (fun _ => rfl) (sh_dec rfl rfl (by decide))
  have o5 : OddV u (.tup [.int 0]) := odd_not (p := .tuple [.int 0]) (nf_len _ (by decide)) (fun _ => rfl) (fun _ => rfl) (sh_dec (by decide +kernel) (by decide +kernel) (by decide))
  have o6 : OddV u (.tup [.int 0, .int 1, .int 0]) := odd_not (p := .tuple [.int 0, .int 1, .int 0]) (nf_len _ (by decide)) (fun _ => rfl) (fun _ => rfl) (sh_dec (by decide +kernel) (by decide +kernel) (by decide))
  have o7 : OddV u (.lst [.int 0, .int 1]) := odd_not (p := .list [.int 0, .int 1]) (nf_lst _) (fun _ => rfl) (fun _ => rfl) (sh_dec (by decide +kernel) (by decide +kernel) (by decide))
  have o8 : OddV u (.tup [.int 0, .bl true]) := odd_not (p := .tuple [.int 0, .bool true]) (nf_snd _ _ (isint_bl _)) (fun _ => rfl) (fun _ => rfl) (sh_dec (by decide +kernel) (by decide +kernel) (by decide))
  have o9 : OddV u (.tup [.bl false, .int 1]) := odd_not (p := .tuple [.bool false, .int 1]) (nf_fst _ _ (isint_bl _)) (fun _ => rfl) (fun _ => rfl) (sh_dec (by decide +kernel) (by decide +kernel) (by decide))
  have o10 : OddV u (.tup [.int 0, .int 0]) := odd_nat hg hl' (a := 0) (b := 0) (by omega) (by omega)
  have o11 : OddV u (.tup [.int 0, .int (-1)]) := odd_can hg hl' (canI_neg2 u _ _ (by decide)) (sh_dec (by decide +kernel) (by decide +kernel) (by decide))
  have o12 : OddV u (.tup [.int (-1), .int 1]) := odd_can hg hl' (canI_neg1 u _ _ (by decide)) (sh_dec (by decide +kernel) (by decide +kernel) (by decide))
  have o13 : OddV u (.tup [.int (u.length : Int), .int 1]) := odd_nat hg hl' (a := u.length) (b := 1) hl (by omega)
  intro v hv
  simp only [oddL, List.mem_cons, List.not_mem_nil, or_false] at hv
  rcases hv with rfl | rfl | rfl | rfl | rfl | rfl | rfl | rfl | rfl | rfl | rfl | rfl | rfl <;> assumption
theorem oddM_ok {u : List Wst} : ∀ v ∈ oddM, OddV u v := by
  have o1 : OddV u (.tup [.lst [.int 0], .int 1]) := odd_not (p := .tuple [.list [.int 0], .int 1]) (nf_fst _ _ (isint_lst _)) (fun _ => rfl) (fun _ => rfl) (sh_dec (by decide +kernel) (by decide +kernel) (by decide))
  have o2 : OddV u (.tup [.int 0, .lst [.int 1]]) := odd_not (p := .tuple [.int 0, .list [.int 1]]) (nf_snd _ _ (isint_lst _)) (fun _ => rfl) (fun _ => rfl) (sh_dec (by decide +kernel) (by decide +kernel) (by decide))
  have o3 : OddV u (.tup [.dct [], .int 1]) := odd_not (p := .tuple [.dict [], .int 1]) (nf_fst _ _ (isint_dct _)) (fun _ => rfl) (fun _ => rfl) (sh_dec (by decide +kernel) (by decide +kernel) (by decide))
  intro v hv
  simp only [oddM, List.mem_cons, List.not_mem_nil, or_false] at hv
  rcases hv with rfl | rfl | rfl <;> assumption
theorem Ex.fr {p : Nat} {S S' : Sto} (f : Ex S S') (h : Pt S p) : Fr p S S' := ⟨f.len, fun i hi _ => f.get i hi, by
  obtain ⟨a, b, e, h1, h2⟩ := h
  exact ⟨a, b, f.keep e, h1, h2⟩⟩
end Mi
end T_P35u
section T_P35v
set_option Elab.async false
set_option linter.all false
set_option maxRecDepth 100000
set_option maxHeartbeats 1000000
namespace Mi
open PySem L2
/-! ### _law_word_right -/
abbrev rE (p : Nat) (u : List Wst) (D : Nat) (x4 x5 x6 x7 x8 x9 x10 : Option Dv) : En := [some (.loc p), some (wD u), some (.loc D), some (.str (wP u).shown), x4, x5, x6, x7, x8, x9, x10]
abbrev fsO (u : List Wst) : Ob := .lst ((foldsL u).map pD)
abbrev fsR (u : List Wst) : Str := (PyData.list ((foldsL u).map pP)).shown
/-- one fold -/
theorem crease_ok {u : List Wst} (gu : GoodW u) (hu : u.length < 12) {p D : Nat} {q : Pr} (hq : q ∈ foldsL u) (x4 x6 x7 x8 x9 x10 : Option Dv) (S : Sto) :
    WpS (sSeq (sSet 6 (eN m_Lafter (aCons (eVar 1) (aCons (eVar 5) aNil)))) (sIf (bOr (bOf (e2 mNe (eN mLst (aCons (eN m_folded (aCons (eVar 1) (aCons (eVar 5) aNil))) (aCons (eK m_folded [1, 0] (aCons (eVar 5) (aCons (eVar 1) aNil))) aNil))) (e2 mMul (eN mLst (aCons (eVar 6) aNil)) (eC (.int 2))))) (bNot (bOf (eN m_folds_to (aCons (eVar 1) (aCons (eVar 6) aNil)))))) (sRet (eC (.bl false))) sNil) (rE p u D x4 (some (pD q)) x6 x7 x8 x9 x10) S)
      (fun δ S' => ∃ x6, δ = rE p u D x4 (some (pD q)) x6 x7 x8 x9 x10 ∧ Ex S S') (fun _ _ => False) := by
  have hc := (mem_folds u q).mp hq
  obtain ⟨a, b⟩ := q
  have ga : GoodW (aftF u a b) := goodW_sub (aftF_sub u a b) gu
  have la : (aftF u a b).length ≤ u.length := (aftF_sub u a b).length_le
  refine set_then (fun d S1 => d = wD (aftF u a b) ∧ S = S1) ?_ ?_
  · rw [wp_eN, wp_cons, wp_var rfl, wp_cons, wp_var rfl, wp_nil, Lafter_ok (by rw [lim_eq]; omega), wp_ok]
    exact ⟨rfl, rfl⟩
  rintro _ S1 ⟨rfl, e1⟩
  subst e1
  rw [wps_if, wp_bOr, wp_bOf, wp_e2, wp_eN, wp_cons, wp_eN, wp_cons, wp_var rfl, wp_cons, wp_var rfl, wp_nil, folded_ok gu (by rw [lim_eq]; omega) hc, wp_ok, wp_cons, wp_eK, wp_cons, wp_var rfl, wp_cons, wp_var rfl, wp_nil]
  rw [if_pos (by rfl)]
  show Wp (m_folded [wD u, pD (a, b)] S) _
  rw [folded_ok gu (by rw [lim_eq]; omega) hc, wp_ok, wp_nil, mLst_ok _ _ (by simp [lim_eq]), wp_ok, wp_e2, wp_eN, wp_cons, wp_var rfl, wp_nil, mLst_ok _ _ (by simp [lim_eq]), wp_ok, wp_c]
  show Wp (mNe (.lst [wD (aftF u a b), wD (aftF u a b)]) (.lst [wD (aftF u a b), wD (aftF u a b)]) S) _
  have e : mNe (.lst [wD (aftF u a b), wD (aftF u a b)]) (.lst [wD (aftF u a b), wD (aftF u a b)]) S = .ok (.bl false) S := by
    have ed : deep S dpt (.lst [wD (aftF u a b), wD (aftF u a b)]) = some (.list [wP (aftF u a b), wP (aftF u a b)]) := by
      show (optAll [deep S 11 (wD (aftF u a b)), deep S 11 (wD (aftF u a b))]).map PyData.list = _
      rw [deep_w _ S 8]
      rfl
    unfold mNe mEqv
    rw [ed]
    dsimp only
    have en : noDict (.list [wP (aftF u a b), wP (aftF u a b)]) = true := by
      show (noDict (wP (aftF u a b)) && (noDict (wP (aftF u a b)) && true)) = true
      rw [noDict_w]; rfl
    have ee : PyData.eqv (.list [wP (aftF u a b), wP (aftF u a b)]) (.list [wP (aftF u a b), wP (aftF u a b)]) = true := by
      show (PyData.eqv (wP (aftF u a b)) (wP (aftF u a b)) && (PyData.eqv (wP (aftF u a b)) (wP (aftF u a b)) && true)) = true
      rw [eqv_w]; simp
    rw [en, ee]
    rfl
  rw [e, wp_ok, isB_bl, if_neg Bool.false_ne_true, wp_bNot, wp_bOf, wp_eN, wp_cons, wp_var rfl, wp_cons, wp_var rfl, wp_nil]
  refine (foldsto_ok gu ga (by omega) (by omega) S).mono ?_
  rintro _ S2 ⟨f, bb, rfl, h⟩
  have hb : bb = true := h.mpr (.step (canF_F1 hc) (.refl _))
  subst hb
  rw [isB_bl, Bool.not_true, if_neg Bool.false_ne_true, wps_nil]
  exact ⟨_, rfl, f⟩
/-- what is drawn -/
theorem odd_draw {S : Sto} {p : Nat} (h : Pt S p) {u : List Wst} (hg : GoodW u) (hl : u.length < 100) {δ : En} (d0 : δ[0]? = some (some (.loc p))) (hd : δ.length = 11) :
    Wp (eLc (iRange1 (aCons (eC (.int 3)) aNil)) (gNm 9) bYes (eN mTup (aCons (eN m_Ldraw (aCons (eVar 0) (aCons (eC (.int 12)) aNil))) (aCons (e2 mAdd (eC (.int 1)) (eN m_Ldraw (aCons (eVar 0) (aCons (eC (.int 4)) aNil)))) aNil))) [9] δ S) fun d S' => ∃ ds, d = .lst ds ∧ ds.length ≤ 3 ∧ (∀ v ∈ ds, OddV u v) ∧ Fr p S S' := by
  rw [wp_lc, wp_range1, wp_cons, wp_c, wp_nil, show mRange1 [.int 3] S = _ from mRange1_nat (n := 3) (by rw [lim_eq]; omega), wp_ok]
  refine wp_lcIx (fun k acc S' => acc.length ≤ k ∧ (∀ v ∈ acc, OddV u v) ∧ Fr p S S') _ (by simp [lim_eq]) ⟨Nat.le_refl _, fun v hv => by simp at hv, Fr.refl h⟩ (fun ys S' ⟨h1, h2, h3⟩ => ⟨ys, rfl, by simpa using h1, h2, h3⟩) ?_
  rintro k hk acc S1 ⟨h1, h2, h3⟩
  have e0 : ∀ x, ((wipeD δ [9]).set 9 (some x))[0]? = some (some (.loc p)) := by
    intro x
    show (((δ.set 9 none)).set 9 (some x))[0]? = _
    rw [List.getElem?_set_ne (by omega), List.getElem?_set_ne (by omega)]
    exact d0
  simp only [gNm, onS_some]
  rw [show bYes ((wipeD δ [9]).set 9 (some ((List.range 3).map (fun i => Dv.int (i : Nat)))[k])) S1 = Res.ok true S1 from rfl, wp_ok, if_pos rfl, wp_eN, wp_cons, wp_eN, wp_cons, wp_var (e0 _), wp_cons, wp_c, wp_nil]
  refine (draw_ok (m := 12) h3.pt (by omega) (by omega)).mono ?_
  rintro _ S2 ⟨a, rfl, ha, f2⟩
  rw [wp_cons, wp_e2, wp_c, wp_eN, wp_cons, wp_var (e0 _), wp_cons, wp_c, wp_nil]
  refine (draw_ok (m := 4) f2.pt (by omega) (by omega)).mono ?_
  rintro _ S3 ⟨b, rfl, hb, f3⟩
  rw [mAdd_int, wp_ok, wp_nil, mTup_ok _ _ (by simp [lim_eq]), wp_ok]
  refine ⟨by simp; omega, fun v hv => ?_, (h3.trans f2).trans f3⟩
  rcases List.mem_append.mp hv with hv | hv
  · exact h2 v hv
  · rw [List.mem_singleton.mp hv]
    have := odd_nat hg (by rw [lim_eq]; omega) (a := a) (b := 1 + b) (by omega) (by omega)
    simpa using this
/-- those that are no folds -/
theorem odd_filter {S : Sto} {u : List Wst} (hl : u.length < 100) {D : Nat} {ds : List Dv} (hn : S[D]? = some (fsO u)) (hds : ∀ v ∈ ds, OddV u v) (hdl : ds.length < 100) {δ : En} (d2 : δ[2]? = some (some (.loc D))) (d7 : δ[7]? = some (some (.lst ds))) (hd : δ.length = 11) :
    Wp (eLcE (eVar 7) (gNm 10) (bOf (e2 mNotIn (eN mRepr (aCons (eVar 10) aNil)) (eLcE (eVar 2) (gNm 5) bYes (eN mRepr (aCons (eVar 5) aNil)) [5]))) (eVar 10) [10] δ S) fun d S' => S' = S ∧ ∃ vs, d = .lst vs ∧ vs.length < 100 ∧ ∀ v ∈ vs, OddV u v ∧ ∀ S, m_is_fold [wD u, v] S = .ok (.bl false) S := by
  have fl := foldsL_few u hl
  rw [wp_lcE, wp_var d7, lcE_lst]
  refine wp_lcIx (fun k acc S' => S' = S ∧ acc.length ≤ k ∧ ∀ v ∈ acc, OddV u v ∧ ∀ S, m_is_fold [wD u, v] S = .ok (.bl false) S) _ (by rw [lim_eq]; omega) ⟨rfl, Nat.le_refl _, fun v hv => by simp at hv⟩ (fun ys S' ⟨h1, h2, h3⟩ => ⟨h1, ys, rfl, by omega, h3⟩) ?_
  rintro k hk acc S1 ⟨rfl, h2, h3⟩
  generalize hv0 : ds[k] = v0
  have hv : v0 ∈ ds := by rw [← hv0]; exact List.getElem_mem hk
  have ov := hds v0 hv
  obtain ⟨x, hx, hf⟩ := ov.rp
  show Wp (bOf _ ((wipeD δ [10]).set 10 (some v0)) S1) _
  generalize hδ : (wipeD δ [10]).set 10 (some v0) = δ'
  have e10 : δ'[10]? = some (some v0) := by
    rw [← hδ]
    show ((δ.set 10 none).set 10 (some v0))[10]? = _
    rw [List.getElem?_set_self (by simp; omega)]
  have e2' : δ'[2]? = some (some (.loc D)) := by
    rw [← hδ]
    show ((δ.set 10 none).set 10 (some v0))[2]? = _
    rw [List.getElem?_set_ne (by omega), List.getElem?_set_ne (by omega)]
    exact d2
  have el : δ'.length = 11 := by
    rw [← hδ]
    show ((δ.set 10 none).set 10 (some v0)).length = _
    simpa using hd
  have inner : lcE (gNm 5) bYes (eN mRepr (aCons (eVar 5) aNil)) (wipeD δ' [5]) (.loc D) S1 = .ok (.lst ((foldsL u).map fun q => .str (pP q).shown)) S1 := by
    refine lcE_loc (f := fun q => .str (pP q).shown) pD (foldsL u) (by rw [lim_eq]; omega) hn fun q hq => ?_
    show S1 = S1 ∧ _
    refine ⟨rfl, ?_⟩
    apply Wp.eq
    rw [wp_eN, wp_cons, wp_var (d := pD q) (by
      show ((δ'.set 5 none).set 5 (some (pD q)))[5]? = _
      rw [List.getElem?_set_self (by simp; omega)]), wp_nil, mRepr_ok (deep_p q S1 10) (sh_p (fold_small hl hq).1 (fold_small hl hq).2) (by omega), wp_ok]
    exact ⟨rfl, rfl⟩
  rw [wp_bOf, wp_e2, wp_eN, wp_cons, wp_var e10, wp_nil, hx, wp_ok, wp_lcE, wp_var e2', inner, wp_ok]
  rw [show ((foldsL u).map fun q => Dv.str (pP q).shown) = (rpF u).map Dv.str by simp [rpF], mNotIn_lst, wp_ok, isB_bl]
  by_cases hin : x ∈ rpF u
  · rw [decide_eq_true hin, Bool.not_true, if_neg Bool.false_ne_true]
    exact ⟨rfl, by omega, h3⟩
  · rw [decide_eq_false hin, Bool.not_false, if_pos rfl, wp_var e10]
    refine ⟨rfl, by simp; omega, fun v hv => ?_⟩
    rcases List.mem_append.mp hv with hv | hv
    · exact h3 v hv
    · rw [List.mem_singleton.mp hv]
      exact ⟨ov, hf hin⟩
/-- the answer -/
theorem right_end {S : Sto} {u : List Wst} (gu : GoodW u) (hl : u.length < 100) {vs : List Dv} (hvl : vs.length < 100) (hvs : ∀ v ∈ vs, OddV u v ∧ ∀ S, m_is_fold [wD u, v] S = .ok (.bl false) S) {δ : En} (d1 : δ[1]? = some (some (wD u))) (d3 : δ[3]? = some (some (.str (wP u).shown))) (d8 : δ[8]? = some (some (.lst vs))) (hd : δ.length = 11) :
    Wp (eAnd (eN mAll (aCons (eLcE (eVar 8) (gNm 10) bYes (eN m_Lrefused (aCons (eVar 1) (aCons (eVar 10) aNil))) [10]) aNil)) (e2 mEq (eN mRepr (aCons (eVar 1) aNil)) (eVar 3)) δ S) fun d S' => d = .bl true ∧ S' = S := by
  have inner : lcEnd (gNm 10) bYes (eN m_Lrefused (aCons (eVar 1) (aCons (eVar 10) aNil))) (wipeD δ [10]) (vs.map id) S = .ok (.lst (vs.map fun _ => .bl true)) S := by
    refine lcEnd_map (f := fun _ => .bl true) id vs (by rw [lim_eq]; omega) fun v hv => ?_
    show S = S ∧ _
    refine ⟨rfl, ?_⟩
    apply Wp.eq
    rw [wp_eN, wp_cons, wp_var (d := wD u) (by
      show ((δ.set 10 none).set 10 (some v))[1]? = _
      rw [List.getElem?_set_ne (by omega), List.getElem?_set_ne (by omega)]
      exact d1), wp_cons, wp_var (d := v) (by
      show ((δ.set 10 none).set 10 (some v))[10]? = _
      rw [List.getElem?_set_self (by simp; omega)]), wp_nil, refused_ok gu (by rw [lim_eq]; omega) S ((hvs v hv).2 S) ((hvs v hv).1.eq S), wp_ok]
    exact ⟨rfl, rfl⟩
  rw [List.map_id] at inner
  rw [wp_eAnd, wp_eN, wp_cons, wp_lcE, wp_var d8, lcE_lst, inner, wp_ok, wp_nil, show mAll [.lst (vs.map fun _ => Dv.bl true)] S = _ from mAll_map (p := fun _ => true), wp_ok, isB_bl, if_pos (by simp), wp_e2, wp_eN, wp_cons, wp_var d1, wp_nil, repr_w gu hl, wp_ok, wp_var d3, mEq_str, wp_ok]
  exact ⟨by simp, rfl⟩
end Mi
end T_P35v
section T_P35w
set_option Elab.async false
set_option linter.all false
set_option maxRecDepth 100000
set_option maxHeartbeats 1000000
namespace Mi
open PySem L2
theorem mAdd_lst {xs ys : List Dv} (h : xs.length + ys.length ≤ lim) (S : Sto) : mAdd (.lst xs) (.lst ys) S = .ok (.lst (xs ++ ys)) S := by
  show (if xs.length + ys.length ≤ lim then Res.ok (Dv.lst (xs ++ ys)) S else .bad) = _
  rw [if_pos h]
/-- the store of word_right: the due folds at D -/
structure Wr (u : List Wst) (p : Nat) (S : Sto) (S' : Sto) : Prop where
  fr : Fr p S S'
  at_ : S'[S.length]? = some (fsO u)
theorem Wr.more {u : List Wst} {p : Nat} {S S1 S2 : Sto} (a : Wr u p S S1) (f : Fr p S1 S2) (hp : p < S.length) : Wr u p S S2 := ⟨a.fr.trans f, f.keep a.at_ (by omega)⟩
theorem odd1_ok {u : List Wst} {δ : En} (d1 : δ[1]? = some (some (wD u))) (S : Sto) :
    Wp ((eN mLst (aCons (eC .non) (aCons (eC (.int 5)) (aCons (eC (.str "ab")) (aCons (eN mTup aNil) (aCons (eN mTup (aCons (eC (.int 0)) aNil)) (aCons (eN mTup (aCons (eC (.int 0)) (aCons (eC (.int 1)) (aCons (eC (.int 0)) aNil)))) (aCons (eN mLst (aCons (eC (.int 0)) (aCons (eC (.int 1)) aNil))) (aCons (eN mTup (aCons (eC (.int 0)) (aCons (eC (.bl true)) aNil))) (aCons (eN mTup (aCons (eC (.bl false)) (aCons (eC (.int 1)) aNil))) (aCons (eN mTup (aCons (eC (.int 0)) (aCons (eC (.int 0)) aNil))) (aCons (eN mTup (aCons (eC (.int 0)) (aCons (e1 mNeg (eC (.int 1))) aNil))) (aCons (eN mTup (aCons (e1 mNeg (eC (.int 1))) (aCons (eC (.int 1)) aNil))) (aCons (eN mTup (aCons (eN mLen (aCons (eVar 1) aNil)) (aCons (eC (.int 1)) aNil))) aNil)))))))))))))) δ S) fun d S' => d = .lst (oddL u.length) ∧ S' = S := by
  have t0 : ∀ S, mTup [] S = .ok (.tup []) S := fun S => mTup_ok _ S (by simp [lim_eq])
  have t1 : ∀ a S, mTup [a] S = .ok (.tup [a]) S := fun a S => mTup_ok _ S (by simp [lim_eq])
  have t2 : ∀ a b S, mTup [a, b] S = .ok (.tup [a, b]) S := fun a b S => mTup_ok _ S (by simp [lim_eq])
  have t3 : ∀ a b c S, mTup [a, b, c] S = .ok (.tup [a, b, c]) S := fun a b c S => mTup_ok _ S (by simp [lim_eq])
  have l2 : ∀ a b S, mLst [a, b] S = .ok (.lst [a, b]) S := fun a b S => mLst_ok _ S (by simp [lim_eq])
  have n1 : ∀ S, mNeg (.int 1) S = .ok (.int (-1)) S := fun S => rfl
  have v1 : ∀ (S : Sto) (P : Dv → Sto → Prop), Wp (eVar 1 δ S) P = P (wD u) S := fun S P => wp_var d1
  simp only [wp_eN, wp_cons, wp_nil, wp_c, wp_e1, t0, t1, t2, t3, l2, n1, wp_ok, v1, mLen_w]
  rw [mLst_ok _ _ (by simp [lim_eq]), wp_ok]
  exact ⟨rfl, rfl⟩
theorem odd2_ok {u : List Wst} (gu : GoodW u) (hl : u.length < 100) {p : Nat} {δ : En} {S : Sto} (h : Pt S p) (d0 : δ[0]? = some (some (.loc p))) (d7 : δ[7]? = some (some (.lst (oddL u.length)))) (hd : δ.length = 11) :
    Wp ((e2 mAdd (e2 mAdd (eVar 7) (eN mLst (aCons (eN mTup (aCons (eN mLst (aCons (eC (.int 0)) aNil)) (aCons (eC (.int 1)) aNil))) (aCons (eN mTup (aCons (eC (.int 0)) (aCons (eN mLst (aCons (eC (.int 1)) aNil)) aNil))) (aCons (eN mTup (aCons mDct0 (aCons (eC (.int 1)) aNil))) aNil))))) (eLc (iRange1 (aCons (eC (.int 3)) aNil)) (gNm 9) bYes (eN mTup (aCons (eN m_Ldraw (aCons (eVar 0) (aCons (eC (.int 12)) aNil))) (aCons (e2 mAdd (eC (.int 1)) (eN m_Ldraw (aCons (eVar 0) (aCons (eC (.int 4)) aNil)))) aNil))) [9])) δ S) fun d S' => (∃ ds, d = .lst ds ∧ ds.length < 100 ∧ ∀ v ∈ ds, OddV u v) ∧ Fr p S S' := by
  have t2 : ∀ a b S, mTup [a, b] S = .ok (.tup [a, b]) S := fun a b S => mTup_ok _ S (by simp [lim_eq])
  have l1 : ∀ a S, mLst [a] S = .ok (.lst [a]) S := fun a S => mLst_ok _ S (by simp [lim_eq])
  have l3 : ∀ a b c S, mLst [a, b, c] S = .ok (.lst [a, b, c]) S := fun a b c S => mLst_ok _ S (by simp [lim_eq])
  have hm : Wp ((eN mLst (aCons (eN mTup (aCons (eN mLst (aCons (eC (.int 0)) aNil)) (aCons (eC (.int 1)) aNil))) (aCons (eN mTup (aCons (eC (.int 0)) (aCons (eN mLst (aCons (eC (.int 1)) aNil)) aNil))) (aCons (eN mTup (aCons mDct0 (aCons (eC (.int 1)) aNil))) aNil)))) δ S) fun d S' => d = .lst oddM ∧ S' = S := by
    unfold mDct0
    simp only [wp_eN, wp_cons, wp_nil, wp_c, t2, l1, l3, wp_ok]
    exact ⟨rfl, trivial⟩
  rw [wp_e2, wp_e2, wp_var d7]
  refine hm.mono ?_
  rintro _ S1 ⟨rfl, e1⟩
  subst e1
  rw [mAdd_lst (by simp [oddL, oddM, lim_eq]), wp_ok]
  refine (odd_draw h gu hl d0 hd).mono ?_
  rintro _ S2 ⟨ds, rfl, h1, h2, f⟩
  rw [mAdd_lst (by simp [oddL, oddM, lim_eq]; omega), wp_ok]
  refine ⟨⟨_, rfl, by simp [oddL, oddM]; omega, fun v hv => ?_⟩, f⟩
  rcases List.mem_append.mp hv with hv | hv
  · rcases List.mem_append.mp hv with hv | hv
    · exact oddL_ok gu hl v hv
    · exact oddM_ok v hv
  · exact h2 v hv
theorem fsof_ok {u : List Wst} (gu : GoodW u) (hl : u.length < 100) {δ : En} (d1 : δ[1]? = some (some (wD u))) {S : Sto} :
    Wp (eN mRepr (aCons (eN m_folds_of (aCons (eVar 1) aNil)) aNil) δ S) fun d S' => d = .str (fsR u) ∧ S' = S ++ [fsO u] := by
  rw [wp_eN, wp_cons, wp_eN, wp_cons, wp_var d1, wp_nil, foldsof_ok gu hl, wp_ok, wp_nil, repr_fs hl (by simp), wp_ok]
  exact ⟨rfl, rfl⟩
theorem fsofK_ok {u : List Wst} (gu : GoodW u) (hl : u.length < 100) {δ : En} (d1 : δ[1]? = some (some (wD u))) {S : Sto} :
    Wp (eN mRepr (aCons (eK m_folds_of [0] (aCons (eVar 1) aNil)) aNil) δ S) fun d S' => d = .str (fsR u) ∧ S' = S ++ [fsO u] := by
  rw [wp_eN, wp_cons, wp_eK, wp_cons, wp_var d1, wp_nil, if_pos (by rfl)]
  show Wp (m_folds_of [wD u] S) _
  rw [foldsof_ok gu hl, wp_ok, wp_nil, repr_fs hl (by simp), wp_ok]
  exact ⟨rfl, rfl⟩
theorem fsAt_ok {u : List Wst} (hl : u.length < 100) {δ : En} {i D : Nat} (d : δ[i]? = some (some (.loc D))) {S : Sto} (h : S[D]? = some (fsO u)) :
    Wp (eN mRepr (aCons (eVar i) aNil) δ S) fun d S' => d = .str (fsR u) ∧ S' = S := by
  rw [wp_eN, wp_cons, wp_var d, wp_nil, repr_fs hl h, wp_ok]
  exact ⟨rfl, rfl⟩
theorem wright_ok {S : Sto} {p : Nat} (h : Pt S p) {u : List Wst} (gu : GoodW u) (hu : u.length < 12) : Wp (m_Lword_right [.loc p, wD u] S) fun d S' => d = .bl true ∧ Fr p S S' := by
  refine fn_wp rfl ?_
  unfold b_Lword_right
  have hl : u.length < 100 := by omega
  have fl := foldsL_few u hl
  have hpl := h.lt
  -- the due folds
  refine seq_then (fun δ S' => δ = rE p u S.length none none none none none none none ∧ Wr u p S S') ?_ ?_
  · rw [wps_asg, wp_eN, wp_cons, wp_eN, wp_cons, wp_var rfl, wp_nil, Lfolds_ok gu hl, wp_ok, wp_cons, wp_eN, wp_cons, wp_var rfl, wp_nil, repr_w gu hl, wp_ok, wp_nil, mTup_ok _ _ (by simp [lim_eq]), wp_ok]
    exact ⟨rfl, (Fr.refl h).new, by simp⟩
  rintro _ S1 ⟨rfl, w1⟩
  -- folds_of
  refine set_then (fun d S' => d = .loc S1.length ∧ S' = S1 ++ [fsO u]) ?_ ?_
  · rw [wp_eN, wp_cons, wp_var rfl, wp_nil, foldsof_ok gu hl, wp_ok]
    exact ⟨rfl, rfl⟩
  rintro _ S2 ⟨rfl, e2⟩
  have hD1 : S.length < S1.length := (List.getElem?_eq_some_iff.mp w1.at_).1
  have w2 : Wr u p S S2 := by rw [e2]; exact w1.more (Fr.refl w1.fr.pt).new hpl
  have k2 : S2[S1.length]? = some (fsO u) := by rw [e2]; simp
  -- the first question
  refine seq_then (fun δ S' => δ = rE p u S.length (some (.loc S1.length)) none none none none none none ∧ Wr u p S S' ∧ S'[S1.length]? = some (fsO u)) ?_ ?_
  · rw [wps_if, wp_bOr, wp_bOf, wp_e2]
    refine (fsAt_ok hl (i := 4) (D := S1.length) rfl k2).mono ?_
    rintro _ S3 ⟨rfl, e3⟩
    subst e3
    refine (fsAt_ok hl (i := 2) (D := S.length) rfl w2.at_).mono ?_
    rintro _ S3 ⟨rfl, e3⟩
    subst e3
    rw [mNe_str, wp_ok, isB_bl, if_neg (by simp), wp_bOf, wp_e2]
    refine (fsofK_ok gu hl rfl).mono ?_
    rintro _ S4 ⟨rfl, e4⟩
    have w4 : Wr u p S S4 := by rw [e4]; exact w2.more (Fr.refl w2.fr.pt).new hpl
    refine (fsAt_ok hl (i := 2) (D := S.length) rfl w4.at_).mono ?_
    rintro _ S5 ⟨rfl, e5⟩
    subst e5
    rw [mNe_str, wp_ok, isB_bl, if_neg (by simp), wps_nil]
    exact ⟨rfl, w4, by rw [e4]; exact Ex.new.keep k2⟩
  rintro _ S3 ⟨rfl, w3, k3⟩
  -- the told list is changed
  refine expr_then (fun S' => Wr u p S S') ?_ ?_
  · rw [wp_mth, wp_var rfl]
    refine ⟨kind_loc k3, ?_⟩
    rw [wp_cons, wp_eN, wp_cons, wp_c, wp_cons, wp_c, wp_nil, mTup_ok _ _ (by simp [lim_eq]), wp_ok, wp_nil, mAppend_ok k3 (by rw [List.length_map, lim_eq]; omega), wp_ok]
    refine ⟨w3.fr.put (by omega) (by omega), ?_⟩
    rw [List.getElem?_set_ne (by omega)]
    exact w3.at_
  rintro S4 w4
  -- the second question
  refine seq_then (fun δ S' => δ = rE p u S.length (some (.loc S1.length)) none none none none none none ∧ Wr u p S S') ?_ ?_
  · rw [wps_if, wp_bOf, wp_e2]
    refine (fsof_ok gu hl rfl).mono ?_
    rintro _ S5 ⟨rfl, e5⟩
    have w5 : Wr u p S S5 := by rw [e5]; exact w4.more (Fr.refl w4.fr.pt).new hpl
    refine (fsAt_ok hl (i := 2) (D := S.length) rfl w5.at_).mono ?_
    rintro _ S6 ⟨rfl, e6⟩
    subst e6
    rw [mNe_str, wp_ok, isB_bl, if_neg (by simp), wps_nil]
    exact ⟨rfl, w5⟩
  rintro _ S5 ⟨rfl, w5⟩
  -- each fold
  refine seq_then (fun δ S' => ∃ x5 x6, δ = rE p u S.length (some (.loc S1.length)) x5 x6 none none none none ∧ Wr u p S S') ?_ ?_
  · rw [wps_forE, wp_var rfl]
    refine wps_forLIx (fun k δ S' => ∃ x5 x6, δ = rE p u S.length (some (.loc S1.length)) x5 x6 none none none none ∧ Wr u p S S') ((foldsL u).map pD) (by rw [List.length_map, lim_eq]; omega) ?_ ⟨none, none, rfl, w5⟩ (fun δ S' z => z) ?_
    · rintro k δ S' ⟨_, _, _, w⟩
      exact w.at_
    · rintro k hk δ S' ⟨x5, x6, rfl, w⟩
      have hk' : k < (foldsL u).length := by simpa using hk
      rw [List.getElem_map]
      show WpS _ _ _
      refine (crease_ok gu hu (p := p) (D := S.length) (List.getElem_mem hk') (some (.loc S1.length)) x6 none none none none S').mono ?_ (fun _ _ z => z.elim)
      rintro δ S6 ⟨y6, rfl, f⟩
      exact ⟨_, _, rfl, w.more (f.fr w.fr.pt) hpl⟩
  rintro _ S6 ⟨x5, x6, rfl, w6⟩
  -- odd values
  refine set_then _ (odd1_ok rfl S6) ?_
  rintro _ S7 ⟨rfl, e7⟩
  subst e7
  refine set_then _ (odd2_ok gu hl w6.fr.pt rfl rfl rfl) ?_
  rintro _ S8 ⟨⟨ds, rfl, hdl, hds⟩, f8⟩
  have w8 := w6.more f8 hpl
  refine set_then _ (odd_filter hl w8.at_ hds hdl rfl rfl rfl) ?_
  rintro _ S9 ⟨e9, vs, rfl, hvl, hvs⟩
  subst e9
  rw [wps_ret]
  refine (right_end gu hl hvl hvs rfl rfl rfl rfl).mono ?_
  rintro _ S10 ⟨rfl, e10⟩
  subst e10
  exact ⟨rfl, w8.fr⟩
end Mi
end T_P35w
section T_P35x
set_option Elab.async false
set_option linter.all false
set_option maxRecDepth 100000
set_option maxHeartbeats 1000000
namespace Mi
open PySem L2
/-! ### _law_right, law -/
abbrev tgE (p n : Nat) (W : List (List Wst)) (x3 x4 x5 x6 x7 x8 x9 : Option Dv) : En := [some (.loc p), some (.loc n), some (.lst (W.map wD)), x3, x4, x5, x6, x7, x8, x9]
def GoodA (W : List (List Wst)) : Prop := ∀ w ∈ W, GoodW w ∧ w.length < 12
theorem words_ok {S : Sto} {p n : Nat} {ls : List Str} (l : Lb S p n ls) {δ : En} (d0 : δ[0]? = some (some (.loc p))) (d1 : δ[1]? = some (some (.loc n))) :
    Wp (e2 mAdd (eN mLst (aCons (eN mTup aNil) aNil)) (eLc (iRange1 (aCons (eC (.int 7)) aNil)) (gNm 8) bYes (eN m_Lword (aCons (eVar 0) (aCons (eVar 1) aNil))) [8]) δ S) fun d S' => ∃ W, d = .lst (W.map wD) ∧ GoodA W ∧ W.length = 8 ∧ Fr p S S' := by
  rw [wp_e2, wp_eN, wp_cons, wp_eN, wp_nil, mTup_ok _ _ (by simp [lim_eq]), wp_ok, wp_nil, mLst_ok _ _ (by simp [lim_eq]), wp_ok, wp_lc, wp_range1, wp_cons, wp_c, wp_nil, show mRange1 [.int 7] S = _ from mRange1_nat (n := 7) (by rw [lim_eq]; omega), wp_ok]
  refine wp_lcIx (fun k acc S' => ∃ W, acc = W.map wD ∧ W.length = k ∧ GoodA W ∧ Fr p S S') _ (by simp [lim_eq]) ⟨[], rfl, rfl, fun w hw => by simp at hw, Fr.refl l.pt⟩ ?_ ?_
  · rintro ys S' ⟨W, rfl, hW, hg, f⟩
    have hW : W.length = 7 := by simpa using hW
    rw [mAdd_lst (by simp [lim_eq]; omega), wp_ok]
    refine ⟨[] :: W, rfl, fun w hw => ?_, by simp [hW], f⟩
    rcases List.mem_cons.mp hw with rfl | hw
    · exact ⟨fun s hs => by simp at hs, by simp⟩
    · exact hg w hw
  · rintro k hk acc S' ⟨W, rfl, hW, hg, f⟩
    generalize (List.map (fun i : Nat => Dv.int (i : Int)) (List.range 7))[k] = dd
    simp only [gNm, onS_some, bYes, wp_pure, if_true]
    rw [wp_eN, wp_cons, wp_var (d := .loc p) (by
      show ((δ.set 8 none).set 8 (some dd))[0]? = _
      rw [List.getElem?_set_ne (by omega), List.getElem?_set_ne (by omega)]
      exact d0), wp_cons, wp_var (d := .loc n) (by
      show ((δ.set 8 none).set 8 (some dd))[1]? = _
      rw [List.getElem?_set_ne (by omega), List.getElem?_set_ne (by omega)]
      exact d1), wp_nil]
    refine (word_ok (l.keep f)).mono ?_
    rintro _ S2 ⟨w, rfl, gw, hw, f2⟩
    refine ⟨W ++ [w], by simp, by simp [hW], fun v hv => ?_, f.trans f2⟩
    rcases List.mem_append.mp hv with hv | hv
    · exact hg v hv
    · rw [List.mem_singleton.mp hv]
      exact ⟨gw, hw⟩
theorem mSl_ws {S : Sto} {A : Nat} {Q : List (List Wst)} (h : S[A]? = some (.lst (Q.map wD))) (k : Nat) : mSl none (some (k : Int)) (.loc A) S = .ok (.lst ((Q.take k).map wD)) S := by
  show (match (match S[A]? with | some (.lst ds) => some ds | _ => none) with
    | some xs => Res.ok (Dv.lst (cutD xs none (some (k : Int)))) S
    | none => .bad) = _
  rw [h]
  show Res.ok (Dv.lst (cutD (Q.map wD) none (some (k : Int)))) S = _
  rw [cutD_map, cut_to]
theorem others_ok {S : Sto} {p n A : Nat} {ls : List Str} (l : Lb S p n ls) {Q : List (List Wst)} (hA : S[A]? = some (.lst (Q.map wD))) (hQ : GoodA Q) {δ : En} (d0 : δ[0]? = some (some (.loc p))) (d1 : δ[1]? = some (some (.loc n))) (d4 : δ[4]? = some (some (.loc A))) (hd : δ.length = 10) :
    Wp (e2 mAdd (eLcE (eSl (eVar 4) oNone (oSome (eC (.int 6)))) (gNm 9) bYes (eN m_Lchanged (aCons (eVar 0) (aCons (eVar 9) aNil))) [9]) (eLc (iRange1 (aCons (eC (.int 4)) aNil)) (gNm 8) bYes (eN m_Ldrawn (aCons (eVar 0) (aCons (eVar 1) (aCons (eC (.int 4)) aNil)))) [8]) δ S) fun d S' => ∃ W, d = .lst (W.map wD) ∧ GoodA W ∧ W.length ≤ 10 ∧ Fr p S S' := by
  rw [wp_e2, wp_lcE, wp_sl, wp_var d4, wp_oNone, wp_oSome, wp_c, isI_int, show mSl none (some 6) (.loc A) S = _ from mSl_ws hA 6, wp_ok, lcE_lst]
  have hq6 : (Q.take 6).length ≤ 6 := List.length_take_le _ _
  refine wp_lcIx (fun k acc S' => ∃ W, acc = W.map wD ∧ W.length = k ∧ GoodA W ∧ Fr p S S') _ (by rw [List.length_map, lim_eq]; omega) ⟨[], rfl, rfl, fun w hw => by simp at hw, Fr.refl l.pt⟩ ?_ ?_
  · rintro ys S1 ⟨W, rfl, hW, hg, f⟩
    have hW : W.length ≤ 6 := by rw [hW, List.length_map]; exact hq6
    rw [wp_lc, wp_range1, wp_cons, wp_c, wp_nil, show mRange1 [.int 4] S1 = _ from mRange1_nat (n := 4) (by rw [lim_eq]; omega), wp_ok]
    refine wp_lcIx (fun k acc S' => ∃ V, acc = V.map wD ∧ V.length = k ∧ GoodA V ∧ Fr p S S') _ (by simp [lim_eq]) ⟨[], rfl, rfl, fun w hw => by simp at hw, f⟩ ?_ ?_
    · rintro zs S2 ⟨V, rfl, hV, hgV, f2⟩
      have hV : V.length = 4 := by simpa using hV
      rw [mAdd_lst (by simp [lim_eq]; omega), wp_ok]
      refine ⟨W ++ V, by simp, fun w hw => ?_, by simp; omega, f2⟩
      rcases List.mem_append.mp hw with hw | hw
      · exact hg w hw
      · exact hgV w hw
    · rintro k hk acc S' ⟨V, rfl, hV, hgV, f⟩
      generalize (List.map (fun i : Nat => Dv.int (i : Int)) (List.range 4))[k] = dd
      simp only [gNm, onS_some, bYes, wp_pure, if_true]
      rw [wp_eN, wp_cons, wp_var (d := .loc p) (by
        show ((δ.set 8 none).set 8 (some dd))[0]? = _
        rw [List.getElem?_set_ne (by omega), List.getElem?_set_ne (by omega)]
        exact d0), wp_cons, wp_var (d := .loc n) (by
        show ((δ.set 8 none).set 8 (some dd))[1]? = _
        rw [List.getElem?_set_ne (by omega), List.getElem?_set_ne (by omega)]
        exact d1), wp_cons, wp_c, wp_nil]
      refine (drawn_ok (m := 4) (l.keep f) (by omega)).mono ?_
      rintro _ S2 ⟨w, rfl, gw, hw, f2⟩
      refine ⟨V ++ [w], by simp, by simp [hV], fun v hv => ?_, f.trans f2⟩
      rcases List.mem_append.mp hv with hv | hv
      · exact hgV v hv
      · rw [List.mem_singleton.mp hv]
        exact ⟨gw, by omega⟩
  · rintro k hk acc S' ⟨W, rfl, hW, hg, f⟩
    have hk' : k < (Q.take 6).length := by simpa using hk
    rw [List.getElem_map]
    have hv : (Q.take 6)[k] ∈ Q := List.mem_of_mem_take (List.getElem_mem hk')
    generalize (Q.take 6)[k] = v at hv
    simp only [gNm, onS_some, bYes, wp_pure, if_true]
    rw [wp_eN, wp_cons, wp_var (d := .loc p) (by
      show ((δ.set 9 none).set 9 (some (wD v)))[0]? = _
      rw [List.getElem?_set_ne (by omega), List.getElem?_set_ne (by omega)]
      exact d0), wp_cons, wp_var (d := wD v) (by
      show ((δ.set 9 none).set 9 (some (wD v)))[9]? = _
      rw [List.getElem?_set_self (by simp; omega)]), wp_nil]
    have gv := hQ v hv
    refine (changed_ok f.pt gv.1 (by omega)).mono ?_
    rintro _ S2 ⟨w, rfl, gw, hw, f2⟩
    refine ⟨W ++ [w], by simp, by simp [hW], fun x hx => ?_, f.trans f2⟩
    rcases List.mem_append.mp hx with hx | hx
    · exact hg x hx
    · rw [List.mem_singleton.mp hx]
      exact ⟨gw, by omega⟩
theorem repr_bb (b : Bool) (S : Sto) : mRepr [.lst [.bl b, .bl b]] S = .ok (.str (PyData.list [.bool b, .bool b]).shown) S :=
  mRepr_ok (p := .list [.bool b, .bool b]) rfl (show Sh (.list [.bool b, .bool b]) 30000 by cases b <;> exact ⟨by decide +kernel, by decide +kernel, by decide +kernel⟩) (Nat.le_refl _)
/-- one other word -/
theorem other_ok {S : Sto} {p n A : Nat} {W : List (List Wst)} {u v : List Wst} {Q : List (List Wst)} (gu : GoodW u) (hu : u.length < 12) (gv : GoodW v) (hv : v.length < 12) (hA : S[A]? = some (.lst (Q.map wD))) (hQ : ∀ v, v ∈ Q ↔ Fs u v) (x5 x7 x8 x9 : Option Dv) :
    WpS (sSeq (sSet 7 (eN mLst (aCons (eN m_folds_to (aCons (eVar 3) (aCons (eVar 6) aNil))) (aCons (eK m_folds_to [1, 0] (aCons (eVar 6) (aCons (eVar 3) aNil))) aNil)))) (sIf (bOf (e2 mNe (eN mRepr (aCons (eVar 7) aNil)) (eN mRepr (aCons (e2 mMul (eN mLst (aCons (e2 mIn (eVar 6) (eVar 4)) aNil)) (eC (.int 2))) aNil)))) (sRet (eC (.bl false))) sNil) (tgE p n W (some (wD u)) (some (.loc A)) x5 (some (wD v)) x7 x8 x9) S)
      (fun δ S' => ∃ x7, δ = tgE p n W (some (wD u)) (some (.loc A)) x5 (some (wD v)) x7 x8 x9 ∧ Ex S S') (fun _ _ => False) := by
  refine set_then (fun d S' => d = .lst [.bl (decide (v ∈ Q)), .bl (decide (v ∈ Q))] ∧ Ex S S') ?_ ?_
  · rw [wp_eN, wp_cons, wp_eN, wp_cons, wp_var rfl, wp_cons, wp_var rfl, wp_nil]
    refine (foldsto_ok gu gv (by omega) (by omega) S).mono ?_
    rintro _ S1 ⟨f1, b1, rfl, h1⟩
    rw [wp_cons, wp_eK, wp_cons, wp_var rfl, wp_cons, wp_var rfl, wp_nil, if_pos (by rfl)]
    show Wp (m_folds_to [wD u, wD v] S1) _
    refine (foldsto_ok gu gv (by omega) (by omega) S1).mono ?_
    rintro _ S2 ⟨f2, b2, rfl, h2⟩
    rw [wp_nil, mLst_ok _ _ (by simp [lim_eq]), wp_ok]
    have e1 : b1 = decide (v ∈ Q) := by rw [Bool.eq_iff_iff, decide_eq_true_iff, hQ v]; exact h1
    have e2 : b2 = decide (v ∈ Q) := by rw [Bool.eq_iff_iff, decide_eq_true_iff, hQ v]; exact h2
    rw [e1, e2]
    exact ⟨rfl, f1.trans f2⟩
  rintro _ S1 ⟨rfl, f1⟩
  have hA1 := f1.keep hA
  rw [wps_if, wp_bOf, wp_e2, wp_eN, wp_cons, wp_var rfl, wp_nil, repr_bb, wp_ok, wp_eN, wp_cons, wp_e2, wp_eN, wp_cons, wp_e2, wp_var rfl, wp_var rfl]
  rw [show mIn (wD v) (.loc A) S1 = _ from mInB_ws hA1 id _, wp_ok, wp_nil, mLst_ok _ _ (by simp [lim_eq]), wp_ok, wp_c]
  show Wp (Res.ok (Dv.lst [.bl (decide (v ∈ Q)), .bl (decide (v ∈ Q))]) S1) _
  rw [wp_ok, wp_nil, repr_bb, wp_ok, mNe_str, wp_ok, isB_bl, if_neg (by simp), wps_nil]
  exact ⟨_, rfl, f1⟩
theorem forE_lst {g : TGm} {b : SM} {ds : List Dv} {δ : En} {S : Sto} : forE g b (.lst ds) δ S = forGo g b ds δ S := rfl
/-- one word -/
theorem spelt1_ok {S : Sto} {p n : Nat} {ls : List Str} (l : Lb S p n ls) {W : List (List Wst)} (gW : GoodA W) (hW : W.length = 8) {u : List Wst} (gu : GoodW u) (hu : u.length < 12) (x4 x5 x6 x7 x8 x9 : Option Dv) :
    WpS ((sSeq (sIf (bNot (bOf (eN m_Lword_right (aCons (eVar 0) (aCons (eVar 3) aNil))))) (sRet (eC (.bl false))) sNil) (sSeq (sSet 4 (eN m_Lall (aCons (eVar 3) aNil))) (sSeq (sSet 5 (e2 mAdd (eLcE (eSl (eVar 4) oNone (oSome (eC (.int 6)))) (gNm 9) bYes (eN m_Lchanged (aCons (eVar 0) (aCons (eVar 9) aNil))) [9]) (eLc (iRange1 (aCons (eC (.int 4)) aNil)) (gNm 8) bYes (eN m_Ldrawn (aCons (eVar 0) (aCons (eVar 1) (aCons (eC (.int 4)) aNil)))) [8]))) (sForE (e2 mAdd (e2 mAdd (eSl (eVar 4) oNone (oSome (eC (.int 40)))) (eVar 2)) (eVar 5)) (gNm 6) (sSeq (sSet 7 (eN mLst (aCons (eN m_folds_to (aCons (eVar 3) (aCons (eVar 6) aNil))) (aCons (eK m_folds_to [1, 0] (aCons (eVar 6) (aCons (eVar 3) aNil))) aNil)))) (sIf (bOf (e2 mNe (eN mRepr (aCons (eVar 7) aNil)) (eN mRepr (aCons (e2 mMul (eN mLst (aCons (e2 mIn (eVar 6) (eVar 4)) aNil)) (eC (.int 2))) aNil)))) (sRet (eC (.bl false))) sNil)))))) (tgE p n W (some (wD u)) x4 x5 x6 x7 x8 x9) S)
      (fun δ S' => ∃ x3 x4 x5 x6 x7 x8 x9, δ = tgE p n W x3 x4 x5 x6 x7 x8 x9 ∧ Fr p S S') (fun _ _ => False) := by
  have hpl := l.pt.lt
  refine seq_then (fun δ S' => δ = tgE p n W (some (wD u)) x4 x5 x6 x7 x8 x9 ∧ Fr p S S') ?_ ?_
  · rw [wps_if, wp_bNot, wp_bOf, wp_eN, wp_cons, wp_var rfl, wp_cons, wp_var rfl, wp_nil]
    refine (wright_ok l.pt gu hu).mono ?_
    rintro _ S1 ⟨rfl, f⟩
    rw [isB_bl, Bool.not_true, if_neg Bool.false_ne_true, wps_nil]
    exact ⟨rfl, f⟩
  rintro _ S1 ⟨rfl, f1⟩
  refine set_then (fun d S' => ∃ Q : List (List Wst), d = .loc S1.length ∧ Ex S1 S' ∧ S'[S1.length]? = some (.lst (Q.map wD)) ∧ ∀ v, v ∈ Q ↔ Fs u v) ?_ ?_
  · rw [wp_eN, wp_cons, wp_var rfl, wp_nil]
    refine (Lall_ok gu hu S1).mono ?_
    rintro _ S2 ⟨f2, Q, rfl, h1, _, _, h2⟩
    exact ⟨Q, rfl, f2, h1, h2⟩
  rintro _ S2 ⟨Q, rfl, f2, hA, hQ⟩
  have gQ : GoodA Q := fun w hw => by
    have := ((hQ w).mp hw).sub
    exact ⟨goodW_sub this gu, Nat.lt_of_le_of_lt this.length_le hu⟩
  have fr2 : Fr p S S2 := f1.trans (f2.fr f1.pt)
  have hne : S1.length ≠ p := by have := f1.len; omega
  refine set_then _ (others_ok (l.keep fr2) hA gQ rfl rfl rfl rfl) ?_
  rintro _ S3 ⟨V, rfl, gV, hV, f3⟩
  have hA3 := f3.keep hA hne
  rw [wps_forE, wp_e2, wp_e2, wp_sl, wp_var rfl, wp_oNone, wp_oSome, wp_c, isI_int, show mSl none (some 40) (.loc S1.length) S3 = _ from mSl_ws hA3 40, wp_ok, wp_var rfl]
  have hq40 : (Q.take 40).length ≤ 40 := List.length_take_le _ _
  rw [mAdd_lst (by simp only [List.length_map, lim_eq]; omega), wp_ok, wp_var rfl, mAdd_lst (by simp only [List.length_append, List.length_map, lim_eq]; omega), wp_ok, forE_lst]
  rw [← List.map_append, ← List.map_append]
  have gAll : GoodA (Q.take 40 ++ W ++ V) := fun w hw => by
    rcases List.mem_append.mp hw with hw | hw
    · rcases List.mem_append.mp hw with hw | hw
      · exact gQ w (List.mem_of_mem_take hw)
      · exact gW w hw
    · exact gV w hw
  generalize hX : Q.take 40 ++ W ++ V = X at gAll
  refine wps_forIx (fun k δ S' => ∃ x6 x7, δ = tgE p n W (some (wD u)) (some (.loc S1.length)) (some (.lst (V.map wD))) x6 x7 x8 x9 ∧ Fr p S S' ∧ S'[S1.length]? = some (.lst (Q.map wD))) _ ⟨_, _, rfl, fr2.trans f3, hA3⟩ ?_ ?_
  · rintro δ S' ⟨y6, y7, rfl, f, _⟩
    exact ⟨_, _, _, _, _, _, _, rfl, f⟩
  · rintro k hk δ S' ⟨y6, y7, rfl, f, hA'⟩
    have hk' : k < X.length := by simpa using hk
    rw [List.getElem_map]
    have gv := gAll X[k] (List.getElem_mem hk')
    show WpS _ _ _
    refine (other_ok gu hu gv.1 gv.2 hA' hQ (some (.lst (V.map wD))) y7 x8 x9).mono ?_ (fun _ _ z => z.elim)
    rintro δ S4 ⟨z7, rfl, f4⟩
    exact ⟨_, _, rfl, f.trans (f4.fr f.pt), f4.keep hA'⟩
theorem right_ok {S : Sto} {p n : Nat} {ls : List Str} (l : Lb S p n ls) : Wp (m_Lright [.loc p, .loc n] S) fun d _ => d = .bl true := by
  refine fn_wp rfl ?_
  unfold b_Lright
  refine set_then _ (words_ok l rfl rfl) ?_
  rintro _ S1 ⟨W, rfl, gW, hW, f1⟩
  refine seq_then (fun δ _ => True) ?_ ?_
  · rw [wps_forE, wp_var rfl, forE_lst]
    refine wps_forIx (fun k δ S' => ∃ x3 x4 x5 x6 x7 x8 x9, δ = tgE p n W x3 x4 x5 x6 x7 x8 x9 ∧ Fr p S S') _ ⟨_, _, _, _, _, _, _, rfl, f1⟩ (fun _ _ _ => trivial) ?_
    rintro k hk δ S' ⟨x3, x4, x5, x6, x7, x8, x9, rfl, f⟩
    have hk' : k < W.length := by simpa using hk
    rw [List.getElem_map]
    have gv := gW W[k] (List.getElem_mem hk')
    show WpS _ _ _
    refine (spelt1_ok (l.keep f) gW hW gv.1 gv.2 x4 x5 x6 x7 x8 x9).mono ?_ (fun _ _ z => z.elim)
    rintro δ S4 ⟨y3, y4, y5, y6, y7, y8, y9, rfl, f4⟩
    exact ⟨_, _, _, _, _, _, _, rfl, f.trans f4⟩
  rintro δ S2 _
  rw [wps_ret, wp_c]
theorem law_ok (ns : List Int) (S : Sto) : Wp (m_law [.con (ns.map .int)] S) fun d _ => d = .bl true := by
  refine fn_wp rfl ?_
  unfold b_law
  refine seq_then (fun δ _ => True) ?_ ?_
  · rw [wps_for, wp_range1, wp_cons, wp_eN, wp_cons, wp_c, wp_cons, wp_eN, wp_cons, wp_eN, wp_cons, wp_var rfl, wp_nil, mLen_con, wp_ok, wp_cons, wp_c, wp_nil]
    show Wp (mMin [.int _, .int 3] S) _
    obtain ⟨m, e, hm⟩ : ∃ m : Nat, mMin [.int ((ns.map Dv.int).length : Int), .int 3] S = .ok (.int (m : Int)) S ∧ m ≤ 3 := by
      show ∃ m : Nat, Res.ok (Dv.int (if (3 : Int) < ((ns.map Dv.int).length : Int) then 3 else ((ns.map Dv.int).length : Int))) S = .ok (.int (m : Int)) S ∧ m ≤ 3
      split
      · exact ⟨3, rfl, Nat.le_refl _⟩
      · exact ⟨(ns.map Dv.int).length, rfl, by omega⟩
    rw [e, wp_ok, wp_nil]
    obtain ⟨m2, e2, hm2⟩ : ∃ m2 : Nat, mMax [.int 1, .int (m : Int)] S = .ok (.int (m2 : Int)) S ∧ m2 ≤ 3 := by
      show ∃ m2 : Nat, Res.ok (Dv.int (if (m : Int) > 1 then (m : Int) else 1)) S = .ok (.int (m2 : Int)) S ∧ m2 ≤ 3
      split
      · exact ⟨m, rfl, hm⟩
      · exact ⟨1, rfl, by omega⟩
    rw [e2, wp_ok, wp_nil, mRange1_nat (by rw [lim_eq]; omega), wp_ok]
    refine wps_forIx (fun k δ S' => ∃ x1 x2, δ = [some (.con (ns.map .int)), x1, x2]) _ ⟨_, _, rfl⟩ (fun _ _ _ => trivial) ?_
    rintro k hk δ S' ⟨x1, x2, rfl⟩
    rw [List.getElem_map]
    generalize (List.range m2)[k]'(by simpa using hk) = j
    show WpS _ _ _
    refine set_then (fun d S1 => d = .loc S'.length ∧ Pt S1 S'.length) ?_ ?_
    · rw [wp_eN, wp_cons, wp_var rfl, wp_cons, wp_var rfl, wp_nil]
      refine (pot_ok ns j S').mono ?_
      rintro _ S1 ⟨a, b, rfl, rfl, ha, hb⟩
      exact ⟨rfl, a, b, by simp, ha, hb⟩
    rintro _ S1 ⟨rfl, pt⟩
    rw [wps_if, wp_bNot, wp_bOf, wp_eN, wp_cons, wp_var rfl, wp_cons, wp_eN, wp_cons, wp_var rfl, wp_cons, wp_e2, wp_c, wp_eN, wp_cons, wp_var rfl, wp_cons, wp_c, wp_nil]
    refine (draw_ok (m := 2) pt (by omega) (by omega)).mono ?_
    rintro _ S2 ⟨c, rfl, hc, f2⟩
    rw [mAdd_int, wp_ok, wp_nil, show ((1 : Int) + (c : Int)) = ((1 + c : Nat) : Int) by omega]
    refine (labels_ok (m := 1 + c) f2.pt (by omega)).mono ?_
    rintro _ S3 ⟨ls, rfl, h1, h2, h3, f3⟩
    rw [wp_nil]
    refine (right_ok (ls := ls) ⟨f3.pt, h1, ?_, by omega, by omega, h3⟩).mono ?_
    · have := f2.pt.lt; omega
    rintro _ S4 rfl
    rw [isB_bl, Bool.not_true, if_neg Bool.false_ne_true, wps_nil]
    exact ⟨_, _, rfl⟩
  rintro δ S2 _
  rw [wps_ret, wp_c]
theorem plain_k35 (ns : List Int) : ∃ S', m_law [.con (ns.map .int)] [] = .ok (.bl true) S' := by
  obtain ⟨a, S', e, rfl⟩ := (law_ok ns []).ex
  exact ⟨S', e⟩
end Mi
end T_P35x
section T_G35b
set_option Elab.async false
set_option linter.all false
set_option maxRecDepth 100000
set_option maxHeartbeats 0
namespace Mi
open PySem PySem.Spec PyProof.Rows L2 He
/-! ### the head -/
def dfs : List DefD := [
  ⟨("_law_pot", none), "_law_pot", "_law_pot", defArgs (top 29), defBody (top 29), defScope (top 29), [], []⟩,
  ⟨("_law_turned", none), "_law_turned", "_law_turned", defArgs (top 33), defBody (top 33), defScope (top 33), [], []⟩,
  ⟨("_law_inverse", none), "_law_inverse", "_law_inverse", defArgs (top 34), defBody (top 34), defScope (top 34), [], []⟩,
  ⟨("_law_folds", none), "_law_folds", "_law_folds", defArgs (top 35), defBody (top 35), defScope (top 35), [], []⟩,
  ⟨("_law_after", none), "_law_after", "_law_after", defArgs (top 36), defBody (top 36), defScope (top 36), [], []⟩,
  ⟨("_law_all", none), "_law_all", "_law_all", defArgs (top 39), defBody (top 39), defScope (top 39), [], []⟩,
  ⟨("_law_draw", none), "_law_draw", "_law_draw", defArgs (top 30), defBody (top 30), defScope (top 30), [], []⟩,
  ⟨("_law_pick", none), "_law_pick", "_law_pick", defArgs (top 31), defBody (top 31), defScope (top 31), [], []⟩,
  ⟨("_law_drawn", none), "_law_drawn", "_law_drawn", defArgs (top 37), defBody (top 37), defScope (top 37), [], []⟩,
  ⟨("_law_word", none), "_law_word", "_law_word", defArgs (top 38), defBody (top 38), defScope (top 38), [], []⟩,
  ⟨("is_name", none), "is_name", "is_name", defArgs (top 10), defBody (top 10), defScope (top 10), [], []⟩,
  ⟨("is_integer", none), "is_integer", "is_integer", defArgs (top 9), defBody (top 9), defScope (top 9), [], []⟩,
  ⟨("is_step", none), "is_step", "is_step", defArgs (top 11), defBody (top 11), defScope (top 11), [], []⟩,
  ⟨("is_word", none), "is_word", "is_word", defArgs (top 12), defBody (top 12), defScope (top 12), [], []⟩,
  ⟨("want_word", none), "want_word", "want_word", defArgs (top 13), defBody (top 13), defScope (top 13), [], []⟩,
  ⟨("inverse_step", none), "inverse_step", "inverse_step", defArgs (top 14), defBody (top 14), defScope (top 14), [], []⟩,
  ⟨("inverse_of", none), "inverse_of", "inverse_of", defArgs (top 15), defBody (top 15), defScope (top 15), [], []⟩,
  ⟨("can_fold", none), "can_fold", "can_fold", defArgs (top 22), defBody (top 22), defScope (top 22), [], []⟩,
  ⟨("folds_of", none), "folds_of", "folds_of", defArgs (top 25), defBody (top 25), defScope (top 25), [], []⟩,
  ⟨("targets_by", none), "targets_by", "targets_by", defArgs (top 17), defBody (top 17), defScope (top 17), [], []⟩,
  ⟨("moves_on", none), "moves_on", "moves_on", defArgs (top 18), defBody (top 18), defScope (top 18), [], []⟩,
  ⟨("way_back", none), "way_back", "way_back", defArgs (top 19), defBody (top 19), defScope (top 19), [], []⟩,
  ⟨("found_walk", none), "found_walk", "found_walk", defArgs (top 20), defBody (top 20), defScope (top 20), [], []⟩,
  ⟨("folds_to", none), "folds_to", "folds_to", defArgs (top 27), defBody (top 27), defScope (top 27), [], []⟩,
  ⟨("after_fold", none), "after_fold", "after_fold", defArgs (top 23), defBody (top 23), defScope (top 23), [], []⟩,
  ⟨("is_fold", none), "is_fold", "is_fold", defArgs (top 24), defBody (top 24), defScope (top 24), [], []⟩,
  ⟨("folded", none), "folded", "folded", defArgs (top 26), defBody (top 26), defScope (top 26), [], []⟩,
  ⟨("_law_refused", none), "_law_refused", "_law_refused", defArgs (top 40), defBody (top 40), defScope (top 40), [], []⟩,
  ⟨("_law_word_right", none), "_law_word_right", "_law_word_right", defArgs (top 41), defBody (top 41), defScope (top 41), [], []⟩,
  ⟨("_law_changed", none), "_law_changed", "_law_changed", defArgs (top 42), defBody (top 42), defScope (top 42), [], []⟩,
  ⟨("_law_right", none), "_law_right", "_law_right", defArgs (top 43), defBody (top 43), defScope (top 43), [], []⟩,
  ⟨("_law_labels", none), "_law_labels", "_law_labels", defArgs (top 32), defBody (top 32), defScope (top 32), [], []⟩,
  ⟨("law", none), "law", "law", defArgs (top 44), defBody (top 44), defScope (top 44), [], []⟩,
  ⟨("InvalidFold", some "__init__"), "__init__", "InvalidFold.__init__", defArgs (clsDef (top 3) 0), defBody (clsDef (top 3) 0), defScope (clsDef (top 3) 0), [], []⟩,
  ⟨("InvalidWord", some "__init__"), "__init__", "InvalidWord.__init__", defArgs (clsDef (top 2) 0), defBody (clsDef (top 2) 0), defScope (clsDef (top 2) 0), [], []⟩]
def fas : List Fa := [.free "abs", .free "all", .free "bool", .free "divmod", .free "enumerate", .free "int", .free "isinstance", .free "len", .free "max", .free "min", .free "range", .free "repr", .free "str", .free "tuple", .int "AGAINST" (-1), .int "ALONG" (1), .int "LONGEST_NAME" (8), .str "LETTERS" "abcdefghijklmnopqrstuvwxyz", .glo "InvalidFold", .glo "InvalidWord", .glo "WalkError", .glo "_law_pot", .glo "_law_turned", .glo "_law_inverse", .glo "_law_folds", .glo "_law_after", .glo "_law_all", .glo "_law_draw", .glo "_law_pick", .glo "_law_drawn", .glo "_law_word", .glo "is_name", .glo "is_integer", .glo "is_step", .glo "is_word", .glo "want_word", .glo "inverse_step", .glo "inverse_of", .glo "can_fold", .glo "folds_of", .glo "targets_by", .glo "moves_on", .glo "way_back", .glo "found_walk", .glo "folds_to", .glo "after_fold", .glo "is_fold", .glo "folded", .glo "_law_refused", .glo "_law_word_right", .glo "_law_changed", .glo "_law_right", .glo "_law_labels", .glo "law"]
def fxs : List Fx := [.sm, .oex "InvalidFold", .oex "InvalidWord", .init "InvalidFold", .init "InvalidWord", .rd "WalkError", .noat "InvalidFold" "value", .noat "InvalidWord" "value", .xf "InvalidFold", .exc "InvalidFold", .exm "InvalidFold" "InvalidFold" true, .exm "InvalidWord" "InvalidFold" false, .kit "InvalidFold" "WalkError" true]
abbrev Rr : PySem.W.OpenRow := PySem.W.OpenLaw.row PySem.Challenge.rw_walkasks_k35_whole_folds
abbrev hk : PySem.W.Hook := hookM 5 fas dfs fxs
def ob (s : PySem.W.SharedT) : AlM := obsM 5 fas dfs fxs (HandSHeadRun.getT s)
theorem ob_eq (s : PySem.W.SharedT) : ob s = hk.obs s.abs := obsM_eq (HandSHeadRun.getT_eq s)
def loose0 : List Str := ["WalkError", "InvalidWord", "InvalidFold", "is_integer", "is_name", "is_step", "is_word", "want_word", "inverse_step", "inverse_of", "targets_by", "moves_on", "way_back", "found_walk", "can_fold", "after_fold", "is_fold", "folds_of", "folded", "folds_to", "_law_pot", "_law_draw", "_law_pick", "_law_labels", "_law_turned", "_law_inverse", "_law_folds", "_law_after", "_law_drawn", "_law_word"]
def loose1 : List Str := ["_law_all", "_law_refused", "_law_word_right", "_law_changed", "_law_right", "LETTERS", "LONGEST_NAME", "ALONG", "AGAINST"]
def loose : List Str := loose0 ++ loose1
theorem run (w : World) : HandSHeadRun.RunEq Rr (PySem.W.view Rr.prog [44]) hk ob 6000 loose w := by
  intro os
  kernel_rfl
theorem md {K : PySem.W.Frag} {h : Heap} {mg : Str → Option Value} (X : K.In h) (G : h.Ns mainGlobals mg) (c : SaysM fas dfs fxs K) : Md K mg where
  n_abs := He.free_ok X G (c.d.fact 0 (f := .free "abs") rfl)
  n_all := He.free_ok X G (c.d.fact 1 (f := .free "all") rfl)
  n_bool := He.free_ok X G (c.d.fact 2 (f := .free "bool") rfl)
  n_divmod := He.free_ok X G (c.d.fact 3 (f := .free "divmod") rfl)
  n_enumerate := He.free_ok X G (c.d.fact 4 (f := .free "enumerate") rfl)
  n_int := He.free_ok X G (c.d.fact 5 (f := .free "int") rfl)
  n_isinstance := He.free_ok X G (c.d.fact 6 (f := .free "isinstance") rfl)
  n_len := He.free_ok X G (c.d.fact 7 (f := .free "len") rfl)
  n_max := He.free_ok X G (c.d.fact 8 (f := .free "max") rfl)
  n_min := He.free_ok X G (c.d.fact 9 (f := .free "min") rfl)
  n_range := He.free_ok X G (c.d.fact 10 (f := .free "range") rfl)
  n_repr := He.free_ok X G (c.d.fact 11 (f := .free "repr") rfl)
  n_str := He.free_ok X G (c.d.fact 12 (f := .free "str") rfl)
  n_tuple := He.free_ok X G (c.d.fact 13 (f := .free "tuple") rfl)
  i_AGAINST := He.int_ok X G (c.d.fact 14 (f := .int "AGAINST" (-1)) rfl)
  i_ALONG := He.int_ok X G (c.d.fact 15 (f := .int "ALONG" (1)) rfl)
  i_LONGEST_NAME := He.int_ok X G (c.d.fact 16 (f := .int "LONGEST_NAME" (8)) rfl)
  s_LETTERS := He.str_ok X G (c.d.fact 17 (f := .str "LETTERS" "abcdefghijklmnopqrstuvwxyz") rfl)
  g_InvalidFold := He.glo_ok X G (c.d.fact 18 (f := .glo "InvalidFold") rfl)
  g_InvalidWord := He.glo_ok X G (c.d.fact 19 (f := .glo "InvalidWord") rfl)
  g_WalkError := He.glo_ok X G (c.d.fact 20 (f := .glo "WalkError") rfl)
  sm := smB_ok (c.at 0 (f := .sm) rfl)
  oex_InvalidFold := oexB_ok (c.at 1 (f := .oex "InvalidFold") rfl)
  oex_InvalidWord := oexB_ok (c.at 2 (f := .oex "InvalidWord") rfl)
  init_InvalidFold := (let z := bad2 (c.at 3 (f := .init "InvalidFold") rfl); ⟨of_decide_eq_true z.1, of_decide_eq_true z.2⟩)
  init_InvalidWord := (let z := bad2 (c.at 4 (f := .init "InvalidWord") rfl); ⟨of_decide_eq_true z.1, of_decide_eq_true z.2⟩)
  rd_WalkError := rdB_ok (c.at 5 (f := .rd "WalkError") rfl)
  noat_InvalidFold_value := of_decide_eq_true (c.at 6 (f := .noat "InvalidFold" "value") rfl)
  noat_InvalidWord_value := of_decide_eq_true (c.at 7 (f := .noat "InvalidWord" "value") rfl)
  xf_InvalidFold := xfB_ok (c.at 8 (f := .xf "InvalidFold") rfl)
  exc_InvalidFold := excB_ok (c.at 9 (f := .exc "InvalidFold") rfl)
  exm_InvalidFold_InvalidFold := of_decide_eq_true (c.at 10 (f := .exm "InvalidFold" "InvalidFold" true) rfl)
  exm_InvalidWord_InvalidFold := of_decide_eq_true (c.at 11 (f := .exm "InvalidWord" "InvalidFold" false) rfl)
  kit_InvalidFold_WalkError := of_decide_eq_true (c.at 12 (f := .kit "InvalidFold" "WalkError" true) rfl)
theorem facts {P : Program} {w : World} {K : PySem.W.Frag} {h : Heap} {mg : Str → Option Value} {f : Addr} (X : K.In h) (G : h.Ns mainGlobals mg) (hfa : mg ("law" : Str) = some (.ref f)) (c : SaysM fas dfs fxs K) :
    ∃ fd : FuncData, (∀ (s : Shared) (v : Value), BindsTo s fd ⟨[v], []⟩ [("_law_script", v)]) ∧ ∀ base : Heap, K.In base → base.Ns mainGlobals mg → FnG P w K mg base 12 f fd ["_law_script"] (spM ⟨K, mg, [], none⟩ 1 m_law) := by
  have M := md X G c
  have g_Lpot := He.glo_ok X G (c.d.fact 21 (f := .glo "_law_pot") rfl)
  have D_Lpot : ∃ fd, Fd_Lpot K fd := c.d.def_ 0 rfl
  have g_Lturned := He.glo_ok X G (c.d.fact 22 (f := .glo "_law_turned") rfl)
  have D_Lturned : ∃ fd, Fd_Lturned K fd := c.d.def_ 1 rfl
  have g_Linverse := He.glo_ok X G (c.d.fact 23 (f := .glo "_law_inverse") rfl)
  have D_Linverse : ∃ fd, Fd_Linverse K fd := c.d.def_ 2 rfl
  have g_Lfolds := He.glo_ok X G (c.d.fact 24 (f := .glo "_law_folds") rfl)
  have D_Lfolds : ∃ fd, Fd_Lfolds K fd := c.d.def_ 3 rfl
  have g_Lafter := He.glo_ok X G (c.d.fact 25 (f := .glo "_law_after") rfl)
  have D_Lafter : ∃ fd, Fd_Lafter K fd := c.d.def_ 4 rfl
  have g_Lall := He.glo_ok X G (c.d.fact 26 (f := .glo "_law_all") rfl)
  have D_Lall : ∃ fd, Fd_Lall K fd := c.d.def_ 5 rfl
  have g_Ldraw := He.glo_ok X G (c.d.fact 27 (f := .glo "_law_draw") rfl)
  have D_Ldraw : ∃ fd, Fd_Ldraw K fd := c.d.def_ 6 rfl
  have g_Lpick := He.glo_ok X G (c.d.fact 28 (f := .glo "_law_pick") rfl)
  have D_Lpick : ∃ fd, Fd_Lpick K fd := c.d.def_ 7 rfl
  have g_Ldrawn := He.glo_ok X G (c.d.fact 29 (f := .glo "_law_drawn") rfl)
  have D_Ldrawn : ∃ fd, Fd_Ldrawn K fd := c.d.def_ 8 rfl
  have g_Lword := He.glo_ok X G (c.d.fact 30 (f := .glo "_law_word") rfl)
  have D_Lword : ∃ fd, Fd_Lword K fd := c.d.def_ 9 rfl
  have g_is_name := He.glo_ok X G (c.d.fact 31 (f := .glo "is_name") rfl)
  have D_is_name : ∃ fd, Fd_is_name K fd := c.d.def_ 10 rfl
  have g_is_integer := He.glo_ok X G (c.d.fact 32 (f := .glo "is_integer") rfl)
  have D_is_integer : ∃ fd, Fd_is_integer K fd := c.d.def_ 11 rfl
  have g_is_step := He.glo_ok X G (c.d.fact 33 (f := .glo "is_step") rfl)
  have D_is_step : ∃ fd, Fd_is_step K fd := c.d.def_ 12 rfl
  have g_is_word := He.glo_ok X G (c.d.fact 34 (f := .glo "is_word") rfl)
  have D_is_word : ∃ fd, Fd_is_word K fd := c.d.def_ 13 rfl
  have g_want_word := He.glo_ok X G (c.d.fact 35 (f := .glo "want_word") rfl)
  have D_want_word : ∃ fd, Fd_want_word K fd := c.d.def_ 14 rfl
  have g_inverse_step := He.glo_ok X G (c.d.fact 36 (f := .glo "inverse_step") rfl)
  have D_inverse_step : ∃ fd, Fd_inverse_step K fd := c.d.def_ 15 rfl
  have g_inverse_of := He.glo_ok X G (c.d.fact 37 (f := .glo "inverse_of") rfl)
  have D_inverse_of : ∃ fd, Fd_inverse_of K fd := c.d.def_ 16 rfl
  have g_can_fold := He.glo_ok X G (c.d.fact 38 (f := .glo "can_fold") rfl)
  have D_can_fold : ∃ fd, Fd_can_fold K fd := c.d.def_ 17 rfl
  have g_folds_of := He.glo_ok X G (c.d.fact 39 (f := .glo "folds_of") rfl)
  have D_folds_of : ∃ fd, Fd_folds_of K fd := c.d.def_ 18 rfl
  have g_targets_by := He.glo_ok X G (c.d.fact 40 (f := .glo "targets_by") rfl)
  have D_targets_by : ∃ fd, Fd_targets_by K fd := c.d.def_ 19 rfl
  have g_moves_on := He.glo_ok X G (c.d.fact 41 (f := .glo "moves_on") rfl)
  have D_moves_on : ∃ fd, Fd_moves_on K fd := c.d.def_ 20 rfl
  have g_way_back := He.glo_ok X G (c.d.fact 42 (f := .glo "way_back") rfl)
  have D_way_back : ∃ fd, Fd_way_back K fd := c.d.def_ 21 rfl
  have g_found_walk := He.glo_ok X G (c.d.fact 43 (f := .glo "found_walk") rfl)
  have D_found_walk : ∃ fd, Fd_found_walk K fd := c.d.def_ 22 rfl
  have g_folds_to := He.glo_ok X G (c.d.fact 44 (f := .glo "folds_to") rfl)
  have D_folds_to : ∃ fd, Fd_folds_to K fd := c.d.def_ 23 rfl
  have g_after_fold := He.glo_ok X G (c.d.fact 45 (f := .glo "after_fold") rfl)
  have D_after_fold : ∃ fd, Fd_after_fold K fd := c.d.def_ 24 rfl
  have g_is_fold := He.glo_ok X G (c.d.fact 46 (f := .glo "is_fold") rfl)
  have D_is_fold : ∃ fd, Fd_is_fold K fd := c.d.def_ 25 rfl
  have g_folded := He.glo_ok X G (c.d.fact 47 (f := .glo "folded") rfl)
  have D_folded : ∃ fd, Fd_folded K fd := c.d.def_ 26 rfl
  have g_Lrefused := He.glo_ok X G (c.d.fact 48 (f := .glo "_law_refused") rfl)
  have D_Lrefused : ∃ fd, Fd_Lrefused K fd := c.d.def_ 27 rfl
  have g_Lword_right := He.glo_ok X G (c.d.fact 49 (f := .glo "_law_word_right") rfl)
  have D_Lword_right : ∃ fd, Fd_Lword_right K fd := c.d.def_ 28 rfl
  have g_Lchanged := He.glo_ok X G (c.d.fact 50 (f := .glo "_law_changed") rfl)
  have D_Lchanged : ∃ fd, Fd_Lchanged K fd := c.d.def_ 29 rfl
  have g_Lright := He.glo_ok X G (c.d.fact 51 (f := .glo "_law_right") rfl)
  have D_Lright : ∃ fd, Fd_Lright K fd := c.d.def_ 30 rfl
  have g_Llabels := He.glo_ok X G (c.d.fact 52 (f := .glo "_law_labels") rfl)
  have D_Llabels : ∃ fd, Fd_Llabels K fd := c.d.def_ 31 rfl
  have g_law := He.glo_ok X G (c.d.fact 53 (f := .glo "law") rfl)
  have D_law : ∃ fd, Fd_law K fd := c.d.def_ 32 rfl
  have E_InvalidFold : ∃ fd, FnX_InvalidFold K fd := c.d.def_ 33 rfl
  have E_InvalidWord : ∃ fd, FnX_InvalidWord K fd := c.d.def_ 34 rfl
  rw [g_law] at hfa
  cases hfa
  have L : ∀ base : Heap, Ok_law P w K mg base := fun base => by
    have x_InvalidFold : Oe_InvalidFold P w K mg base := oe_InvalidFold M E_InvalidFold
    have x_InvalidWord : Oe_InvalidWord P w K mg base := oe_InvalidWord M E_InvalidWord
    have c_Lpot : Ok_Lpot P w K mg base := ok_Lpot M D_Lpot g_Lpot  
    have c_Lturned : Ok_Lturned P w K mg base := ok_Lturned M D_Lturned g_Lturned  
    have c_Linverse : Ok_Linverse P w K mg base := ok_Linverse M D_Linverse g_Linverse c_Lturned 
    have c_Lfolds : Ok_Lfolds P w K mg base := ok_Lfolds M D_Lfolds g_Lfolds c_Linverse 
    have c_Lafter : Ok_Lafter P w K mg base := ok_Lafter M D_Lafter g_Lafter  
    have c_Lall : Ok_Lall P w K mg base := ok_Lall M D_Lall g_Lall c_Lfolds c_Lafter 
    have c_Ldraw : Ok_Ldraw P w K mg base := ok_Ldraw M D_Ldraw g_Ldraw  
    have c_Lpick : Ok_Lpick P w K mg base := ok_Lpick M D_Lpick g_Lpick c_Ldraw 
    have c_Ldrawn : Ok_Ldrawn P w K mg base := ok_Ldrawn M D_Ldrawn g_Ldrawn c_Ldraw c_Lpick 
    have c_Lword : Ok_Lword P w K mg base := ok_Lword M D_Lword g_Lword c_Ldrawn c_Ldraw c_Linverse 
    have c_is_name : Ok_is_name P w K mg base := ok_is_name M D_is_name g_is_name  
    have c_is_integer : Ok_is_integer P w K mg base := ok_is_integer M D_is_integer g_is_integer  
    have c_is_step : Ok_is_step P w K mg base := ok_is_step M D_is_step g_is_step c_is_name c_is_integer 
    have c_is_word : Ok_is_word P w K mg base := ok_is_word M D_is_word g_is_word c_is_step 
    have c_want_word : Ok_want_word P w K mg base := ok_want_word M D_want_word g_want_word c_is_word x_InvalidWord
    have c_inverse_step : Ok_inverse_step P w K mg base := ok_inverse_step M D_inverse_step g_inverse_step  
    have c_inverse_of : Ok_inverse_of P w K mg base := ok_inverse_of M D_inverse_of g_inverse_of c_want_word c_inverse_step 
    have c_can_fold : Ok_can_fold P w K mg base := ok_can_fold M D_can_fold g_can_fold c_inverse_of 
    have c_folds_of : Ok_folds_of P w K mg base := ok_folds_of M D_folds_of g_folds_of c_want_word c_can_fold 
    have c_targets_by : Ok_targets_by P w K mg base := ok_targets_by M D_targets_by g_targets_by  
    have c_moves_on : Ok_moves_on P w K mg base := ok_moves_on M D_moves_on g_moves_on c_targets_by c_inverse_step 
    have c_way_back : Ok_way_back P w K mg base := ok_way_back M D_way_back g_way_back  
    have c_found_walk : Ok_found_walk P w K mg base := ok_found_walk M D_found_walk g_found_walk c_way_back c_moves_on 
    have c_folds_to : Ok_folds_to P w K mg base := ok_folds_to M D_folds_to g_folds_to c_want_word c_found_walk 
    have c_after_fold : Ok_after_fold P w K mg base := ok_after_fold M D_after_fold g_after_fold  
    have c_is_fold : Ok_is_fold P w K mg base := ok_is_fold M D_is_fold g_is_fold c_is_integer c_can_fold 
    have c_folded : Ok_folded P w K mg base := ok_folded M D_folded g_folded c_want_word c_is_fold c_after_fold x_InvalidFold
    have c_Lrefused : Ok_Lrefused P w K mg base := ok_Lrefused M D_Lrefused g_Lrefused c_folded 
    have c_Lword_right : Ok_Lword_right P w K mg base := ok_Lword_right M D_Lword_right g_Lword_right c_Lfolds c_folds_of c_Lafter c_folded c_folds_to c_Ldraw c_Lrefused 
    have c_Lchanged : Ok_Lchanged P w K mg base := ok_Lchanged M D_Lchanged g_Lchanged c_Ldraw c_Lturned 
    have c_Lright : Ok_Lright P w K mg base := ok_Lright M D_Lright g_Lright c_Lword c_Lword_right c_Lall c_Lchanged c_Ldrawn c_folds_to 
    have c_Llabels : Ok_Llabels P w K mg base := ok_Llabels M D_Llabels g_Llabels c_Lpick c_Ldraw 
    have c_law : Ok_law P w K mg base := ok_law M D_law g_law c_Lpot c_Lright c_Llabels c_Ldraw 
    exact c_law
  obtain ⟨fd, F⟩ := D_law
  have b := FunD.bindsA (ps := ["_law_script"]) F fun _ _ _ _ _ _ us hl => match us, hl with | [_], _ => rfl
  refine ⟨fd, fun s v => b s [v] rfl, fun base _ _ => ?_⟩
  obtain ⟨fd2, F2, G2, _⟩ := L base
  have e : fd2 = fd := fd_eq F2 F
  rw [← e]
  exact G2
end Mi
open PySem PySem.W PySem.Calls PyProof.Rows
theorem holds_of (law : ∀ ns : List Int, ns.length ≤ 63 → ∃ S', Mi.m_law [.con (ns.map .int)] [] = .ok (.bl true) S') : PySem.Challenge.rw_walkasks_k35_whole_folds.Holds := by
  w_on; o_law
  refine HandSHeadRun.head_any (r := OpenLaw.row PySem.Challenge.rw_walkasks_k35_whole_folds) (q := view (OpenLaw.row PySem.Challenge.rw_walkasks_k35_whole_folds).prog [44]) (H := Mi.hk) (ob := Mi.ob) (M := 6000) (loose := Mi.loose) (d := HandSHeadRun.topDef (OpenLaw.row PySem.Challenge.rw_walkasks_k35_whole_folds).prog 44) (kwd := []) Mi.ob_eq
    (by kernel_rfl) (fun s => by kernel_rfl) Mi.run (by kernel_rfl) (by kernel_rfl) (by kernel_rfl) (by rfl) (by first | assumption | decide +kernel) (by decide +kernel) ⟨rfl, rfl, rfl, rfl, rfl, by decide +kernel⟩ ?hw ?hc
  case hw => w_witness2
  case hc =>
    refine Mi.walkG (l := PySem.Challenge.rw_walkasks_k35_whole_folds) (n := 63) (k := 12) (x := "_law_script") (mf := Mi.m_law) rfl (by decide) (by kernel_rfl) ⟨rfl, by decide, by decide⟩ ?F law
    intro w mg fa h Y G hmg0
    obtain ⟨K, KX, c⟩ := Y
    have hmg : mg ("law" : PySem.Str) = some (.ref fa) := by
      have e : (HandSHeadRun.topDef (OpenLaw.row PySem.Challenge.rw_walkasks_k35_whole_folds).prog 44).name = ("law" : PySem.Str) := by kernel_rfl
      rw [← e]
      exact hmg0
    obtain ⟨fd, hb, hF⟩ := Mi.facts (P := (PySem.Challenge.rw_walkasks_k35_whole_folds).prog) (w := w) KX G hmg c
    exact ⟨K, fd, KX, hb, hF⟩
end T_G35b
theorem PySem.Challenge.cw_walkasks_k35_whole_folds_holds : PySem.Challenge.rw_walkasks_k35_whole_folds.Holds := by
  exact holds_of fun ns _ => Mi.plain_k35 ns
