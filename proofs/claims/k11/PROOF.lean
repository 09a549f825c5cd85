import PyProof.Rows.All
import Wide.All
import OpenK.AllK
import Wide.FinOn
import HandS.ForMost
import HandS.Exc
import HandS.ExcOwn
import HandS.ExcInit
import HandS.HeadHook1
import HandS.Lambda
import HandS.Defaults
import HandS.IsInst
import HandS.Deep
import HandS.TupAny
import HandS.TupLe
import HandS.Style
import HandS.Wide
import HandS.WideBits
import HandS.WordsExc
import HandS.ClsMeth
import HandS.TryMany
import HandS.ExcField
import HandS.ExcIs
import KE.GoesMore
import KE.GoesEnum
import HandS.Iter
import HandS.DictComp
import HandS.Text
import HandS.Ends
import HandS.HeadEnd
import KE.KEqNest
import HandS.MakeKw
import HandS.TryOnly
import KE.SortKeyHeap
import HandS.SortKw
import HandS.ExcValue
import HandS.HeadHook4
import KE.KExcInit
import KE.KStateDown
import Lean
import HandS.Head0
import HandS.Head1
import HandS.Head2
import HandS.HeadHook2
import HandS.NestedK
import PySem.Challenge.RW_walkasks_k11_whole_steps_and_words
set_option Elab.async false
section T_Mir
set_option Elab.async false
set_option linter.all false
/-! Mir: the mirror language. Values, a store of the objects that are changed, results, the words of expressions and statements. -/
namespace Mi
open PySem L2

inductive Dv where
  | non | bl (b : Bool) | int (i : Int) | str (x : Str)
  | tup (xs : List Dv)
  /-- a list | a dict that nobody changes any more -/
  | lst (xs : List Dv) | dct (kvs : List (Key × Dv))
  /-- a list of the text's, or the script -/
  | con (xs : List Dv)
  /-- an object of the store -/
  | loc (n : Nat)
  /-- an exception held as a value -/
  | exc (c : Str) (fs : List (Str × Dv))
instance : Inhabited Dv := ⟨.non⟩
/-- an exception of an own class: its class's name, its fields -/
structure Exn where
  cls : Str
  fs : List (Str × Dv)
inductive Ob where
  | lst (xs : List Dv) | dK (kvs : List (Key × Dv)) | dT (kvs : List (List Key × Dv))
  /-- an instance of an own class -/
  | ins (c : Str) (fs : List (Str × Dv))
abbrev Sto := List Ob
abbrev En := List (Option Dv)
inductive Res (α : Type) where
  | ok (a : α) (S : Sto) | ex (x : Exn) (S : Sto) | bad
@[reducible] def M (α : Type) := Sto → Res α
def M.bind {α β : Type} (m : M α) (k : α → M β) : M β := fun S => match m S with
  | .ok a S' => k a S'
  | .ex x S' => .ex x S'
  | .bad => .bad
def M.pure {α : Type} (a : α) : M α := fun S => .ok a S
instance : Monad M := { pure := M.pure, bind := M.bind }
def mBad {α : Type} : M α := fun _ => .bad
def mRaise {α : Type} (x : Exn) : M α := fun S => .ex x S
/-- a partial function's answer -/
def mOpt {α : Type} : Option α → M α
  | some a => M.pure a
  | none => mBad
/-- sizes -/
abbrev lim : Nat := 100000

/-! ### expressions -/
abbrev EX := En → M Dv
abbrev EB := En → M Bool
abbrev EA := En → M (List Dv)
def eVar (i : Nat) : EX := fun δ => match δ[i]? with
  | some (some d) => M.pure d
  | _ => mBad
def eC (d : Dv) : EX := fun _ => M.pure d
def e1 (f : Dv → M Dv) (a : EX) : EX := fun δ => (a δ).bind f
def e2 (f : Dv → Dv → M Dv) (a b : EX) : EX := fun δ => (a δ).bind fun x => (b δ).bind fun y => f x y
def aNil : EA := fun _ => M.pure []
def aCons (a : EX) (r : EA) : EA := fun δ => (a δ).bind fun x => (r δ).bind fun xs => M.pure (x :: xs)
def eN (f : List Dv → M Dv) (a : EA) : EX := fun δ => (a δ).bind f
def eIf (c : EB) (a b : EX) : EX := fun δ => (c δ).bind fun t => if t = true then a δ else b δ
def eAnd (a b : EX) : EX := fun δ => (a δ).bind fun x => match x with
  | .bl true => b δ
  | .bl false => M.pure (.bl false)
  | _ => mBad
def eOr (a b : EX) : EX := fun δ => (a δ).bind fun x => match x with
  | .bl true => M.pure (.bl true)
  | .bl false => b δ
  | _ => mBad
def eNot (a : EX) : EX := fun δ => (a δ).bind fun x => match x with
  | .bl b => M.pure (.bl (!b))
  | _ => mBad
/-! tests -/
def bOf (a : EX) : EB := fun δ => (a δ).bind fun x => match x with
  | .bl b => M.pure b
  | _ => mBad
def bAnd (a b : EB) : EB := fun δ => (a δ).bind fun x => if x = true then b δ else M.pure false
def bOr (a b : EB) : EB := fun δ => (a δ).bind fun x => if x = true then M.pure true else b δ
def bNot (a : EB) : EB := fun δ => (a δ).bind fun x => M.pure (!x)
/-! ### statements -/
inductive SR where
  | nx (δ : En) (S : Sto) | rt (d : Dv) (S : Sto) | bk (δ : En) (S : Sto) | ct (δ : En) (S : Sto) | ex (x : Exn) (δ : En) (S : Sto) | bad
abbrev SM := En → Sto → SR
def onOk {α : Type} (r : Res α) (δ : En) (k : α → Sto → SR) : SR := match r with
  | .ok a S => k a S
  | .ex x S => .ex x δ S
  | .bad => .bad
def sNil : SM := fun δ S => .nx δ S
def sSeq (a b : SM) : SM := fun δ S => match a δ S with
  | .nx δ' S' => b δ' S'
  | r => r
def sIf (c : EB) (a b : SM) : SM := fun δ S => onOk (c δ S) δ fun t S' => if t = true then a δ S' else b δ S'
def sSet (i : Nat) (e : EX) : SM := fun δ S => onOk (e δ S) δ fun d S' => .nx (δ.set i (some d)) S'
def sRet (e : EX) : SM := fun δ S => onOk (e δ S) δ fun d S' => .rt d S'
def sExpr (e : EX) : SM := fun δ S => onOk (e δ S) δ fun _ S' => .nx δ S'
def sBreak : SM := fun δ S => .bk δ S
def sCont : SM := fun δ S => .ct δ S
/-- a def's body as a function -/
def fnEnd (r : SR) : Res Dv := match r with
  | .nx _ S' => .ok .non S'
  | .rt d S' => .ok d S'
  | .ex x _ S' => .ex x S'
  | _ => .bad
/-- k parameters, n names -/
def fnOf (k n : Nat) (body : SM) : List Dv → M Dv := fun ds S => if ds.length = k then fnEnd (body (ds.map some ++ List.replicate (n - k) none) S) else .bad
end Mi
namespace Mi
open PySem L2
/-! ### targets, loops, comprehensions -/
abbrev TGm := Dv → En → Sto → Option (En × Sto)
def gNm (i : Nat) : TGm := fun d δ S => some (δ.set i (some d), S)
def gAll : List TGm → List Dv → En → Sto → Option (En × Sto)
  | [], [], δ, S => some (δ, S)
  | g :: gs, d :: ds, δ, S => match g d δ S with
    | some (δ', S') => gAll gs ds δ' S'
    | none => none
  | _, _, _, _ => none
/-- (a, b, ..) = a tuple -/
def gTp (gs : List TGm) : TGm := fun d δ S => match d with
  | .tup ds => gAll gs ds δ S
  | _ => none
def sAsg (g : TGm) (e : EX) : SM := fun δ S => onOk (e δ S) δ fun d S' => match g d δ S' with
  | some (δ', S'') => .nx δ' S''
  | none => .bad
/-- a, b = e1, e2: names alone -/
def setAll (δ : En) : List Nat → List Dv → Option En
  | [], [] => some δ
  | i :: is, d :: ds => setAll (δ.set i (some d)) is ds
  | _, _ => none
def sPar (is : List Nat) (a : EA) : SM := fun δ S => onOk (a δ S) δ fun ds S' => match setAll δ is ds with
  | some δ' => .nx δ' S'
  | none => .bad
def forGo (g : TGm) (body : SM) : List Dv → En → Sto → SR
  | [], δ, S => .nx δ S
  | d :: r, δ, S => match g d δ S with
    | none => .bad
    | some (δ1, S1) => match body δ1 S1 with
      | .nx δ' S' => forGo g body r δ' S'
      | .ct δ' S' => forGo g body r δ' S'
      | .bk δ' S' => .nx δ' S'
      | .rt d S' => .rt d S'
      | .ex x δ' S' => .ex x δ' S'
      | .bad => .bad
def sFor (it : EA) (g : TGm) (body : SM) : SM := fun δ S => onOk (it δ S) δ fun ds S' => forGo g body ds δ S'
def wipeD (δ : En) : List Nat → En
  | [] => δ
  | v :: vs => (wipeD δ vs).set v none
/-- a comprehension's turns; nothing may be raised in them -/
def lcGo (g : TGm) (t : EB) (e : EX) (δ : En) : List Dv → List Dv → Sto → Res (List Dv)
  | [], acc, S => .ok acc S
  | d :: r, acc, S => match g d δ S with
    | none => .bad
    | some (δ1, S1) => match t δ1 S1 with
      | .ok true S2 => (match e δ1 S2 with
        | .ok y S3 => lcGo g t e δ r (acc ++ [y]) S3
        | _ => .bad)
      | .ok false S2 => lcGo g t e δ r acc S2
      | _ => .bad
def lcOk (r : Res (List Dv)) : Res Dv := match r with
  | .ok ds S => .ok (.lst ds) S
  | _ => .bad
def lcEnd (g : TGm) (t : EB) (e : EX) (δ : En) (ds : List Dv) (S : Sto) : Res Dv := if ds.length ≤ lim then lcOk (lcGo g t e δ ds [] S) else .bad
def eLc (it : EA) (g : TGm) (t : EB) (e : EX) (vs : List Nat) : EX := fun δ => (it δ).bind fun ds => lcEnd g t e (wipeD δ vs) ds
def bYes : EB := fun _ => M.pure true
/-! a new list, tuple -/
def mTup (ds : List Dv) : M Dv := if ds.length ≤ lim then M.pure (.tup ds) else mBad
def mLst (ds : List Dv) : M Dv := if ds.length ≤ lim then M.pure (.lst ds) else mBad
/-- the items of what is walked -/
def mItems (d : Dv) : M (List Dv) := match d with
  | .lst ds => M.pure ds
  | .con ds => M.pure ds
  | .tup ds => M.pure ds
  | .str x => M.pure (x.cps.toList.map fun c => .str ⟨#[c]⟩)
  | _ => mBad
def iOf (a : EX) : EA := fun δ => (a δ).bind mItems
def mRange1 (ds : List Dv) : M (List Dv) := match ds with
  | [.int n] => if -(lim : Int) ≤ n ∧ n ≤ lim then M.pure ((List.range n.toNat).map fun i => .int (i : Nat)) else mBad
  | _ => mBad
def mRange2 (ds : List Dv) : M (List Dv) := match ds with
  | [.int a, .int b] => if -(lim : Int) ≤ a ∧ a ≤ lim ∧ -(lim : Int) ≤ b ∧ b ≤ lim then M.pure ((List.range (b - a).toNat).map fun i => .int (a + (i : Nat))) else mBad
  | _ => mBad
def iRange1 (a : EA) : EA := fun δ => (a δ).bind mRange1
def iRange2 (a : EA) : EA := fun δ => (a δ).bind mRange2
end Mi

namespace Mi
open PySem L2
/-! ### operations -/
/-- the items of a list that may be changed, of any list -/
def asL (S : Sto) : Dv → Option (List Dv)
  | .lst ds => some ds
  | .loc n => match S[n]? with
    | some (.lst ds) => some ds
    | _ => none
  | _ => none
def asC (S : Sto) : Dv → Option (List Dv)
  | .con ds => some ds
  | d => asL S d
def optAll {α : Type} : List (Option α) → Option (List α)
  | [] => some []
  | some a :: r => (optAll r).map (a :: ·)
  | none :: _ => none
def kPd : Key → PyData
  | .inl i => .int i
  | .inr x => .str x
def okSB (x : Str) : Bool := x.cps.toList.all fun c => decide (c < 0x110000)
def okKB : Key → Bool
  | .inl _ => true
  | .inr x => okSB x
/-- a value as data -/
def deep (S : Sto) : Nat → Dv → Option PyData
  | 0, _ => none
  | k + 1, d => match d with
    | .non => some .none
    | .bl b => some (.bool b)
    | .int i => some (.int i)
    | .str x => some (.str x)
    | .tup xs => (optAll (xs.map (deep S k))).map .tuple
    | .lst xs => (optAll (xs.map (deep S k))).map .list
    | .con xs => (optAll (xs.map (deep S k))).map .list
    | .dct kvs => if kvs.all (fun q => okKB q.1) = true then (optAll ((kvs.map (·.2)).map (deep S k))).map fun vs => .dict ((kvs.map fun q => kPd q.1).zip vs) else none
    | .loc n => match S[n]? with
      | some (.lst xs) => (optAll (xs.map (deep S k))).map .list
      | _ => none
    | .exc _ _ => none
abbrev dpt : Nat := 12
mutual
def noDict : PyData → Bool
  | .list xs | .tuple xs => noDictA xs
  | .dict _ => false
  | .none | .bool _ | .str _ | .int _ => true
def noDictA : List PyData → Bool
  | [] => true
  | x :: xs => noDict x && noDictA xs
end
def mEqv (k : Bool → Bool) (d e : Dv) : M Dv := fun S => match deep S dpt d, deep S dpt e with
  | some p, some q => if noDict p && noDict q then .ok (.bl (k (PyData.eqv p q))) S else .bad
  | _, _ => .bad
def mEq : Dv → Dv → M Dv := mEqv id
def mNe : Dv → Dv → M Dv := mEqv not
def mRepr (ds : List Dv) : M Dv := fun S => match ds with
  | [d] => (match deep S dpt d with
    | some p => if p.showable && p.leavesShort 400 && decide (p.bulk ≤ 30000) then .ok (.str p.shown) S else .bad
    | none => .bad)
  | _ => .bad
def mAdd (d e : Dv) : M Dv := fun S => match d, e with
  | .int i, .int j => .ok (.int (i + j)) S
  | .str x, .str y => if x.length + y.length ≤ lim then .ok (.str (x ++ y)) S else .bad
  | .tup xs, .tup ys => if xs.length + ys.length ≤ lim then .ok (.tup (xs ++ ys)) S else .bad
  | d, e => match asL S d, asL S e with
    | some xs, some ys => if xs.length + ys.length ≤ lim then .ok (.lst (xs ++ ys)) S else .bad
    | _, _ => .bad
def mSub (d e : Dv) : M Dv := match d, e with
  | .int i, .int j => M.pure (.int (i - j))
  | _, _ => mBad
def mMul (d e : Dv) : M Dv := fun S => match d, e with
  | .int i, .int j => if i.natAbs < 2 ^ 64 ∨ j.natAbs < 2 ^ 64 then .ok (.int (i * j)) S else .bad
  | .lst xs, .int j => if xs.length * j.toNat ≤ lim ∧ -(lim : Int) ≤ j ∧ j ≤ lim then .ok (.lst (List.replicate j.toNat xs).flatten) S else .bad
  | _, _ => .bad
def mFdiv (d e : Dv) : M Dv := match d, e with
  | .int i, .int j => if 0 < j ∧ j < 1073741824 then M.pure (.int (i / j)) else mBad
  | _, _ => mBad
def mMod (d e : Dv) : M Dv := match d, e with
  | .int i, .int j => if 0 < j then M.pure (.int (i % j)) else mBad
  | _, _ => mBad
def mPow (d e : Dv) : M Dv := match d, e with
  | .int i, .int j => if 0 ≤ j ∧ j ≤ 1000 ∧ i.natAbs < 2 ^ 64 then M.pure (.int (i ^ j.toNat)) else mBad
  | _, _ => mBad
def mNeg (d : Dv) : M Dv := match d with
  | .int i => M.pure (.int (-i))
  | _ => mBad
def mCmp (p : Int → Int → Bool) (d e : Dv) : M Dv := match d, e with
  | .int i, .int j => M.pure (.bl (p i j))
  | _, _ => mBad
def mLt : Dv → Dv → M Dv := mCmp fun i j => decide (i < j)
def mLe : Dv → Dv → M Dv := mCmp fun i j => decide (i ≤ j)
def mGt : Dv → Dv → M Dv := mCmp fun i j => decide (j < i)
def mGe : Dv → Dv → M Dv := mCmp fun i j => decide (j ≤ i)
/-- x in a text, a list, a tuple -/
def mInB (k : Bool → Bool) (d e : Dv) : M Dv := fun S => match d, e with
  | .str x, .str y => .ok (.bl (k (!(Builtin.Str.occurrences y x 0 y.length 1).isEmpty))) S
  | d, e => match deep S dpt d, deep S dpt e with
    | some p, some (.list ps) => if noDict p && noDictA ps then .ok (.bl (k (ps.any fun z => PyData.eqv z p))) S else .bad
    | some p, some (.tuple ps) => if noDict p && noDictA ps then .ok (.bl (k (ps.any fun z => PyData.eqv z p))) S else .bad
    | _, _ => .bad
def mIn : Dv → Dv → M Dv := mInB id
def mNotIn : Dv → Dv → M Dv := mInB not
/-- is, is not: None and truths -/
def mIsB (k : Bool → Bool) (d e : Dv) : M Dv := match d, e with
  | .non, .non => M.pure (.bl (k true))
  | _, .non => M.pure (.bl (k false))
  | .bl a, .bl b => M.pure (.bl (k (decide (a = b))))
  | _, _ => mBad
def mIs : Dv → Dv → M Dv := mIsB id
def mIsNot : Dv → Dv → M Dv := mIsB not
def mLen (ds : List Dv) : M Dv := fun S => match ds with
  | [.str x] => if x.length ≤ lim then .ok (.int x.length) S else .bad
  | [.tup xs] => .ok (.int xs.length) S
  | [d] => (match asC S d with
    | some xs => .ok (.int xs.length) S
    | none => .bad)
  | _ => .bad
def blsOf : List Dv → Option (List Bool)
  | [] => some []
  | .bl b :: r => (blsOf r).map (b :: ·)
  | _ :: _ => none
def mAllB (k : List Bool → Bool) (ds : List Dv) : M Dv := fun S => match ds with
  | [d] => (match asC S d with
    | some xs => (match blsOf xs with
      | some bs => .ok (.bl (k bs)) S
      | none => .bad)
    | none => .bad)
  | _ => .bad
def mAll : List Dv → M Dv := mAllB fun bs => bs.all id
def mAny : List Dv → M Dv := mAllB fun bs => bs.any id
def mTuple (ds : List Dv) : M Dv := fun S => match ds with
  | [.tup xs] => .ok (.tup xs) S
  | [d] => (match asC S d with
    | some xs => .ok (.tup xs) S
    | none => .bad)
  | _ => .bad
def mList (ds : List Dv) : M Dv := fun S => match ds with
  | [.tup xs] => .ok (.lst xs) S
  | [d] => (match asC S d with
    | some xs => .ok (.lst xs) S
    | none => .bad)
  | _ => .bad
def mAbs (ds : List Dv) : M Dv := match ds with
  | [.int i] => M.pure (.int (if i < 0 then -i else i))
  | _ => mBad
def mMax (ds : List Dv) : M Dv := match ds with
  | [.int i, .int j] => M.pure (.int (if j > i then j else i))
  | _ => mBad
def mMin (ds : List Dv) : M Dv := match ds with
  | [.int i, .int j] => M.pure (.int (if j < i then j else i))
  | _ => mBad
def mInt (ds : List Dv) : M Dv := match ds with
  | [.int i] => M.pure (.int i)
  | [.bl b] => M.pure (.int (if b then 1 else 0))
  | _ => mBad
def mDivmod (ds : List Dv) : M Dv := match ds with
  | [.int i, .int j] => if 0 < j ∧ j < 1073741824 then M.pure (.tup [.int (i / j), .int (i % j)]) else mBad
  | _ => mBad
/-- d[i] -/
def mIx (d e : Dv) : M Dv := fun S => match d, e with
  | .str x, .int i => if x.length ≤ lim then (match atI x.cps.toList i with
    | some c => .ok (.str ⟨#[c]⟩) S
    | none => .bad) else .bad
  | .tup xs, .int i => (match atI xs i with
    | some v => .ok v S
    | none => .bad)
  | d, .int i => (match asC S d with
    | some xs => (match atI xs i with
      | some v => .ok v S
      | none => .bad)
    | none => .bad)
  | _, _ => .bad
def cutD (xs : List Dv) (lo hi : Option Int) : List Dv := List.take (HT.sIx xs.length xs.length hi - HT.sIx xs.length 0 lo) (List.drop (HT.sIx xs.length 0 lo) xs)
def mSl (lo hi : Option Int) (d : Dv) : M Dv := fun S => match d with
  | .str x => if x.length ≤ lim then .ok (.str (cutS x lo hi)) S else .bad
  | .tup xs => .ok (.tup (cutD xs lo hi)) S
  | d => match asC S d with
    | some xs => .ok (.lst (cutD xs lo hi)) S
    | none => .bad
abbrev EO := En → M (Option Int)
def oNone : EO := fun _ => M.pure none
def oSome (a : EX) : EO := fun δ => (a δ).bind fun x => match x with
  | .int i => M.pure (some i)
  | _ => mBad
def eSl (a : EX) (lo hi : EO) : EX := fun δ => (a δ).bind fun x => (lo δ).bind fun l => (hi δ).bind fun h => mSl l h x
end Mi
namespace Mi
open PySem L2
/-! ### kinds -/
def kind (S : Sto) : Dv → Option String
  | .non => some "NoneType"
  | .bl _ => some "bool"
  | .int _ => some "int"
  | .str _ => some "str"
  | .tup _ => some "tuple"
  | .lst _ | .con _ => some "list"
  | .dct _ => some "dict"
  | .loc n => match S[n]? with
    | some (.lst _) => some "list"
    | some (.dK _) => some "dict"
    | some (.dT _) => some "dict"
    | some (.ins _ _) => none
    | none => none
  | .exc _ _ => none
def subK (t c : String) : Bool := t == c || (t == "bool" && c == "int")
def mIsi (c : String) (d : Dv) : M Dv := fun S => match kind S d with
  | some t => .ok (.bl (subK t c)) S
  | none => .bad
/-- isinstance(x, (c1, c2)) -/
def mIsiT (cs : List String) (d : Dv) : M Dv := fun S => match kind S d with
  | some t => .ok (.bl (cs.any fun c => subK t c)) S
  | none => .bad
/-- a r b r' c -/
def eChain (f g : Dv → Dv → M Dv) (a b c : EX) : EX := fun δ => (a δ).bind fun x => (b δ).bind fun y => (f x y).bind fun z => match z with
  | .bl true => (c δ).bind fun w => g y w
  | .bl false => M.pure (.bl false)
  | _ => mBad
/-! ### raise, try -/
def sRaise (c : Str) (fs : List Str) (a : EA) : SM := fun δ S => onOk (a δ S) δ fun ds S' => if ds.length = fs.length then .ex ⟨c, fs.zip ds⟩ δ S' else .bad
/-! ### changes -/
def mNewL (ds : List Dv) : M Dv := fun S => if ds.length ≤ lim then .ok (.loc S.length) (S ++ [.lst ds]) else .bad
def mAppend (d : Dv) (ds : List Dv) : M Dv := fun S => match d, ds with
  | .loc n, [x] => (match S[n]? with
    | some (.lst xs) => if xs.length < lim then .ok .non (S.set n (.lst (xs ++ [x]))) else .bad
    | _ => .bad)
  | _, _ => .bad
def mExtend (d : Dv) (ds : List Dv) : M Dv := fun S => match d, ds with
  | .loc n, [.lst ys] => (match S[n]? with
    | some (.lst xs) => if xs.length + ys.length < lim then .ok .non (S.set n (.lst (xs ++ ys))) else .bad
    | _ => .bad)
  | _, _ => .bad
def mClear (d : Dv) (ds : List Dv) : M Dv := fun S => match d, ds with
  | .loc n, [] => (match S[n]? with
    | some (.lst _) => .ok .non (S.set n (.lst []))
    | _ => .bad)
  | _, _ => .bad
/-- o.m(..) -/
def eMth (T : String) (f : Dv → List Dv → M Dv) (o : EX) (a : EA) : EX := fun δ => (o δ).bind fun x S => if kind S x = some T then ((a δ).bind fun ds => f x ds) S else .bad
/-- o[i] = .., o a list of the store -/
def gIx (o i : EX) : TGm := fun d δ S => match o δ S with
  | .ok (.loc n) S1 => (match i δ S1 with
    | .ok (.int k) S2 => (match S2[n]? with
      | some (.lst xs) => (match ixN xs.length k with
        | some j => some (δ, S2.set n (.lst (xs.set j d)))
        | none => none)
      | _ => none)
    | _ => none)
  | _ => none
/-- x op= e -/
def sAug (i : Nat) (f : Dv → Dv → M Dv) (e : EX) : SM := fun δ S => onOk (eVar i δ S) δ fun x S1 => onOk (e δ S1) δ fun y S2 => onOk (f x y S2) δ fun z S3 => .nx (δ.set i (some z)) S3
/-- while, n turns at most -/
def whGo (c : EB) (body : SM) : Nat → En → Sto → SR
  | 0, _, _ => .bad
  | n + 1, δ, S => onOk (c δ S) δ fun t S1 => if t = true then (match body δ S1 with
      | .nx δ' S' => whGo c body n δ' S'
      | .ct δ' S' => whGo c body n δ' S'
      | .bk δ' S' => .nx δ' S'
      | .rt d S' => .rt d S'
      | .ex x δ' S' => .ex x δ' S'
      | .bad => .bad) else .nx δ S1
def sWhile (n : Nat) (c : EB) (body : SM) : SM := fun δ S => whGo c body n δ S
/-! a new list of the store, by a comprehension -/
def eStore (e : EX) : EX := fun δ => (e δ).bind fun d => fun S => match d with
  | .lst ds => .ok (.loc S.length) (S ++ [.lst ds])
  | _ => .bad
end Mi
namespace Mi
open PySem L2
/-- behind a suite: the error's name goes; nothing may be raised in it -/
def suEnd (i : Nat) (r : SR) : SR := match r with
  | .nx δ S => .nx (δ.set i none) S
  | .bk δ S => .bk (δ.set i none) S
  | .ct δ S => .ct (δ.set i none) S
  | .rt d S => .rt d S
  | _ => .bad
/-- try: body / except c as e: suite. all: the classes of errors that are known; cs: those of them that the clause takes -/
def sTry (i : Nat) (all cs : List Str) (body : SM) (h : Exn → SM) : SM := fun δ S => match body δ S with
  | .ex x δ' S' => if x.cls ∈ all ∧ i < δ'.length then (if x.cls ∈ cs then suEnd i (h x (δ'.set i none) S') else .ex x δ' S') else .bad
  | r => r
/-- e.f within a suite -/
def eXf (x : Exn) (c f : Str) : EX := fun _ => if x.cls = c then mOpt (x.fs.lookup f) else mBad
/-- isinstance(e, ..) within a suite -/
def eXi (x : Exn) (c : Str) (b : Bool) : EX := fun _ => if x.cls = c then M.pure (.bl b) else mBad
end Mi
end T_Mir
section T_Sim
set_option Elab.async false
set_option linter.all false
set_option maxRecDepth 100000
set_option maxHeartbeats 2000000
/-! Sim: how the mirror's values and store lie in the layer's abstract heap; one rule a construct. -/
namespace Mi
open PySem PySem.Spec PyProof.Rows L2

/-- what is fixed through a law: the written part, the module's names, the tables of code objects -/
structure Gx where
  K : PySem.W.Frag
  mg : Str → Option Value
  T : List (Addr × Str)
  /-- within an except suite: the caught error's own dict, its fields, its name's slot, the error -/
  xc : Option (Addr × List (Str × Dv) × Nat × Addr) := none
  /-- within a def that got a lambda: its name's slot, the lambda, its code object, that one's name, the slots of the lambda's maker -/
  fx : Option (Nat × Addr × Addr × Str × L2.St × En) := none

theorem exd_tbl {e : Addr} {fs : List (Str × V)} {ps : Array Value} : exd e fs ≠ .tbl ps := fun z => by
  have y : HO.ext _ = HO.tbl ps := z
  cases y
def NoTbl (o : HO) : Prop := ∀ ps, o ≠ .tbl ps

/-- where the store's objects lie (s); what is tracked, but no value names it now (b: a list that a comprehension makes) -/
structure Rg where
  s : List Addr
  b : List Addr
def Out (ρ : Rg) (a : Addr) : Prop := a ∉ ρ.s ∧ a ∉ ρ.b
/-- a text's signs are signs -/
def OkS (x : Str) : Prop := ∀ c ∈ x.cps.toList, c < 0x110000
/-! ### values -/
/-- a list | a tuple of the written part -/
def KL (K : PySem.W.Frag) (a : Addr) (xs : List V) : Prop := ∃ (o : Obj) (its : Array Value) (n : Nat), K.lookup a = some o ∧ o.cls = .type "list" ∧ o.dict = none ∧ o.data = .seq its n ∧ its.size ≤ sizeLine ∧ Vals xs its.toList
def KT (K : PySem.W.Frag) (a : Addr) (xs : List V) : Prop := ∃ (o : Obj) (its : Array Value) (n : Nat), K.lookup a = some o ∧ o.cls = .type "tuple" ∧ o.data = .seq its n ∧ its.size ≤ sizeLine ∧ Vals xs its.toList
/-- .. one that stays -/
def StL (K : PySem.W.Frag) (ρ : Rg) (H : Hp) (a : Addr) (xs : List V) : Prop := (Rd H a (.lst xs) ∧ Out ρ a) ∨ KL K a xs
def StT (K : PySem.W.Frag) (ρ : Rg) (H : Hp) (a : Addr) (xs : List V) : Prop := H a = some (.tup xs) ∧ Out ρ a
theorem StL.sq {K : PySem.W.Frag} {ρ : Rg} {H : Hp} {a : Addr} {xs : List V} (h : StL K ρ H a xs) : SqL K H a xs := by
  rcases h with ⟨h, _⟩ | h
  · exact .inl h
  · exact .inr h
theorem StT.sq {K : PySem.W.Frag} {ρ : Rg} {H : Hp} {a : Addr} {xs : List V} (h : StT K ρ H a xs) : SqT K H a xs := .inl (.inl h.1)
mutual
inductive Rv (K : PySem.W.Frag) (ρ : Rg) (H : Hp) : V → Dv → Prop
  | non : Rv K ρ H .non .non
  | bl (b : Bool) : Rv K ρ H (.bl b) (.bl b)
  | int (i : Int) : Rv K ρ H (.int i) (.int i)
  | str (x : Str) (h : OkS x) : Rv K ρ H (.str x) (.str x)
  | tup {a : Addr} {vs : List V} {ds : List Dv} (h : StT K ρ H a vs) (r : RvA K ρ H vs ds) : Rv K ρ H (.ref a) (.tup ds)
  | lst {a : Addr} {vs : List V} {ds : List Dv} (h : H a = some (.lst vs)) (n : Out ρ a) (r : RvA K ρ H vs ds) : Rv K ρ H (.ref a) (.lst ds)
  | con {a : Addr} {vs : List V} {ds : List Dv} (h : StL K ρ H a vs) (r : RvA K ρ H vs ds) : Rv K ρ H (.ref a) (.con ds)
  | dct {a : Addr} {kvs : List (Key × V)} {dks : List (Key × Dv)} (h : H a = some (.dK kvs)) (n : Out ρ a) (e : kvs.map (·.1) = dks.map (·.1)) (r : RvA K ρ H (kvs.map (·.2)) (dks.map (·.2))) : Rv K ρ H (.ref a) (.dct dks)
  | loc {n : Nat} {a : Addr} (h : ρ.s[n]? = some a) : Rv K ρ H (.ref a) (.loc n)
  | exc {a dx : Addr} {c : Str} {fv : List (Str × V)} {fs : List (Str × Dv)} (h : H a = some (exo a (He.ga K c) (some dx))) (n : Out ρ a) (hd : H dx = some (exd dx fv)) (nd : Out ρ dx) (e : fv.map (·.1) = fs.map (·.1)) (r : RvA K ρ H (fv.map (·.2)) (fs.map (·.2))) : Rv K ρ H (.ref a) (.exc c fs)
  | exc0 {a : Addr} {c : Str} (h : H a = some (exo a (He.ga K c) none)) (n : Out ρ a) : Rv K ρ H (.ref a) (.exc c [])
inductive RvA (K : PySem.W.Frag) (ρ : Rg) (H : Hp) : List V → List Dv → Prop
  | nil : RvA K ρ H [] []
  | cons {v : V} {vs : List V} {d : Dv} {ds : List Dv} (h : Rv K ρ H v d) (r : RvA K ρ H vs ds) : RvA K ρ H (v :: vs) (d :: ds)
end

/-- an object of the store at a -/
def Ro (K : PySem.W.Frag) (ρ : Rg) (H : Hp) (a : Addr) : Ob → Prop
  | .lst ds => ∃ vs, H a = some (.lst vs) ∧ RvA K ρ H vs ds
  | .dK dks => ∃ kvs, H a = some (.dK kvs) ∧ kvs.map (·.1) = dks.map (·.1) ∧ RvA K ρ H (kvs.map (·.2)) (dks.map (·.2))
  | .dT dks => ∃ kvs, H a = some (.dT kvs) ∧ kvs.map (·.1) = dks.map (·.1) ∧ RvA K ρ H (kvs.map (·.2)) (dks.map (·.2))
  | .ins c fs => ∃ dx fv, H a = some (.ins (He.ga K c) dx fv) ∧ (H dx = some (.own a) ∧ Out ρ dx) ∧ fv.map (·.1) = fs.map (·.1) ∧ RvA K ρ H (fv.map (·.2)) (fs.map (·.2))

def Fok (G : Gx) (ρ : Rg) (H : Hp) : Prop := match G.fx with
  | none => True
  | some (_, _, c, q, σ, δ) => (H c = some (LamX.CodeO c q) ∧ Out ρ c) ∧ ∀ (i : Nat) (d : Dv), δ[i]? = some (some d) → ∃ v, σ[i]? = some (some v) ∧ Rv G.K ρ H v d
def XokE (G : Gx) (ρ : Rg) (H : Hp) : Prop := match G.xc with
  | none => True
  | some (dd, fs, _, _) => ∃ fv : List (Str × V), H dd = some (.xd fv) ∧ Out ρ dd ∧ fv.map (·.1) = fs.map (·.1) ∧ RvA G.K ρ H (fv.map (·.2)) (fs.map (·.2))
def Xok (G : Gx) (ρ : Rg) (H : Hp) : Prop := XokE G ρ H ∧ Fok G ρ H
/-- no table, no code object -/
def Pv (o : HO) : Prop := NoTbl o ∧ ∀ c q, o ≠ LamX.CodeO c q
structure RS (G : Gx) (ρ : Rg) (H : Hp) (S : Sto) : Prop where
  len : ρ.s.length = S.length
  nd : ρ.s.Nodup
  bt : ∀ a ∈ ρ.b, a ∉ ρ.s ∧ ∃ o, H a = some o ∧ Pv o
  ob : ∀ (n : Nat) (a : Addr) (o : Ob), ρ.s[n]? = some a → S[n]? = some o → Ro G.K ρ H a o
  tab : LamX.Tabs G.T H
  xok : Xok G ρ H

/-- nothing was at a, but perhaps a table -/
def Nw (H : Hp) (a : Addr) : Prop := ∀ o, H a = some o → ¬ NoTbl o
theorem Nw.of {H : Hp} {a : Addr} (h : H a = none) : Nw H a := fun o e => by rw [h] at e; cases e
/-- what may have happened between two places -/
structure Stp (ρ : Rg) (H : Hp) (ρ' : Rg) (H' : Hp) : Prop where
  pre : ∃ more, ρ'.s = ρ.s ++ more ∧ ∀ a ∈ more, a ∉ ρ.s ∧ Nw H a
  pb : ρ'.b = ρ.b
  kept : ∀ a o, H a = some o → a ∉ ρ.s → NoTbl o → H' a = some o

theorem Stp.refl {ρ : Rg} {H : Hp} : Stp ρ H ρ H := ⟨⟨[], by simp, fun _ h => nomatch h⟩, rfl, fun _ _ h _ _ => h⟩
theorem Stp.nins {ρ ρ' : Rg} {H H' : Hp} (s : Stp ρ H ρ' H') {a : Addr} {o : HO} (h : H a = some o) (nt : NoTbl o) (n : a ∉ ρ.s) : a ∉ ρ'.s := by
  obtain ⟨more, e, f⟩ := s.pre
  rw [e]
  intro m
  rcases List.mem_append.mp m with m | m
  · exact n m
  · exact (f a m).2 o h nt
theorem Stp.nin {ρ ρ' : Rg} {H H' : Hp} (s : Stp ρ H ρ' H') {a : Addr} {o : HO} (h : H a = some o) (nt : NoTbl o) (n : Out ρ a) : Out ρ' a := ⟨s.nins h nt n.1, by rw [s.pb]; exact n.2⟩
theorem Stp.trans {ρ ρ1 ρ2 : Rg} {H H1 H2 : Hp} (s : Stp ρ H ρ1 H1) (t : Stp ρ1 H1 ρ2 H2) : Stp ρ H ρ2 H2 := by
  obtain ⟨m1, e1, f1⟩ := s.pre
  obtain ⟨m2, e2, f2⟩ := t.pre
  refine ⟨⟨m1 ++ m2, by rw [e2, e1, List.append_assoc], fun a h => ?_⟩, t.pb.trans s.pb, fun a o h n nt => t.kept a o (s.kept a o h n nt) (s.nins h nt n) nt⟩
  rcases List.mem_append.mp h with h | h
  · exact f1 a h
  · have z : a ∉ ρ.s := fun m => (f2 a h).1 (by rw [e1]; exact List.mem_append_left _ m)
    exact ⟨z, fun o q nt => (f2 a h).2 o (s.kept a o q z nt) nt⟩
theorem Stp.get {ρ ρ' : Rg} {H H' : Hp} (s : Stp ρ H ρ' H') {n : Nat} {a : Addr} (h : ρ.s[n]? = some a) : ρ'.s[n]? = some a := by
  obtain ⟨more, e, _⟩ := s.pre
  have hl := (List.getElem?_eq_some_iff.mp h).1
  rw [e, List.getElem?_append_left hl]
  exact h
/-- a new object outside the store -/
theorem Stp.new {ρ : Rg} {H : Hp} {p : Addr} {o : HO} (h : H p = none) : Stp ρ H ρ (upd H p o) :=
  ⟨⟨[], by simp, fun _ z => nomatch z⟩, rfl, fun a u e _ _ => by rw [upd_ne (ne_of_none e h)]; exact e⟩
/-- a new object of the store -/
def Rg.add (ρ : Rg) (p : Addr) : Rg := ⟨ρ.s ++ [p], ρ.b⟩
theorem Stp.newS {ρ : Rg} {H : Hp} {p : Addr} {o : HO} (h : H p = none) (np : p ∉ ρ.s) : Stp ρ H (ρ.add p) (upd H p o) :=
  ⟨⟨[p], rfl, fun a m => by rw [List.mem_singleton.mp m]; exact ⟨np, Nw.of h⟩⟩, rfl, fun a u e _ _ => by rw [upd_ne (ne_of_none e h)]; exact e⟩
/-- an object of the store is changed -/
theorem Stp.put {ρ : Rg} {H : Hp} {p : Addr} {o : HO} (h : p ∈ ρ.s) : Stp ρ H ρ (upd H p o) :=
  ⟨⟨[], by simp, fun _ z => nomatch z⟩, rfl, fun a u e n _ => by rw [upd_ne (fun z => n (by rw [z]; exact h))]; exact e⟩

/-- .. where more may have been made private besides -/
structure StB (ρ : Rg) (H : Hp) (ρ' : Rg) (H' : Hp) : Prop where
  pre : ∃ more, ρ'.s = ρ.s ++ more ∧ ∀ a ∈ more, a ∉ ρ.s ∧ Nw H a
  pb : ∃ more, ρ'.b = ρ.b ++ more ∧ ∀ a ∈ more, Nw H a
  kept : ∀ a o, H a = some o → a ∉ ρ.s → NoTbl o → H' a = some o
theorem Stp.b {ρ ρ' : Rg} {H H' : Hp} (s : Stp ρ H ρ' H') : StB ρ H ρ' H' := ⟨s.pre, ⟨[], by rw [s.pb]; simp, fun _ h => nomatch h⟩, s.kept⟩
theorem StB.nins {ρ ρ' : Rg} {H H' : Hp} (s : StB ρ H ρ' H') {a : Addr} {o : HO} (h : H a = some o) (nt : NoTbl o) (n : a ∉ ρ.s) : a ∉ ρ'.s := by
  obtain ⟨more, e, f⟩ := s.pre
  rw [e]
  intro m
  rcases List.mem_append.mp m with m | m
  · exact n m
  · exact (f a m).2 o h nt
theorem StB.nin {ρ ρ' : Rg} {H H' : Hp} (s : StB ρ H ρ' H') {a : Addr} {o : HO} (h : H a = some o) (nt : NoTbl o) (n : Out ρ a) : Out ρ' a := by
  refine ⟨s.nins h nt n.1, ?_⟩
  obtain ⟨more, e, f⟩ := s.pb
  rw [e]
  intro m
  rcases List.mem_append.mp m with m | m
  · exact n.2 m
  · exact f a m o h nt
theorem StB.get {ρ ρ' : Rg} {H H' : Hp} (s : StB ρ H ρ' H') {n : Nat} {a : Addr} (h : ρ.s[n]? = some a) : ρ'.s[n]? = some a := by
  obtain ⟨more, e, _⟩ := s.pre
  have hl := (List.getElem?_eq_some_iff.mp h).1
  rw [e, List.getElem?_append_left hl]
  exact h
theorem StB.trans {ρ ρ1 ρ2 : Rg} {H H1 H2 : Hp} (s : StB ρ H ρ1 H1) (t : Stp ρ1 H1 ρ2 H2) : StB ρ H ρ2 H2 := by
  obtain ⟨m1, e1, f1⟩ := s.pre
  obtain ⟨m2, e2, f2⟩ := t.pre
  refine ⟨⟨m1 ++ m2, by rw [e2, e1, List.append_assoc], fun a h => ?_⟩, by rw [t.pb]; exact s.pb, fun a o h n nt => t.kept a o (s.kept a o h n nt) (s.nins h nt n) nt⟩
  rcases List.mem_append.mp h with h | h
  · exact f1 a h
  · have z : a ∉ ρ.s := fun m => (f2 a h).1 (by rw [e1]; exact List.mem_append_left _ m)
    exact ⟨z, fun o q nt => (f2 a h).2 o (s.kept a o q z nt) nt⟩
theorem StT.stepB {K : PySem.W.Frag} {ρ ρ' : Rg} {H H' : Hp} {a : Addr} {vs : List V} (s : StB ρ H ρ' H') (h : StT K ρ H a vs) : StT K ρ' H' a vs := ⟨s.kept _ _ h.1 h.2.1 (fun _ z => nomatch z), s.nin h.1 (fun _ z => nomatch z) h.2⟩
theorem StL.stepB {K : PySem.W.Frag} {ρ ρ' : Rg} {H H' : Hp} {a : Addr} {vs : List V} (s : StB ρ H ρ' H') (h : StL K ρ H a vs) : StL K ρ' H' a vs := by
  rcases h with ⟨h | ⟨o, h⟩, n⟩ | h
  · exact .inl ⟨.inl (s.kept _ _ h n.1 (fun _ z => nomatch z)), s.nin h (fun _ z => nomatch z) n⟩
  · exact .inl ⟨.inr ⟨o, s.kept _ _ h n.1 (fun _ z => nomatch z)⟩, s.nin h (fun _ z => nomatch z) n⟩
  · exact .inr h
mutual
theorem Rv.stepB {K : PySem.W.Frag} {ρ ρ' : Rg} {H H' : Hp} (s : StB ρ H ρ' H') : ∀ {v : V} {d : Dv}, Rv K ρ H v d → Rv K ρ' H' v d
  | _, _, .non => .non
  | _, _, .bl b => .bl b
  | _, _, .int i => .int i
  | _, _, .str x h => .str x h
  | _, _, .tup h r => .tup (h.stepB s) (RvA.stepB s r)
  | _, _, .lst h n r => .lst (s.kept _ _ h n.1 (fun _ z => nomatch z)) (s.nin h (fun _ z => nomatch z) n) (RvA.stepB s r)
  | _, _, .con h r => .con (h.stepB s) (RvA.stepB s r)
  | _, _, .dct h n e r => .dct (s.kept _ _ h n.1 (fun _ z => nomatch z)) (s.nin h (fun _ z => nomatch z) n) e (RvA.stepB s r)
  | _, _, .loc h => .loc (s.get h)
  | _, _, .exc h n hd nd e r => .exc (s.kept _ _ h n.1 (fun _ => exo_tbl)) (s.nin h (fun _ => exo_tbl) n) (s.kept _ _ hd nd.1 (fun _ => exd_tbl)) (s.nin hd (fun _ => exd_tbl) nd) e (RvA.stepB s r)
  | _, _, .exc0 h n => .exc0 (s.kept _ _ h n.1 (fun _ => exo_tbl)) (s.nin h (fun _ => exo_tbl) n)
theorem RvA.stepB {K : PySem.W.Frag} {ρ ρ' : Rg} {H H' : Hp} (s : StB ρ H ρ' H') : ∀ {vs : List V} {ds : List Dv}, RvA K ρ H vs ds → RvA K ρ' H' vs ds
  | _, _, .nil => .nil
  | _, _, .cons h r => .cons (Rv.stepB s h) (RvA.stepB s r)
end
theorem StT.step {K : PySem.W.Frag} {ρ ρ' : Rg} {H H' : Hp} {a : Addr} {vs : List V} (s : Stp ρ H ρ' H') (h : StT K ρ H a vs) : StT K ρ' H' a vs := h.stepB s.b
theorem StL.step {K : PySem.W.Frag} {ρ ρ' : Rg} {H H' : Hp} {a : Addr} {vs : List V} (s : Stp ρ H ρ' H') (h : StL K ρ H a vs) : StL K ρ' H' a vs := h.stepB s.b
theorem Rv.step {K : PySem.W.Frag} {ρ ρ' : Rg} {H H' : Hp} (s : Stp ρ H ρ' H') {v : V} {d : Dv} (h : Rv K ρ H v d) : Rv K ρ' H' v d := h.stepB s.b
theorem RvA.step {K : PySem.W.Frag} {ρ ρ' : Rg} {H H' : Hp} (s : Stp ρ H ρ' H') {vs : List V} {ds : List Dv} (h : RvA K ρ H vs ds) : RvA K ρ' H' vs ds := h.stepB s.b
/-! what is private, or the store's, does not matter to a value -/
structure Agr (ρ : Rg) (H : Hp) (ρ' : Rg) (H' : Hp) : Prop where
  s : ρ'.s = ρ.s
  out : ∀ a, Out ρ a → Out ρ' a
  h : ∀ a, Out ρ a → H' a = H a
mutual
theorem Rv.agr {K : PySem.W.Frag} {ρ ρ' : Rg} {H H' : Hp} (s : Agr ρ H ρ' H') : ∀ {v : V} {d : Dv}, Rv K ρ H v d → Rv K ρ' H' v d
  | _, _, .non => .non
  | _, _, .bl b => .bl b
  | _, _, .int i => .int i
  | _, _, .str x h => .str x h
  | _, _, .tup ⟨h, n⟩ r => .tup ⟨by rw [s.h _ n]; exact h, s.out _ n⟩ (RvA.agr s r)
  | _, _, .lst h n r => .lst (by rw [s.h _ n]; exact h) (s.out _ n) (RvA.agr s r)
  | _, _, .con (.inl ⟨h, n⟩) r => .con (.inl ⟨by unfold Rd; rw [s.h _ n]; exact h, s.out _ n⟩) (RvA.agr s r)
  | _, _, .con (.inr h) r => .con (.inr h) (RvA.agr s r)
  | _, _, .dct h n e r => .dct (by rw [s.h _ n]; exact h) (s.out _ n) e (RvA.agr s r)
  | _, _, .loc h => .loc (by rw [s.s]; exact h)
  | _, _, .exc h n hd nd e r => .exc (by rw [s.h _ n]; exact h) (s.out _ n) (by rw [s.h _ nd]; exact hd) (s.out _ nd) e (RvA.agr s r)
  | _, _, .exc0 h n => .exc0 (by rw [s.h _ n]; exact h) (s.out _ n)
theorem RvA.agr {K : PySem.W.Frag} {ρ ρ' : Rg} {H H' : Hp} (s : Agr ρ H ρ' H') : ∀ {vs : List V} {ds : List Dv}, RvA K ρ H vs ds → RvA K ρ' H' vs ds
  | _, _, .nil => .nil
  | _, _, .cons h r => .cons (Rv.agr s h) (RvA.agr s r)
end
theorem RvA.length {K : PySem.W.Frag} {ρ : Rg} {H : Hp} : ∀ {vs : List V} {ds : List Dv}, RvA K ρ H vs ds → vs.length = ds.length
  | _, _, .nil => rfl
  | _, _, .cons _ r => congrArg (· + 1) (RvA.length r)
theorem RvA.get {K : PySem.W.Frag} {ρ : Rg} {H : Hp} : ∀ {vs : List V} {ds : List Dv} {i : Nat} {d : Dv}, RvA K ρ H vs ds → ds[i]? = some d → ∃ v, vs[i]? = some v ∧ Rv K ρ H v d
  | _, _, _, _, .nil, e => by simp at e
  | _, _, 0, _, .cons h _, e => by
    simp at e
    subst e
    exact ⟨_, rfl, h⟩
  | _, _, i + 1, d, .cons _ r, e => by
    obtain ⟨v, h1, h2⟩ := RvA.get (i := i) (d := d) r (by simpa using e)
    exact ⟨v, by simpa using h1, h2⟩
theorem RvA.app {K : PySem.W.Frag} {ρ : Rg} {H : Hp} : ∀ {vs ws : List V} {ds es : List Dv}, RvA K ρ H vs ds → RvA K ρ H ws es → RvA K ρ H (vs ++ ws) (ds ++ es)
  | _, _, _, _, .nil, s => s
  | _, _, _, _, .cons h r, s => .cons h (RvA.app r s)
theorem Ro.step {K : PySem.W.Frag} {ρ ρ' : Rg} {H H' : Hp} {a : Addr} {o : Ob} (s : Stp ρ H ρ' H') (e : H' a = H a) (h : Ro K ρ H a o) : Ro K ρ' H' a o := by
  cases o with
  | lst ds =>
    obtain ⟨vs, h1, h2⟩ := h
    exact ⟨vs, e.trans h1, h2.step s⟩
  | dK dks =>
    obtain ⟨vs, h1, h3, h2⟩ := h
    exact ⟨vs, e.trans h1, h3, h2.step s⟩
  | dT dks =>
    obtain ⟨vs, h1, h3, h2⟩ := h
    exact ⟨vs, e.trans h1, h3, h2.step s⟩
  | ins c fs =>
    obtain ⟨dx, fv, h1, ⟨h4, h5⟩, h3, h2⟩ := h
    exact ⟨dx, fv, e.trans h1, ⟨s.kept _ _ h4 h5.1 (fun _ z => nomatch z), s.nin h4 (fun _ z => nomatch z) h5⟩, h3, h2.step s⟩
theorem Ro.some {K : PySem.W.Frag} {ρ : Rg} {H : Hp} {a : Addr} {o : Ob} (h : Ro K ρ H a o) : ∃ u, H a = some u ∧ NoTbl u ∧ ∀ c q, u ≠ LamX.CodeO c q := by
  cases o with
  | lst ds =>
    obtain ⟨vs, h1, _⟩ := h
    exact ⟨_, h1, (fun _ z => by cases z), (fun _ _ z => by cases z)⟩
  | dK dks =>
    obtain ⟨vs, h1, _⟩ := h
    exact ⟨_, h1, (fun _ z => by cases z), (fun _ _ z => by cases z)⟩
  | dT dks =>
    obtain ⟨vs, h1, _⟩ := h
    exact ⟨_, h1, (fun _ z => by cases z), (fun _ _ z => by cases z)⟩
  | ins c fs =>
    obtain ⟨dx, fv, h1, _⟩ := h
    exact ⟨_, h1, (fun _ z => by cases z), (fun _ _ z => by cases z)⟩
theorem Ro.agr {K : PySem.W.Frag} {ρ ρ' : Rg} {H H' : Hp} {a : Addr} {o : Ob} (s : Agr ρ H ρ' H') (e : H' a = H a) (h : Ro K ρ H a o) : Ro K ρ' H' a o := by
  cases o with
  | lst ds =>
    obtain ⟨vs, h1, h2⟩ := h
    exact ⟨vs, e.trans h1, h2.agr s⟩
  | dK dks =>
    obtain ⟨vs, h1, h3, h2⟩ := h
    exact ⟨vs, e.trans h1, h3, h2.agr s⟩
  | dT dks =>
    obtain ⟨vs, h1, h3, h2⟩ := h
    exact ⟨vs, e.trans h1, h3, h2.agr s⟩
  | ins c fs =>
    obtain ⟨dx, fv, h1, ⟨h4, h5⟩, h3, h2⟩ := h
    exact ⟨dx, fv, e.trans h1, ⟨by rw [s.h _ h5]; exact h4, s.out _ h5⟩, h3, h2.agr s⟩
/-- an object that is no table and no code object is changed -/
theorem tabs_put {T : List (Addr × Str)} {H : Hp} {p : Addr} {o u : HO} (t : LamX.Tabs T H) (hp : H p = some u) (h1 : NoTbl u) (h2 : ∀ c q, u ≠ LamX.CodeO c q) : LamX.Tabs T (upd H p o) := fun z hz => by
  obtain ⟨ps, a1, a2, a3⟩ := t z hz
  refine ⟨ps, ?_, a2, fun pos cv hc => ?_⟩
  · rw [upd_ne]
    · exact a1
    · intro e
      rw [e, hp] at a1
      exact h1 _ (Option.some.inj a1)
  · obtain ⟨c, e1, e2⟩ := a3 pos cv hc
    refine ⟨c, e1, ?_⟩
    rw [upd_ne]
    · exact e2
    · intro e
      rw [e, hp] at e2
      exact h2 _ _ (Option.some.inj e2)
theorem codeO_nt {c : Addr} {q : Str} : NoTbl (LamX.CodeO c q) := fun ps z => LamX.codeO_ne ps z
theorem Xok.stepB {G : Gx} {ρ ρ' : Rg} {H H' : Hp} (s : StB ρ H ρ' H') (h : Xok G ρ H) : Xok G ρ' H' := by
  obtain ⟨h, k⟩ := h
  constructor
  · unfold XokE at h ⊢
    split at h
    · trivial
    · obtain ⟨fv, h1, h2, h3, h4⟩ := h
      exact ⟨fv, s.kept _ _ h1 h2.1 (fun _ z => nomatch z), s.nin h1 (fun _ z => nomatch z) h2, h3, h4.stepB s⟩
  · unfold Fok at k ⊢
    split at k
    · trivial
    · obtain ⟨k, r⟩ := k
      refine ⟨⟨s.kept _ _ k.1 k.2.1 codeO_nt, s.nin k.1 codeO_nt k.2⟩, fun i d e => ?_⟩
      obtain ⟨v, e1, e2⟩ := r i d e
      exact ⟨v, e1, e2.stepB s⟩
theorem Xok.agr {G : Gx} {ρ ρ' : Rg} {H H' : Hp} (s : Agr ρ H ρ' H') (h : Xok G ρ H) : Xok G ρ' H' := by
  obtain ⟨h, k⟩ := h
  constructor
  · unfold XokE at h ⊢
    split at h
    · trivial
    · obtain ⟨fv, h1, h2, h3, h4⟩ := h
      exact ⟨fv, by rw [s.h _ h2]; exact h1, s.out _ h2, h3, h4.agr s⟩
  · unfold Fok at k ⊢
    split at k
    · trivial
    · obtain ⟨k, r⟩ := k
      refine ⟨⟨by rw [s.h _ k.2]; exact k.1, s.out _ k.2⟩, fun i d e => ?_⟩
      obtain ⟨v, e1, e2⟩ := r i d e
      exact ⟨v, e1, e2.agr s⟩
section
variable {G : Gx} {ρ ρ' : Rg} {H H' : Hp} {S : Sto} {p a : Addr} {o : HO}
theorem RS.at (r : RS G ρ H S) {n : Nat} {a : Addr} (h : ρ.s[n]? = some a) : ∃ ob, S[n]? = some ob ∧ Ro G.K ρ H a ob := by
  have hl := (List.getElem?_eq_some_iff.mp h).1
  rw [r.len] at hl
  exact ⟨S[n], List.getElem?_eq_getElem hl, r.ob n a _ h (List.getElem?_eq_getElem hl)⟩
theorem RS.mem (r : RS G ρ H S) (h : a ∈ ρ.s) : ∃ u, H a = some u ∧ NoTbl u ∧ ∀ c q, u ≠ LamX.CodeO c q := by
  obtain ⟨n, hn, e⟩ := List.mem_iff_getElem.mp h
  obtain ⟨ob, _, q⟩ := r.at (n := n) (a := a) (by rw [List.getElem?_eq_getElem hn, e])
  exact q.some
/-- a new object that the store does not hold -/
theorem RS.new (r : RS G ρ H S) (h : H p = none) : RS G ρ (upd H p o) S :=
  ⟨r.len, r.nd, fun a m => ⟨(r.bt a m).1, by
    obtain ⟨u, e, pv⟩ := (r.bt a m).2
    exact ⟨u, by rw [upd_ne (ne_of_none e h)]; exact e, pv⟩⟩, fun n a ob e1 e2 => by
    have q := r.ob n a ob e1 e2
    obtain ⟨u, hu, _⟩ := q.some
    exact q.step (Stp.new h) (by rw [upd_ne (ne_of_none hu h)]), r.tab.ext fun b u e => by rw [upd_ne (ne_of_none e h)]; exact e, r.xok.stepB (Stp.new h).b⟩
/-- a private object is changed -/
theorem RS.putB (r : RS G ρ H S) (hp : p ∈ ρ.b) {vs : List V} (hl : H p = some (.lst vs)) (po : Pv o := by exact ⟨fun _ z => (by cases z), fun _ _ z => (by cases z)⟩) : RS G ρ (upd H p o) S := by
  have np := (r.bt p hp).1
  have ag : Agr ρ H ρ (upd H p o) := ⟨rfl, fun _ z => z, fun a n => upd_ne fun e => n.2 (by rw [e]; exact hp)⟩
  refine ⟨r.len, r.nd, fun a m => ⟨(r.bt a m).1, ?_⟩, fun n a ob e1 e2 => (r.ob n a ob e1 e2).agr ag (upd_ne fun e => np (by rw [← e]; exact List.mem_of_getElem? e1)), tabs_put r.tab hl (fun _ z => by cases z) (fun _ _ z => by cases z), r.xok.agr ag⟩
  by_cases e : a = p
  · exact ⟨o, by rw [e, upd_same], po⟩
  · obtain ⟨u, q, pv⟩ := (r.bt a m).2
    exact ⟨u, by rw [upd_ne e]; exact q, pv⟩
/-- one more is private | is so no more -/
def Rg.hide (ρ : Rg) (p : Addr) : Rg := ⟨ρ.s, ρ.b ++ [p]⟩
theorem RS.hide (r : RS G ρ H S) (hp : H p = none) (po : Pv o := by exact ⟨fun _ z => (by cases z), fun _ _ z => (by cases z)⟩) : RS G (ρ.hide p) (upd H p o) S := by
  have n := r.new (o := o) hp
  have ag : StB ρ H (ρ.hide p) (upd H p o) := ⟨⟨[], by simp [Rg.hide], fun _ z => nomatch z⟩, ⟨[p], rfl, fun a m => by rw [List.mem_singleton.mp m]; exact Nw.of hp⟩, (Stp.new (ρ := ρ) (o := o) hp).kept⟩
  refine ⟨r.len, r.nd, fun a m => ?_, fun n a ob e1 e2 => ?_, n.tab, r.xok.stepB ag⟩
  · rcases List.mem_append.mp m with m | m
    · exact n.bt a m
    · rw [List.mem_singleton.mp m]
      refine ⟨fun z => ?_, ⟨o, upd_same, po⟩⟩
      obtain ⟨u, q, _⟩ := r.mem z
      rw [hp] at q
      cases q
  · have q := r.ob n a ob e1 e2
    obtain ⟨u, hu, _⟩ := q.some
    have e3 : upd H p o a = H a := upd_ne (ne_of_none hu hp)
    cases ob with
    | lst ds =>
      obtain ⟨vs, h1, h2⟩ := q
      exact ⟨vs, e3.trans h1, h2.stepB ag⟩
    | dK dks =>
      obtain ⟨vs, h1, h3, h2⟩ := q
      exact ⟨vs, e3.trans h1, h3, h2.stepB ag⟩
    | dT dks =>
      obtain ⟨vs, h1, h3, h2⟩ := q
      exact ⟨vs, e3.trans h1, h3, h2.stepB ag⟩
    | ins c fs =>
      obtain ⟨dx, fv, h1, ⟨h4, h5⟩, h3, h2⟩ := q
      exact ⟨dx, fv, e3.trans h1, ⟨ag.kept _ _ h4 h5.1 (fun _ z => nomatch z), ag.nin h4 (fun _ z => nomatch z) h5⟩, h3, h2.stepB ag⟩
theorem RS.show (r : RS G ρ' H S) (es : ρ'.s = ρ.s) (eb : ρ'.b = ρ.b ++ [p]) : RS G ρ H S := by
  have ag : Agr ρ' H ρ H := ⟨es.symm, fun a n => ⟨by rw [← es]; exact n.1, fun m => n.2 (by rw [eb]; exact List.mem_append_left _ m)⟩, fun _ _ => rfl⟩
  exact ⟨by rw [← es]; exact r.len, by rw [← es]; exact r.nd, fun a m => by rw [← es]; exact r.bt a (by rw [eb]; exact List.mem_append_left _ m), fun n a ob e1 e2 => (r.ob n a ob (by rw [es]; exact e1) e2).agr ag rfl, r.tab, r.xok.agr ag⟩
end
def SlX (G : Gx) (σ : L2.St) : Prop := (∀ q, G.xc = some q → σ[q.2.2.1]? = some (some (.ref q.2.2.2))) ∧ ∀ q, G.fx = some q → σ[q.1]? = some (some (.ref q.2.1))
def SlotOk (G : Gx) (i : Nat) : Prop := (∀ q, G.xc = some q → i ≠ q.2.2.1) ∧ ∀ q, G.fx = some q → i ≠ q.1
theorem slotOk_none {G : Gx} {i : Nat} (h : G.xc = none ∧ G.fx = none) : SlotOk G i := ⟨fun q e => (by rw [h.1] at e; cases e), fun q e => (by rw [h.2] at e; cases e)⟩
theorem slX_none {G : Gx} {σ : L2.St} (h : G.xc = none ∧ G.fx = none) : SlX G σ := ⟨fun q e => (by rw [h.1] at e; cases e), fun q e => (by rw [h.2] at e; cases e)⟩
/-- slots -/
structure Cf (G : Gx) (ρ : Rg) (H : Hp) (σ : L2.St) (δ : En) (S : Sto) : Prop where
  rs : RS G ρ H S
  len : σ.length = δ.length
  sl : ∀ (i : Nat) (d : Dv), δ[i]? = some (some d) → ∃ v, σ[i]? = some (some v) ∧ Rv G.K ρ H v d
  xs : SlX G σ
theorem Cf.step {G : Gx} {ρ ρ' : Rg} {H H' : Hp} {σ : L2.St} {δ : En} {S S' : Sto} (c : Cf G ρ H σ δ S) (s : Stp ρ H ρ' H') (r : RS G ρ' H' S') : Cf G ρ' H' σ δ S' :=
  ⟨r, c.len, fun i d e => by
    obtain ⟨v, h1, h2⟩ := c.sl i d e
    exact ⟨v, h1, h2.step s⟩, c.xs⟩
theorem Cf.set {G : Gx} {ρ : Rg} {H : Hp} {σ : L2.St} {δ : En} {S : Sto} {v : V} {d : Dv} (c : Cf G ρ H σ δ S) (i : Nat) (h : Rv G.K ρ H v d) (hx : SlotOk G i) : Cf G ρ H (σ.set i (some v)) (δ.set i (some d)) S :=
  ⟨c.rs, by simp [c.len], fun j e he => by
    by_cases hj : i = j
    · subst hj
      have hl : i < δ.length := by
        rcases Nat.lt_or_ge i δ.length with q | q
        · exact q
        · rw [List.set_eq_of_length_le q, List.getElem?_eq_none q] at he
          cases he
      rw [List.getElem?_set_self hl] at he
      cases he
      exact ⟨v, by rw [List.getElem?_set_self (by rw [c.len]; exact hl)], h⟩
    · rw [List.getElem?_set_ne hj] at he ⊢
      exact c.sl j e he, fun q e => by rw [List.getElem?_set_ne (hx.1 q e)]; exact c.xs.1 q e, fun q e => by rw [List.getElem?_set_ne (hx.2 q e)]; exact c.xs.2 q e⟩

/-! ### exceptions -/
/-- an exception of the class named x.cls, its own dict at dx -/
def Rx (G : Gx) (ρ : Rg) (H : Hp) (c : Value) (dx : Option Addr) (x : Exn) : Prop := ∃ (C : Addr) (d : Addr) (fs : List (Str × V)), G.mg x.cls = some (.ref C) ∧ c = .ref C ∧ dx = some d ∧ H d = some (.xd fs) ∧ Out ρ d ∧
  fs.map (·.1) = x.fs.map (·.1) ∧ RvA G.K ρ H (fs.map (·.2)) (x.fs.map (·.2))
theorem Rx.step {G : Gx} {ρ ρ' : Rg} {H H' : Hp} {c : Value} {dx : Option Addr} {x : Exn} (s : Stp ρ H ρ' H') (h : Rx G ρ H c dx x) : Rx G ρ' H' c dx x := by
  obtain ⟨C, d, fs, h1, h2, h3, h4, h5, h6, h7⟩ := h
  exact ⟨C, d, fs, h1, h2, h3, s.kept _ _ h4 h5.1 (fun _ z => nomatch z), s.nin h4 (fun _ z => nomatch z) h5, h6, h7.step s⟩

/-! ### what is wanted of a mirror's result -/
def Post {α β : Type} (G : Gx) (W : WX) (σ : L2.St) (rel : Rg → Hp → β → α → Prop) (ρ : Rg) (H : Hp) (r : Res α) (Q : β → Hp → Prop) : Prop := match r with
  | .ok d S' => ∀ v H' ρ', Stp ρ H ρ' H' → RS G ρ' H' S' → rel ρ' H' v d → Q v H'
  | .ex x S' => ∀ c dx H' ρ', Stp ρ H ρ' H' → RS G ρ' H' S' → Rx G ρ' H' c dx x → W c dx σ H'
  | .bad => False
abbrev vr (G : Gx) : Rg → Hp → V → Dv → Prop := Rv G.K
abbrev ar (G : Gx) : Rg → Hp → List V → List Dv → Prop := RvA G.K
abbrev br : Rg → Hp → Bool → Bool → Prop := fun _ _ b c => b = c
section
variable {G : Gx} {W : WX} {σ : L2.St} {ρ ρ1 : Rg} {H H1 : Hp} {α β γ ε : Type} {rel : Rg → Hp → β → α → Prop} {rel2 : Rg → Hp → ε → γ → Prop}
theorem Post.mono {r : Res α} {Q Q' : β → Hp → Prop} (h : Post G W σ rel ρ H r Q) (q : ∀ v H', Q v H' → Q' v H') : Post G W σ rel ρ H r Q' := by
  cases r with
  | ok d S => exact fun v H' ρ' s rs rv => q _ _ (h v H' ρ' s rs rv)
  | ex x S => exact h
  | bad => exact h
theorem Post.step {r : Res α} {Q : β → Hp → Prop} (s : Stp ρ H ρ1 H1) (h : Post G W σ rel ρ H r Q) : Post G W σ rel ρ1 H1 r Q := by
  cases r with
  | ok d S => exact fun v H' ρ' s2 rs rv => h v H' ρ' (s.trans s2) rs rv
  | ex x S => exact fun c dx H' ρ' s2 rs rv => h c dx H' ρ' (s.trans s2) rs rv
  | bad => exact h
/-- between two words -/
def Mid (G : Gx) (W : WX) (σ : L2.St) (rel : Rg → Hp → β → α → Prop) (rel2 : Rg → Hp → ε → γ → Prop) (ρ : Rg) (H : Hp) (k : α → M γ) (Q : ε → Hp → Prop) (v : β) (H1 : Hp) : Prop :=
  ∃ ρ1 S1 d, Stp ρ H ρ1 H1 ∧ RS G ρ1 H1 S1 ∧ rel ρ1 H1 v d ∧ Post G W σ rel2 ρ1 H1 (k d S1) Q
theorem Post.bind {S : Sto} {m : M α} {k : α → M γ} {Q : ε → Hp → Prop} (h : Post G W σ rel2 ρ H (m.bind k S) Q) : Post G W σ rel ρ H (m S) (Mid G W σ rel rel2 ρ H k Q) := by
  unfold M.bind at h
  cases e : m S with
  | ok d S1 =>
    rw [e] at h
    exact fun v H1 ρ1 s rs rv => ⟨ρ1, S1, d, s, rs, rv, h.step s⟩
  | ex x S1 =>
    rw [e] at h
    exact h
  | bad =>
    rw [e] at h
    exact h
theorem Post.pure {S : Sto} {d : α} {v : β} {Q : β → Hp → Prop} (h : Post G W σ rel ρ H (M.pure d S) Q) (rs : RS G ρ H S) (r : rel ρ H v d) : Q v H := h v H ρ Stp.refl rs r
end
/-! ### readings -/
def tX {α β : Type} (G : Gx) (W : WX) (rel : Rg → Hp → β → α → Prop) (m : En → M α) : L2.St → Hp → (β → Hp → Prop) → Prop := fun σ H Q => ∃ ρ δ S, Cf G ρ H σ δ S ∧ Post G W σ rel ρ H (m δ S) Q
abbrev tE (G : Gx) (W : WX) (m : EX) : TE := tX G W (vr G) m
abbrev tB (G : Gx) (W : WX) (m : EB) : TT := tX G W br m
abbrev tA (G : Gx) (W : WX) (m : EA) : TA := tX G W (ar G) m
/-- the context agrees with what is fixed -/
structure Ctx (G : Gx) (X : Cx) : Prop where
  k : X.K = G.K
  m : X.mg = G.mg
theorem _root_.L2.PE.imp {X : Cx} {e : Expr} {t t' : TE} (h : PE X e t) (f : ∀ σ H Q, t' σ H Q → t σ H Q) : PE X e t' := ⟨fun pins s σ H Q I q => h.run pins s σ H Q I (f σ H Q q)⟩
theorem _root_.L2.PT.imp {X : Cx} {e : Expr} {t t' : TT} (h : PT X e t) (f : ∀ σ H Q, t' σ H Q → t σ H Q) : PT X e t' := ⟨fun pins s σ H Q I q => h.run pins s σ H Q I (f σ H Q q)⟩
theorem _root_.L2.PW.imp {X : Cx} {e : Expr} {t t' : TT} (h : PW X e t) (f : ∀ σ H Q, t' σ H Q → t σ H Q) : PW X e t' := ⟨fun wh pins s σ H Q I q => h.run wh pins s σ H Q I (f σ H Q q)⟩
theorem _root_.L2.PA.imp {X : Cx} {e : List Expr} {t t' : TA} (h : PA X e t) (f : ∀ σ H Q, t' σ H Q → t σ H Q) : PA X e t' := ⟨fun pos pins s σ H Q I q => h.run pos pins s σ H Q I (f σ H Q q)⟩
theorem _root_.L2.PS.imp {X : Cx} {e : Stmt} {t t' : TS} (h : PS X e t) (f : ∀ D σ H, t' D σ H → t D σ H) : PS X e t' := ⟨fun pins s σ H D I q => h.run pins s σ H D I (f D σ H q)⟩
theorem _root_.L2.PSs.imp {X : Cx} {e : List Stmt} {t t' : TS} (h : PSs X e t) (f : ∀ D σ H, t' D σ H → t D σ H) : PSs X e t' := ⟨fun pins s σ H D I q => h.run pins s σ H D I (f D σ H q)⟩
section
variable {G : Gx} {W : WX} {X : Cx} {a b c : Expr} {es : List Expr} {ma mb : EX} {ca cb : EB} {pos : Pos}
/-! ### names, constants -/
theorem re_var {i : Nat} {x : Str} (h : PE X (.Name x pos) (tVar i)) : PE X (.Name x pos) (tE G W (eVar i)) := h.imp fun σ H Q q => by
  obtain ⟨ρ, δ, S, cf, p⟩ := q
  unfold eVar at p
  cases e : δ[i]? with
  | none =>
    rw [e] at p
    exact p.elim
  | some o =>
    rw [e] at p
    cases o with
    | none => exact p.elim
    | some d =>
      obtain ⟨v, h1, h2⟩ := cf.sl i d e
      exact ⟨v, h1, Post.pure p cf.rs h2⟩
theorem re_c {v : V} {d : Dv} (hv : ∀ ρ H, Rv G.K ρ H v d) (h : PE X a (tC v)) : PE X a (tE G W (eC d)) := h.imp fun σ H Q q => by
  obtain ⟨ρ, δ, S, cf, p⟩ := q
  exact p.pure cf.rs (hv ρ H)
theorem re_int {i j} : PE X (.Constant (.int i) j pos) (tE G W (eC (.int i))) := re_c (fun _ _ => .int i) pe_int
theorem re_bl {b j} : PE X (.Constant (.bool b) j pos) (tE G W (eC (.bl b))) := re_c (fun _ _ => .bl b) pe_bl
theorem re_non {j} : PE X (.Constant .none j pos) (tE G W (eC .non)) := re_c (fun _ _ => .non) pe_non
theorem re_str {x j} (h : OkS x := by unfold OkS; decide +kernel) : PE X (.Constant (.str x) j pos) (tE G W (eC (.str x))) := re_c (fun _ _ => .str x h) pe_str
/-! ### operators by values -/
def Op2 (G : Gx) (W : WX) (r : R2) (f : Dv → Dv → M Dv) : Prop := ∀ (ρ : Rg) (H : Hp) (σ : L2.St) (S : Sto) (x y : V) (d e : Dv) (Q : VK), RS G ρ H S → Rv G.K ρ H x d → Rv G.K ρ H y e → Post G W σ (vr G) ρ H (f d e S) Q → r x y H Q
def Op1 (G : Gx) (W : WX) (r : V → Hp → VK → Prop) (f : Dv → M Dv) : Prop := ∀ (ρ : Rg) (H : Hp) (σ : L2.St) (S : Sto) (x : V) (d : Dv) (Q : VK), RS G ρ H S → Rv G.K ρ H x d → Post G W σ (vr G) ρ H (f d S) Q → r x H Q
def OpN (G : Gx) (W : WX) (r : List V → Hp → VK → Prop) (f : List Dv → M Dv) : Prop := ∀ (ρ : Rg) (H : Hp) (σ : L2.St) (S : Sto) (xs : List V) (ds : List Dv) (Q : VK), RS G ρ H S → RvA G.K ρ H xs ds → Post G W σ (vr G) ρ H (f ds S) Q → r xs H Q
theorem t_op {r : R2} {f : Dv → Dv → M Dv} (hf : Op2 G W r f) {σ : L2.St} {H : Hp} {Q : VK} (q : tE G W (e2 f ma mb) σ H Q) : tOp r (tE G W ma) (tE G W mb) σ H Q := by
  obtain ⟨ρ, δ, S, cf, p⟩ := q
  refine ⟨ρ, δ, S, cf, (Post.bind p).mono fun x H1 ⟨ρ1, S1, d, s1, rs1, rx, p1⟩ => ?_⟩
  refine ⟨ρ1, δ, S1, cf.step s1 rs1, (Post.bind p1).mono fun y H2 ⟨ρ2, S2, e, s2, rs2, ry, p2⟩ => ?_⟩
  exact hf ρ2 H2 σ S2 x y d e Q rs2 (rx.step s2) ry p2
theorem re_op {op : Operator} {r : R2} {f : Dv → Dv → M Dv} (ho : OpR X (binaryOp op) r) (hf : Op2 G W r f) (ha : PE X a (tE G W ma)) (hb : PE X b (tE G W mb)) : PE X (.BinOp a op b pos) (tE G W (e2 f ma mb)) := (pe_op ho ha hb).imp fun _ _ _ q => t_op hf q
theorem re_cmp {op : CmpOp} {r : R2} {f : Dv → Dv → M Dv} (ho : OpR X (compareOp op) r) (hf : Op2 G W r f) (ha : PE X a (tE G W ma)) (hb : PE X b (tE G W mb)) (hm : behindInMarks op b = false) : PE X (.Compare a [op] [b] pos) (tE G W (e2 f ma mb)) :=
  (pe_cmpR ho ha hb hm).imp fun _ _ _ q => t_op hf q
theorem t_un {r : V → Hp → VK → Prop} {f : Dv → M Dv} (hf : Op1 G W r f) {σ : L2.St} {H : Hp} {Q : VK} (q : tE G W (e1 f ma) σ H Q) : tUn r (tE G W ma) σ H Q := by
  obtain ⟨ρ, δ, S, cf, p⟩ := q
  exact ⟨ρ, δ, S, cf, (Post.bind p).mono fun x H1 ⟨ρ1, S1, d, s1, rs1, rx, p1⟩ => hf ρ1 H1 σ S1 x d Q rs1 rx p1⟩
theorem re_un {op : UnaryOp} {r : V → Hp → VK → Prop} {f : Dv → M Dv} (ho : UnR X (unaryOp op) r) (hf : Op1 G W r f) (ha : PE X a (tE G W ma)) : PE X (.UnaryOp op a pos) (tE G W (e1 f ma)) := (pe_un ho ha).imp fun _ _ _ q => t_un hf q
end
end Mi
end T_Sim
section T_Sim2
set_option Elab.async false
set_option linter.all false
set_option maxRecDepth 100000
set_option maxHeartbeats 2000000
namespace Mi
open PySem PySem.Spec PyProof.Rows L2
/-! ### tests, and, or, not, if -/
section
variable {G : Gx} {W : WX} {X : Cx} {a b c : Expr} {es rest : List Expr} {ma mb : EX} {ca cb : EB} {mr : EA} {pos : Pos}
theorem rt_of (h : PE X a (tE G W ma)) (he : ∀ whole, isTrue a X.env whole = (do let v ← whole; standAt a.pos; holding [v] (truthy v)) := by intro _; rfl) : PT X a (tB G W (bOf ma)) := (pt_val h he).imp fun σ H Q q => by
  obtain ⟨ρ, δ, S, cf, p⟩ := q
  refine ⟨ρ, δ, S, cf, (Post.bind p).mono fun x H1 ⟨ρ1, S1, d, s1, rs1, rx, p1⟩ => ?_⟩
  cases rx with
  | bl k => exact ⟨k, rfl, Post.pure p1 rs1 rfl⟩
  | _ => exact p1.elim
theorem rt_cmp {op : CmpOp} {r : R2} {f : Dv → Dv → M Dv} (ho : OpR X (compareOp op) r) (hf : Op2 G W r f) (ha : PE X a (tE G W ma)) (hb : PE X b (tE G W mb)) (hm : behindInMarks op b = false) : PT X (.Compare a [op] [b] pos) (tB G W (bOf (e2 f ma mb))) :=
  (pt_cmpR ho ha hb hm).imp fun σ H Q q => by
    obtain ⟨ρ, δ, S, cf, p⟩ := q
    have z : tE G W (e2 f ma mb) σ H (fun x H' => ∃ k, x = .bl k ∧ Q k H') := ⟨ρ, δ, S, cf, (Post.bind p).mono fun x H1 ⟨ρ1, S1, d, s1, rs1, rx, p1⟩ => by
      cases rx with
      | bl k => exact ⟨k, rfl, Post.pure p1 rs1 rfl⟩
      | _ => exact p1.elim⟩
    exact t_op hf z
theorem rw_and1 (h : PT X a (tB G W ca)) : PW X (.BoolOp .And [a] pos) (tB G W ca) := pw_and1 h
theorem rw_or1 (h : PT X a (tB G W ca)) : PW X (.BoolOp .Or [a] pos) (tB G W ca) := pw_or1 h
theorem rw_and (ha : PT X a (tB G W ca)) (hb : PW X (.BoolOp .And (b :: rest) pos) (tB G W cb)) : PW X (.BoolOp .And (a :: b :: rest) pos) (tB G W (bAnd ca cb)) := (pw_and ha hb).imp fun σ H Q q => by
  obtain ⟨ρ, δ, S, cf, p⟩ := q
  refine ⟨ρ, δ, S, cf, (Post.bind p).mono fun x H1 ⟨ρ1, S1, d, s1, rs1, rx, p1⟩ => ?_⟩
  have e : x = d := rx
  subst e
  cases x with
  | true => exact ⟨ρ1, δ, S1, cf.step s1 rs1, p1⟩
  | false => exact Post.pure (α := Bool) (β := Bool) (rel := br) p1 rs1 rfl
theorem rw_or (ha : PT X a (tB G W ca)) (hb : PW X (.BoolOp .Or (b :: rest) pos) (tB G W cb)) : PW X (.BoolOp .Or (a :: b :: rest) pos) (tB G W (bOr ca cb)) := (pw_or ha hb).imp fun σ H Q q => by
  obtain ⟨ρ, δ, S, cf, p⟩ := q
  refine ⟨ρ, δ, S, cf, (Post.bind p).mono fun x H1 ⟨ρ1, S1, d, s1, rs1, rx, p1⟩ => ?_⟩
  have e : x = d := rx
  subst e
  cases x with
  | false => exact ⟨ρ1, δ, S1, cf.step s1 rs1, p1⟩
  | true => exact Post.pure (α := Bool) (β := Bool) (rel := br) p1 rs1 rfl
theorem rt_not (ha : PT X a (tB G W ca)) : PT X (.UnaryOp .Not a pos) (tB G W (bNot ca)) := (pt_not ha).imp fun σ H Q q => by
  obtain ⟨ρ, δ, S, cf, p⟩ := q
  refine ⟨ρ, δ, S, cf, (Post.bind p).mono fun x H1 ⟨ρ1, S1, d, s1, rs1, rx, p1⟩ => ?_⟩
  have e : x = d := rx
  subst e
  exact Post.pure (α := Bool) (β := Bool) (rel := br) p1 rs1 rfl
theorem re_one {op} (h : PE X a (tE G W ma)) : PE X (.BoolOp op [a] pos) (tE G W ma) := pe_one h
theorem re_and (ha : PE X a (tE G W ma)) (hb : PE X (.BoolOp .And (b :: rest) pos) (tE G W mb)) : PE X (.BoolOp .And (a :: b :: rest) pos) (tE G W (eAnd ma mb)) := (pe_and ha hb).imp fun σ H Q q => by
  obtain ⟨ρ, δ, S, cf, p⟩ := q
  refine ⟨ρ, δ, S, cf, (Post.bind p).mono fun x H1 ⟨ρ1, S1, d, s1, rs1, rx, p1⟩ => ?_⟩
  cases rx with
  | bl k =>
    refine ⟨k, rfl, ?_⟩
    cases k with
    | true => exact ⟨ρ1, δ, S1, cf.step s1 rs1, p1⟩
    | false => exact Post.pure p1 rs1 (.bl false)
  | _ => exact p1.elim
theorem re_or (ha : PE X a (tE G W ma)) (hb : PE X (.BoolOp .Or (b :: rest) pos) (tE G W mb)) : PE X (.BoolOp .Or (a :: b :: rest) pos) (tE G W (eOr ma mb)) := (pe_or ha hb).imp fun σ H Q q => by
  obtain ⟨ρ, δ, S, cf, p⟩ := q
  refine ⟨ρ, δ, S, cf, (Post.bind p).mono fun x H1 ⟨ρ1, S1, d, s1, rs1, rx, p1⟩ => ?_⟩
  cases rx with
  | bl k =>
    refine ⟨k, rfl, ?_⟩
    cases k with
    | false => exact ⟨ρ1, δ, S1, cf.step s1 rs1, p1⟩
    | true => exact Post.pure p1 rs1 (.bl true)
  | _ => exact p1.elim
theorem re_not (ha : PE X a (tE G W ma)) : PE X (.UnaryOp .Not a pos) (tE G W (eNot ma)) := (pe_not ha).imp fun σ H Q q => by
  obtain ⟨ρ, δ, S, cf, p⟩ := q
  refine ⟨ρ, δ, S, cf, (Post.bind p).mono fun x H1 ⟨ρ1, S1, d, s1, rs1, rx, p1⟩ => ?_⟩
  cases rx with
  | bl k => exact ⟨k, rfl, Post.pure p1 rs1 (.bl (!k))⟩
  | _ => exact p1.elim
theorem re_if (hc : PT X c (tB G W ca)) (ha : PE X a (tE G W ma)) (hb : PE X b (tE G W mb)) : PE X (.IfExp c a b pos) (tE G W (eIf ca ma mb)) := (pe_ifExp hc ha hb).imp fun σ H Q q => by
  obtain ⟨ρ, δ, S, cf, p⟩ := q
  refine ⟨ρ, δ, S, cf, (Post.bind p).mono fun x H1 ⟨ρ1, S1, d, s1, rs1, rx, p1⟩ => ?_⟩
  have e : x = d := rx
  subst e
  cases x with
  | true => exact ⟨ρ1, δ, S1, cf.step s1 rs1, p1⟩
  | false => exact ⟨ρ1, δ, S1, cf.step s1 rs1, p1⟩
/-! ### arguments, displays, calls by values -/
theorem ra_nil : PA X [] (tA G W aNil) := pa_nil.imp fun σ H Q q => by
  obtain ⟨ρ, δ, S, cf, p⟩ := q
  exact Post.pure p cf.rs .nil
theorem ra_cons (ha : PE X a (tE G W ma)) (hr : PA X es (tA G W mr)) (hs : starEach (a :: es) X.env = (false, eval a X.env) :: starEach es X.env := by rfl) : PA X (a :: es) (tA G W (aCons ma mr)) := (pa_cons ha hr hs).imp fun σ H Q q => by
  obtain ⟨ρ, δ, S, cf, p⟩ := q
  refine ⟨ρ, δ, S, cf, (Post.bind p).mono fun x H1 ⟨ρ1, S1, d, s1, rs1, rx, p1⟩ => ?_⟩
  refine ⟨ρ1, δ, S1, cf.step s1 rs1, (Post.bind p1).mono fun xs H2 ⟨ρ2, S2, ds, s2, rs2, rxs, p2⟩ => ?_⟩
  exact Post.pure p2 rs2 (.cons (rx.step s2) rxs)
theorem lim_ok {n : Nat} (h : n ≤ lim) : n ≤ sizeLine := Nat.le_trans h (by decide)
theorem lim_lt {n : Nat} (h : n < lim) : n < sizeLine := Nat.lt_of_lt_of_le h (by decide)
theorem RS.nin {G : Gx} {ρ : Rg} {H : Hp} {S : Sto} (r : RS G ρ H S) {p : Addr} (h : H p = none) : Out ρ p := by
  refine ⟨fun m => ?_, fun m => ?_⟩
  · obtain ⟨u, q, _⟩ := r.mem m
    rw [h] at q
    cases q
  · obtain ⟨u, q, _⟩ := (r.bt p m).2
    rw [h] at q
    cases q
theorem re_tup {x1} (h : PA X es (tA G W mr)) : PE X (.Tuple es x1 pos) (tE G W (eN mTup mr)) := (pe_tup h).imp fun σ H Q q => by
  obtain ⟨ρ, δ, S, cf, p⟩ := q
  refine ⟨ρ, δ, S, cf, (Post.bind p).mono fun xs H1 ⟨ρ1, S1, ds, s1, rs1, rx, p1⟩ => ?_⟩
  unfold mTup at p1
  split at p1
  · rename_i hl
    have e := rx.length
    refine ⟨lim_ok (by omega), fun u hu => ?_⟩
    exact p1 _ _ ρ1 (Stp.new hu) (rs1.new hu) (.tup ⟨upd_same, rs1.nin hu⟩ (rx.step (Stp.new hu)))
  · exact p1.elim
theorem re_lst (h : PA X es (tA G W mr)) : PE X (.List es pos) (tE G W (eN mLst mr)) := (pe_lst h).imp fun σ H Q q => by
  obtain ⟨ρ, δ, S, cf, p⟩ := q
  refine ⟨ρ, δ, S, cf, (Post.bind p).mono fun xs H1 ⟨ρ1, S1, ds, s1, rs1, rx, p1⟩ => ?_⟩
  unfold mLst at p1
  split at p1
  · rename_i hl
    have e := rx.length
    refine ⟨lim_ok (by omega), fun u hu => ?_⟩
    exact p1 _ _ ρ1 (Stp.new hu) (rs1.new hu) (.lst upd_same (rs1.nin hu) (rx.step (Stp.new hu)))
  · exact p1.elim
theorem t_N {r : List V → Hp → VK → Prop} {f : List Dv → M Dv} (hf : OpN G W r f) {σ : L2.St} {H : Hp} {Q : VK} (q : tE G W (eN f mr) σ H Q) : tCB r (tA G W mr) σ H Q := by
  obtain ⟨ρ, δ, S, cf, p⟩ := q
  exact ⟨ρ, δ, S, cf, (Post.bind p).mono fun x H1 ⟨ρ1, S1, d, s1, rs1, rx, p1⟩ => hf ρ1 H1 σ S1 x d Q rs1 rx p1⟩
theorem re_B {id : String} {x : Str} {p : Pos} {r : List V → Hp → VK → Prop} {f : List Dv → M Dv} (hc : CallR X (.builtin id) r) (hf : OpN G W r f) (hg : Gl X x) (hm : X.mg x = none) (hv : bootBuiltins x = some (.builtin id)) (ha : PA X (a :: es) (tA G W mr)) (hn : x ≠ "__name__" := by decide) (hdb : (x == ("__debug__" : Str)) = false := by decide)
    (he : starEach (a :: es) X.env = (false, eval a X.env) :: starEach es X.env := by rfl) (hpl : (backTo pos (starEach es X.env)).any (·.1) = false := by rfl) : PE X (.Call (.Name x p) (a :: es) [] pos) (tE G W (eN f mr)) :=
  (pe_callB hc hg hm hv ha hn hdb he hpl).imp fun _ _ _ q => t_N hf q
theorem re_Ty {T : String} {x : Str} {p : Pos} {r : List V → Hp → VK → Prop} {f : List Dv → M Dv} (hc : CallR X (.type T) r) (hf : OpN G W r f) (hg : Gl X x) (hm : X.mg x = none) (hv : bootBuiltins x = some (.type T)) (ha : PA X (a :: es) (tA G W mr)) (hn : x ≠ "__name__" := by decide) (hdb : (x == ("__debug__" : Str)) = false := by decide)
    (he : starEach (a :: es) X.env = (false, eval a X.env) :: starEach es X.env := by rfl) (hpl : (backTo pos (starEach es X.env)).any (·.1) = false := by rfl) : PE X (.Call (.Name x p) (a :: es) [] pos) (tE G W (eN f mr)) :=
  (pe_callTy hc hg hm hv ha hn hdb he hpl).imp fun _ _ _ q => t_N hf q
end
/-! ### defs -/
/-- the def does what the mirror does -/
def spM (G : Gx) (n : Nat) (f : List Dv → M Dv) : Sp := fun vs H Q E => ∃ ρ S ds, vs.length = n ∧ RvA G.K ρ H vs ds ∧ RS G ρ H S ∧ Post G (fun c dx _ H' => E c dx H') [] (vr G) ρ H (f ds S) Q
/-- a mirror's call, as the promise's -/
theorem sp_of {G : Gx} {W : WX} {σ : L2.St} {n : Nat} {mf : List Dv → M Dv} {ρ : Rg} {H : Hp} {S : Sto} {xs : List V} {ds : List Dv} {Q : VK} (har : ∀ ds S, ds.length ≠ n → mf ds S = .bad) (rs : RS G ρ H S) (rx : RvA G.K ρ H xs ds) (p : Post G W σ (vr G) ρ H (mf ds S) Q) : spM G n mf xs H Q (WE W σ) := by
  by_cases hn : ds.length = n
  · refine ⟨ρ, S, ds, by rw [rx.length, hn], rx, rs, ?_⟩
    cases e : mf ds S with
    | ok d S2 => rw [e] at p; exact p
    | ex x S2 => rw [e] at p; exact p
    | bad => rw [e] at p; exact p
  · rw [har ds S hn] at p
    exact p.elim
theorem fnOf_ar {k n : Nat} {body : SM} (ds : List Dv) (S : Sto) (h : ds.length ≠ k) : fnOf k n body ds S = .bad := if_neg h
section
variable {G : Gx} {W : WX} {X : Cx} {a b c : Expr} {es rest : List Expr} {ma mb : EX} {ca cb : EB} {mr : EA} {pos : Pos}
theorem re_call {k : Nat} {f : Addr} {fd : FuncData} {ps : List Str} {n : Nat} {mf : List Dv → M Dv} {x : Str} {p : Pos} (tk : Takes X W) (F : FnOk X.prog X.w X.K X.mg X.base (L2.CX X.prog X.w) k f fd ps (spM G n mf)) (har : ∀ ds S, ds.length ≠ n → mf ds S = .bad) (hr : Room k X.A) (hg : Gl X x) (hm : X.mg x = some (.ref f)) (hk : PySem.W.keepIn X.K (.ref f) = true) (hb : L2.Binds X.K fd ps [])
    (ha : PA X (a :: es) (tA G W mr)) (hdb : (x == ("__debug__" : Str)) = false := by decide) (he : starEach (a :: es) X.env = (false, eval a X.env) :: starEach es X.env := by rfl) (hpl : (backTo pos (starEach es X.env)).any (·.1) = false := by rfl) :
    PE X (.Call (.Name x p) (a :: es) [] pos) (tE G W (eN mf mr)) :=
  (pe_callS (E := WE W) F hr hg hm hk hb (fun σ => passAt tk σ) ha hdb he hpl).imp fun σ H Q q => by
    obtain ⟨ρ, δ, S, cf, p⟩ := q
    exact ⟨ρ, δ, S, cf, (Post.bind p).mono fun xs H1 ⟨ρ1, S1, ds, s1, rs1, rx, p1⟩ => sp_of har rs1 rx p1⟩
end
/-! ### statements -/
def PostS (G : Gx) (W : WX) (ρ : Rg) (H : Hp) (r : SR) (D : Ends) : Prop := match r with
  | .nx δ' S' => ∀ σ' H' ρ', Stp ρ H ρ' H' → Cf G ρ' H' σ' δ' S' → D.nx σ' H'
  | .rt d S' => ∀ v H' ρ', Stp ρ H ρ' H' → RS G ρ' H' S' → Rv G.K ρ' H' v d → D.rt v H'
  | .bk δ' S' => ∀ σ' H' ρ', Stp ρ H ρ' H' → Cf G ρ' H' σ' δ' S' → D.bk σ' H'
  | .ct δ' S' => ∀ σ' H' ρ', Stp ρ H ρ' H' → Cf G ρ' H' σ' δ' S' → D.ct σ' H'
  | .ex x δ' S' => ∀ c dx σ' H' ρ', Stp ρ H ρ' H' → Cf G ρ' H' σ' δ' S' → Rx G ρ' H' c dx x → W c dx σ' H'
  | .bad => False
def tS (G : Gx) (W : WX) (m : SM) : TS := fun D σ H => ∃ ρ δ S, Cf G ρ H σ δ S ∧ PostS G W ρ H (m δ S) D
theorem PostS.step {G : Gx} {W : WX} {ρ ρ1 : Rg} {H H1 : Hp} {r : SR} {D : Ends} (s : Stp ρ H ρ1 H1) (h : PostS G W ρ H r D) : PostS G W ρ1 H1 r D := by
  cases r with
  | nx δ S => exact fun σ' H' ρ' t c => h σ' H' ρ' (s.trans t) c
  | rt d S => exact fun v H' ρ' t c r => h v H' ρ' (s.trans t) c r
  | bk δ S => exact fun σ' H' ρ' t c => h σ' H' ρ' (s.trans t) c
  | ct δ S => exact fun σ' H' ρ' t c => h σ' H' ρ' (s.trans t) c
  | ex x δ S => exact fun c dx σ' H' ρ' t cf r => h c dx σ' H' ρ' (s.trans t) cf r
  | bad => exact h
theorem PostS.mono {G : Gx} {W : WX} {ρ : Rg} {H : Hp} {r : SR} {D D' : Ends} (h : PostS G W ρ H r D) (h1 : ∀ σ H, D.nx σ H → D'.nx σ H) (h2 : ∀ v H, D.rt v H → D'.rt v H) (h3 : ∀ σ H, D.bk σ H → D'.bk σ H) (h4 : ∀ σ H, D.ct σ H → D'.ct σ H) : PostS G W ρ H r D' := by
  cases r with
  | nx δ S => exact fun σ' H' ρ' t c => h1 _ _ (h σ' H' ρ' t c)
  | rt d S => exact fun v H' ρ' t c r => h2 _ _ (h v H' ρ' t c r)
  | bk δ S => exact fun σ' H' ρ' t c => h3 _ _ (h σ' H' ρ' t c)
  | ct δ S => exact fun σ' H' ρ' t c => h4 _ _ (h σ' H' ρ' t c)
  | ex x δ S => exact h
  | bad => exact h
/-- an expression, then a statement's end -/
theorem postS_on {G : Gx} {W : WX} {σ : L2.St} {ρ : Rg} {H : Hp} {δ : En} {S : Sto} {α β : Type} {rel : Rg → Hp → β → α → Prop} {r : Res α} {k : α → Sto → SR} {D : Ends} (cf : Cf G ρ H σ δ S) (h : PostS G W ρ H (onOk r δ k) D) :
    Post G W σ rel ρ H r (fun v H1 => ∃ ρ1 S1 d, Stp ρ H ρ1 H1 ∧ RS G ρ1 H1 S1 ∧ rel ρ1 H1 v d ∧ PostS G W ρ1 H1 (k d S1) D) := by
  cases r with
  | ok d S1 => exact fun v H1 ρ1 s rs rv => ⟨ρ1, S1, d, s, rs, rv, h.step s⟩
  | ex x S1 => exact fun c dx H' ρ' s rs rx => h c dx σ H' ρ' s (cf.step s rs) rx
  | bad => exact h
section
variable {G : Gx} {W : WX} {X : Cx} {e c : Expr} {st : Stmt} {sts sa sb : List Stmt} {me : EX} {mc : EB} {m m1 m2 : SM} {pos : Pos}
theorem rs_nil : PSs X [] (tS G W sNil) := pss_nil.imp fun D σ H q => by
  obtain ⟨ρ, δ, S, cf, p⟩ := q
  exact p σ H ρ Stp.refl cf
theorem rs_cons (h1 : PS X st (tS G W m1)) (h2 : PSs X sts (tS G W m2)) : PSs X (st :: sts) (tS G W (sSeq m1 m2)) := (pss_cons h1 h2).imp fun D σ H q => by
  obtain ⟨ρ, δ, S, cf, p⟩ := q
  refine ⟨ρ, δ, S, cf, ?_⟩
  unfold sSeq at p
  cases e : m1 δ S with
  | nx δ' S' =>
    rw [e] at p
    exact fun σ' H' ρ' s c => ⟨ρ', δ', S', c, p.step s⟩
  | rt d S' => rw [e] at p; exact p
  | bk δ' S' => rw [e] at p; exact p
  | ct δ' S' => rw [e] at p; exact p
  | ex x δ' S' => rw [e] at p; exact p
  | bad => rw [e] at p; exact p
theorem rs_one (h1 : PS X st (tS G W m1)) : PSs X [st] (tS G W m1) := pss_one h1
theorem rs_if (hc : PT X c (tB G W mc)) (ha : PSs X sa (tS G W m1)) (hb : PSs X sb (tS G W m2)) : PS X (.If c sa sb pos) (tS G W (sIf mc m1 m2)) := (ps_if hc ha hb).imp fun D σ H q => by
  obtain ⟨ρ, δ, S, cf, p⟩ := q
  refine ⟨ρ, δ, S, cf, (postS_on (rel := br) cf p).mono fun x H1 ⟨ρ1, S1, d, s1, rs1, rx, p1⟩ => ?_⟩
  have e : x = d := rx
  subst e
  cases x with
  | true => exact ⟨ρ1, δ, S1, cf.step s1 rs1, p1⟩
  | false => exact ⟨ρ1, δ, S1, cf.step s1 rs1, p1⟩
theorem rs_pass : PS X (.Pass pos) (tS G W sNil) := ps_pass.imp fun D σ H q => by
  obtain ⟨ρ, δ, S, cf, p⟩ := q
  exact p σ H ρ Stp.refl cf
theorem rs_break : PS X (.Break pos) (tS G W sBreak) := ps_break.imp fun D σ H q => by
  obtain ⟨ρ, δ, S, cf, p⟩ := q
  exact p σ H ρ Stp.refl cf
theorem rs_cont : PS X (.Continue pos) (tS G W sCont) := ps_continue.imp fun D σ H q => by
  obtain ⟨ρ, δ, S, cf, p⟩ := q
  exact p σ H ρ Stp.refl cf
theorem rs_expr (he : PE X e (tE G W me)) (hs : swapsWith e none pos.line X.env = pure false := by rfl) : PS X (.Expr e pos) (tS G W (sExpr me)) := (ps_expr he hs).imp fun D σ H q => by
  obtain ⟨ρ, δ, S, cf, p⟩ := q
  exact ⟨ρ, δ, S, cf, (postS_on (rel := vr G) cf p).mono fun x H1 ⟨ρ1, S1, d, s1, rs1, rx, p1⟩ => p1 σ H1 ρ1 Stp.refl (cf.step s1 rs1)⟩
theorem rs_ret (he : PE X e (tE G W me)) : PS X (.Return (some e) pos) (tS G W (sRet me)) := (ps_ret he).imp fun D σ H q => by
  obtain ⟨ρ, δ, S, cf, p⟩ := q
  exact ⟨ρ, δ, S, cf, (postS_on (rel := vr G) cf p).mono fun x H1 ⟨ρ1, S1, d, s1, rs1, rx, p1⟩ => p1 x H1 ρ1 Stp.refl rs1 rx⟩
theorem t_set {i : Nat} {D : Ends} {σ : L2.St} {H : Hp} (hx : SlotOk G i) (q : tS G W (sSet i me) D σ H) : tAsg (tE G W me) (gName i) D σ H := by
  obtain ⟨ρ, δ, S, cf, p⟩ := q
  exact ⟨ρ, δ, S, cf, (postS_on (rel := vr G) cf p).mono fun x H1 ⟨ρ1, S1, d, s1, rs1, rx, p1⟩ => p1 _ H1 ρ1 Stp.refl ((cf.step s1 rs1).set i rx hx)⟩
theorem rs_set {i : Nat} {x : Str} {pos' : Pos} (hN : X.N.Nodup) (hi : X.N[i]? = some x) (hx : Loc X.env.scope x) (he : PE X e (tE G W me)) (hs : swapsWith e (some (.Name x pos')) pos.line X.env = pure false := by rfl) (hf : X.fn x = true ∨ X.env.scope.names.lookup x = some .local := by first | exact .inl rfl | exact .inr rfl | assumption)
    (hxo : SlotOk G i := by first | exact slotOk_none ⟨rfl, rfl⟩ | (constructor <;> intro q e <;> cases e <;> exact Nat.ne_of_beq_eq_false rfl)) :
    PS X (.Assign [.Name x pos'] e pos) (tS G W (sSet i me)) := (ps_set hN hi hx he hs hf).imp fun _ _ _ q => t_set hxo q
end
/-! ### targets -/
/-- unlike at the places vs alone -/
def But (vs : List Nat) (σ σ' : L2.St) : Prop := σ'.length = σ.length ∧ ∀ j, j ∉ vs → σ'[j]? = σ[j]?
theorem But.refl {vs : List Nat} {σ : L2.St} : But vs σ σ := ⟨rfl, fun _ _ => rfl⟩
theorem But.set {i : Nat} {σ : L2.St} {v : Option V} : But [i] σ (σ.set i v) := ⟨by simp, fun j h => List.getElem?_set_ne (fun e => h (by simp [e]))⟩
theorem But.trans {vs ws : List Nat} {σ σ1 σ2 : L2.St} (a : But vs σ σ1) (b : But ws σ1 σ2) : But (vs ++ ws) σ σ2 := ⟨b.1.trans a.1, fun j h => (b.2 j fun z => h (List.mem_append_right _ z)).trans (a.2 j fun z => h (List.mem_append_left _ z))⟩
def GEnd (G : Gx) (vs : List Nat) (ρ : Rg) (H : Hp) (σ : L2.St) (r : Option (En × Sto)) (Q : L2.St → Hp → Prop) : Prop := match r with
  | some (δ', S') => ∀ σ' H' ρ', Stp ρ H ρ' H' → Cf G ρ' H' σ' δ' S' → But vs σ σ' → Q σ' H'
  | none => False
def tG (G : Gx) (vs : List Nat) (f : TGm) : TG := fun v σ H Q => ∃ ρ δ S d, Cf G ρ H σ δ S ∧ Rv G.K ρ H v d ∧ GEnd G vs ρ H σ (f d δ S) Q
def tGs (G : Gx) (ws : List Nat) (fs : List TGm) : TGs := fun vs σ H Q => ∃ ρ δ S ds, Cf G ρ H σ δ S ∧ RvA G.K ρ H vs ds ∧ GEnd G ws ρ H σ (gAll fs ds δ S) Q
theorem _root_.L2.PG.imp {X : Cx} {e : Expr} {t t' : TG} (h : PG X e t) (f : ∀ v σ H Q, t' v σ H Q → t v σ H Q) : PG X e t' := ⟨fun pins s σ H v u Q I r q => h.run pins s σ H v u Q I r (f v σ H Q q)⟩
theorem _root_.L2.PGs.imp {X : Cx} {e : List Expr} {t t' : TGs} (h : PGs X e t) (f : ∀ v σ H Q, t' v σ H Q → t v σ H Q) : PGs X e t' := ⟨fun pins s σ H v u Q I r q => h.run pins s σ H v u Q I r (f v σ H Q q)⟩
section
variable {G : Gx} {W : WX} {X : Cx} {e c : Expr} {es : List Expr} {me : EX} {mr : EA} {pos : Pos} {g : TGm} {gs : List TGm} {vs ws : List Nat}
theorem rg_name {i : Nat} {x : Str} (hN : X.N.Nodup) (hi : X.N[i]? = some x) (hx : Loc X.env.scope x) (hf : X.fn x = true ∨ X.env.scope.names.lookup x = some .local := by first | exact .inl rfl | exact .inr rfl | assumption) (hxo : SlotOk G i := by first | exact slotOk_none ⟨rfl, rfl⟩ | (constructor <;> intro q e <;> cases e <;> exact Nat.ne_of_beq_eq_false rfl)) : PG X (.Name x pos) (tG G [i] (gNm i)) :=
  (pg_name hN hi hx hf).imp fun v σ H Q q => by
    obtain ⟨ρ, δ, S, d, cf, r, p⟩ := q
    exact p _ H ρ Stp.refl (cf.set i r hxo) But.set
theorem rgs_nil : PGs X [] (tGs G [] []) := pgs_nil.imp fun v σ H Q q => by
  obtain ⟨ρ, δ, S, ds, cf, r, p⟩ := q
  cases r with
  | nil => exact ⟨rfl, p σ H ρ Stp.refl cf But.refl⟩
  | cons => exact p.elim
theorem rgs_cons (h1 : PG X e (tG G vs g)) (h2 : PGs X es (tGs G ws gs)) (hs : (assignEach (e :: es) X.env).map (·.2) = assign e X.env :: (assignEach es X.env).map (·.2) := by rfl) : PGs X (e :: es) (tGs G (vs ++ ws) (g :: gs)) :=
  (pgs_cons h1 h2 hs).imp fun v σ H Q q => by
    obtain ⟨ρ, δ, S, ds, cf, r, p⟩ := q
    cases r with
    | nil => exact p.elim
    | @cons v1 vs1 d1 ds1 h r =>
      refine ⟨v1, vs1, rfl, ρ, δ, S, d1, cf, h, ?_⟩
      have p' : GEnd G (vs ++ ws) ρ H σ (match g d1 δ S with | some (δ', S') => gAll gs ds1 δ' S' | none => none) Q := p
      cases e : g d1 δ S with
      | none =>
        rw [e] at p'
        exact p'
      | some z =>
        obtain ⟨δ1, S1⟩ := z
        rw [e] at p'
        intro σ1 H1 ρ1 s1 c1 b1
        refine ⟨ρ1, δ1, S1, ds1, c1, r.step s1, ?_⟩
        have p2 : GEnd G (vs ++ ws) ρ H σ (gAll gs ds1 δ1 S1) Q := p'
        cases e2 : gAll gs ds1 δ1 S1 with
        | none =>
          rw [e2] at p2
          exact p2
        | some z2 =>
          rw [e2] at p2
          exact fun σ2 H2 ρ2 s2 c2 b2 => p2 σ2 H2 ρ2 (s1.trans s2) c2 (b1.trans b2)
theorem gAll_len {gs : List TGm} : ∀ {ds : List Dv} {δ : En} {S : Sto} {z : En × Sto}, gAll gs ds δ S = some z → ds.length = gs.length := by
  induction gs with
  | nil =>
    intro ds δ S z h
    cases ds with
    | nil => rfl
    | cons => cases h
  | cons g gs ih =>
    intro ds δ S z h
    cases ds with
    | nil => cases h
    | cons d ds =>
      have h' : (match g d δ S with | some (δ', S') => gAll gs ds δ' S' | none => none) = some z := h
      cases e : g d δ S with
      | none =>
        rw [e] at h'
        cases h'
      | some y =>
        rw [e] at h'
        exact congrArg (· + 1) (ih h')
theorem rg_tup {k : Nat} {n : Nat} (hK : X.K = G.K) (hc : X.calm = true) (h : PGs X es (tGs G ws gs)) (hg : gs.length = n) (hn : (assignEach es X.env).length = n := by rfl) (hst : (assignEach es X.env).findIdx? (·.1) = none := by rfl) : PG X (.Tuple es k pos) (tG G ws (gTp gs)) :=
  (pg_tup hc h hn hst).imp fun v σ H Q q => by
    obtain ⟨ρ, δ, S, d, cf, r, p⟩ := q
    cases r with
    | @tup a vs ds ht hr =>
      have p' : GEnd G ws ρ H σ (gAll gs ds δ S) Q := p
      refine ⟨a, vs, rfl, by rw [hK]; exact ht.sq, ?_, ρ, δ, S, ds, cf, hr, p'⟩
      cases e : gAll gs ds δ S with
      | none =>
        rw [e] at p'
        exact p'.elim
      | some z => rw [hr.length, gAll_len e, hg]
    | _ => exact p.elim
theorem rs_asg {tg : Expr} (he : PE X e (tE G W me)) (hg : PG X tg (tG G vs g)) (hs : swapsWithSole [tg] e pos.line X.env = pure false := by rfl) (hw : swappedStores [tg] e X.env = pure none := by rfl) (h1 : List.map (fun x => x.snd) (assignEach [tg] X.env) = [assign tg X.env] := by rfl) : PS X (.Assign [tg] e pos) (tS G W (sAsg g me)) :=
  (ps_asg he hg hs hw h1).imp fun D σ H q => by
    obtain ⟨ρ, δ, S, cf, p⟩ := q
    refine ⟨ρ, δ, S, cf, (postS_on (rel := vr G) cf p).mono fun x H1 ⟨ρ1, S1, d, s1, rs1, rx, p1⟩ => ?_⟩
    refine ⟨ρ1, δ, S1, d, cf.step s1 rs1, rx, ?_⟩
    cases e : g d δ S1 with
    | none =>
      rw [e] at p1
      exact p1
    | some z =>
      rw [e] at p1
      exact fun σ' H' ρ' s c _ => p1 σ' H' ρ' s c
theorem rs_par {i j : Nat} {x y : Str} {a b : Expr} {px py pt : Pos} {kt k2 pt2} (hc : X.calm = true) (hN : X.N.Nodup) (hi : X.N[i]? = some x) (hj : X.N[j]? = some y) (hij : i ≠ j)
    (hx : X.env.scope.names.lookup x = some .local) (hy : X.env.scope.names.lookup y = some .local) (ha : PA X [a, b] (tA G W mr))
    (hw : swappedStores [.Tuple [.Name x px, .Name y py] kt pt] (.Tuple [a, b] k2 pt2) X.env = pure (some [x, y]))
    (hs : swapsWithSole [.Tuple [.Name x px, .Name y py] kt pt] (.Tuple [a, b] k2 pt2) pos.line X.env = pure false := by rfl) (hxn : G.xc = none ∧ G.fx = none := by exact ⟨rfl, rfl⟩) :
    PS X (.Assign [.Tuple [.Name x px, .Name y py] kt pt] (.Tuple [a, b] k2 pt2) pos) (tS G W (sPar [i, j] mr)) := (ps_par hc hN hi hj hij hx hy ha hw hs).imp fun D σ H q => by
  obtain ⟨ρ, δ, S, cf, p⟩ := q
  refine ⟨ρ, δ, S, cf, (postS_on (rel := ar G) cf p).mono fun xs H1 ⟨ρ1, S1, ds, s1, rs1, rx, p1⟩ => ?_⟩
  match xs, ds, rx, p1 with
  | [v, w], [d1, d2], .cons h1 (.cons h2 .nil), p1 => exact ⟨v, w, rfl, p1 _ H1 ρ1 Stp.refl (((cf.step s1 rs1).set i h1 (slotOk_none hxn)).set j h2 (slotOk_none hxn))⟩
  | [], [], .nil, p1 => exact p1.elim
  | [_], [_], .cons _ .nil, p1 => exact p1.elim
  | _ :: _ :: _ :: _, _ :: _ :: _ :: _, .cons _ (.cons _ (.cons _ _)), p1 => exact p1.elim
end
/-! ### what is walked -/
structure ItOk (G : Gx) (ρ : Rg) (H : Hp) (J : It) (ds : List Dv) : Prop where
  go : ∀ (ρ1 : Rg) (H1 : Hp) (S1 : Sto) (i : Nat) (d : Dv), StB ρ H ρ1 H1 → RS G ρ1 H1 S1 → ds[i]? = some d → J.go i H1 ∧ ∀ x H2, J.yld i H1 x H2 → Stp ρ1 H1 ρ1 H2 ∧ RS G ρ1 H2 S1 ∧ Rv G.K ρ1 H2 x d
  stop : ∀ (ρ1 : Rg) (H1 : Hp), StB ρ H ρ1 H1 → J.stop ds.length H1
abbrev ir (G : Gx) : Rg → Hp → It → List Dv → Prop := ItOk G
abbrev tI (G : Gx) (W : WX) (m : EA) : TI := tX G W (ir G) m
theorem _root_.L2.PI.imp {X : Cx} {tg e : Expr} {t t' : TI} (h : PI X tg e t) (f : ∀ σ H Q, t' σ H Q → t σ H Q) : PI X tg e t' := ⟨fun pins s σ H Q I q => h.run pins s σ H Q I (f σ H Q q)⟩
theorem _root_.L2.PI.or {X : Cx} {tg e : Expr} {t t' : TI} (h : PI X tg e t) (h' : PI X tg e t') : PI X tg e (fun σ H R => t σ H R ∨ t' σ H R) := ⟨fun pins s σ H Q I q => by
  rcases q with q | q
  · exact h.run pins s σ H Q I q
  · exact h'.run pins s σ H Q I q⟩
theorem itok_l {G : Gx} {ρ : Rg} {H : Hp} {a : Addr} {vs : List V} {ds : List Dv} (h : StL G.K ρ H a vs) (r : RvA G.K ρ H vs ds) : ItOk G ρ H (Itl G.K a) ds where
  go := fun ρ1 H1 S1 i d s rs e => by
    obtain ⟨v, h1, h2⟩ := (r.stepB s).get e
    have q := (h.stepB s).sq
    exact ⟨⟨vs, v, q, h1⟩, fun x H2 ⟨e1, e2⟩ => by
      subst e1
      have e3 := (e2 vs q).symm.trans h1
      cases e3
      exact ⟨Stp.refl, rs, h2⟩⟩
  stop := fun ρ1 H1 s => ⟨vs, (h.stepB s).sq, by rw [r.length]; exact Nat.le_refl _⟩
theorem itok_t {G : Gx} {ρ : Rg} {H : Hp} {a : Addr} {vs : List V} {ds : List Dv} (h : StT G.K ρ H a vs) (r : RvA G.K ρ H vs ds) : ItOk G ρ H (Itt G.K a) ds where
  go := fun ρ1 H1 S1 i d s rs e => by
    obtain ⟨v, h1, h2⟩ := (r.stepB s).get e
    have q := (h.stepB s).sq
    exact ⟨⟨vs, v, q, h1⟩, fun x H2 ⟨e1, e2⟩ => by
      subst e1
      have e3 := (e2 vs q).symm.trans h1
      cases e3
      exact ⟨Stp.refl, rs, h2⟩⟩
  stop := fun ρ1 H1 s => ⟨vs, (h.stepB s).sq, by rw [r.length]; exact Nat.le_refl _⟩
theorem itok_s {G : Gx} {ρ : Rg} {H : Hp} (x : Str) (ok : OkS x) : ItOk G ρ H (Its x) (x.cps.toList.map fun c => .str ⟨#[c]⟩) where
  go := fun ρ1 H1 S1 i d s rs e => by
    rw [List.getElem?_map] at e
    cases q : x.cps.toList[i]? with
    | none => rw [q] at e; cases e
    | some c =>
      rw [q] at e
      cases e
      have hl := (List.getElem?_eq_some_iff.mp q).1
      refine ⟨(show i < x.cps.size by simpa using hl), fun y H2 ⟨e1, c', e2, e3⟩ => ?_⟩
      subst e1 e3
      rw [← Array.getElem?_toList, q] at e2
      cases e2
      exact ⟨Stp.refl, rs, .str _ (fun z hz => by simp at hz; subst hz; exact ok _ (List.mem_of_getElem? q))⟩
  stop := fun ρ1 H1 s => by simp [Its]
theorem itok_r {G : Gx} {ρ : Rg} {H : Hp} (lo : Int) (n : Nat) : ItOk G ρ H (Itr lo n) ((List.range n).map fun i => .int (lo + (i : Nat))) where
  go := fun ρ1 H1 S1 i d s rs e => by
    rw [List.getElem?_map] at e
    cases q : (List.range n)[i]? with
    | none => rw [q] at e; cases e
    | some c =>
      rw [q] at e
      cases e
      have hl := (List.getElem?_eq_some_iff.mp q).1
      have e4 : c = i := by
        have := (List.getElem?_eq_some_iff.mp q).2
        simpa using this.symm
      subst e4
      refine ⟨(show c < n by simpa using hl), fun y H2 ⟨e1, e2⟩ => ?_⟩
      subst e1 e2
      exact ⟨Stp.refl, rs, .int _⟩
  stop := fun ρ1 H1 s => by simp [Itr]
section
variable {G : Gx} {W : WX} {X : Cx} {tg e c : Expr} {es : List Expr} {me : EX} {mr : EA} {pos : Pos}
theorem ri_of (hK : X.K = G.K) (h : PE X e (tE G W me)) : PI X tg e (tI G W (iOf me)) := (((pi_list h).or (pi_tup h)).or (pi_str h)).imp fun σ H R q => by
  obtain ⟨ρ, δ, S, cf, p⟩ := q
  have p2 := Post.bind (rel := vr G) p
  -- which kind: by the mirror's own value
  have key : ∀ d S1, me δ S = .ok d S1 → (∃ ds, d = .lst ds) ∨ (∃ ds, d = .tup ds) ∨ (∃ x, d = .str x) ∨ (∃ ds, d = .con ds) := fun d S1 ed => by
    unfold iOf M.bind at p
    rw [ed] at p
    cases d with
    | lst ds => exact .inl ⟨ds, rfl⟩
    | tup ds => exact .inr (.inl ⟨ds, rfl⟩)
    | str x => exact .inr (.inr (.inl ⟨x, rfl⟩))
    | con ds => exact .inr (.inr (.inr ⟨ds, rfl⟩))
    | _ => exact p.elim
  cases ed : me δ S with
  | bad => rw [ed] at p2; exact p2.elim
  | ex x S1 =>
    rw [ed] at p2
    exact .inl (.inl ⟨ρ, δ, S, cf, by rw [ed]; exact p2⟩)
  | ok d S1 =>
    rcases key d S1 ed with ⟨ds, rfl⟩ | ⟨ds, rfl⟩ | ⟨x, rfl⟩ | ⟨ds, rfl⟩
    · refine .inl (.inl ⟨ρ, δ, S, cf, ?_⟩)
      rw [ed] at p2 ⊢
      intro v H1 ρ1 s1 rs1 rv
      cases rv with
      | @lst a vs _ ht0 hn hr =>
        have ht : StL G.K ρ1 H1 a vs := .inl ⟨.inl ht0, hn⟩
        refine ⟨a, rfl, ⟨vs, by rw [hK]; exact ht.sq⟩, ?_⟩
        rw [hK]
        unfold iOf M.bind at p
        rw [ed] at p
        exact p _ H1 ρ1 s1 rs1 (itok_l ht hr)
    · refine .inl (.inr ⟨ρ, δ, S, cf, ?_⟩)
      rw [ed] at p2 ⊢
      intro v H1 ρ1 s1 rs1 rv
      cases rv with
      | @tup a vs _ ht hr =>
        refine ⟨a, rfl, ⟨vs, by rw [hK]; exact ht.sq⟩, ?_⟩
        rw [hK]
        unfold iOf M.bind at p
        rw [ed] at p
        exact p _ H1 ρ1 s1 rs1 (itok_t ht hr)
    · refine .inr ⟨ρ, δ, S, cf, ?_⟩
      rw [ed] at p2 ⊢
      intro v H1 ρ1 s1 rs1 rv
      cases rv with
      | str _ hok =>
      refine ⟨x, rfl, ?_⟩
      unfold iOf M.bind at p
      rw [ed] at p
      exact p _ H1 ρ1 s1 rs1 (itok_s x hok)
    · refine .inl (.inl ⟨ρ, δ, S, cf, ?_⟩)
      rw [ed] at p2 ⊢
      intro v H1 ρ1 s1 rs1 rv
      cases rv with
      | @con a vs _ ht hr =>
        refine ⟨a, rfl, ⟨vs, by rw [hK]; exact ht.sq⟩, ?_⟩
        rw [hK]
        unfold iOf M.bind at p
        rw [ed] at p
        exact p _ H1 ρ1 s1 rs1 (itok_l ht hr)
theorem RvA.one {K : PySem.W.Frag} {ρ : Rg} {H : Hp} {xs : List V} {d : Dv} (r : RvA K ρ H xs [d]) : ∃ v, xs = [v] ∧ Rv K ρ H v d := by
  cases r with
  | cons h r =>
    cases r
    exact ⟨_, rfl, h⟩
theorem RvA.two {K : PySem.W.Frag} {ρ : Rg} {H : Hp} {xs : List V} {d e : Dv} (r : RvA K ρ H xs [d, e]) : ∃ v w, xs = [v, w] ∧ Rv K ρ H v d ∧ Rv K ρ H w e := by
  cases r with
  | cons h r =>
    obtain ⟨w, rfl, q⟩ := r.one
    exact ⟨_, w, rfl, h, q⟩
theorem RvA.three {K : PySem.W.Frag} {ρ : Rg} {H : Hp} {xs : List V} {d e f : Dv} (r : RvA K ρ H xs [d, e, f]) : ∃ v w u, xs = [v, w, u] ∧ Rv K ρ H v d ∧ Rv K ρ H w e ∧ Rv K ρ H u f := by
  cases r with
  | cons h r =>
    obtain ⟨w, u, rfl, q⟩ := r.two
    exact ⟨_, w, u, rfl, h, q⟩
theorem ri_range1 {a : Expr} {p : Pos} (hg : Gl X "range") (hm : X.mg "range" = none) (ha : PA X [a] (tA G W mr)) (hs : starEach [a] X.env = [(false, eval a X.env)] := by rfl) : PI X tg (.Call (.Name "range" p) [a] [] pos) (tI G W (iRange1 mr)) :=
  ((pi_range1 (tg := tg) (p := p) (pos := pos) hg hm ha hs)).imp fun σ H R q => by
    obtain ⟨ρ, δ, S, cf, p⟩ := q
    refine ⟨ρ, δ, S, cf, (Post.bind p).mono fun xs H1 ⟨ρ1, S1, ds, s1, rs1, rx, p1⟩ => ?_⟩
    unfold mRange1 at p1
    split at p1
    · rename_i n
      obtain ⟨v, rfl, rv⟩ := rx.one
      cases rv
      split at p1
      · rename_i hn
        have l1 : (lim : Int) = 100000 := rfl
        refine ⟨n, rfl, by omega, by omega, p1 _ H1 ρ1 Stp.refl rs1 ?_⟩
        have z := itok_r (G := G) (ρ := ρ1) (H := H1) 0 n.toNat
        simp only [Int.zero_add] at z
        exact z
      · exact p1.elim
    · exact p1.elim
theorem ri_range2 {a b : Expr} {p : Pos} (hg : Gl X "range") (hm : X.mg "range" = none) (ha : PA X [a, b] (tA G W mr)) (hs : starEach [a, b] X.env = [(false, eval a X.env), (false, eval b X.env)] := by rfl) (hs2 : starEach [b] X.env = [(false, eval b X.env)] := by rfl) :
    PI X tg (.Call (.Name "range" p) [a, b] [] pos) (tI G W (iRange2 mr)) :=
  ((pi_range2 (tg := tg) (p := p) (pos := pos) hg hm ha hs hs2)).imp fun σ H R q => by
    obtain ⟨ρ, δ, S, cf, p⟩ := q
    refine ⟨ρ, δ, S, cf, (Post.bind p).mono fun xs H1 ⟨ρ1, S1, ds, s1, rs1, rx, p1⟩ => ?_⟩
    unfold mRange2 at p1
    split at p1
    · rename_i a b
      obtain ⟨v, w, rfl, rv, rw_⟩ := rx.two
      cases rv
      cases rw_
      split at p1
      · rename_i hn
        have l1 : (lim : Int) = 100000 := rfl
        exact ⟨a, b, rfl, ⟨by omega, by omega, by omega, by omega⟩, p1 _ H1 ρ1 Stp.refl rs1 (itok_r a _)⟩
      · exact p1.elim
    · exact p1.elim
/-! ### for -/
theorem rs_for {iter : Expr} {body : List Stmt} {vs : List Nat} {g : TGm} {mb : SM} {mi : EA} (hp : PassesOwn (model X.prog X.w) X.A X.env X.xe) (hc : X.calm = true) (hi : PI X tg iter (tI G W mi)) (hg : PG X tg (tG G vs g)) (hb : PSs X body (tS G W mb))
    (hs : ∀ x, foldedSetIterable iter X.env x = pure x := by intro _; rfl) : PS X (.For tg iter body [] pos) (tS G W (sFor mi g mb)) := (ps_for hp hc hi hg hb hs).imp fun D σ H q => by
  obtain ⟨ρ, δ, S, cf, p⟩ := q
  refine ⟨ρ, δ, S, cf, (postS_on (rel := ir G) cf p).mono fun J H1 ⟨ρ1, S1, ds, s1, rs1, rj, p1⟩ => ?_⟩
  refine ⟨fun i m σ' H' => m = ds.length - i ∧ i ≤ ds.length ∧ ∃ ρ' δ' S', Stp ρ1 H1 ρ' H' ∧ Cf G ρ' H' σ' δ' S' ∧ PostS G W ρ' H' (forGo g mb (ds.drop i) δ' S') D,
    ⟨ds.length, by simp, Nat.zero_le _, ρ1, δ, S1, Stp.refl, cf.step s1 rs1, by simpa using p1⟩, ?_⟩
  rintro i m σ' H' ⟨rfl, hi, ρ', δ', S', s', c', p'⟩
  by_cases hlt : i < ds.length
  · have e0 : ds.drop i = ds[i] :: ds.drop (i + 1) := List.drop_eq_getElem_cons hlt
    rw [e0] at p'
    obtain ⟨g1, g2⟩ := rj.go ρ' H' S' i ds[i] s'.b c'.rs (List.getElem?_eq_getElem hlt)
    refine .inr ⟨g1, fun σ'' H'' => ∃ ρ'' δ'' S'', Stp ρ1 H1 ρ'' H'' ∧ Cf G ρ'' H'' σ'' δ'' S'' ∧ PostS G W ρ'' H'' (forGo g mb (ds.drop (i + 1)) δ'' S'') D, ?_, fun x H2 hy => ?_⟩
    · rintro σ'' H'' ⟨ρ'', δ'', S'', q1, q2, q3⟩
      exact ⟨ds.length - (i + 1), by omega, rfl, hlt, ρ'', δ'', S'', q1, q2, q3⟩
    · obtain ⟨t1, t2, t3⟩ := g2 x H2 hy
      refine ⟨ρ', δ', S', ds[i], c'.step t1 t2, t3, ?_⟩
      unfold forGo at p'
      cases e : g ds[i] δ' S' with
      | none =>
        rw [e] at p'
        exact p'
      | some z =>
        obtain ⟨δ1, S3⟩ := z
        rw [e] at p'
        intro σ3 H3 ρ3 s3 c3 _
        have st3 : Stp ρ' H' ρ3 H3 := t1.trans s3
        refine ⟨ρ3, δ1, S3, c3, ?_⟩
        dsimp only at p'
        cases e2 : mb δ1 S3 with
        | nx δ4 S4 =>
          rw [e2] at p'
          exact fun σ4 H4 ρ4 s4 c4 => ⟨ρ4, δ4, S4, (s'.trans st3).trans s4, c4, PostS.step (st3.trans s4) p'⟩
        | ct δ4 S4 =>
          rw [e2] at p'
          exact fun σ4 H4 ρ4 s4 c4 => ⟨ρ4, δ4, S4, (s'.trans st3).trans s4, c4, PostS.step (st3.trans s4) p'⟩
        | bk δ4 S4 =>
          rw [e2] at p'
          exact fun σ4 H4 ρ4 s4 c4 => p' σ4 H4 ρ4 (st3.trans s4) c4
        | rt d S4 =>
          rw [e2] at p'
          exact fun v H4 ρ4 s4 c4 r4 => p' v H4 ρ4 (st3.trans s4) c4 r4
        | ex x δ4 S4 =>
          rw [e2] at p'
          exact fun c dx σ4 H4 ρ4 s4 c4 r4 => p' c dx σ4 H4 ρ4 (st3.trans s4) c4 r4
        | bad =>
          rw [e2] at p'
          exact p'
  · have ei : i = ds.length := by omega
    subst ei
    rw [List.drop_length] at p'
    exact .inl ⟨rj.stop ρ' H' s'.b, p' σ' H' ρ' Stp.refl c'⟩
/-! ### comprehensions -/
theorem wipe_get {σ : L2.St} {vs : List Nat} {j : Nat} : (wipe σ vs)[j]? = if j ∈ vs then (if j < σ.length then some none else none) else σ[j]? := by
  induction vs with
  | nil => simp [wipe]
  | cons v vs ih =>
    unfold wipe
    by_cases e : v = j
    · subst e
      by_cases hl : v < σ.length
      · rw [List.getElem?_set_self (by rw [wipe_length]; exact hl), if_pos (by simp), if_pos hl]
      · rw [List.getElem?_eq_none (by rw [List.length_set, wipe_length]; omega), if_pos (by simp), if_neg hl]
    · rw [List.getElem?_set_ne e, ih]
      have e2 : (j ∈ v :: vs) ↔ j ∈ vs := by
        rw [List.mem_cons]
        exact ⟨fun h => h.elim (fun q => absurd q.symm e) id, .inr⟩
      simp only [e2]
theorem wipe_but {σ σ2 : L2.St} {vs ws : List Nat} (b : But ws (wipe σ vs) σ2) (h : ∀ j ∈ ws, j ∈ vs) : wipe σ2 vs = wipe σ vs := by
  have hl : σ2.length = σ.length := by rw [b.1, wipe_length]
  apply List.ext_getElem?
  intro j
  rw [wipe_get, wipe_get, hl]
  by_cases hj : j ∈ vs
  · rw [if_pos hj, if_pos hj]
  · rw [if_neg hj, if_neg hj, b.2 j fun z => hj (h j z), wipe_get, if_neg hj]
theorem wipeD_get {δ : En} {vs : List Nat} {j : Nat} {d : Dv} : (wipeD δ vs)[j]? = some (some d) → j ∉ vs ∧ δ[j]? = some (some d) := by
  induction vs with
  | nil => exact fun h => ⟨by simp, h⟩
  | cons v vs ih =>
    intro h
    unfold wipeD at h
    by_cases e : v = j
    · subst e
      by_cases hl : v < (wipeD δ vs).length
      · rw [List.getElem?_set_self hl] at h
        cases h
      · rw [List.getElem?_eq_none (by rw [List.length_set]; omega)] at h
        cases h
    · rw [List.getElem?_set_ne e] at h
      obtain ⟨h1, h2⟩ := ih h
      exact ⟨fun m => (List.mem_cons.mp m).elim (fun q => e q.symm) h1, h2⟩
theorem wipeD_length {δ : En} {vs : List Nat} : (wipeD δ vs).length = δ.length := by
  induction vs with
  | nil => rfl
  | cons v vs ih =>
    unfold wipeD
    rw [List.length_set, ih]
theorem Cf.wipe {G : Gx} {ρ ρ' : Rg} {H H' : Hp} {σ : L2.St} {δ : En} {S S' : Sto} (c : Cf G ρ H σ δ S) (s : StB ρ H ρ' H') (r : RS G ρ' H' S') (vs : List Nat) (hxn : G.xc = none ∧ G.fx = none) : Cf G ρ' H' (wipe σ vs) (wipeD δ vs) S' :=
  ⟨r, by rw [wipe_length, wipeD_length, c.len], fun i d e => by
    obtain ⟨h1, h2⟩ := wipeD_get e
    obtain ⟨v, h3, h4⟩ := c.sl i d h2
    exact ⟨v, by rw [wipe_get, if_neg h1]; exact h3, h4.stepB s⟩, slX_none hxn⟩
abbrev W0 : WX := fun _ _ _ _ => False
theorem t_lc {mi : EA} {ws vs : List Nat} {g : TGm} {mt : EB} {σ : L2.St} {H : Hp} {Q : VK} (hxn : G.xc = none ∧ G.fx = none) (hw : ∀ j ∈ ws, j ∈ vs) (q : tE G W (eLc mi g mt me vs) σ H Q) : tLc (tI G W mi) (tG G ws g) (tB G W0 mt) (tE G W0 me) vs σ H Q := by
  obtain ⟨ρ, δ, S, cf, p⟩ := q
  refine ⟨ρ, δ, S, cf, (Post.bind p).mono fun J H1 ⟨ρ1, S1, ds, s1, rs1, rj, p1⟩ D hD => ?_⟩
  have cf1 := cf.step s1 rs1
  have p1 : Post G W σ (vr G) ρ1 H1 (if ds.length ≤ lim then lcOk (lcGo g mt me (wipeD δ vs) ds [] S1) else .bad) Q := p1
  by_cases hlim : ds.length ≤ lim
  · rw [if_pos hlim] at p1
    refine ⟨fun i m H' => m = ds.length - i ∧ i ≤ ds.length ∧ ∃ ρ' S' acc av, StB ρ1 H1 ρ' H' ∧ ρ'.b = ρ1.b ++ [D] ∧ RS G ρ' H' S' ∧ H' D = some (.lst av) ∧ RvA G.K ρ' H' av acc ∧ acc.length ≤ i ∧
      Post G W σ (vr G) ρ1 H1 (lcOk (lcGo g mt me (wipeD δ vs) (ds.drop i) acc S')) Q, ⟨ds.length, by simp, Nat.zero_le _, ρ1.hide D, S1, [], [], ?_, rfl, rs1.hide hD, upd_same, .nil, Nat.le_refl _, by simpa using p1⟩, ?_⟩
    · exact ⟨⟨[], by simp [Rg.hide], fun _ z => nomatch z⟩, ⟨[D], rfl, fun a m => by rw [List.mem_singleton.mp m]; exact Nw.of hD⟩, (Stp.new (ρ := ρ1) hD).kept⟩
    rintro i m H' ⟨rfl, hi, ρ', S', acc, av, s', eb, rs', hd', ra, hl, p'⟩
    have mD : D ∈ ρ'.b := by rw [eb]; simp
    by_cases hlt : i < ds.length
    · have e0 : ds.drop i = ds[i] :: ds.drop (i + 1) := List.drop_eq_getElem_cons hlt
      rw [e0] at p'
      obtain ⟨g1, g2⟩ := rj.go ρ' H' S' i ds[i] s' rs' (List.getElem?_eq_getElem hlt)
      refine .inr ⟨g1, fun H'' => ∃ ρ'' S'' acc'' av'', StB ρ1 H1 ρ'' H'' ∧ ρ''.b = ρ1.b ++ [D] ∧ RS G ρ'' H'' S'' ∧ H'' D = some (.lst av'') ∧ RvA G.K ρ'' H'' av'' acc'' ∧ acc''.length ≤ i + 1 ∧
        Post G W σ (vr G) ρ1 H1 (lcOk (lcGo g mt me (wipeD δ vs) (ds.drop (i + 1)) acc'' S'')) Q, ?_, fun x H2 hy => ?_⟩
      · rintro H'' ⟨ρ'', S'', acc'', av'', q1, q2, q3, q4, q5, q6, q7⟩
        exact ⟨ds.length - (i + 1), by omega, rfl, hlt, ρ'', S'', acc'', av'', q1, q2, q3, q4, q5, q6, q7⟩
      · obtain ⟨t1, t2, t3⟩ := g2 x H2 hy
        refine ⟨ρ', wipeD δ vs, S', ds[i], cf1.wipe (s'.trans t1) t2 vs hxn, t3, ?_⟩
        unfold lcGo at p'
        cases e : g ds[i] (wipeD δ vs) S' with
        | none =>
          rw [e] at p'
          exact p'.elim
        | some z =>
          obtain ⟨δ3, S3⟩ := z
          rw [e] at p'
          intro σ3 H3 ρ3 s3 c3 b3
          refine ⟨wipe_but b3 hw, ρ3, δ3, S3, c3, ?_⟩
          dsimp only at p'
          cases e2 : mt δ3 S3 with
          | bad =>
            rw [e2] at p'
            exact p'.elim
          | ex x S4 =>
            rw [e2] at p'
            exact p'.elim
          | ok b S4 =>
            rw [e2] at p'
            intro b' H4 ρ4 s4 rs4 eb'
            have eb2 : b' = b := eb'
            subst eb2
            have st4 : Stp ρ' H' ρ4 H4 := (t1.trans s3).trans s4
            have hD4 : H4 D = some (.lst av) := st4.kept _ _ hd' (rs'.bt D mD).1 (fun _ z => nomatch z)
            cases b' with
            | false =>
              show ∃ ρ'' S'' acc'' av'', _
              exact ⟨ρ4, S4, acc, av, s'.trans st4, by rw [st4.pb, eb], rs4, hD4, ra.step st4, by omega, p'⟩
            | true =>
              refine ⟨ρ4, δ3, S4, c3.step s4 rs4, ?_⟩
              dsimp only at p'
              cases e3 : me δ3 S4 with
              | bad =>
                rw [e3] at p'
                exact p'.elim
              | ex x S5 =>
                rw [e3] at p'
                exact p'.elim
              | ok y S5 =>
                rw [e3] at p'
                intro v H5 ρ5 s5 rs5 rv
                have st5 : Stp ρ' H' ρ5 H5 := st4.trans s5
                have hD5 : H5 D = some (.lst av) := st5.kept _ _ hd' (rs'.bt D mD).1 (fun _ z => nomatch z)
                have mD5 : D ∈ ρ5.b := by rw [st5.pb]; exact mD
                have ag : Agr ρ5 H5 ρ5 (upd H5 D (.lst (av ++ [v]))) := ⟨rfl, fun _ z => z, fun a n => upd_ne fun e => n.2 (by rw [e]; exact mD5)⟩
                have el := ra.length
                refine ⟨av, hD5, lim_lt (by omega), ρ5, S5, acc ++ [y], av ++ [v], ?_, by rw [st5.pb, eb], rs5.putB mD5 hD5, upd_same, ((ra.step st5).app (.cons rv .nil)).agr ag, by simp; omega, p'⟩
                have z5 := s'.trans st5
                exact ⟨z5.pre, z5.pb, fun a o h n nt => by rw [upd_ne (ne_of_none h hD)]; exact z5.kept a o h n nt⟩
    · have ei : i = ds.length := by omega
      subst ei
      rw [List.drop_length] at p'
      refine .inl ⟨rj.stop ρ' H' s', ?_⟩
      have oD : D ∉ ρ1.b := fun m => by
        obtain ⟨u, z, _⟩ := (rs1.bt D m).2
        rw [hD] at z
        cases z
      have ag : Agr ρ' H' ⟨ρ'.s, ρ1.b⟩ H' := ⟨rfl, fun a n => ⟨n.1, fun m => n.2 (by rw [eb]; exact List.mem_append_left _ m)⟩, fun _ _ => rfl⟩
      refine p' (.ref D) H' ⟨ρ'.s, ρ1.b⟩ ⟨s'.pre, rfl, s'.kept⟩ (rs'.show rfl eb) (.lst hd' ⟨(rs'.bt D mD).1, oD⟩ (ra.agr ag))
  · rw [if_neg hlim] at p1
    exact p1.elim
theorem re_lc {elt iter : Expr} {ifs : List Expr} {scope : Scope} {own : List (Str × Nat)} {ws : List Nat} {g : TGm} {mt : EB} {mi : EA} (hc : X.calm = true) (hN : X.N.Nodup) (hi : PI X tg iter (tI G W mi)) (ok : BlkOk X.N X.env.scope scope own)
    (hg : ∀ (s : Shared) (H : Hp) (C : Addr) (cl : List (Str × Addr)) (fp : List Addr), PG (X.blk s H scope (compEnvC scope cl C X.env) fp) tg (tG G ws g)) (ht : ∀ (s : Shared) (H : Hp) (C : Addr) (cl : List (Str × Addr)) (fp : List Addr), PTs (X.blk s H scope (compEnvC scope cl C X.env) fp) ifs (tB G W0 mt))
    (he : ∀ (s : Shared) (H : Hp) (C : Addr) (cl : List (Str × Addr)) (fp : List Addr), PE (X.blk s H scope (compEnvC scope cl C X.env) fp) elt (tE G W0 me)) (hw : ∀ j ∈ ws, j ∈ own.map (·.2)) (hs : ∀ x, foldedSetIterable iter X.env x = pure x := by intro _; rfl) (hxn : G.xc = none ∧ G.fx = none := by exact ⟨rfl, rfl⟩) :
    PE X (.ListComp elt [⟨tg, iter, ifs, 0⟩] scope pos) (tE G W (eLc mi g mt me (own.map (·.2)))) := (pe_lc hc hN hi ok hg ht he hs).imp fun σ H Q q => t_lc hxn hw q
theorem ts_nil : PTs X [] (tB G W bYes) := ⟨fun pins s σ H Q I q => pts_nil.run pins s σ H Q I (by
  obtain ⟨ρ, δ, S, cf, p⟩ := q
  exact Post.pure (α := Bool) (β := Bool) (rel := br) p cf.rs rfl)⟩
theorem ts_one {mt : EB} (h : PT X c (tB G W mt)) : PTs X [c] (tB G W mt) := pts_one h
theorem rs_setLc {i : Nat} {y : Str} {py spos : Pos} {elt iter : Expr} {ifs : List Expr} {scope : Scope} {own : List (Str × Nat)} {ws : List Nat} {g : TGm} {mt : EB} {mi : EA} (hc : X.calm = true) (hN : X.N.Nodup) (hy : X.N[i]? = some y) (hyl : X.env.scope.names.lookup y = some .local)
    (hsw : swapsWith (.ListComp elt [⟨tg, iter, ifs, 0⟩] scope pos) (some (.Name y py)) spos.line X.env = pure true) (hi : PI X tg iter (tI G W mi)) (ok : BlkOk X.N X.env.scope scope own)
    (hg : ∀ (s : Shared) (H : Hp) (C : Addr) (cl : List (Str × Addr)) (fp : List Addr), PG (X.blk s H scope (compEnvC scope cl C X.env) fp) tg (tG G ws g)) (ht : ∀ (s : Shared) (H : Hp) (C : Addr) (cl : List (Str × Addr)) (fp : List Addr), PTs (X.blk s H scope (compEnvC scope cl C X.env) fp) ifs (tB G W0 mt))
    (he : ∀ (s : Shared) (H : Hp) (C : Addr) (cl : List (Str × Addr)) (fp : List Addr), PE (X.blk s H scope (compEnvC scope cl C X.env) fp) elt (tE G W0 me)) (hw : ∀ j ∈ ws, j ∈ own.map (·.2)) (hs : ∀ x, foldedSetIterable iter X.env x = pure x := by intro _; rfl) (hxn : G.xc = none ∧ G.fx = none := by exact ⟨rfl, rfl⟩) :
    PS X (.Assign [.Name y py] (.ListComp elt [⟨tg, iter, ifs, 0⟩] scope pos) spos) (tS G W (sSet i (eLc mi g mt me (own.map (·.2))))) := (ps_setLc hc hN hy hyl hsw hi ok hg ht he hs).imp fun D σ H q => by
  have q2 := t_set (G := G) (W := W) (slotOk_none hxn) q
  exact t_lc hxn hw q2
end
/-! ### a def keeps its promise -/
theorem startD {G : Gx} {ρ : Rg} {H : Hp} {S : Sto} {vs : List V} {ds : List Dv} {N : List Str} (rs : RS G ρ H S) (r : RvA G.K ρ H vs ds) (hxn : G.xc = none ∧ G.fx = none) : Cf G ρ H (L2.start N vs) (ds.map some ++ List.replicate (N.length - ds.length) none) S := by
  have el := r.length
  refine ⟨rs, by simp [L2.start, el], fun i d e => ?_, slX_none hxn⟩
  by_cases hi : i < ds.length
  · rw [List.getElem?_append_left (by simpa using hi), List.getElem?_map] at e
    cases q : ds[i]? with
    | none => rw [q] at e; cases e
    | some d' =>
      rw [q] at e
      cases e
      obtain ⟨v, h1, h2⟩ := r.get q
      refine ⟨v, ?_, h2⟩
      unfold L2.start
      rw [List.getElem?_append_left (by simpa [el] using hi), List.getElem?_map, h1]
      rfl
  · rw [List.getElem?_append_right (by simpa using hi)] at e
    rw [List.getElem?_replicate] at e
    split at e <;> cases e
section
variable {P : Program} {w : World} {K : PySem.W.Frag} {mg : Str → Option Value} {base : Heap} {x qual : Str} {params : Arguments} {body : List Stmt} {scope : Scope} {f : Addr} {fd : FuncData} {T : List (Addr × Str)}
/-- the context of a def's body -/
abbrev dcx (P : Program) (w : World) (K : PySem.W.Frag) (mg : Str → Option Value) (base : Heap) (N : List Str) (qual : Str) (scope : Scope) (f : Addr) (cdv : Value) (A : Around) (outer : List Env) (s : Shared) (H : Hp) (E : XK) : Cx := cxOf (L2.CX P w) P w K mg base N qual scope f cdv A outer s H E
theorem ok_def {N ps : List Str} {k : Nat} {m : SM} (F : FunD K x qual params body scope [] [] f fd) (Sc : FnScope N ps scope)
    (hb : ∀ (cdv : Value) (A : Around) (outer : List Env) (s : Shared) (H : Hp) (E : XK), Room k (A.deeper (envOfC qual scope s.heap.objs.size f cdv)) → PSs (dcx P w K mg base N qual scope f cdv A outer s H E) body (tS ⟨K, mg, T, none, none⟩ (fun c dx _ H' => E c dx H') m)) :
    FnOk P w K mg base (L2.CX P w) (k + 1) f fd ps (spM ⟨K, mg, T, none, none⟩ ps.length (fnOf ps.length N.length m)) := by
  refine F.ok Sc (fun vs H Q E h => ?_) (fun cdv A outer s H vs Q E hr h => ⟨_, hb cdv A outer s H E hr, ?_⟩)
  · obtain ⟨ρ, S, ds, hl, _⟩ := h
    exact hl
  · obtain ⟨ρ, S, ds, hl, r, rs, p⟩ := h
    have el := r.length
    have el2 : ds.length = ps.length := by rw [← el, hl]
    refine ⟨ρ, _, S, startD rs r ⟨rfl, rfl⟩, ?_⟩
    unfold fnOf at p
    rw [if_pos el2, ← el2] at p
    cases e : m (ds.map some ++ List.replicate (N.length - ds.length) none) S with
    | nx δ' S' =>
      rw [e] at p
      exact fun σ' H' ρ' s1 c1 => p .non H' ρ' s1 c1.rs .non
    | rt d S' =>
      rw [e] at p
      exact p
    | bk δ' S' =>
      rw [e] at p
      exact p.elim
    | ct δ' S' =>
      rw [e] at p
      exact p.elim
    | ex x δ' S' =>
      rw [e] at p
      exact fun c dx σ' H' ρ' s1 c1 r1 => p c dx H' ρ' s1 c1.rs r1
    | bad =>
      rw [e] at p
      exact p
end
end Mi
end T_Sim2
section T_Sim3
set_option Elab.async false
set_option linter.all false
set_option maxRecDepth 100000
set_option maxHeartbeats 2000000
namespace Mi
open PySem PySem.Spec PyProof.Rows L2
theorem OpR_or {X : Cx} {f : Value → Value → Sem Value} {r1 r2 : R2} (h1 : OpR X f r1) (h2 : OpR X f r2) : OpR X f (fun x y H Q => r1 x y H Q ∨ r2 x y H Q) := fun pins s σ H x y v u Q I rx ry h => by
  rcases h with h | h
  · exact h1 pins s σ H x y v u Q I rx ry h
  · exact h2 pins s σ H x y v u Q I rx ry h
theorem CallR_or {X : Cx} {f : Value} {r1 r2 : List V → Hp → VK → Prop} (h1 : CallR X f r1) (h2 : CallR X f r2) : CallR X f (fun xs H Q => r1 xs H Q ∨ r2 xs H Q) := fun pins s σ H xs us Q I r h => by
  rcases h with h | h
  · exact h1 pins s σ H xs us Q I r h
  · exact h2 pins s σ H xs us Q I r h
section
variable {G : Gx} {W : WX} {ρ : Rg} {H : Hp} {S : Sto} {v : V} {d : Dv} {ds : List Dv}
theorem asL_ok (rs : RS G ρ H S) (r : Rv G.K ρ H v d) (h : asL S d = some ds) : ∃ a vs, v = .ref a ∧ H a = some (.lst vs) ∧ RvA G.K ρ H vs ds := by
  cases r with
  | lst h1 n r =>
    cases h
    exact ⟨_, _, rfl, h1, r⟩
  | @loc n a hn =>
    have h : (match S[n]? with | some (.lst ds) => some ds | _ => none) = some ds := h
    obtain ⟨ob, h1, h2⟩ := rs.at hn
    rw [h1] at h
    cases ob with
    | lst xs =>
      cases h
      obtain ⟨vs, q1, q2⟩ := h2
      exact ⟨a, vs, rfl, q1, q2⟩
    | _ => cases h
  | _ => cases h
theorem asC_ok (rs : RS G ρ H S) (r : Rv G.K ρ H v d) (h : asC S d = some ds) : ∃ a vs, v = .ref a ∧ SqL G.K H a vs ∧ RvA G.K ρ H vs ds := by
  cases d with
  | con xs =>
    cases h
    cases r with
    | con h1 r => exact ⟨_, _, rfl, h1.sq, r⟩
  | lst xs =>
    obtain ⟨a, vs, e, q, r⟩ := asL_ok rs r (show asL S (.lst xs) = some ds from h)
    exact ⟨a, vs, e, SqL.of q, r⟩
  | loc n =>
    obtain ⟨a, vs, e, q, r⟩ := asL_ok rs r (show asL S (.loc n) = some ds from h)
    exact ⟨a, vs, e, SqL.of q, r⟩
  | _ => cases h
/-- a new tuple | list that nobody changes -/
theorem Post.newT {σ : L2.St} {vs : List V} {ds : List Dv} {Q : VK} (p : Post G W σ (vr G) ρ H (.ok (.tup ds) S) Q) (rs : RS G ρ H S) (r : RvA G.K ρ H vs ds) {u : Addr} (hu : H u = none) : Q (.ref u) (upd H u (.tup vs)) :=
  p _ _ ρ (Stp.new hu) (rs.new hu) (.tup ⟨upd_same, rs.nin hu⟩ (r.step (Stp.new hu)))
theorem Post.newL {σ : L2.St} {vs : List V} {ds : List Dv} {Q : VK} (p : Post G W σ (vr G) ρ H (.ok (.lst ds) S) Q) (rs : RS G ρ H S) (r : RvA G.K ρ H vs ds) {u : Addr} (hu : H u = none) : Q (.ref u) (upd H u (.lst vs)) :=
  p _ _ ρ (Stp.new hu) (rs.new hu) (.lst upd_same (rs.nin hu) (r.step (Stp.new hu)))
theorem Post.val {σ : L2.St} {Q : VK} (p : Post G W σ (vr G) ρ H (.ok d S) Q) (rs : RS G ρ H S) (r : Rv G.K ρ H v d) : Q v H := p v H ρ Stp.refl rs r
theorem okS_app {x y : Str} (hx : OkS x) (hy : OkS y) : OkS (x ++ y) := fun c hc => by
  have e : (x ++ y).cps = x.cps ++ y.cps := rfl
  rw [e, Array.toList_append] at hc
  rcases List.mem_append.mp hc with h | h
  · exact hx c h
  · exact hy c h
theorem okS_sub {x : Str} {l : List Nat} (hx : OkS x) (h : ∀ c ∈ l, c ∈ x.cps.toList) : OkS ⟨l.toArray⟩ := fun c hc => hx c (h c (by simpa using hc))
end
section
variable {G : Gx} {W : WX} {X : Cx}
/-! ### arithmetic -/
theorem o_add (hK : X.K = G.K) : OpR X (binaryOp .Add) (fun x y H Q => (((∃ i j, x = .int i ∧ y = .int j ∧ Q (.int (i + j)) H) ∨ (∃ i j, x = .str i ∧ y = .str j ∧ i.length + j.length ≤ sizeLine ∧ Q (.str (i ++ j)) H)) ∨ rCatA G.K x y H Q) ∨ rCat x y H Q) :=
  OpR_or (OpR_or (OpR_or op_add op_add_str) (by rw [← hK]; exact op_catA)) op_cat
theorem d_add : Op2 G W (fun x y H Q => (((∃ i j, x = .int i ∧ y = .int j ∧ Q (.int (i + j)) H) ∨ (∃ i j, x = .str i ∧ y = .str j ∧ i.length + j.length ≤ sizeLine ∧ Q (.str (i ++ j)) H)) ∨ rCatA G.K x y H Q) ∨ rCat x y H Q) mAdd := by
  intro ρ H σ S x y d e Q rs rx ry p
  unfold mAdd at p
  split at p
  · cases rx; cases ry
    exact .inl (.inl (.inl ⟨_, _, rfl, rfl, p.val rs (.int _)⟩))
  · split at p
    · rename_i hl
      cases rx with
      | str _ hx =>
        cases ry with
        | str _ hy => exact .inl (.inl (.inr ⟨_, _, rfl, rfl, lim_ok hl, p.val rs (.str _ (okS_app hx hy))⟩))
    · exact p.elim
  · split at p
    · rename_i xs ys hl
      cases rx with
      | @tup a vs _ hx r1 =>
        cases ry with
        | @tup b ws _ hy r2 =>
          refine .inl (.inr ⟨a, b, vs, ws, rfl, rfl, hx.sq, hy.sq, lim_ok (by rw [r1.length, r2.length]; exact hl), fun e => ?_, fun e1 e2 => ?_, fun _ _ u hu => p.newT rs (r1.app r2) hu⟩)
          · subst e
            cases r1
            exact p.val rs (.tup hy r2)
          · subst e2
            cases r2
            rw [List.append_nil] at p
            exact p.val rs (.tup hx r1)
    · exact p.elim
  · split at p
    · rename_i xs ys e1 e2
      split at p
      · rename_i hl
        obtain ⟨a, vs, rfl, h1, r1⟩ := asL_ok rs rx e1
        obtain ⟨b, ws, rfl, h2, r2⟩ := asL_ok rs ry e2
        exact .inr ⟨a, b, vs, ws, rfl, rfl, h1, h2, lim_ok (by rw [r1.length, r2.length]; exact hl), fun u hu => p.newL rs (r1.app r2) hu⟩
      · exact p.elim
    · exact p.elim
theorem d_sub : Op2 G W (rI0 fun i j => .int (i - j)) mSub := by
  intro ρ H σ S x y d e Q rs rx ry p
  unfold mSub at p
  split at p
  · cases rx; cases ry
    exact ⟨_, _, rfl, rfl, p.val rs (.int _)⟩
  · exact p.elim
theorem o_mul : OpR X (binaryOp .Mult) (fun x y H Q => (∃ i j, x = .int i ∧ y = .int j ∧ CMul i j ∧ Q (.int (i * j)) H) ∨ rRep x y H Q) := OpR_or op_mul op_rep
theorem rep_rel {K : PySem.W.Frag} {ρ : Rg} {H : Hp} {vs : List V} {ds : List Dv} (r : RvA K ρ H vs ds) : ∀ n : Nat, RvA K ρ H (List.replicate n vs).flatten (List.replicate n ds).flatten
  | 0 => .nil
  | n + 1 => by
    rw [List.replicate_succ, List.replicate_succ, List.flatten_cons, List.flatten_cons]
    exact r.app (rep_rel r n)
theorem d_mul : Op2 G W (fun x y H Q => (∃ i j, x = .int i ∧ y = .int j ∧ CMul i j ∧ Q (.int (i * j)) H) ∨ rRep x y H Q) mMul := by
  intro ρ H σ S x y d e Q rs rx ry p
  unfold mMul at p
  split at p
  · split at p
    · rename_i hc
      cases rx; cases ry
      refine .inl ⟨_, _, rfl, rfl, ?_, p.val rs (.int _)⟩
      rcases hc with h | h
      · exact .inl ⟨by omega, by omega⟩
      · exact .inr ⟨by omega, by omega⟩
    · exact p.elim
  · split at p
    · rename_i xs j hc
      cases ry
      cases rx with
      | @lst a vs _ h n r =>
        have l1 : (lim : Int) = 100000 := rfl
        exact .inr ⟨a, j, vs, rfl, rfl, h, by omega, by omega, lim_ok (by rw [r.length]; exact hc.1), fun u hu => p.newL rs (rep_rel r _) hu⟩
    · exact p.elim
  · exact p.elim
theorem d_fdiv : Op2 G W (rI CDiv fun i j => .int (i / j)) mFdiv := by
  intro ρ H σ S x y d e Q rs rx ry p
  unfold mFdiv at p
  split at p
  · split at p
    · rename_i hc
      cases rx; cases ry
      exact ⟨_, _, rfl, rfl, hc, p.val rs (.int _)⟩
    · exact p.elim
  · exact p.elim
theorem d_mod : Op2 G W (rI (fun _ j => 0 < j) fun i j => .int (i % j)) mMod := by
  intro ρ H σ S x y d e Q rs rx ry p
  unfold mMod at p
  split at p
  · split at p
    · rename_i hc
      cases rx; cases ry
      exact ⟨_, _, rfl, rfl, hc, p.val rs (.int _)⟩
    · exact p.elim
  · exact p.elim
theorem d_pow : Op2 G W (rI CPow fun i j => .int (i ^ j.toNat)) mPow := by
  intro ρ H σ S x y d e Q rs rx ry p
  unfold mPow at p
  split at p
  · split at p
    · rename_i hc
      cases rx; cases ry
      exact ⟨_, _, rfl, rfl, ⟨hc.1, by omega, hc.2.2⟩, p.val rs (.int _)⟩
    · exact p.elim
  · exact p.elim
theorem d_neg : Op1 G W (rU fun i => .int (-i)) mNeg := by
  intro ρ H σ S x d Q rs rx p
  unfold mNeg at p
  split at p
  · cases rx
    exact ⟨_, rfl, p.val rs (.int _)⟩
  · exact p.elim
theorem d_cmp {f : Int → Int → Bool} : Op2 G W (rI0 fun i j => .bl (f i j)) (mCmp f) := by
  intro ρ H σ S x y d e Q rs rx ry p
  unfold mCmp at p
  split at p
  · cases rx; cases ry
    exact ⟨_, _, rfl, rfl, p.val rs (.bl _)⟩
  · exact p.elim
/-! ### is -/
theorem o_is : OpR X (compareOp .Is) (fun x y H Q => (y = .non ∧ Q (.bl (decide (x = .non))) H) ∨ ∃ a b, x = .bl a ∧ y = .bl b ∧ Q (.bl (decide (a = b))) H) := OpR_or op_isN op_is_bl
theorem o_isnot : OpR X (compareOp .IsNot) (fun x y H Q => (y = .non ∧ Q (.bl (!decide (x = .non))) H) ∨ ∃ a b, x = .bl a ∧ y = .bl b ∧ Q (.bl (!decide (a = b))) H) := OpR_or op_notN op_isnot_bl
theorem rv_non {K : PySem.W.Frag} {ρ : Rg} {H : Hp} {x : V} {d : Dv} (r : Rv K ρ H x d) (h : d ≠ .non) : x ≠ .non := fun e => by
  subst e
  cases r
  exact h rfl
theorem d_is : Op2 G W (fun x y H Q => (y = .non ∧ Q (.bl (decide (x = .non))) H) ∨ ∃ a b, x = .bl a ∧ y = .bl b ∧ Q (.bl (decide (a = b))) H) mIs := by
  intro ρ H σ S x y d e Q rs rx ry p
  unfold mIs mIsB at p
  split at p
  · cases rx; cases ry
    exact .inl ⟨rfl, p.val rs (.bl true)⟩
  · rename_i hd
    cases ry
    refine .inl ⟨rfl, ?_⟩
    rw [decide_eq_false (rv_non rx hd)]
    exact p.val rs (.bl false)
  · cases rx; cases ry
    exact .inr ⟨_, _, rfl, rfl, p.val rs (.bl _)⟩
  · exact p.elim
theorem d_isnot : Op2 G W (fun x y H Q => (y = .non ∧ Q (.bl (!decide (x = .non))) H) ∨ ∃ a b, x = .bl a ∧ y = .bl b ∧ Q (.bl (!decide (a = b))) H) mIsNot := by
  intro ρ H σ S x y d e Q rs rx ry p
  unfold mIsNot mIsB at p
  split at p
  · cases rx; cases ry
    exact .inl ⟨rfl, p.val rs (.bl false)⟩
  · rename_i hd
    cases ry
    refine .inl ⟨rfl, ?_⟩
    rw [decide_eq_false (rv_non rx hd)]
    exact p.val rs (.bl true)
  · cases rx; cases ry
    exact .inr ⟨_, _, rfl, rfl, p.val rs (.bl _)⟩
  · exact p.elim
/-! ### len, all, any, tuple, list, abs .. -/
theorem d_len : OpN G W (fun xs H Q => ∃ x n, xs = [x] ∧ LenV G.K x H n ∧ Q (.int n) H) mLen := by
  intro ρ H σ S xs ds Q rs rx p
  unfold mLen at p
  split at p
  · split at p
    · rename_i hl
      obtain ⟨v, rfl, rv⟩ := rx.one
      cases rv
      exact ⟨_, _, rfl, ⟨lim_ok hl, rfl⟩, p.val rs (.int _)⟩
    · exact p.elim
  · obtain ⟨v, rfl, rv⟩ := rx.one
    cases rv with
    | @tup a vs _ h r => exact ⟨_, vs.length, rfl, .inr ⟨vs, h.sq, rfl⟩, by rw [r.length]; exact p.val rs (.int _)⟩
  · split at p
    · rename_i e
      obtain ⟨v, rfl, rv⟩ := rx.one
      obtain ⟨a, vs, rfl, h, r⟩ := asC_ok rs rv e
      exact ⟨_, vs.length, rfl, .inl ⟨vs, h, rfl⟩, by rw [r.length]; exact p.val rs (.int _)⟩
    · exact p.elim
  · exact p.elim
theorem bls_ok {K : PySem.W.Frag} {ρ : Rg} {H : Hp} : ∀ {ds : List Dv} {vs : List V} {bs : List Bool}, RvA K ρ H vs ds → blsOf ds = some bs → vs = bs.map V.bl
  | [], _, bs, r, h => by
    cases r
    cases h
    rfl
  | d :: ds, _, bs, r, h => by
    cases r with
    | cons h1 r1 =>
      cases h1 with
      | bl b =>
        have h' : (blsOf ds).map (b :: ·) = some bs := h
        cases e : blsOf ds with
        | none => rw [e] at h'; cases h'
        | some l =>
          rw [e] at h'
          cases h'
          rw [bls_ok r1 e]
          rfl
      | _ => cases h
theorem d_allB {k : List Bool → Bool} : OpN G W (fun xs H Q => ∃ a bs, xs = [.ref a] ∧ SqL G.K H a (bs.map V.bl) ∧ Q (.bl (k bs)) H) (mAllB k) := by
  intro ρ H σ S xs ds Q rs rx p
  unfold mAllB at p
  split at p
  · split at p
    · rename_i e
      split at p
      · rename_i bs e2
        obtain ⟨v, rfl, rv⟩ := rx.one
        obtain ⟨a, vs, rfl, h, r⟩ := asC_ok rs rv e
        have e3 := bls_ok r e2
        subst e3
        exact ⟨a, bs, rfl, h, p.val rs (.bl _)⟩
      · exact p.elim
    · exact p.elim
  · exact p.elim
theorem d_tuple : OpN G W (fun xs H Q => ∃ p ys, xs = [.ref p] ∧ ((SqL G.K H p ys ∧ ∀ l, H l = none → Q (.ref l) (upd H l (.tup ys))) ∨ (SqT G.K H p ys ∧ Q (.ref p) H))) mTuple := by
  intro ρ H σ S xs ds Q rs rx p
  unfold mTuple at p
  split at p
  · obtain ⟨v, rfl, rv⟩ := rx.one
    cases rv with
    | @tup a vs _ h r => exact ⟨a, vs, rfl, .inr ⟨h.sq, p.val rs (.tup h r)⟩⟩
  · split at p
    · rename_i e
      obtain ⟨v, rfl, rv⟩ := rx.one
      obtain ⟨a, vs, rfl, h, r⟩ := asC_ok rs rv e
      exact ⟨a, vs, rfl, .inl ⟨h, fun l hl => p.newT rs r hl⟩⟩
    · exact p.elim
  · exact p.elim
theorem d_list : OpN G W (fun xs H Q => ∃ p ys, xs = [.ref p] ∧ (SqL G.K H p ys ∨ SqT G.K H p ys) ∧ ∀ l, H l = none → Q (.ref l) (upd H l (.lst ys))) mList := by
  intro ρ H σ S xs ds Q rs rx p
  unfold mList at p
  split at p
  · obtain ⟨v, rfl, rv⟩ := rx.one
    cases rv with
    | @tup a vs _ h r => exact ⟨a, vs, rfl, .inr h.sq, fun l hl => p.newL rs r hl⟩
  · split at p
    · rename_i e
      obtain ⟨v, rfl, rv⟩ := rx.one
      obtain ⟨a, vs, rfl, h, r⟩ := asC_ok rs rv e
      exact ⟨a, vs, rfl, .inl h, fun l hl => p.newL rs r hl⟩
    · exact p.elim
  · exact p.elim
theorem d_abs : OpN G W (fun xs H Q => ∃ i, xs = [.int i] ∧ Q (.int (if i < 0 then -i else i)) H) mAbs := by
  intro ρ H σ S xs ds Q rs rx p
  unfold mAbs at p
  split at p
  · obtain ⟨v, rfl, rv⟩ := rx.one
    cases rv
    exact ⟨_, rfl, p.val rs (.int _)⟩
  · exact p.elim
theorem d_max : OpN G W (fun xs H Q => ∃ i j, xs = [.int i, .int j] ∧ Q (.int (if j > i then j else i)) H) mMax := by
  intro ρ H σ S xs ds Q rs rx p
  unfold mMax at p
  split at p
  · obtain ⟨v, w, rfl, rv, rw_⟩ := rx.two
    cases rv; cases rw_
    exact ⟨_, _, rfl, p.val rs (.int _)⟩
  · exact p.elim
theorem d_min : OpN G W (fun xs H Q => ∃ i j, xs = [.int i, .int j] ∧ Q (.int (if j < i then j else i)) H) mMin := by
  intro ρ H σ S xs ds Q rs rx p
  unfold mMin at p
  split at p
  · obtain ⟨v, w, rfl, rv, rw_⟩ := rx.two
    cases rv; cases rw_
    exact ⟨_, _, rfl, p.val rs (.int _)⟩
  · exact p.elim
theorem d_int : OpN G W (fun xs H Q => (∃ i, xs = [.int i] ∧ Q (.int i) H) ∨ ∃ k, xs = [.bl k] ∧ Q (.int (if k then 1 else 0)) H) mInt := by
  intro ρ H σ S xs ds Q rs rx p
  unfold mInt at p
  split at p
  · obtain ⟨v, rfl, rv⟩ := rx.one
    cases rv
    exact .inl ⟨_, rfl, p.val rs (.int _)⟩
  · obtain ⟨v, rfl, rv⟩ := rx.one
    cases rv
    exact .inr ⟨_, rfl, p.val rs (.int _)⟩
  · exact p.elim
theorem d_divmod : OpN G W (fun xs H Q => ∃ i j, xs = [.int i, .int j] ∧ CDiv i j ∧ ∀ p, H p = none → Q (.ref p) (upd H p (.tup [.int (i / j), .int (i % j)]))) mDivmod := by
  intro ρ H σ S xs ds Q rs rx p
  unfold mDivmod at p
  split at p
  · split at p
    · rename_i hc
      obtain ⟨v, w, rfl, rv, rw_⟩ := rx.two
      cases rv; cases rw_
      exact ⟨_, _, rfl, hc, fun l hl => Post.newT p rs (.cons (.int _) (.cons (.int _) .nil)) hl⟩
    · exact p.elim
  · exact p.elim
/-! ### subscripts, slices -/
theorem atI_rel {K : PySem.W.Frag} {ρ : Rg} {H : Hp} {vs : List V} {ds : List Dv} {i : Int} {d : Dv} (r : RvA K ρ H vs ds) (h : atI ds i = some d) : ∃ v, atI vs i = some v ∧ Rv K ρ H v d := by
  unfold atI at h ⊢
  rw [r.length]
  cases e : ixN ds.length i with
  | none => rw [e] at h; cases h
  | some j =>
    rw [e] at h
    obtain ⟨v, h1, h2⟩ := r.get (i := j) h
    exact ⟨v, h1, h2⟩
theorem atI_mem {α : Type} {xs : List α} {i : Int} {c : α} (h : atI xs i = some c) : ∃ j : Nat, xs[j]? = some c := by
  unfold atI at h
  cases e : ixN xs.length i with
  | none => rw [e] at h; cases h
  | some j =>
    rw [e] at h
    exact ⟨j, h⟩
theorem d_ix : Op2 G W (rIx G.K) mIx := by
  intro ρ H σ S x y d e Q rs rx ry p
  unfold mIx at p
  split at p
  · split at p
    · rename_i hl
      split at p
      · rename_i c hc
        cases ry
        cases rx with
        | str _ hz =>
          refine .inr (.inr ⟨_, _, c, rfl, rfl, lim_ok hl, hc, p.val rs (.str _ fun q hq => ?_)⟩)
          have hq : q = c := by simpa using hq
          subst hq
          obtain ⟨j, hj⟩ := atI_mem hc
          exact hz _ (List.mem_of_getElem? hj)
      · exact p.elim
    · exact p.elim
  · split at p
    · rename_i hv
      cases ry
      cases rx with
      | @tup a vs _ h r =>
        obtain ⟨v, h1, h2⟩ := atI_rel r hv
        exact .inr (.inl ⟨a, vs, _, v, rfl, rfl, h.sq, h1, p.val rs h2⟩)
    · exact p.elim
  · split at p
    · rename_i e1
      split at p
      · rename_i hv
        cases ry
        obtain ⟨a, vs, rfl, h, r⟩ := asC_ok rs rx e1
        obtain ⟨v, h1, h2⟩ := atI_rel r hv
        exact .inl ⟨a, vs, _, v, rfl, rfl, h, h1, p.val rs h2⟩
      · exact p.elim
    · exact p.elim
  · exact p.elim
theorem re_ix {a b : Expr} {ma mb : EX} {pos : Pos} (hK : X.K = G.K) (ha : PE X a (tE G W ma)) (hb : PE X b (tE G W mb)) (hp : PlainIx b) : PE X (.Subscript a b pos) (tE G W (e2 mIx ma mb)) := (pe_ix ix_seq ha hb hp).imp fun _ _ _ q => by
  rw [hK]
  exact t_op d_ix q
theorem RvA.take {K : PySem.W.Frag} {ρ : Rg} {H : Hp} : ∀ {vs : List V} {ds : List Dv} (n : Nat), RvA K ρ H vs ds → RvA K ρ H (vs.take n) (ds.take n)
  | _, _, 0, _ => by simp; exact .nil
  | _, _, _ + 1, .nil => by simp; exact .nil
  | _, _, n + 1, .cons h r => by simpa using RvA.cons h (RvA.take n r)
theorem RvA.drop {K : PySem.W.Frag} {ρ : Rg} {H : Hp} : ∀ {vs : List V} {ds : List Dv} (n : Nat), RvA K ρ H vs ds → RvA K ρ H (vs.drop n) (ds.drop n)
  | _, _, 0, r => by simpa using r
  | _, _, _ + 1, .nil => by simp; exact .nil
  | _, _, n + 1, .cons _ r => by simpa using RvA.drop n r
theorem RvA.cut {K : PySem.W.Frag} {ρ : Rg} {H : Hp} {vs : List V} {ds : List Dv} (r : RvA K ρ H vs ds) (lo hi : Option Int) : RvA K ρ H (cutV vs lo hi) (cutD ds lo hi) := by
  unfold cutV cutD
  rw [r.length]
  exact (r.drop _).take _
theorem cutD_all {ds : List Dv} {lo hi : Option Int} (h : HT.sIx ds.length 0 lo = 0 ∧ HT.sIx ds.length ds.length hi = ds.length) : cutD ds lo hi = ds := by
  unfold cutD
  rw [h.1, h.2]
  simp
abbrev orr : Rg → Hp → Option Int → Option Int → Prop := fun _ _ b c => b = c
theorem ro_none : PO X none (tX G W orr oNone) := ⟨fun pins s σ H Q I q => po_none.run pins s σ H Q I (by
  obtain ⟨ρ, δ, S, cf, p⟩ := q
  exact Post.pure (rel := orr) p cf.rs rfl)⟩
theorem ro_some {a : Expr} {ma : EX} (h : PE X a (tE G W ma)) : PO X (some a) (tX G W orr (oSome ma)) := ⟨fun pins s σ H Q I q => (po_some h).run pins s σ H Q I (by
  obtain ⟨ρ, δ, S, cf, p⟩ := q
  refine ⟨ρ, δ, S, cf, (Post.bind p).mono fun x H1 ⟨ρ1, S1, d, s1, rs1, rx, p1⟩ => ?_⟩
  cases rx with
  | int i => exact ⟨i, rfl, Post.pure (rel := orr) p1 rs1 rfl⟩
  | _ => exact p1.elim)⟩
theorem okS_cut {x : Str} (h : OkS x) (lo hi : Option Int) : OkS (cutS x lo hi) := okS_sub h fun c hc => List.mem_of_mem_drop (List.mem_of_mem_take hc)
theorem re_sl {a : Expr} {ma : EX} {lo hi : Option Expr} {ol oh : EO} {pos p2 : Pos} (hK : X.K = G.K) (ha : PE X a (tE G W ma)) (hl : PO X lo (tX G W orr ol)) (hh : PO X hi (tX G W orr oh)) : PE X (.Subscript a (.Slice lo hi none p2) pos) (tE G W (eSl ma ol oh)) :=
  (pe_slice ((sl_list.or sl_tupA).or sl_str) ha hl hh).imp fun σ H Q q => by
    obtain ⟨ρ, δ, S, cf, p⟩ := q
    refine ⟨ρ, δ, S, cf, (Post.bind p).mono fun x H1 ⟨ρ1, S1, d, s1, rs1, rx, p1⟩ => ?_⟩
    refine ⟨ρ1, δ, S1, cf.step s1 rs1, (Post.bind p1).mono fun l H2 ⟨ρ2, S2, l', s2, rs2, rl, p2⟩ => ?_⟩
    have el : l = l' := rl
    subst el
    refine ⟨ρ2, δ, S2, (cf.step s1 rs1).step s2 rs2, (Post.bind p2).mono fun h H3 ⟨ρ3, S3, h', s3, rs3, rh, p3⟩ => ?_⟩
    have eh : h = h' := rh
    subst eh
    have rx3 := (rx.step s2).step s3
    unfold mSl at p3
    dsimp only at p3
    split at p3
    · split at p3
      · rename_i hlm
        cases rx3 with
        | str _ hz => exact .inr ⟨_, rfl, lim_ok hlm, p3.val rs3 (.str _ (okS_cut hz _ _))⟩
      · exact p3.elim
    · cases rx3 with
      | @tup a vs _ ht r =>
        refine .inl (.inr ⟨a, vs, rfl, by rw [hK]; exact ht.sq, fun hw => ?_, fun _ u hu => p3.newT rs3 (r.cut _ _) hu⟩)
        rw [r.length] at hw
        rw [cutD_all hw] at p3
        exact p3.val rs3 (.tup ht r)
    · split at p3
      · rename_i e1
        obtain ⟨a, vs, rfl, ht, r⟩ := asC_ok rs3 rx3 e1
        exact .inl (.inl ⟨a, vs, rfl, by rw [hK]; exact ht, fun u hu => p3.newL rs3 (r.cut _ _) hu⟩)
      · exact p3.elim
/-! ### data -/
theorem optAll_len {α : Type} : ∀ {l : List (Option α)} {r : List α}, optAll l = some r → l.length = r.length
  | [], _, h => by cases h; rfl
  | some a :: l, r, h => by
    have h' : (optAll l).map (a :: ·) = some r := h
    cases e : optAll l with
    | none => rw [e] at h'; cases h'
    | some z =>
      rw [e] at h'
      cases h'
      exact congrArg (· + 1) (optAll_len e)
  | none :: _, _, h => by cases h
theorem optAll_cons {α : Type} {a : Option α} {l : List (Option α)} {r : List α} (h : optAll (a :: l) = some r) : ∃ b r', a = some b ∧ optAll l = some r' ∧ r = b :: r' := by
  cases a with
  | none => cases h
  | some b =>
    have h' : (optAll l).map (b :: ·) = some r := h
    cases e : optAll l with
    | none => rw [e] at h'; cases h'
    | some z =>
      rw [e] at h'
      cases h'
      exact ⟨b, z, rfl, rfl, rfl⟩
theorem deep_dpA {ρ : Rg} {H : Hp} {S : Sto} {k : Nat} (ih : ∀ (d : Dv) (p : PyData) (v : V), deep S k d = some p → noDict p = true → Rv G.K ρ H v d → Dp G.K H v p) :
    ∀ (ds : List Dv) (ps : List PyData) (vs : List V), optAll (ds.map (deep S k)) = some ps → noDictA ps = true → RvA G.K ρ H vs ds → DpAll G.K H vs ps
  | [], _, _, h, _, r => by
    cases h
    cases r
    exact .nil
  | d :: ds, _, _, h, hn, r => by
    obtain ⟨b, r', e1, e2, rfl⟩ := optAll_cons (show optAll (deep S k d :: ds.map (deep S k)) = _ from h)
    obtain ⟨n1, n2⟩ := Bool.and_eq_true_iff.mp (show (noDict b && noDictA r') = true from hn)
    cases r with
    | cons h1 r1 => exact .cons (ih d b _ e1 n1 h1) (deep_dpA ih ds r' _ e2 n2 r1)
theorem deep_dp {ρ : Rg} {H : Hp} {S : Sto} (rs : RS G ρ H S) : ∀ (k : Nat) (d : Dv) (p : PyData) (v : V), deep S k d = some p → noDict p = true → Rv G.K ρ H v d → Dp G.K H v p
  | 0, _, _, _, h, _, _ => by cases h
  | k + 1, d, p, v, h, hn, r => by
    have ih := deep_dp rs k
    cases r with
    | exc => cases h
    | exc0 => cases h
    | non => cases h; exact .non
    | bl b => cases h; exact .bl b
    | int i => cases h; exact .int i
    | str x hx => cases h; exact .str x
    | @tup a vs ds ht r =>
      have h' : (optAll (ds.map (deep S k))).map PyData.tuple = some p := h
      cases e : optAll (ds.map (deep S k)) with
      | none => rw [e] at h'; cases h'
      | some ps =>
        rw [e] at h'
        cases h'
        exact .tup ht.sq (deep_dpA ih ds ps vs e hn r)
    | @lst a vs ds ht n r =>
      have h' : (optAll (ds.map (deep S k))).map PyData.list = some p := h
      cases e : optAll (ds.map (deep S k)) with
      | none => rw [e] at h'; cases h'
      | some ps =>
        rw [e] at h'
        cases h'
        exact .lst (SqL.of ht) (deep_dpA ih ds ps vs e hn r)
    | @con a vs ds ht r =>
      have h' : (optAll (ds.map (deep S k))).map PyData.list = some p := h
      cases e : optAll (ds.map (deep S k)) with
      | none => rw [e] at h'; cases h'
      | some ps =>
        rw [e] at h'
        cases h'
        exact .lst ht.sq (deep_dpA ih ds ps vs e hn r)
    | @dct a kvs dks ht n e r =>
      have h' : (if dks.all (fun q => okKB q.1) = true then (optAll ((dks.map (·.2)).map (deep S k))).map (fun vs => PyData.dict ((dks.map fun q => kPd q.1).zip vs)) else none) = some p := h
      by_cases hkb : dks.all (fun q => okKB q.1) = true
      case neg => rw [if_neg hkb] at h'; cases h'
      rw [if_pos hkb] at h'
      cases e : optAll ((dks.map (·.2)).map (deep S k)) with
      | none => rw [e] at h'; cases h'
      | some ps =>
        rw [e] at h'
        cases h'
        cases hn
    | @loc n a hn' =>
      have h' : (match S[n]? with | some (.lst xs) => (optAll (xs.map (deep S k))).map PyData.list | _ => none) = some p := h
      obtain ⟨ob, h1, h2⟩ := rs.at hn'
      rw [h1] at h'
      cases ob with
      | lst ds =>
        obtain ⟨vs, q1, q2⟩ := h2
        have h' : (optAll (ds.map (deep S k))).map PyData.list = some p := h'
        cases e : optAll (ds.map (deep S k)) with
        | none => rw [e] at h'; cases h'
        | some ps =>
          rw [e] at h'
          cases h'
          exact .lst (SqL.of q1) (deep_dpA ih ds ps vs e hn q2)
      | _ => cases h'
/-! its form -/
theorem layA {ρ : Rg} {H : Hp} {S : Sto} {k : Nat} (ih : ∀ (d : Dv) (p : PyData) (v : V), deep S k d = some p → noDict p = true → Rv G.K ρ H v d → p.canLay0 = true ∧ p.depth ≤ k) :
    ∀ (ds : List Dv) (ps : List PyData) (vs : List V), optAll (ds.map (deep S k)) = some ps → noDictA ps = true → RvA G.K ρ H vs ds → PyData.canLayAll0 ps = true ∧ PyData.depthAll ps ≤ k
  | [], _, _, h, _, r => by
    cases h
    exact ⟨rfl, Nat.zero_le _⟩
  | d :: ds, _, _, h, hn, r => by
    obtain ⟨b, r', e1, e2, rfl⟩ := optAll_cons (show optAll (deep S k d :: ds.map (deep S k)) = _ from h)
    obtain ⟨n1, n2⟩ := Bool.and_eq_true_iff.mp (show (noDict b && noDictA r') = true from hn)
    cases r with
    | cons h1 r1 =>
      obtain ⟨a1, a2⟩ := ih d b _ e1 n1 h1
      obtain ⟨b1, b2⟩ := layA ih ds r' _ e2 n2 r1
      refine ⟨Bool.and_eq_true_iff.mpr ⟨a1, b1⟩, ?_⟩
      show max b.depth (PyData.depthAll r') ≤ k
      omega
theorem deep_lay {ρ : Rg} {H : Hp} {S : Sto} (rs : RS G ρ H S) : ∀ (k : Nat) (d : Dv) (p : PyData) (v : V), deep S k d = some p → noDict p = true → Rv G.K ρ H v d → p.canLay0 = true ∧ p.depth ≤ k
  | 0, _, _, _, h, _, _ => by cases h
  | k + 1, d, p, v, h, hn, r => by
    have ih := deep_lay rs k
    cases r with
    | exc => cases h
    | exc0 => cases h
    | non => cases h; exact ⟨rfl, Nat.zero_le _⟩
    | bl b => cases h; exact ⟨rfl, Nat.zero_le _⟩
    | int i => cases h; exact ⟨rfl, Nat.zero_le _⟩
    | str x hx =>
      cases h
      refine ⟨?_, Nat.zero_le _⟩
      show PyData.strOk x = true
      unfold PyData.strOk
      rw [Array.all_eq_true]
      intro i hi
      exact decide_eq_true (hx _ (Array.getElem_mem_toList hi))
    | @tup a vs ds ht r =>
      have h' : (optAll (ds.map (deep S k))).map PyData.tuple = some p := h
      cases e : optAll (ds.map (deep S k)) with
      | none => rw [e] at h'; cases h'
      | some ps =>
        rw [e] at h'
        cases h'
        obtain ⟨b1, b2⟩ := layA ih ds ps vs e hn r
        exact ⟨b1, Nat.succ_le_succ b2⟩
    | @lst a vs ds ht n r =>
      have h' : (optAll (ds.map (deep S k))).map PyData.list = some p := h
      cases e : optAll (ds.map (deep S k)) with
      | none => rw [e] at h'; cases h'
      | some ps =>
        rw [e] at h'
        cases h'
        obtain ⟨b1, b2⟩ := layA ih ds ps vs e hn r
        exact ⟨b1, Nat.succ_le_succ b2⟩
    | @con a vs ds ht r =>
      have h' : (optAll (ds.map (deep S k))).map PyData.list = some p := h
      cases e : optAll (ds.map (deep S k)) with
      | none => rw [e] at h'; cases h'
      | some ps =>
        rw [e] at h'
        cases h'
        obtain ⟨b1, b2⟩ := layA ih ds ps vs e hn r
        exact ⟨b1, Nat.succ_le_succ b2⟩
    | @dct a kvs dks ht n e r =>
      have h' : (if dks.all (fun q => okKB q.1) = true then (optAll ((dks.map (·.2)).map (deep S k))).map (fun vs => PyData.dict ((dks.map fun q => kPd q.1).zip vs)) else none) = some p := h
      by_cases hkb : dks.all (fun q => okKB q.1) = true
      case neg => rw [if_neg hkb] at h'; cases h'
      rw [if_pos hkb] at h'
      cases e : optAll ((dks.map (·.2)).map (deep S k)) with
      | none => rw [e] at h'; cases h'
      | some ps =>
        rw [e] at h'
        cases h'
        cases hn
    | @loc n a hn' =>
      have h' : (match S[n]? with | some (.lst xs) => (optAll (xs.map (deep S k))).map PyData.list | _ => none) = some p := h
      obtain ⟨ob, h1, h2⟩ := rs.at hn'
      rw [h1] at h'
      cases ob with
      | lst ds =>
        obtain ⟨vs, q1, q2⟩ := h2
        have h' : (optAll (ds.map (deep S k))).map PyData.list = some p := h'
        cases e : optAll (ds.map (deep S k)) with
        | none => rw [e] at h'; cases h'
        | some ps =>
          rw [e] at h'
          cases h'
          obtain ⟨b1, b2⟩ := layA ih ds ps vs e hn q2
          exact ⟨b1, Nat.succ_le_succ b2⟩
      | _ => cases h'
theorem deep_shaped {ρ : Rg} {H : Hp} {S : Sto} (rs : RS G ρ H S) {d : Dv} {p : PyData} {v : V} (h : deep S dpt d = some p) (hn : noDict p = true) (r : Rv G.K ρ H v d) : SeqAt.shaped p = true := by
  obtain ⟨a, b⟩ := deep_lay rs dpt d p v h hn r
  exact Bool.and_eq_true_iff.mpr ⟨a, decide_eq_true (Nat.le_trans b (by decide))⟩
theorem d_eqv {k : Bool → Bool} : Op2 G W (fun x y H Q => ∃ d e, Dp G.K H x d ∧ Dp G.K H y e ∧ SeqAt.shaped d = true ∧ SeqAt.shaped e = true ∧ Q (.bl (k (PyData.eqv d e))) H) (mEqv k) := by
  intro ρ H σ S x y d e Q rs rx ry p
  unfold mEqv at p
  split at p
  · rename_i p1 p2 e1 e2
    split at p
    · rename_i hn
      obtain ⟨n1, n2⟩ := Bool.and_eq_true_iff.mp hn
      exact ⟨p1, p2, deep_dp rs _ _ _ _ e1 n1 rx, deep_dp rs _ _ _ _ e2 n2 ry, deep_shaped rs e1 n1 rx, deep_shaped rs e2 n2 ry, p.val rs (.bl _)⟩
    · exact p.elim
  · exact p.elim
theorem o_eq (hK : X.K = G.K) (hu : X.A.units + 64 < cLine) : OpR X (compareOp .Eq) (fun x y H Q => ∃ d e, Dp G.K H x d ∧ Dp G.K H y e ∧ SeqAt.shaped d = true ∧ SeqAt.shaped e = true ∧ Q (.bl (id (PyData.eqv d e))) H) := by
  rw [← hK]
  exact op_eqD hu
theorem o_ne (hK : X.K = G.K) (hu : X.A.units + 64 < cLine) : OpR X (compareOp .NotEq) (fun x y H Q => ∃ d e, Dp G.K H x d ∧ Dp G.K H y e ∧ SeqAt.shaped d = true ∧ SeqAt.shaped e = true ∧ Q (.bl (not (PyData.eqv d e))) H) := by
  rw [← hK]
  exact op_neD hu
/-! x in .. -/
def rInX (K : PySem.W.Frag) (k : Bool → Bool) : R2 := fun x y H Q => ∃ d ds, Dp K H x d ∧ (Dp K H y (.list ds) ∨ Dp K H y (.tuple ds)) ∧ SeqAt.shaped d = true ∧ PyData.canLayAll0 ds = true ∧ Q (.bl (k (ds.any fun z => PyData.eqv z d))) H
theorem op_inX (hu : X.A.units + 65 < cLine) : OpR X (compareOp .In) (rInX X.K id) := by
  intro pins s σ H x y v u Q I rx ry h
  obtain ⟨d, ds, hd, he | he, sd, se, q⟩ := h
  · obtain ⟨as, r1⟩ := Dp.reads I d x v hd rx
    obtain ⟨bs, r2⟩ := Dp.reads I (.list ds) y u he ry
    exact SeqAt.in_list_reads r2 r1 se (SeqAt.canLay_of_shaped sd) (room_in_shaped sd hu) ⟨.bl _, H, I, rfl, q⟩
  · obtain ⟨as, r1⟩ := Dp.reads I d x v hd rx
    obtain ⟨bs, r2⟩ := Dp.reads I (.tuple ds) y u he ry
    exact SeqAt.in_tuple_reads r2 r1 se (SeqAt.canLay_of_shaped sd) (room_in_shaped sd hu) ⟨.bl _, H, I, rfl, q⟩
theorem op_notInX (hu : X.A.units + 65 < cLine) : OpR X (compareOp .NotIn) (rInX X.K not) := by
  intro pins s σ H x y v u Q I rx ry h
  obtain ⟨d, ds, hd, he | he, sd, se, q⟩ := h
  · obtain ⟨as, r1⟩ := Dp.reads I d x v hd rx
    obtain ⟨bs, r2⟩ := Dp.reads I (.list ds) y u he ry
    exact SeqAt.notIn_list_reads r2 r1 se (SeqAt.canLay_of_shaped sd) (room_in_shaped sd hu) ⟨.bl _, H, I, rfl, q⟩
  · obtain ⟨as, r1⟩ := Dp.reads I d x v hd rx
    obtain ⟨bs, r2⟩ := Dp.reads I (.tuple ds) y u he ry
    exact SeqAt.notIn_tuple_reads r2 r1 se (SeqAt.canLay_of_shaped sd) (room_in_shaped sd hu) ⟨.bl _, H, I, rfl, q⟩
def rInB (K : PySem.W.Frag) (k : Bool → Bool) : R2 := fun x y H Q => (∃ i j, x = .str i ∧ y = .str j ∧ Q (.bl (k (!(Builtin.Str.occurrences j i 0 j.length 1).isEmpty))) H) ∨ rInX K k x y H Q
theorem o_in (hK : X.K = G.K) (hu : X.A.units + 65 < cLine) : OpR X (compareOp .In) (rInB G.K id) := by
  rw [← hK]
  exact OpR_or op_in_str (op_inX hu)
theorem o_notin (hK : X.K = G.K) (hu : X.A.units + 65 < cLine) : OpR X (compareOp .NotIn) (rInB G.K not) := by
  rw [← hK]
  exact OpR_or op_notin_str (op_notInX hu)
theorem d_in {k : Bool → Bool} : Op2 G W (rInB G.K k) (mInB k) := by
  intro ρ H σ S x y d e Q rs rx ry p
  unfold mInB at p
  split at p
  · cases rx; cases ry
    exact .inl ⟨_, _, rfl, rfl, p.val rs (.bl _)⟩
  · split at p
    · rename_i p1 ps e1 e2
      split at p
      · rename_i hn
        obtain ⟨n1, n2⟩ := Bool.and_eq_true_iff.mp hn
        refine .inr ⟨p1, ps, deep_dp rs _ _ _ _ e1 n1 rx, .inl (deep_dp rs _ _ _ _ e2 n2 ry), deep_shaped rs e1 n1 rx, ?_, p.val rs (.bl _)⟩
        exact (deep_lay rs _ _ _ _ e2 n2 ry).1
      · exact p.elim
    · rename_i p1 ps e1 e2
      split at p
      · rename_i hn
        obtain ⟨n1, n2⟩ := Bool.and_eq_true_iff.mp hn
        refine .inr ⟨p1, ps, deep_dp rs _ _ _ _ e1 n1 rx, .inr (deep_dp rs _ _ _ _ e2 n2 ry), deep_shaped rs e1 n1 rx, ?_, p.val rs (.bl _)⟩
        exact (deep_lay rs _ _ _ _ e2 n2 ry).1
      · exact p.elim
    · exact p.elim
end
end Mi
end T_Sim3
section T_Sim4
set_option Elab.async false
set_option linter.all false
set_option maxRecDepth 100000
set_option maxHeartbeats 2000000
namespace Mi
open PySem PySem.Spec PyProof.Rows L2
section
variable {G : Gx} {W : WX} {X : Cx}
/-! ### isinstance -/
theorem rd_tyT {K : PySem.W.Frag} {ρ : Rg} {H : Hp} {a : Addr} {vs : List V} (h : StT K ρ H a vs) : TyX K H (.ref a) (.type "tuple") := .base (.tup h.1)
theorem rd_tyL {K : PySem.W.Frag} {ρ : Rg} {H : Hp} {a : Addr} {vs : List V} (h : StL K ρ H a vs) : TyX K H (.ref a) (.type "list") := by
  rcases h with ⟨h | ⟨o, h⟩, _⟩ | ⟨o, its, n, h1, h2, _⟩
  · exact .base (.lst h)
  · exact .base (.frz h)
  · exact .kList h1 h2
theorem kind_ok {ρ : Rg} {H : Hp} {S : Sto} {v : V} {d : Dv} {t : String} (rs : RS G ρ H S) (r : Rv G.K ρ H v d) (h : kind S d = some t) : TyX G.K H v (.type t) ∧ t ∈ ["NoneType", "bool", "int", "str", "tuple", "list", "dict"] := by
  cases r with
  | exc => cases h
  | exc0 => cases h
  | non => cases h; exact ⟨.base .non, by decide⟩
  | bl b => cases h; exact ⟨.base (.bl b), by decide⟩
  | int i => cases h; exact ⟨.base (.int i), by decide⟩
  | str x _ => cases h; exact ⟨.base (.str x), by decide⟩
  | tup h1 _ => cases h; exact ⟨rd_tyT h1, by decide⟩
  | lst h1 _ _ => cases h; exact ⟨.base (.lst h1), by decide⟩
  | con h1 _ => cases h; exact ⟨rd_tyL h1, by decide⟩
  | dct h1 _ _ _ => cases h; exact ⟨.base (.dK h1), by decide⟩
  | @loc n a hn =>
    have h : (match S[n]? with | some (.lst _) => some "list" | some (.dK _) => some "dict" | some (.dT _) => some "dict" | some (.ins _ _) => none | none => none) = some t := h
    obtain ⟨ob, h1, h2⟩ := rs.at hn
    rw [h1] at h
    cases ob with
    | ins c fs => cases h
    | lst ds =>
      cases h
      obtain ⟨vs, q, _⟩ := h2
      exact ⟨.base (.lst q), by decide⟩
    | dK ds =>
      cases h
      obtain ⟨vs, q, _⟩ := h2
      exact ⟨.base (.dK q), by decide⟩
    | dT ds =>
      cases h
      obtain ⟨vs, q, _⟩ := h2
      exact ⟨.base (.dT q), by decide⟩
theorem kitB_ok : (["NoneType", "bool", "int", "str", "tuple", "list", "dict"].all fun t => ["int", "bool", "str", "tuple", "list", "dict"].all fun c => decide (kitB t c = some (subK t c))) = true := by decide +kernel
theorem kit_of_sub {K : PySem.W.Frag} {t c : String} (ht : t ∈ ["NoneType", "bool", "int", "str", "tuple", "list", "dict"]) (hc : c ∈ ["int", "bool", "str", "tuple", "list", "dict"]) : PySem.W.kitOne K (.type t) (.type c) = some (subK t c) :=
  kit_ty (of_decide_eq_true (List.all_eq_true.mp (List.all_eq_true.mp kitB_ok t ht) c hc))
/-- isinstance(a, c), c a built-in class -/
theorem re_isi {a : Expr} {ma : EX} {c : Str} {n : String} {p p2 pos : Pos} (hK : X.K = G.K) (hg : Gl X "isinstance") (hm : X.mg "isinstance" = none) (hgc : Gl X c) (hmc : X.mg c = none) (hb : bootBuiltins c = some (.type n)) (hn : n ∈ ["int", "bool", "str", "tuple", "list", "dict"])
    (ha : PE X a (tE G W ma)) (hc1 : c ≠ "__name__" := by decide) (hc2 : (c == ("__debug__" : Str)) = false := by decide) (hs : starEach [a, .Name c p2] X.env = (false, eval a X.env) :: starEach [.Name c p2] X.env := by rfl) (hs2 : starEach [.Name c p2] X.env = (false, eval (.Name c p2) X.env) :: starEach [] X.env := by rfl) (hpl : (backTo pos (starEach [.Name c p2] X.env)).any (·.1) = false := by rfl) :
    PE X (.Call (.Name "isinstance" p) [a, .Name c p2] [] pos) (tE G W (e1 (mIsi n) ma)) :=
  (pe_callB call_isi hg hm (by decide +kernel) (pa_cons ha (pa_cons (pe_bltn (v := .ty n) hgc hmc hb rfl hc1 hc2) pa_nil hs2) hs) (by decide) (by decide) hs hpl).imp fun σ H Q q => by
    obtain ⟨ρ, δ, S, cf, p⟩ := q
    refine ⟨ρ, δ, S, cf, (Post.bind p).mono fun x H1 ⟨ρ1, S1, d, s1, rs1, rx, p1⟩ => ?_⟩
    unfold mIsi at p1
    split at p1
    · rename_i t ht
      obtain ⟨h1, h2⟩ := kind_ok rs1 rx ht
      exact ⟨x, .ty n, .type t, .type n, _, rfl, .ty n, by rw [hK]; exact h1, kit_of_sub h2 hn, p1.val rs1 (.bl _)⟩
    · exact p1.elim
/-- a module's constant -/
theorem re_glob {x : Str} {v : V} {d : Dv} {u : Value} {pos : Pos} (hg : Gl X x) (hm : X.mg x = some u) (r : RelV v u) (hv : ∀ ρ H, Rv G.K ρ H v d) (hd : (x == ("__debug__" : Str)) = false := by decide) : PE X (.Name x pos) (tE G W (eC d)) := re_c hv (pe_glob hg hm r hd)
theorem re_globI {x : Str} {i : Int} {pos : Pos} (hg : Gl X x) (hm : ∃ t, X.mg x = some (.int i t)) (hd : (x == ("__debug__" : Str)) = false := by decide) : PE X (.Name x pos) (tE G W (eC (.int i))) := by
  obtain ⟨t, hm⟩ := hm
  exact re_glob (v := .int i) hg hm ⟨t, rfl⟩ (fun _ _ => .int i) hd
theorem re_globS {x z : Str} {pos : Pos} (hg : Gl X x) (hm : ∃ t, X.mg x = some (.str z t)) (hz : OkS z := by unfold OkS; decide +kernel) (hd : (x == ("__debug__" : Str)) = false := by decide) : PE X (.Name x pos) (tE G W (eC (.str z))) := by
  obtain ⟨t, hm⟩ := hm
  exact re_glob (v := .str z) hg hm ⟨t, rfl⟩ (fun _ _ => .str z hz) hd
/-! ### chains -/
theorem t_chain {r r' : R2} {f g : Dv → Dv → M Dv} {ma mb mc : EX} (hf : Op2 G W r f) (hg : Op2 G W r' g) {σ : L2.St} {H : Hp} {Q : VK} (q : tE G W (eChain f g ma mb mc) σ H Q) : tChain r r' (tE G W ma) (tE G W mb) (tE G W mc) σ H Q := by
  obtain ⟨ρ, δ, S, cf, p⟩ := q
  refine ⟨ρ, δ, S, cf, (Post.bind p).mono fun x H1 ⟨ρ1, S1, d, s1, rs1, rx, p1⟩ => ?_⟩
  refine ⟨ρ1, δ, S1, cf.step s1 rs1, (Post.bind p1).mono fun y H2 ⟨ρ2, S2, e, s2, rs2, ry, p2⟩ => ?_⟩
  refine hf ρ2 H2 σ S2 x y d e _ rs2 (rx.step s2) ry ((Post.bind (rel := vr G) p2).mono fun z H3 ⟨ρ3, S3, b, s3, rs3, rz, p3⟩ => ?_)
  cases rz with
  | bl k =>
    refine ⟨k, rfl, ?_⟩
    cases k with
    | false => exact Post.pure p3 rs3 (.bl false)
    | true => exact ⟨ρ3, δ, S3, ((cf.step s1 rs1).step s2 rs2).step s3 rs3, (Post.bind p3).mono fun w H4 ⟨ρ4, S4, c, s4, rs4, rw_, p4⟩ => hg ρ4 H4 σ S4 y w e c _ rs4 ((ry.step s3).step s4) rw_ p4⟩
  | _ => exact p3.elim
theorem re_chain {op op' : CmpOp} {r r' : R2} {f g : Dv → Dv → M Dv} {a b c : Expr} {ma mb mc : EX} {pos : Pos} (ho : OpR X (compareOp op) r) (ho' : OpR X (compareOp op') r') (hf : Op2 G W r f) (hg : Op2 G W r' g) (ha : PE X a (tE G W ma)) (hb : PE X b (tE G W mb)) (hc : PE X c (tE G W mc))
    (hm : lastMarks [op, op'] [b, c] = false := by with_unfolding_all rfl) : PE X (.Compare a [op, op'] [b, c] pos) (tE G W (eChain f g ma mb mc)) := (pe_chain ho ho' ha hb hc hm).imp fun _ _ _ q => t_chain hf hg q
theorem rt_chain {op op' : CmpOp} {r r' : R2} {f g : Dv → Dv → M Dv} {a b c : Expr} {ma mb mc : EX} {pos : Pos} (ho : OpR X (compareOp op) r) (ho' : OpR X (compareOp op') r') (hf : Op2 G W r f) (hg : Op2 G W r' g) (ha : PE X a (tE G W ma)) (hb : PE X b (tE G W mb)) (hc : PE X c (tE G W mc))
    (hm : lastMarks [op, op'] [b, c] = false := by with_unfolding_all rfl) : PT X (.Compare a [op, op'] [b, c] pos) (tB G W (bOf (eChain f g ma mb mc))) := (pt_chain ho ho' ha hb hc hm).imp fun σ H Q q => by
  obtain ⟨ρ, δ, S, cf, p⟩ := q
  have z : tE G W (eChain f g ma mb mc) σ H (fun x H' => ∃ k, x = .bl k ∧ Q k H') := ⟨ρ, δ, S, cf, (Post.bind p).mono fun x H1 ⟨ρ1, S1, d, s1, rs1, rx, p1⟩ => by
    cases rx with
    | bl k => exact ⟨k, rfl, Post.pure p1 rs1 rfl⟩
    | _ => exact p1.elim⟩
  exact t_chain hf hg z
/-! ### the store -/
theorem RS.newS {ρ : Rg} {H : Hp} {S : Sto} (r : RS G ρ H S) {p : Addr} {vs : List V} {ds : List Dv} (hp : H p = none) (hr : RvA G.K ρ H vs ds) : RS G (ρ.add p) (upd H p (.lst vs)) (S ++ [.lst ds]) := by
  have n := r.new (o := .lst vs) hp
  have st : Stp ρ H (ρ.add p) (upd H p (.lst vs)) := Stp.newS hp (r.nin hp).1
  have np := (r.nin hp)
  refine ⟨by simp [Rg.add, r.len], ?_, fun a m => ?_, fun k a o e1 e2 => ?_, n.tab, r.xok.stepB st.b⟩
  · show (ρ.s ++ [p]).Nodup
    exact List.nodup_append.mpr ⟨r.nd, by simp, fun a ha b hb e => np.1 (by rw [List.mem_singleton.mp hb] at e; rw [← e]; exact ha)⟩
  · refine ⟨fun z => ?_, (n.bt a m).2⟩
    rcases List.mem_append.mp z with z | z
    · exact (r.bt a m).1 z
    · rw [List.mem_singleton.mp z] at m
      exact np.2 m
  · by_cases hk : k < ρ.s.length
    · rw [show (ρ.add p).s = ρ.s ++ [p] from rfl, List.getElem?_append_left hk] at e1
      rw [List.getElem?_append_left (by rw [← r.len]; exact hk)] at e2
      have q := r.ob k a o e1 e2
      obtain ⟨u, hu, _⟩ := q.some
      exact q.step st (by rw [upd_ne (ne_of_none hu hp)])
    · rw [show (ρ.add p).s = ρ.s ++ [p] from rfl, List.getElem?_append_right (by omega)] at e1
      rw [List.getElem?_append_right (by rw [← r.len]; omega), ← r.len] at e2
      have ek : k - ρ.s.length = 0 := by
        have := (List.getElem?_eq_some_iff.mp e1).1
        simp at this
        omega
      rw [ek] at e1 e2
      cases e1
      cases e2
      exact ⟨vs, upd_same, hr.step st⟩
theorem RS.put {ρ : Rg} {H : Hp} {S : Sto} (r : RS G ρ H S) {n : Nat} {a : Addr} {o : HO} {ob : Ob} (hn : ρ.s[n]? = some a) (hr : Ro G.K ρ (upd H a o) a ob) : RS G ρ (upd H a o) (S.set n ob) := by
  have ma : a ∈ ρ.s := List.mem_of_getElem? hn
  obtain ⟨u, hu, h1, h2⟩ := r.mem ma
  have st : Stp ρ H ρ (upd H a o) := Stp.put ma
  refine ⟨by simp [r.len], r.nd, fun b m => ⟨(r.bt b m).1, ?_⟩, fun k b ob' e1 e2 => ?_, tabs_put r.tab hu h1 h2, r.xok.stepB st.b⟩
  · obtain ⟨z, q, pv⟩ := (r.bt b m).2
    exact ⟨z, by rw [upd_ne (fun e => (r.bt b m).1 (by rw [e]; exact ma))]; exact q, pv⟩
  · by_cases hk : n = k
    · subst hk
      rw [hn] at e1
      cases e1
      have hl : n < S.length := by
        rw [← r.len]
        exact (List.getElem?_eq_some_iff.mp hn).1
      rw [List.getElem?_set_self hl] at e2
      cases e2
      exact hr
    · rw [List.getElem?_set_ne hk] at e2
      have hb : b ≠ a := fun e => by
        subst e
        exact hk ((List.getElem?_inj (List.getElem?_eq_some_iff.mp hn).1 r.nd).mp (hn.trans e1.symm))
      exact (r.ob k b ob' e1 e2).step st (upd_ne hb)
theorem re_lstS {es : List Expr} {mr : EA} {pos : Pos} (h : PA X es (tA G W mr)) : PE X (.List es pos) (tE G W (eN mNewL mr)) := (pe_lst h).imp fun σ H Q q => by
  obtain ⟨ρ, δ, S, cf, p⟩ := q
  refine ⟨ρ, δ, S, cf, (Post.bind p).mono fun xs H1 ⟨ρ1, S1, ds, s1, rs1, rx, p1⟩ => ?_⟩
  unfold mNewL at p1
  split at p1
  · rename_i hl
    have e := rx.length
    refine ⟨lim_ok (by omega), fun u hu => ?_⟩
    refine p1 _ _ (ρ1.add u) (Stp.newS hu (rs1.nin hu).1) (rs1.newS hu rx) (.loc ?_)
    rw [show (ρ1.add u).s = ρ1.s ++ [u] from rfl, ← rs1.len, List.getElem?_append_right (Nat.le_refl _)]
    simp
  · exact p1.elim
theorem RvA.set {K : PySem.W.Frag} {ρ : Rg} {H : Hp} {v : V} {d : Dv} (h : Rv K ρ H v d) : ∀ {vs : List V} {ds : List Dv} (i : Nat), RvA K ρ H vs ds → RvA K ρ H (vs.set i v) (ds.set i d)
  | _, _, _, .nil => .nil
  | _, _, 0, .cons _ t => .cons h t
  | _, _, i + 1, .cons q t => .cons q (RvA.set h i t)
/-! methods of built-in types -/
def Mt2 (G : Gx) (W : WX) (r : V → List V → Hp → VK → Prop) (f : Dv → List Dv → M Dv) : Prop :=
  ∀ (ρ : Rg) (H : Hp) (σ : L2.St) (S : Sto) (x : V) (xs : List V) (d : Dv) (ds : List Dv) (Q : VK), RS G ρ H S → Rv G.K ρ H x d → RvA G.K ρ H xs ds → Post G W σ (vr G) ρ H (f d ds S) Q → r x xs H Q
theorem tyV_ok {ρ : Rg} {H : Hp} {S : Sto} {v : V} {d : Dv} {T : String} (rs : RS G ρ H S) (r : Rv G.K ρ H v d) (h : kind S d = some T) (hT : T = "list" ∨ T = "str" ∨ T = "dict") : tyV G.K T v H := by
  cases r with
  | exc => cases h
  | exc0 => cases h
  | non => cases h; simp at hT
  | bl b => cases h; simp at hT
  | int i => cases h; simp at hT
  | str x _ => cases h; rfl
  | tup h1 _ => cases h; simp at hT
  | lst h1 _ _ => cases h; exact .inl ⟨rfl, _, SqL.of h1⟩
  | con h1 _ => cases h; exact .inl ⟨rfl, _, h1.sq⟩
  | dct h1 _ _ _ => cases h; exact .inr (.inr (.inl ⟨rfl, .inl ⟨_, h1⟩⟩))
  | @loc n a hn =>
    have h : (match S[n]? with | some (.lst _) => some "list" | some (.dK _) => some "dict" | some (.dT _) => some "dict" | some (.ins _ _) => none | none => none) = some T := h
    obtain ⟨ob, h1, h2⟩ := rs.at hn
    rw [h1] at h
    cases ob with
    | ins c fs => cases h
    | lst ds =>
      cases h
      obtain ⟨vs, q, _⟩ := h2
      exact .inl ⟨rfl, _, SqL.of q⟩
    | dK ds =>
      cases h
      obtain ⟨vs, q, _⟩ := h2
      exact .inr (.inr (.inl ⟨rfl, .inl ⟨_, q⟩⟩))
    | dT ds =>
      cases h
      obtain ⟨vs, q, _⟩ := h2
      exact .inr (.inr (.inl ⟨rfl, .inr ⟨_, q⟩⟩))
theorem re_bm {e : Expr} {mo : EX} {mr : EA} {T : String} {r : V → List V → Hp → VK → Prop} {f : Dv → List Dv → M Dv} (hK : X.K = G.K) (hT : T = "list" ∨ T = "str" ∨ T = "dict") (hf : Mt2 G W r f) (h : PE X e (tBM X.K T r (tE G W mo) (tA G W mr))) : PE X e (tE G W (eMth T f mo mr)) := h.imp fun σ H Q q => by
  obtain ⟨ρ, δ, S, cf, p⟩ := q
  refine ⟨ρ, δ, S, cf, (Post.bind p).mono fun x H1 ⟨ρ1, S1, d, s1, rs1, rx, p1⟩ => ?_⟩
  dsimp only at p1
  split at p1
  · rename_i hk
    exact ⟨by rw [hK]; exact tyV_ok rs1 rx hk hT, ρ1, δ, S1, cf.step s1 rs1, (Post.bind p1).mono fun xs H2 ⟨ρ2, S2, ds, s2, rs2, rxs, p2⟩ => hf ρ2 H2 σ S2 x xs d ds Q rs2 (rx.step s2) rxs p2⟩
  · exact p1.elim
theorem re_bm0 {e : Expr} {mo : EX} {T : String} {r : V → List V → Hp → VK → Prop} {f : Dv → List Dv → M Dv} (hK : X.K = G.K) (hT : T = "list" ∨ T = "str" ∨ T = "dict") (hf : Mt2 G W r f) (h : PE X e (tBM0 X.K T r (tE G W mo))) : PE X e (tE G W (eMth T f mo aNil)) := h.imp fun σ H Q q => by
  obtain ⟨ρ, δ, S, cf, p⟩ := q
  refine ⟨ρ, δ, S, cf, (Post.bind p).mono fun x H1 ⟨ρ1, S1, d, s1, rs1, rx, p1⟩ => ?_⟩
  dsimp only at p1
  split at p1
  · rename_i hk
    exact ⟨by rw [hK]; exact tyV_ok rs1 rx hk hT, hf ρ1 H1 σ S1 x [] d [] Q rs1 rx .nil p1⟩
  · exact p1.elim
theorem d_append : Mt2 G W rAppend mAppend := by
  intro ρ H σ S x xs d ds Q rs rx rxs p
  unfold mAppend at p
  split at p
  · rename_i n y
    split at p
    · rename_i l hl
      split at p
      · rename_i hz
        obtain ⟨v, rfl, rv⟩ := rxs.one
        cases rx with
        | @loc _ a hn =>
          obtain ⟨ob, h1, h2⟩ := rs.at hn
          rw [hl] at h1
          cases h1
          obtain ⟨vs, q1, q2⟩ := h2
          have st : Stp ρ H ρ (upd H a (.lst (vs ++ [v]))) := Stp.put (List.mem_of_getElem? hn)
          exact ⟨a, vs, v, rfl, rfl, q1, lim_lt (by rw [q2.length]; exact hz), p _ _ ρ st (rs.put hn ⟨_, upd_same, (q2.step st).app (.cons (rv.step st) .nil)⟩) .non⟩
      · exact p.elim
    · exact p.elim
  · exact p.elim
theorem d_extend : Mt2 G W rExtend mExtend := by
  intro ρ H σ S x xs d ds Q rs rx rxs p
  unfold mExtend at p
  split at p
  · rename_i n ys
    split at p
    · rename_i l hl
      split at p
      · rename_i hz
        obtain ⟨v, rfl, rv⟩ := rxs.one
        cases rv with
        | @lst b ws _ hb _ rb =>
        cases rx with
        | @loc _ a hn =>
          obtain ⟨ob, h1, h2⟩ := rs.at hn
          rw [hl] at h1
          cases h1
          obtain ⟨vs, q1, q2⟩ := h2
          have st : Stp ρ H ρ (upd H a (.lst (vs ++ ws))) := Stp.put (List.mem_of_getElem? hn)
          exact ⟨a, b, vs, ws, rfl, rfl, q1, hb, lim_ok (by rw [q2.length, rb.length]; omega), p _ _ ρ st (rs.put hn ⟨_, upd_same, (q2.step st).app (rb.step st)⟩) .non⟩
      · exact p.elim
    · exact p.elim
  · exact p.elim
theorem d_clear : Mt2 G W rClear mClear := by
  intro ρ H σ S x xs d ds Q rs rx rxs p
  unfold mClear at p
  split at p
  · split at p
    · rename_i n l hl
      cases rxs
      cases rx with
      | @loc _ a hn =>
        obtain ⟨ob, h1, h2⟩ := rs.at hn
        rw [hl] at h1
        cases h1
        obtain ⟨vs, q1, q2⟩ := h2
        have st : Stp ρ H ρ (upd H a (.lst [])) := Stp.put (List.mem_of_getElem? hn)
        exact ⟨a, vs, rfl, rfl, q1, p _ _ ρ st (rs.put hn ⟨_, upd_same, .nil⟩) .non⟩
    · exact p.elim
  · exact p.elim
/-! o[i] = .. -/
theorem rg_ix {o i : Expr} {mo mi : EX} {pos : Pos} {W1 : WX} (ho : PE X o (tE G W1 mo)) (hi : PE X i (tE G W1 mi)) (hp : PG X (.Subscript o i pos) (gSub (tE G W1 mo) (tE G W1 mi) rSetL)) : PG X (.Subscript o i pos) (tG G [] (gIx mo mi)) := hp.imp fun v σ H Q q => by
  obtain ⟨ρ, δ, S, d, cf, r, p⟩ := q
  refine ⟨ρ, δ, S, cf, ?_⟩
  unfold gIx at p
  cases e1 : mo δ S with
  | bad => rw [e1] at p; exact p.elim
  | ex x S1 => rw [e1] at p; exact p.elim
  | ok x S1 =>
    rw [e1] at p
    cases x with
    | loc n =>
      intro vo H1 ρ1 s1 rs1 ro
      refine ⟨ρ1, δ, S1, cf.step s1 rs1, ?_⟩
      dsimp only at p
      cases e2 : mi δ S1 with
      | bad => rw [e2] at p; exact p.elim
      | ex x S2 => rw [e2] at p; exact p.elim
      | ok y S2 =>
        rw [e2] at p
        cases y with
        | int k =>
          intro vi H2 ρ2 s2 rs2 ri
          dsimp only at p
          cases e3 : S2[n]? with
          | none => rw [e3] at p; exact p.elim
          | some ob =>
            rw [e3] at p
            cases ob with
            | lst xs =>
              dsimp only at p
              cases e4 : ixN xs.length k with
              | none => rw [e4] at p; exact p.elim
              | some j =>
                rw [e4] at p
                cases ri
                cases ro with
                | @loc _ a hn =>
                  have hn2 := s2.get hn
                  obtain ⟨ob, h1, h2⟩ := rs2.at hn2
                  rw [e3] at h1
                  cases h1
                  obtain ⟨vs, q1, q2⟩ := h2
                  have st : Stp ρ2 H2 ρ2 (upd H2 a (.lst (vs.set j v))) := Stp.put (List.mem_of_getElem? hn2)
                  refine ⟨a, vs, k, j, rfl, rfl, q1, by rw [q2.length]; exact e4, ?_⟩
                  have rd : Rv G.K ρ2 (upd H2 a (.lst (vs.set j v))) v d := (((r.step s1).step s2).step st)
                  refine p σ _ ρ2 ((s1.trans s2).trans st) (((cf.step s1 rs1).step s2 rs2).step st (rs2.put hn2 ⟨_, upd_same, ?_⟩)) But.refl
                  exact RvA.set rd j (q2.step st)
            | _ => exact p.elim
        | _ => exact p.elim
    | _ => exact p.elim
/-! ### while, op=, a, b, c = .. -/
theorem rs_while {c : Expr} {body : List Stmt} {mc : EB} {mb : SM} {n : Nat} {pos : Pos} (hp : PassesOwn (model X.prog X.w) X.A X.env X.xe) (hc : PT X c (tB G W mc)) (hb : PSs X body (tS G W mb)) : PS X (.While c body [] pos) (tS G W (sWhile n mc mb)) := (ps_while hp hc hb).imp fun D σ H q => by
  obtain ⟨ρ, δ, S, cf, p⟩ := q
  refine ⟨fun m σ' H' => ∃ ρ' δ' S', Stp ρ H ρ' H' ∧ Cf G ρ' H' σ' δ' S' ∧ PostS G W ρ' H' (whGo mc mb m δ' S') D, ⟨n, ρ, δ, S, Stp.refl, cf, p⟩, ?_⟩
  rintro m σ' H' ⟨ρ', δ', S', s', c', p'⟩
  cases m with
  | zero => exact p'.elim
  | succ m =>
    unfold whGo at p'
    refine ⟨ρ', δ', S', c', (postS_on (rel := br) c' p').mono fun x H1 ⟨ρ1, S1, t, s1, rs1, rx, p1⟩ => ?_⟩
    have e : x = t := rx
    subst e
    have c1 := c'.step s1 rs1
    cases x with
    | false => exact p1 σ' H1 ρ1 Stp.refl c1
    | true =>
      refine ⟨fun σ2 H2 => ∃ ρ2 δ2 S2, Stp ρ H ρ2 H2 ∧ Cf G ρ2 H2 σ2 δ2 S2 ∧ PostS G W ρ2 H2 (whGo mc mb m δ2 S2) D, fun σ2 H2 q2 => ⟨m, Nat.lt_succ_self m, q2⟩, ρ1, δ', S1, c1, ?_⟩
      rw [if_pos rfl] at p1
      cases e2 : mb δ' S1 with
      | nx δ4 S4 =>
        rw [e2] at p1
        exact fun σ4 H4 ρ4 s4 c4 => ⟨ρ4, δ4, S4, (s'.trans s1).trans s4, c4, PostS.step s4 p1⟩
      | ct δ4 S4 =>
        rw [e2] at p1
        exact fun σ4 H4 ρ4 s4 c4 => ⟨ρ4, δ4, S4, (s'.trans s1).trans s4, c4, PostS.step s4 p1⟩
      | bk δ4 S4 =>
        rw [e2] at p1
        exact p1
      | rt d S4 =>
        rw [e2] at p1
        exact p1
      | ex x δ4 S4 =>
        rw [e2] at p1
        exact p1
      | bad =>
        rw [e2] at p1
        exact p1
theorem rs_aug {i : Nat} {me : EX} {st : Stmt} {ti : TIp} {f : Dv → Dv → M Dv} (hf : Op2 G W ti f) (h : PS X st (tAug i (tE G W me) ti)) (hxn : G.xc = none ∧ G.fx = none := by exact ⟨rfl, rfl⟩) : PS X st (tS G W (sAug i f me)) := h.imp fun D σ H q => by
  obtain ⟨ρ, δ, S, cf, p⟩ := q
  unfold sAug eVar at p
  cases e : δ[i]? with
  | none => rw [e] at p; exact p.elim
  | some o =>
    rw [e] at p
    cases o with
    | none => exact p.elim
    | some d =>
      obtain ⟨v, h1, h2⟩ := cf.sl i d e
      refine ⟨v, h1, ρ, δ, S, cf, (postS_on (rel := vr G) cf (show PostS G W ρ H (onOk (me δ S) δ _) D from p)).mono fun y H1 ⟨ρ1, S1, d2, s1, rs1, ry, p1⟩ => ?_⟩
      have c1 := cf.step s1 rs1
      refine hf ρ1 H1 σ S1 v y d d2 _ rs1 (h2.step s1) ry ((postS_on (rel := vr G) c1 p1).mono fun z H2 ⟨ρ2, S2, d3, s2, rs2, rz, p2⟩ => ?_)
      exact p2 _ H2 ρ2 Stp.refl ((c1.step s2 rs2).set i rz (slotOk_none hxn))
theorem d_ipadd : Op2 G W (ipI fun i j => i + j) mAdd → True := fun _ => trivial
def mAddI (d e : Dv) : M Dv := match d, e with
  | .int i, .int j => M.pure (.int (i + j))
  | _, _ => mBad
theorem d_addI : Op2 G W (ipI fun i j => i + j) mAddI := by
  intro ρ H σ S x y d e Q rs rx ry p
  unfold mAddI at p
  split at p
  · cases rx; cases ry
    exact ⟨_, _, rfl, rfl, p.val rs (.int _)⟩
  · exact p.elim
theorem rs_par3 {i j l : Nat} {st : Stmt} {mr : EA} (h : PS X st (tPar3 i j l (tA G W mr))) (hxn : G.xc = none ∧ G.fx = none := by exact ⟨rfl, rfl⟩) : PS X st (tS G W (sPar [i, j, l] mr)) := h.imp fun D σ H q => by
  obtain ⟨ρ, δ, S, cf, p⟩ := q
  refine ⟨ρ, δ, S, cf, (postS_on (rel := ar G) cf p).mono fun xs H1 ⟨ρ1, S1, ds, s1, rs1, rx, p1⟩ => ?_⟩
  match xs, ds, rx, p1 with
  | [u, v, w], [d1, d2, d3], .cons h1 (.cons h2 (.cons h3 .nil)), p1 => exact ⟨u, v, w, rfl, p1 _ H1 ρ1 Stp.refl ((((cf.step s1 rs1).set i h1 (slotOk_none hxn)).set j h2 (slotOk_none hxn)).set l h3 (slotOk_none hxn))⟩
  | [], [], .nil, p1 => exact p1.elim
  | [_], [_], .cons _ .nil, p1 => exact p1.elim
  | [_, _], [_, _], .cons _ (.cons _ .nil), p1 => exact p1.elim
  | _ :: _ :: _ :: _ :: _, _ :: _ :: _ :: _ :: _, .cons _ (.cons _ (.cons _ (.cons _ _))), p1 => exact p1.elim
/-! ### xs[::-1] -/
def mRevL (d : Dv) : M Dv := fun S => match asC S d with
  | some xs => .ok (.lst xs.reverse) S
  | none => .bad
theorem RvA.rev {K : PySem.W.Frag} {ρ : Rg} {H : Hp} : ∀ {vs : List V} {ds : List Dv}, RvA K ρ H vs ds → RvA K ρ H vs.reverse ds.reverse
  | _, _, .nil => .nil
  | _, _, .cons h t => by
    rw [List.reverse_cons, List.reverse_cons]
    exact (RvA.rev t).app (.cons h .nil)
theorem re_revL {e : Expr} {me : EX} (hK : X.K = G.K) (h : PE X e (tRevL X.K (tE G W me))) : PE X e (tE G W (e1 mRevL me)) := h.imp fun σ H Q q => by
  obtain ⟨ρ, δ, S, cf, p⟩ := q
  refine ⟨ρ, δ, S, cf, (Post.bind p).mono fun x H1 ⟨ρ1, S1, d, s1, rs1, rx, p1⟩ => ?_⟩
  unfold mRevL at p1
  split at p1
  · rename_i xs e1
    obtain ⟨a, vs, rfl, h, r⟩ := asC_ok rs1 rx e1
    exact ⟨a, vs, rfl, by rw [hK]; exact h, fun u hu => p1.newL rs1 r.rev hu⟩
  · exact p1.elim
/-! ### exceptions of own classes: made by an __init__ that calls the base's and stores its parameters -/
/-- D.__init__(self, ..), D an own class whose __init__ is ValueError's -/
theorem pe_clsinit {pl : Sem Bool} {x : Str} {D : Addr} {mc : Value} {e : Expr} {es : List Expr} {ta : TA} {p1 p2 pos : Pos} (hg : Gl X x) (hm : X.mg x = some (.ref D)) (hrd : PySem.W.readsIn X.K D mc = true) (hga : PySem.W.specialIn X.K (.ref D) "__getattribute__" = some (some (.builtin "type.__getattribute__")))
    (hi : PySem.W.findCls X.K (.ref D) mc "__init__" = some (.val (.builtin "ValueError.__init__"))) (ha : PA X (e :: es) ta) (hdb : (x == ("__debug__" : Str)) = false := by decide)
    (hc : eval (.Call (.Attribute (.Name x p1) "__init__" p2) (e :: es) [] pos) X.env = (do
      let ov ← eval (.Name x p1) X.env
      standAt p2.atName
      let (f, first) ← holding [ov] (getMethod ov "__init__" pl)
      callWith pos f first (backTo pos (starEach (e :: es) X.env)) (backToKw pos (keywordEach [] X.env))) := by rfl)
    (he : starEach (e :: es) X.env = (false, eval e X.env) :: starEach es X.env := by rfl) (hpl : (backTo pos (starEach es X.env)).any (·.1) = false := by rfl) :
    PE X (.Call (.Attribute (.Name x p1) "__init__" p2) (e :: es) [] pos) (tVeI X.K ta) := by
  refine ⟨fun pins s σ H Q I h => ?_⟩
  refine PySem.W.methodCall_KW (ld_glob I hg hm ?_ hdb) hc
  refine PySem.W.method_cls I.kIn hga (PySem.W.cls_value I.kIn hrd hi (by decide +kernel) ?_)
  show wpAny _ _ (callWith pos (Value.builtin "ValueError.__init__") [] (backTo pos (starEach (e :: es) X.env)) []) _ _ _
  refine PyProof.Rows.callWith_method1 (thn (ha.run pos pins _ σ H _ (I.tok _) h) fun us s1 ⟨vs, H1, I1, r1, a, C, ws, ev, hl, T, ea, q⟩ => ?_) he hpl
  subst ev
  cases r1 with
  | @cons _ u0 _ ur ra rw' =>
    obtain rfl : u0 = Value.ref a := ra
    have hlen : ur.length ≤ sizeLine := by
      rw [← Paired.length rw', sizeLine_eq]
      omega
    exact oinit_ok T I1 ea hlen fun s' J => ⟨.non, H1, J, rfl, q⟩
end
/-- what __init__(self, f) promises -/
def spExc (K : PySem.W.Frag) (f : Str) : Sp := fun vs H Q _ => ∃ (a C : Addr) (v : V), vs = [.ref a, v] ∧ OexC K C ∧ PySem.W.findIn K (.ref C) f = some none ∧ H a = some (exo a C none) ∧ ∀ dx, H dx = none → dx ≠ a → Q .non (upd (upd H dx (exd dx [(f, v)])) a (exo a C (some dx)))
section
variable {P : Program} {w : World} {K : PySem.W.Frag} {mg : Str → Option Value} {base : Heap} {x qual : Str} {params : Arguments} {scope : Scope} {f : Addr} {fd : FuncData}
theorem ok_exc {fld : Str} {txt : Str} {body : List Stmt} (F : FunD K x qual params body scope [] [] f fd) (Sc : FnScope ["self", fld] ["self", fld] scope)
    (hb : ∀ (cdv : Value) (A : Around) (outer : List Env) (s : Shared) (H : Hp) (E : XK), PSs (dcx P w K mg base ["self", fld] qual scope f cdv A outer s H E) body (tSeq (tDrop (tVeI K (tCons (tVar 0) (tCons (tC (.str txt)) tNil)))) (tOst K fld (tVar 0) (tVar 1)))) :
    FnOk P w K mg base (L2.CX P w) 2 f fd ["self", fld] (spExc K fld) := by
  refine F.ok Sc (fun vs H Q E h => ?_) (fun cdv A outer s H vs Q E hr h => ⟨_, hb cdv A outer s H E, ?_⟩)
  · obtain ⟨a, C, v, rfl, _⟩ := h
    rfl
  · obtain ⟨a, C, v, rfl, T, hno, ha, q⟩ := h
    refine ⟨_, rfl, ?_⟩
    refine ⟨a, C, [.str txt], rfl, by show 1 ≤ 1000; decide, T, ha, ?_⟩
    exact ⟨_, rfl, _, rfl, a, C, rfl, T, hno, .inl ⟨ha, fun dx hdx hne => q dx hdx hne⟩⟩
end
section
variable {G : Gx} {W : WX} {X : Cx}
/-- raise C(e) -/
theorem rs_raise {x fld : Str} {C fI : Addr} {fd : FuncData} {e : Expr} {me : EX} {p pos pos2 : Pos} (hK : X.K = G.K) (hM : X.mg = G.mg) (hc : X.calm = true) (tk : Takes X W) (T : OexC X.K C) (hno : PySem.W.findIn X.K (.ref C) fld = some none) (iC : PySem.W.findIn X.K (.ref C) "__init__" = some (some (.ref fI))) (tI : PySem.W.typeIn X.K (.ref fI) = some (.type "function"))
    (F1 : FnOk X.prog X.w X.K X.mg X.base (L2.CX X.prog X.w) 2 fI fd ["self", fld] (spExc X.K fld)) (hr : Room 3 X.A) (hb : L2.Binds X.K fd ["self", fld] []) (hg : Gl X x) (hm : X.mg x = some (.ref C)) (he : PE X e (tE G W me))
    (hdb : (x == ("__debug__" : Str)) = false := by decide) (hs : starEach [e] X.env = (false, eval e X.env) :: starEach [] X.env := by rfl) :
    PS X (.Raise (some (.Call (.Name x p) [e] [] pos)) none pos2) (tS G W (sRaise x [fld] (aCons me aNil))) :=
  (ps_raise hc tk (pmk_oex T iC tI F1 hr hb .nil passL hg hm (pa_cons he pa_nil hs) hdb hs rfl)).imp fun D σ H q => by
    obtain ⟨ρ, δ, S, cf, p⟩ := q
    unfold sRaise aCons aNil at p
    refine ⟨ρ, δ, S, cf, ?_⟩
    cases e1 : me δ S with
    | bad => simp only [M.bind, e1, onOk] at p; exact p
    | ex z S1 =>
      simp only [M.bind, e1, onOk] at p
      exact fun c dx H' ρ' s rs rx => p c dx σ H' ρ' s (cf.step s rs) rx
    | ok d S1 =>
      simp only [M.bind, M.pure, e1, onOk, List.length_cons, List.length_nil, if_true, List.zip_cons_cons, List.zip_nil_left] at p
      intro v H1 ρ1 s1 rs1 rv
      refine ⟨by show 1 ≤ 1000; decide, fun a ha => ⟨a, C, v, rfl, T, hno, upd_same, fun dx hdx hne => ⟨rfl, dx, [(fld, v)], upd_same, ?_, ?_, ?_⟩⟩⟩
      · rw [upd_ne hne, upd_same]
      · have z : (upd H1 a (exo a C none)) dx = H1 dx := upd_ne hne
        rw [← z]
        exact hdx
      · have hd1 : H1 dx = none := by
          have z : (upd H1 a (exo a C none)) dx = H1 dx := upd_ne hne
          rw [← z]
          exact hdx
        have eH : upd (del (upd (upd (upd H1 a (exo a C none)) dx (exd dx [(fld, v)])) a (exo a C (some dx))) a) dx (.xd [(fld, v)]) = upd H1 dx (.xd [(fld, v)]) := by
          funext b
          by_cases hb1 : b = dx
          · subst hb1
            rw [upd_same, upd_same]
          · rw [upd_ne hb1, upd_ne hb1]
            by_cases hb2 : b = a
            · subst hb2
              rw [del_same, ha]
            · rw [del_ne hb2, upd_ne hb2, upd_ne hb1, upd_ne hb2]
        rw [eH]
        have st : Stp ρ1 H1 ρ1 (upd H1 dx (.xd [(fld, v)])) := Stp.new hd1
        have rs2 := rs1.new (o := .xd [(fld, v)]) hd1
        exact p _ _ σ _ ρ1 (s1.trans st) ((cf.step s1 rs1).step st rs2) ⟨C, dx, [(fld, v)], by rw [← hM]; exact hm, rfl, rfl, upd_same, rs1.nin hd1, rfl, .cons (rv.step st) .nil⟩
end
end Mi
end T_Sim4
section T_Sim5
set_option Elab.async false
set_option linter.all false
set_option maxRecDepth 100000
set_option maxHeartbeats 2000000
namespace PySem.W
open PySem PySem.Spec PySem.Calls PyProof.Rows
section
variable {prog : Program} {w : World} {A : Around} {E : Value → Shared → Prop} {s : Shared} {K : Frag} {x D : Addr} {ox : Obj}
theorem mi_findData {C : Addr} {od : Option Obj} {name : Str} {a g : Value} (hc : (clsIn K C).isSome = true) (ha : findIn K (.ref C) name = some (some a)) (hg : specialIn K a "__get__" = some (some g)) (ht : takesIn K a = some true) : findObj K C od name = some (.bind g a) := by
  obtain ⟨cd, hc⟩ := Option.isSome_iff_exists.mp hc
  unfold findObj
  rw [hc, Option.bind_some, ha, Option.bind_some]
  simp [hg, ht]
theorem mi_classE {od : Option Obj} {Q : Option Value → Shared → Prop} (C : L2.ExcC K D) (X : K.In s.heap) (I : InstAt s.heap x ox D od) (h : Q (some (.ref D)) { s with toks := s.toks + 1 }) : wpAny (model prog w) A (getAttr? (.ref x) "__class__") Q E s := by
  have hf : findObj K D od "__class__" = some (.bind (.builtin "getset_descriptor.__get__") (.builtin "object.__class__")) := mi_findData (by obtain ⟨cd, hc, _⟩ := any_some C.hd; rw [hc]; rfl) C.ha C.hn C.ht
  obtain ⟨hp, g, d, t, os⟩ := s
  have L0 := I.type (M := model prog w)
  have L1 := looks_findIn (M := model prog w) X C.hg
  have L2 := looks_findIn (M := model prog w) X C.hk
  have L3 := looks_find (M := model prog w) X I hf
  have sub : Looks (model prog w) hp (isInstance (.ref x) (.type "BaseException")) true := L0.andThen (looks_subIn X C.hs)
  have q0 : (false && onTheHeap (Value.builtin "BaseException.__getattribute__")) = false := rfl
  have q2 : (Value.builtin "BaseException.__getattribute__" == Value.builtin "object.__getattribute__") = false := by decide +kernel
  have q1 : (onTheHeap (Value.ref D) && Value.builtin "BaseException.__getattribute__" == Value.builtin "object.__getattribute__") = false := by rw [q2]; rfl
  unfold getAttr? getAttrBy? getAttrBy
  refine wpAny_bind (wpAny_mkText (wpAny_bind (wpAny_attempt (wpAny_holding (wpAny_bind (L0.at (wpAny_bind (L1.at ?_))))))))
  show wpAny _ _ (if (onTheHeap (Value.ref D) && Value.builtin "BaseException.__getattribute__" == Value.builtin "object.__getattribute__") = true then _ else _) _ _ _
  rw [q1, if_neg Bool.false_ne_true]
  unfold getAttrByItsOwn hookBefore
  refine wpAny_bind ?_
  rw [if_pos (show onTheHeap (Value.ref D) = true from rfl)]
  refine L2.at ?_
  refine wpAny_bind (wpAny_attempt (wpAny_holding ?_))
  unfold callGetattribute
  rw [q0, if_neg Bool.false_ne_true]
  unfold boundAndCalled
  rw [PySem.F.excAttr_ValueError.ga.bind (.ref x)]
  refine wpAny_bind (wpAny_pure ?_)
  show wpAny _ _ (call (.builtin "BaseException.__getattribute__") [.ref x, .str "__class__" t]) _ _ _
  refine wpAny_call (codeAny_call_builtin PySem.F.excAttr_ValueError.ga.plain PySem.F.entry_bexc_ga ?_)
  refine @check_slot (model prog w) _ _ ⟨hp, g, d, t + 1, os⟩ "BaseException.__getattribute__" "BaseException" "__getattribute__" (.ref x) [.str "__class__" t] [] _ (by decide +kernel) (by decide +kernel) sub (PySem.F.args_bexc_ga (.ref x) (.str "__class__" t)) ?_
  unfold Builtin.«object.__getattribute__»
  refine wpAny_bind (wpAny_of_eq (a := ((Value.ref x : Value), [Value.str "__class__" t])) (by first | rfl | (simp only [slotArgs]; rfl)) ?_)
  refine wpAny_bind (wpAny_pure (wpAny_bind (L0.at (wpAny_bind (L3.at ?_)))))
  show wpAny _ _ (holding [Value.builtin "object.__class__"] (call (.builtin "getset_descriptor.__get__") [.builtin "object.__class__", .ref x, .ref D]) >>= ret) _ _ _
  refine wpAny_bind (wpAny_holding (wpAny_call (class_get (s := ⟨hp, g, d, t + 1, os⟩) (ox := ox) (od := od) X I C.hm ?_)))
  refine wpAny_pure ?_
  show wpAny _ _ (handedOut (.ref D)) _ _ _
  rw [handedOut_of (v := .ref D) rfl]
  first
    | exact wpAny_pure (wpAny_pure h)
    | exact wpAny_pure h
    | exact wpAny_pure (wpAny_bind (wpAny_pure (wpAny_pure h)))
theorem mi_kitx (C : L2.ExcC K D) : KitX K (.ref x) (.ref D) (fun h => ∃ od, InstAt h x ox D od) where
  ty := fun _ _ _ ⟨_, I⟩ => I.type
  it := fun _ _ X _ => by
    obtain ⟨cdD, hcD, _⟩ := any_some C.hd
    unfold clsIn at hcD
    split at hcD
    · rename_i c' d' cd' sl' ho
      intro A' Q' E' s' k q
      unfold isType loadHead
      exact wpAny_bind (wpAny_loadPart (k _ _ (X _ _ ho)) (wpAny_pure q))
    · cases hcD
  ne := fun h tp dd its n sl X htp => by
    obtain ⟨cdD, hcD, _⟩ := any_some C.hd
    refine Bool.eq_false_iff.mpr fun q => ?_
    have e : D = tp := Value.ref.inj (beq_iff_eq.mp q)
    subst e
    unfold clsIn at hcD
    split at hcD
    · rename_i c' d' cd' sl' ho
      have z := (X _ _ ho).symm.trans htp
      cases z
    · cases hcD
  ca := fun X ⟨_, I⟩ k => mi_classE C X I k
end
end PySem.W
namespace Mi
open PySem PySem.Spec PyProof.Rows L2
/-- isinstance(e, c), e the caught error, of the class at D -/
def rXi (K : PySem.W.Frag) (cls : Value) (a : Addr) : List V → Hp → VK → Prop := fun xs H Q => ∃ (D : Addr) (c : V) (cv : Value) (b : Bool), cls = .ref D ∧ ExcC K D ∧ xs = [.ref a, c] ∧ ClsV c cv ∧ PySem.W.kitOne K (.ref D) cv = some b ∧ Q (.bl b) H
theorem call_xi {X : Cx} {a dd : Addr} {cls : Value} {oe : Obj} {pn : List (Addr × Obj)} (hz : Zc cls (some dd) oe) (hf : ∃ vs, oe.data = .fields vs) : CallR (X.suite a ((a, oe) :: pn)) (.builtin "isinstance") (fun xs H Q => (∃ fv, H dd = some (.xd fv)) ∧ rXi X.K cls a xs H Q) := by
  intro pins s σ H xs us Q I r h
  obtain ⟨⟨fv, hdd⟩, D, c, cv, b, ec, C, rfl, hcv, e, q⟩ := h
  subst ec
  obtain ⟨u1, u2, rfl, r1, r2⟩ := vals2 r
  cases r1
  have ec := hcv.eq r2
  subst ec
  obtain ⟨hget, _⟩ := I.pin (a, oe) (List.mem_append.mpr (.inl List.mem_cons_self))
  obtain ⟨vs, hv⟩ := hf
  have hx : ObjOk X.prog X.w H s.heap dd (.xd fv) := I.hok dd _ hdd
  obtain ⟨mA, ⟨od, es, ep, ho, _⟩, _⟩ := hx
  have J : PySem.W.InstAt s.heap a oe D (some od) := ⟨hget, hz.1, by unfold PySem.W.notCls; rw [hv] <;> rfl, by rw [hz.2]; exact ho⟩
  exact PySem.W.kia_one (PySem.W.mi_kitx C) I.kIn ⟨_, J⟩ e (fun z => nomatch z) fun tk => ⟨.bl b, H, I.kept (t' := tk) fun _ _ z => z, rfl, q⟩
theorem lookup_rel {K : PySem.W.Frag} {ρ : Rg} {H : Hp} {f : Str} {y : Dv} : ∀ {fv : List (Str × V)} {fs : List (Str × Dv)}, fv.map (·.1) = fs.map (·.1) → RvA K ρ H (fv.map (·.2)) (fs.map (·.2)) → fs.lookup f = some y → ∃ v, fv.lookup f = some v ∧ Rv K ρ H v y
  | [], [], _, _, h => by cases h
  | [], _ :: _, e, _, _ => by cases e
  | _ :: _, [], e, _, _ => by cases e
  | (n, v) :: fv, (n', d) :: fs, e, r, h => by
    have e1 : n = n' := (List.cons.inj e).1
    subst e1
    cases r with
    | cons h1 r1 =>
      rw [List.lookup_cons] at h ⊢
      cases q : f == n with
      | true =>
        rw [q] at h
        cases h
        exact ⟨v, rfl, h1⟩
      | false =>
        rw [q] at h
        exact lookup_rel (List.cons.inj e).2 r1 h
section
variable {G : Gx} {X : Cx}
abbrev Gx.sx (G : Gx) (dd : Addr) (fs : List (Str × Dv)) (i : Nat) (a : Addr) : Gx := { G with xc := some (dd, fs, i, a) }
theorem RS.sx {ρ : Rg} {H : Hp} {S : Sto} {dd a : Addr} {i : Nat} {fs : List (Str × Dv)} {fv : List (Str × V)} (r : RS G ρ H S) (h1 : H dd = some (.xd fv)) (h2 : Out ρ dd) (h3 : fv.map (·.1) = fs.map (·.1)) (h4 : RvA G.K ρ H (fv.map (·.2)) (fs.map (·.2))) : RS (G.sx dd fs i a) ρ H S :=
  ⟨r.len, r.nd, r.bt, r.ob, r.tab, ⟨fv, h1, h2, h3, h4⟩, r.xok.2⟩
theorem RS.unsx {ρ : Rg} {H : Hp} {S : Sto} {dd a : Addr} {i : Nat} {fs : List (Str × Dv)} (hx : G.xc = none) (r : RS (G.sx dd fs i a) ρ H S) : RS G ρ H S := ⟨r.len, r.nd, r.bt, r.ob, r.tab, by unfold XokE; rw [hx]; trivial, r.xok.2⟩
/-- a suite's reading: the caught error is of a class that the clause takes -/
def tSx (G : Gx) (i : Nat) (cs : List Str) (h : Exn → SM) (a : Addr) (cls : Value) (d : Option Addr) : TS := fun D σ H => ∃ (x : Exn) (dd C : Addr), x.cls ∈ cs ∧ G.mg x.cls = some (.ref C) ∧ cls = .ref C ∧ d = some dd ∧
  ∃ ρ δ S, Cf (G.sx dd x.fs i a) ρ H σ δ S ∧ PostS (G.sx dd x.fs i a) W0 ρ H (h x δ S) D
/-- a suite, clause by clause of errors -/
theorem ss_of {i : Nat} {cs : List Str} {h : Exn → SM} {a : Addr} {cls : Value} {d : Option Addr} {X : Cx} {sts : List Stmt} (hs : ∀ (x : Exn) (dd C : Addr), x.cls ∈ cs → G.mg x.cls = some (.ref C) → cls = .ref C → d = some dd → PSs X sts (tS (G.sx dd x.fs i a) W0 (h x))) : PSs X sts (tSx G i cs h a cls d) :=
  ⟨fun pins s σ H D I q => by
    obtain ⟨x, dd, C, h1, h2, h3, h4, q⟩ := q
    exact (hs x dd C h1 h2 h3 h4).run pins s σ H D I q⟩
/-- e.f -/
theorem re_xf {a dd C : Addr} {oe : Obj} {cls : Value} {d : Option Addr} {pn : List (Addr × Obj)} {i : Nat} {n f c : Str} {x : Exn} {p pos : Pos} (hK : X.K = G.K) (hC : cls = .ref C) (hd : d = some dd) (T : x.cls = c → XfC X.K C ∧ PySem.W.findIn X.K (.ref C) f = some none)
    (hz : Zc cls d oe) (hf : ∃ vs, oe.data = .fields vs) (he : PE (X.suite a ((a, oe) :: pn)) (.Name n p) (tVar i)) (hb : attributeBase (.Name n p) f X.env (eval (.Name n p) X.env) = eval (.Name n p) X.env := by rfl) :
    PE (X.suite a ((a, oe) :: pn)) (.Attribute (.Name n p) f pos) (tE (G.sx dd x.fs i a) W0 (eXf x c f)) := by
  by_cases hc : x.cls = c
  · obtain ⟨T1, T2⟩ := T hc
    refine (pe_xf T1 T2 hz hf he hb).imp fun σ H Q q => ?_
    obtain ⟨ρ, δ, S, cf, p⟩ := q
    unfold eXf at p
    rw [if_pos hc] at p
    refine ⟨_, cf.xs.1 _ rfl, rfl, hC, ?_⟩
    obtain ⟨fv, h1, h2, h3, h4⟩ := cf.rs.xok.1
    cases e : x.fs.lookup f with
    | none => rw [e] at p; exact p.elim
    | some y =>
      rw [e] at p
      obtain ⟨v, q1, q2⟩ := lookup_rel h3 h4 e
      exact ⟨dd, fv, v, hd, h1, q1, Post.pure p cf.rs q2⟩
  · refine ⟨fun pins s σ H Q I q => ?_⟩
    obtain ⟨ρ, δ, S, cf, p⟩ := q
    unfold eXf at p
    rw [if_neg hc] at p
    exact p.elim
/-- isinstance(e, c) -/
theorem re_xi {a dd C : Addr} {oe : Obj} {cls : Value} {d : Option Addr} {pn : List (Addr × Obj)} {i : Nat} {n y c : Str} {x : Exn} {b : Bool} {v : V} {cv : Value} {p p1 p2 pos : Pos} (hK : X.K = G.K) (hC : cls = .ref C) (hd : d = some dd) (T : x.cls = c → ExcC X.K C ∧ PySem.W.kitOne X.K (.ref C) cv = some b) (hv : ClsV v cv)
    (hz : Zc cls d oe) (hf : ∃ vs, oe.data = .fields vs) (he : PE (X.suite a ((a, oe) :: pn)) (.Name n p) (tVar i)) (hy : PE (X.suite a ((a, oe) :: pn)) (.Name y p1) (tC v)) (hg : Gl X "isinstance") (hm : X.mg "isinstance" = none)
    (hs : starEach [.Name n p, .Name y p1] X.env = (false, eval (.Name n p) X.env) :: starEach [.Name y p1] X.env := by rfl) (hs2 : starEach [.Name y p1] X.env = (false, eval (.Name y p1) X.env) :: starEach [] X.env := by rfl) (hpl : (backTo pos (starEach [.Name y p1] X.env)).any (·.1) = false := by rfl) :
    PE (X.suite a ((a, oe) :: pn)) (.Call (.Name "isinstance" p2) [.Name n p, .Name y p1] [] pos) (tE (G.sx dd x.fs i a) W0 (eXi x c b)) := by
  subst hd
  by_cases hc : x.cls = c
  · obtain ⟨T1, T2⟩ := T hc
    refine (pe_callB (X := X.suite a ((a, oe) :: pn)) (call_xi hz hf) hg hm (by decide +kernel) (pa_cons he (pa_cons hy pa_nil hs2) hs) (by decide) (by decide) hs hpl).imp fun σ H Q q => ?_
    obtain ⟨ρ, δ, S, cf, p⟩ := q
    unfold eXi at p
    rw [if_pos hc] at p
    obtain ⟨fv, h1, h2, h3, h4⟩ := cf.rs.xok.1
    exact ⟨_, cf.xs.1 _ rfl, ⟨fv, h1⟩, C, v, cv, b, hC, T1, rfl, hv, T2, Post.pure p cf.rs (.bl b)⟩
  · refine ⟨fun pins s σ H Q I q => ?_⟩
    obtain ⟨ρ, δ, S, cf, p⟩ := q
    unfold eXi at p
    rw [if_neg hc] at p
    exact p.elim
theorem Cf.toX {ρ : Rg} {H : Hp} {σ : L2.St} {δ : En} {S : Sto} {dd a : Addr} {i : Nat} {fs : List (Str × Dv)} {fv : List (Str × V)} (c : Cf G ρ H σ δ S) (hi : i < σ.length) (hfi : ∀ q, G.fx = some q → i ≠ q.1) (h1 : H dd = some (.xd fv)) (h2 : Out ρ dd) (h3 : fv.map (·.1) = fs.map (·.1)) (h4 : RvA G.K ρ H (fv.map (·.2)) (fs.map (·.2))) :
    Cf (G.sx dd fs i a) ρ H (σ.set i (some (.ref a))) (δ.set i none) S :=
  ⟨c.rs.sx h1 h2 h3 h4, by simp [c.len], fun j d e => by
    by_cases hj : i = j
    · subst hj
      rw [List.getElem?_set_self (by rw [← c.len]; exact hi)] at e
      cases e
    · rw [List.getElem?_set_ne hj] at e ⊢
      exact c.sl j d e, fun q e => by cases e; exact List.getElem?_set_self hi, fun q e => by rw [List.getElem?_set_ne (hfi q e)]; exact c.xs.2 q e⟩
theorem Cf.ofX {ρ : Rg} {H : Hp} {σ : L2.St} {δ : En} {S : Sto} {dd a : Addr} {i : Nat} {fs : List (Str × Dv)} (hx : G.xc = none) (hfi : ∀ q, G.fx = some q → i ≠ q.1) (c : Cf (G.sx dd fs i a) ρ H σ δ S) : Cf G ρ H (σ.set i none) (δ.set i none) S :=
  ⟨c.rs.unsx hx, by simp [c.len], fun j d e => by
    by_cases hj : i = j
    · subst hj
      by_cases hl : i < δ.length
      · rw [List.getElem?_set_self hl] at e
        cases e
      · rw [List.getElem?_eq_none (by rw [List.length_set]; omega)] at e
        cases e
    · rw [List.getElem?_set_ne hj] at e ⊢
      exact c.sl j d e, fun q e => (by rw [hx] at e; cases e), fun q e => by rw [List.getElem?_set_ne (hfi q e)]; exact c.xs.2 q e⟩
theorem rs_try {W : WX} {i : Nat} {n cx : Str} {c : Value} {all cs : List Str} {body suite : List Stmt} {b₀ : Stmt} {np pos pos' : Pos} {mb : SM} {h : Exn → SM} (hx : G.xc = none) (hK : X.K = G.K) (hs : X.stack = X.env :: X.outer) (hf : X.env.frame = some X.env.locals) (hN : X.N.Nodup) (hi : X.N[i]? = some n) (hln : X.env.kindOf n = some .local) (hc : Names X cx c) (tk : Takes X W)
    (hex : ∀ (y : Str) (C : Addr), y ∈ all → G.mg y = some (.ref C) → PySem.W.exmOne G.K (.ref C) c = some (decide (y ∈ cs)))
    (hb : ∀ (W : WX) (pn : List (Addr × Obj)) (xe : Value → Shared → Prop), Takes (X.tr pn xe) W → PassesOwn (model X.prog X.w) X.A X.env xe → PSs (X.tr pn xe) body (tS G W mb))
    (hsu : ∀ (a : Addr) (oe : Obj) (cls : Value) (d : Option Addr) (pn : List (Addr × Obj)), Zc cls d oe → (∃ vs, oe.data = .fields vs) → PSs (X.suite a ((a, oe) :: pn)) (b₀ :: suite) (tSx G i cs h a cls d)) (hfi : ∀ q, G.fx = some q → i ≠ q.1 := by intro q e; first | (cases e; done) | (cases e; exact Nat.ne_of_beq_eq_false rfl)) :
    PS X (.Try body [.ExceptHandler (some (.Name cx np)) (some n) (b₀ :: suite) pos'] [] [] pos) (tS G W (sTry i all cs mb h)) :=
  ⟨fun pins s σ H D I q => (ps_try_as (tb := fun W => tS G W mb) (ts := tSx G i cs h) (Wout := W) hs hf hN hi hln hc tk hb hsu).run pins s σ H D I (by
    have hil : i < σ.length := by
      rw [I.len]
      exact (List.getElem?_eq_some_iff.mp hi).1
    obtain ⟨ρ, δ, S, cf, p⟩ := q
    refine ⟨ρ, δ, S, cf, ?_⟩
    unfold sTry at p
    cases e : mb δ S with
    | nx δ' S' => rw [e] at p; exact p
    | rt d S' => rw [e] at p; exact p
    | bk δ' S' => rw [e] at p; exact p
    | ct δ' S' => rw [e] at p; exact p
    | bad => rw [e] at p; exact p
    | ex x δ' S' =>
      rw [e] at p
      dsimp only at p
      intro cl dx σ' H' ρ' s1 c1 rx
      by_cases hall : x.cls ∈ all ∧ i < δ'.length
      · rw [if_pos hall] at p
        obtain ⟨hall, hl⟩ := hall
        obtain ⟨C, dd, fv, m1, rfl, rfl, h1, h2, h3, h4⟩ := rx
        refine ⟨decide (x.cls ∈ cs), by rw [hK]; exact hex _ _ hall m1, fun hy a ha => ?_, fun hn => ?_⟩
        · have hcs : x.cls ∈ cs := of_decide_eq_true hy
          rw [if_pos hcs] at p
          refine ⟨x, dd, C, hcs, m1, rfl, rfl, ρ', δ'.set i none, S', c1.toX (by rw [c1.len]; exact hl) hfi h1 h2 h3 h4, ?_⟩
          cases e3 : h x (δ'.set i none) S' with
          | nx δ4 S4 =>
            rw [e3] at p
            exact fun σ4 H4 ρ4 s4 c4 => p _ H4 ρ4 (s1.trans s4) (c4.ofX hx hfi)
          | bk δ4 S4 =>
            rw [e3] at p
            exact fun σ4 H4 ρ4 s4 c4 => p _ H4 ρ4 (s1.trans s4) (c4.ofX hx hfi)
          | ct δ4 S4 =>
            rw [e3] at p
            exact fun σ4 H4 ρ4 s4 c4 => p _ H4 ρ4 (s1.trans s4) (c4.ofX hx hfi)
          | rt d S4 =>
            rw [e3] at p
            exact fun v H4 ρ4 s4 r4 rv => p v H4 ρ4 (s1.trans s4) (r4.unsx hx) rv
          | ex y δ4 S4 =>
            rw [e3] at p
            exact p.elim
          | bad =>
            rw [e3] at p
            exact p.elim
        · rw [if_neg (of_decide_eq_false hn)] at p
          exact p _ _ σ' H' ρ' s1 c1 ⟨C, dd, fv, m1, rfl, rfl, h1, h2, h3, h4⟩
      · rw [if_neg hall] at p
        exact p.elim)⟩
end
end Mi
end T_Sim5
section T_Sim6
set_option Elab.async false
set_option linter.all false
set_option maxRecDepth 100000
set_option maxHeartbeats 4000000
namespace Mi
open PySem PySem.Spec PyProof.Rows L2 HT
section
variable {prog : Program} {w : World} {A : Around} {E : Value → Shared → Prop} {s : Shared}
theorem rev_adjust (n : Nat) : Builtin.Slice.sliceAdjust none none (-1) (n : Int) = ((n : Int) - 1, -1) := by
  unfold Builtin.Slice.sliceAdjust
  simp
theorem rev_places (n : Nat) : Builtin.Slice.slicePlaces ((n : Int) - 1) (-1) (-1) = n := by
  unfold Builtin.Slice.slicePlaces
  have h1 : ¬ ((-1 : Int) > 0) := by decide
  simp only [h1, if_false, show (- -1 : Int) = 1 by decide, Int.ediv_one]
  split <;> omega
theorem fm_map {α β : Type} {f : α → Option β} {g : α → β} : ∀ {l : List α}, (∀ m ∈ l, f m = some (g m)) → l.filterMap f = l.map g
  | [], _ => rfl
  | a :: l, h => by
    rw [List.filterMap_cons, h a (by simp), fm_map fun m hm => h m (List.mem_cons_of_mem _ hm)]
    rfl
theorem rev_pick (xs : Array Value) : ((List.range xs.size).filterMap fun (m : Nat) => xs[((xs.size : Int) - 1 + (m : Int) * (-1)).toNat]?).toArray = xs.toList.reverse.toArray := by
  congr 1
  apply List.ext_getElem?
  intro i
  have e : (List.range xs.size).filterMap (fun (m : Nat) => xs[((xs.size : Int) - 1 + (m : Int) * (-1)).toNat]?) = (List.range xs.size).map fun m => (xs[xs.size - 1 - m]?).getD .none := by
    refine fm_map fun m hm => ?_
    have := List.mem_range.mp hm
    have e2 : ((xs.size : Int) - 1 + (m : Int) * (-1)).toNat = xs.size - 1 - m := by omega
    rw [e2, Array.getElem?_eq_getElem (by omega)]
    rfl
  rw [e, List.getElem?_map]
  by_cases hi : i < xs.size
  · rw [List.getElem?_range hi, List.getElem?_reverse (by simpa using hi)]
    simp only [Option.map_some, Array.length_toList, Array.getElem?_toList]
    rw [Array.getElem?_eq_getElem (by omega)]
    rfl
  · rw [List.getElem?_eq_none (by simpa using hi), List.getElem?_eq_none (by simpa using hi)]
    rfl
theorem getItem_tuple_rev {t sl : Addr} {items : Array Value} {vl vu vs : Value} {Q : Value → Shared → Prop} (ht : IsTup s.heap t items) (hs : s.heap.IsSliceOf sl vl vu vs) (pl : IsPart vl none) (pu : IsPart vu none) (ps : IsPart vs (some (-1)))
    (h : Q (.ref s.heap.objs.size) { s with heap := s.heap.push { cls := .type "tuple", data := .seq items.toList.reverse.toArray } })
    (hsz : items.size ≤ sizeLine) : wpAny (model prog w) A (getItem (.ref t) (.ref sl)) Q E s := by
  have htake : sizeOk (.seq items.toList.reverse.toArray) := by
    show items.toList.reverse.toArray.size ≤ sizeLine
    simpa using hsz
  obtain ⟨os, hos, hcs, hds⟩ := id hs
  have hTs : s.TypeIs (.ref sl) "slice" := ⟨os, hos, hcs⟩
  unfold getItem
  try with_reducible refine wpAny_holding ?_
  first | refine wpAny_bind (wpAny_pure ?_) | skip
  refine wpAny_bind (wpAny_sequenceKey ht.typeIs (by decide) ?_)
  refine wpAny_bind (wpAny_callSpecial?_slot (name := Str.ofString "__getitem__") ht.typeIs PyProof.Rows.slot_tuple_getitem
    (wpAny_call_entry PyProof.Rows.slot_tuple_getitem ht.typeIs entry_tuple_getitem ?_ (args_tuple_getitem _ _)))
  show wpAny _ _ (Builtin.Tuple.tupleItemsOf (.ref t) >>= _) _ _ s
  refine wpAny_bind (tupleItemsOf_ ht ?_)
  refine wpAny_bind (wpAny_typeOf hTs ?_)
  rw [if_pos (by decide)]
  have ap : ∀ {Q : Int × Int × Nat → Shared → Prop}, Q ((items.size : Int) - 1, -1, items.size) s → wpAny (model prog w) A.in1 (Builtin.Slice.sliceApplied (.ref sl) (pure (items.size : Int))) Q E s := by
    intro Q h
    unfold Builtin.Slice.sliceApplied Builtin.Slice.sliceFields
    refine wpAny_bind (wpAny_bind (wpAny_field hos hds (x := vl) rfl (wpAny_bind (wpAny_field hos hds (x := vu) rfl (wpAny_bind (wpAny_field hos hds (x := vs) rfl (wpAny_pure ?_)))))))
    refine wpAny_bind (slicePart_ ps ?_)
    show wpAny _ _ (if ((-1 : Int) == 0) = true then _ else _) _ _ s
    rw [if_neg (by decide)]
    refine wpAny_bind (slicePart_ pl (wpAny_bind (slicePart_ pu (wpAny_bind (wpAny_pure ?_)))))
    show wpAny _ _ (match Builtin.Slice.sliceAdjust none none (-1) (items.size : Int) with | (lo, hi) => pure (lo, (-1 : Int), Builtin.Slice.slicePlaces lo hi (-1))) _ _ s
    rw [rev_adjust]
    show wpAny _ _ (pure ((items.size : Int) - 1, (-1 : Int), Builtin.Slice.slicePlaces ((items.size : Int) - 1) (-1) (-1))) _ _ s
    rw [rev_places]
    exact wpAny_pure h
  refine wpAny_bind (ap ?_)
  have hno : ¬ ((((items.size : Int) - 1) == 0 && (-1 : Int) == 1 && items.size == items.size) = true) := by simp
  show wpAny _ _ (if (((items.size : Int) - 1) == 0 && (-1 : Int) == 1 && items.size == items.size) = true then _ else _) _ _ s
  rw [if_neg hno, rev_pick]
  first
    | exact wpAny_bind (m := Builtin.Tuple.tupleExact _) (wpAny_newObj_type (wpAny_pure ⟨_, rfl, wpAny_pure h⟩) htake)
    | exact wpAny_bind (m := Builtin.Tuple.tupleExact _) (wpAny_newObj_type (wpAny_bind (wpAny_pure (wpAny_pure ⟨_, rfl, wpAny_pure h⟩))) htake)
    | exact wpAny_bind (wpAny_bind (m := Builtin.Tuple.tupleExact _) (wpAny_newObj_type (wpAny_pure (wpAny_pure ⟨_, rfl, wpAny_pure h⟩)) htake))
    | exact wpAny_bind (wpAny_bind (m := Builtin.Tuple.tupleExact _) (wpAny_newObj_type (wpAny_pure ⟨_, rfl, wpAny_pure h⟩) htake))
end
section
variable {X : Cx} {G : Gx} {W : WX}
def tRevA (K : PySem.W.Frag) (te : TE) : TE := fun σ H Q => te σ H fun x H1 => ∃ a xs, x = .ref a ∧ ((SqL K H1 a xs ∧ ∀ p, H1 p = none → Q (.ref p) (upd H1 p (.lst xs.reverse))) ∨ (SqT K H1 a xs ∧ ∀ p, H1 p = none → Q (.ref p) (upd H1 p (.tup xs.reverse))))
theorem pe_revA {e : Expr} {te : TE} {k : Nat} {p1 p2 p3 pos : Pos} (he : PE X e te) : PE X (.Subscript e (.Slice none none (some (.UnaryOp .USub (.Constant (.int 1) k p1) p2)) p3) pos) (tRevA X.K te) := by
  refine ⟨fun pins s σ H Q I h => ?_⟩
  refine Subscript_ (thn (he.run pins s σ H _ I h) fun v s1 ⟨x, H1, I1, r1, q1⟩ => ?_)
  obtain ⟨a, xs, ex, q⟩ := q1
  subst ex
  cases r1
  have hst : PO X (some (.UnaryOp .USub (.Constant (.int 1) k p1) p2)) (tPart (tUn (rU fun i => .int (-i)) (tC (.int 1)))) := po_some (pe_un un_neg pe_int)
  refine wpAny_Slice (thn (po_none.run pins s1 σ H1 (fun o H2 => o = none ∧ H2 = H1) I1 ⟨rfl, rfl⟩) fun vl s2 ⟨l, H2, I2, pl, el, e2⟩ => ?_)
  subst el e2
  refine thn (po_none.run pins s2 σ H2 (fun o H3 => o = none ∧ H3 = H2) I2 ⟨rfl, rfl⟩) fun vu s3 ⟨u, H3, I3, pu, eu, e3⟩ => ?_
  subst eu e3
  refine thn (hst.run pins s3 σ H3 (fun o H4 => o = some (-1) ∧ H4 = H3) I3 ⟨1, rfl, -1, rfl, rfl, rfl⟩) fun vs s4 ⟨o, H4, I4, ps, eo, e4⟩ => ?_
  subst eo e4
  have I5 : Inv X pins σ H4 { s4 with heap := s4.heap.push { cls := .type "slice", data := .fields #[vl, vu, vs] } } := I4.kept (t' := s4.toks) fun b ob q => Heap.get?_push_of_some _ q
  show wpAny (model X.prog X.w) X.A (subscriptTail e (.Slice none none (some (.UnaryOp .USub (.Constant (.int 1) k p1) p2)) p3) (.ref a) (.ref s4.heap.objs.size)) (EP X pins σ Q) X.xe { s4 with heap := s4.heap.push { cls := .type "slice", data := .fields #[vl, vu, vs] } }
  rcases q with ⟨hx, q⟩ | ⟨hx, q⟩
  · obtain ⟨its, r, ht, hz⟩ := I5.list hx
    have hlen := r.length
    refine tail_any (ops := [.ref a, .ref s4.heap.objs.size]) ht.isList.typeIs (PySem.slot_list_getitem.lookup) ?_ (by with_unfolding_all rfl)
    refine wpAny_getItem_list_slice ht.isList (Heap.IsSliceOf.new _ vl vu vs) pl pu ps (by decide) ?_ (by rw [List.size_toArray]; omega)
    rw [PySem.W.krv_pick]
    refine ⟨.ref _, _, I5.laid (t' := s4.toks) (o := .lst xs.reverse) (fun b ob q => Heap.get?_push_of_some _ q) (Nat.le_refl _) ?_, rfl, q _ (I5.hok.fresh (Nat.le_refl _))⟩
    exact ⟨by rw [List.length_reverse]; exact hz, _, 0, r.reverse, Heap.get?_push_size _ rfl⟩
  · obtain ⟨its, r, ht, hz⟩ := I5.tuple hx
    have hlen := r.length
    refine tail_any (ops := [.ref a, .ref s4.heap.objs.size]) ht.typeIs (PyProof.Rows.slot_tuple_getitem.lookup) ?_ (by with_unfolding_all rfl)
    refine getItem_tuple_rev ht (Heap.IsSliceOf.new _ vl vu vs) pl pu ps ?_ (by rw [List.size_toArray]; omega)
    refine ⟨.ref _, _, I5.laid (t' := s4.toks) (o := .tup xs.reverse) (fun b ob q => Heap.get?_push_of_some _ q) (Nat.le_refl _) ?_, rfl, q _ (I5.hok.fresh (Nat.le_refl _))⟩
    exact ⟨by rw [List.length_reverse]; exact hz, _, r.reverse, ⟨_, Heap.get?_push_size _ rfl, rfl, _, rfl⟩⟩
def mRev (d : Dv) : M Dv := fun S => match d with
  | .tup xs => .ok (.tup xs.reverse) S
  | d => match asC S d with
    | some xs => .ok (.lst xs.reverse) S
    | none => .bad
theorem re_rev {e : Expr} {me : EX} {k : Nat} {p1 p2 p3 pos : Pos} (hK : X.K = G.K) (h : PE X e (tE G W me)) : PE X (.Subscript e (.Slice none none (some (.UnaryOp .USub (.Constant (.int 1) k p1) p2)) p3) pos) (tE G W (e1 mRev me)) := (pe_revA h).imp fun σ H Q q => by
  obtain ⟨ρ, δ, S, cf, p⟩ := q
  refine ⟨ρ, δ, S, cf, (Post.bind p).mono fun x H1 ⟨ρ1, S1, d, s1, rs1, rx, p1⟩ => ?_⟩
  unfold mRev at p1
  split at p1
  · cases rx with
    | @tup a vs _ h r => exact ⟨a, vs, rfl, .inr ⟨by rw [hK]; exact h.sq, fun u hu => p1.newT rs1 r.rev hu⟩⟩
  · split at p1
    · rename_i xs e1
      obtain ⟨a, vs, rfl, h, r⟩ := asC_ok rs1 rx e1
      exact ⟨a, vs, rfl, .inl ⟨by rw [hK]; exact h, fun u hu => p1.newL rs1 r.rev hu⟩⟩
    · exact p1.elim
end
end Mi
end T_Sim6
section T_Sim7
set_option Elab.async false
set_option linter.all false
set_option maxRecDepth 100000
set_option maxHeartbeats 4000000
namespace PySem
open AutoSeq1 (wpAny_loadPart')
theorem mi_enumerate_newT (l : Addr) (items : Array Value) (n : Nat) (dct : Option Addr) (sl : Array (Option Value)) :
    Meets (Builtin.«enumerate.__new__» ⟨[.type "enumerate", .ref l], []⟩) (fun _ R s => s.heap.get? l = some { cls := .type "tuple", dict := dct, data := .seq items n, slots := sl } ∧
      R (.ok (.ret (.ref (s.heap.push { cls := .type "tuple_iterator", data := .fields #[.ref l, .int 0 0] }).objs.size)))
        { s with heap := (s.heap.push { cls := .type "tuple_iterator", data := .fields #[.ref l, .int 0 0] }).push { cls := .type "enumerate", data := .fields #[.none, .bool false, .ref s.heap.objs.size, rawInt 0, .none, .none] } }) :=
  .of_wp fun prog w A R s h => by
    obtain ⟨hp, g, d, tk, os⟩ := s; obtain ⟨hl, h⟩ := h
    have hsub := sub_enumerate
    have hL : Heap.IsTuple (Shared.heap ⟨hp, g, d, tk, os⟩) l items := ⟨_, hl, rfl, n, rfl⟩
    wp_walk using wpAny_loadPart' hl
    refine wpAny_stack_any fun st => wpAny_pure ?_
    split
    · rename_i c _ _ _ _ _
      cases (c == Value.type "enumerate")
      · wp_walk using wpAny_loadPart' hl, wpAny_pyIter_tuple hL
        exact ⟨_, rfl, h⟩
      · wp_walk using wpAny_loadPart' hl, wpAny_pyIter_tuple hL
        exact ⟨_, rfl, h⟩
    · wp_walk using wpAny_loadPart' hl, wpAny_pyIter_tuple hL
      exact ⟨_, rfl, h⟩
theorem mi_enumerate_tuple {prog : Program} {w : World} {A : Around} {E : Value → Shared → Prop} {s : Shared} {l : Addr} {items : Array Value} {Q : Value → Shared → Prop} (hL : s.heap.IsTuple l items)
    (h : ∀ h', IsEnum h' (s.heap.objs.size + 1) s.heap.objs.size 0 .none → h'.IsTupleIter s.heap.objs.size l 0 → h'.objs.size = s.heap.objs.size + 2 →
      (∀ b o, s.heap.get? b = some o → h'.get? b = some o) → Q (.ref (s.heap.objs.size + 1)) { s with heap := h' }) :
    wpAny (model prog w) A (call (.type "enumerate") [.ref l]) Q E s := by
  obtain ⟨⟨c, dct, dt, sl⟩, hl, hc, n, hd⟩ := hL
  replace hc : c = .type "tuple" := hc
  replace hd : dt = .seq items n := hd
  subst hc hd
  refine callType_new F.called_enumerate (by decide) (F.typeCall_enumerate_1 _) (F.newCall_enumerate_1 _) (fun obj => F.args_object_init_2 obj _) F.entry_enumerate_new
    (mi_enumerate_newT l items n dct sl) ⟨hl, ?_⟩
  have hz : (s.heap.push { cls := .type "tuple_iterator", data := .fields #[.ref l, .int 0 0] }).objs.size = s.heap.objs.size + 1 := Heap.size_push ..
  show _ ∧ _
  rw [hz]
  have he : IsEnum ((s.heap.push { cls := .type "tuple_iterator", data := .fields #[.ref l, .int 0 0] }).push
      { cls := .type "enumerate", data := .fields #[.none, .bool false, .ref s.heap.objs.size, rawInt 0, .none, .none] }) (s.heap.objs.size + 1) s.heap.objs.size 0 .none := by
    have := Heap.get?_push_size (s.heap.push { cls := .type "tuple_iterator", data := .fields #[.ref l, .int 0 0] })
      (o := { cls := .type "enumerate", data := .fields #[.none, .bool false, .ref s.heap.objs.size, rawInt 0, .none, .none] }) rfl
    rw [hz] at this; exact this
  refine ⟨⟨_, he, rfl⟩, h _ he ⟨_, Heap.get?_push_of_some _ (Heap.get?_push_size _ rfl), rfl, rfl⟩ (by rw [Heap.size_push, hz]) fun b o x => Heap.get?_push_of_some _ (Heap.get?_push_of_some _ x)⟩
end PySem
namespace Mi
open PySem PySem.Spec PyProof.Rows L2 HT
/-- the tuple at a, each item in a new pair -/
def IteT (K : PySem.W.Frag) (a : Addr) : It :=
  ⟨fun i H => ∃ (xs : List V) (x : V), SqT K H a xs ∧ xs[i]? = some x, fun i H v H' => ∃ T x, v = .ref T ∧ H T = none ∧ H' = upd H T (.tup [.int (i : Nat), x]) ∧ ∀ xs, SqT K H a xs → xs[i]? = some x, fun i H => ∃ xs : List V, SqT K H a xs ∧ xs.length ≤ i⟩
theorem turn_enumT {P : Program} {w : World} {K : PySem.W.Frag} {elts : List Expr} {kk : Nat} {tpos : Pos} (a e it : Addr) :
    Turn P w K (.Tuple elts kk tpos) (IteT K a) [e, it] e (fun i h => (∃ old, IsEnum h e it ((i : Nat) : Int) old) ∧ h.IsTupleIter it a i ∧ e ≠ it ∧ a ≠ it ∧ e ≠ a) where
  mem := by simp
  obj := fun i h st b hb => by
    obtain ⟨⟨old, he⟩, ⟨o, ho, hc, hd⟩, _⟩ := st
    have e' : b = e ∨ b = it := by simpa using hb
    rcases e' with z | z
    · rw [z]; exact ⟨_, he, fun v q => nomatch q⟩
    · rw [z]; exact ⟨o, ho, fun v q => by rw [hd] at q; cases q⟩
  keep := fun i h h' st k => let ⟨⟨old, he⟩, hi, hne⟩ := st; ⟨⟨old, k e (by simp) _ he⟩, hi.at fun o q => k it (by simp) o q, hne⟩
  item := by
    intro X hP hw hK hc i pins s σ H E I hf st hg
    subst hP hw hK
    obtain ⟨⟨old, he⟩, hit, hne, hai, hea⟩ := st
    obtain ⟨xs, x, hq, hx⟩ := hg
    obtain ⟨its, rv, p, hz⟩ := I.tuple hq
    obtain ⟨u, hu, ru⟩ := rv.get hx
    have p' : s.heap.IsTuple a its.toArray := p
    have hel : e < s.heap.objs.size := Heap.lt_size he
    have hil : it < s.heap.objs.size := by obtain ⟨_, q, _⟩ := hit; exact Heap.lt_size q
    have hun : its.toArray[i]? = some u := by simpa using hu
    have hlt : i < its.toArray.size := (Array.getElem?_eq_some_iff.mp hun).1
    refine wpAny_pyNext_enum_itemD (Draws.tuple (prog := X.prog) (w := X.w) (A := X.A.in1) (I.ok.hd hc) it a hai its.toArray) he ⟨hit, p'⟩ hlt hne (by
      intro hm
      rcases List.mem_cons.mp hm with z | hm
      · exact hne z
      · exact hea (List.mem_singleton.mp hm)) fun x' h' tk hP ho hst' hT hsz hk => ?_
    have ex : x' = u := by
      have z : its.toArray[i]? = some x' := hP
      rw [hun] at z
      exact (Option.some.inj z).symm
    subst ex
    refine ⟨_, rfl, wpAny_letOwnedTupleGo_enum (s := { s with heap := h', toks := tk + 1 }) ho fun h'' he' sb => ?_⟩
    have hT2 : h''.get? s.heap.objs.size = some { cls := .type "tuple", data := .seq #[.int i tk, x'] } := (sb.2 _ (Nat.ne_of_gt hel)).trans hT
    have new : ObjOk X.prog X.w (upd H s.heap.objs.size (.tup [.int (i : Nat), x])) h'' s.heap.objs.size (.tup [.int (i : Nat), x]) :=
      ⟨by show 2 ≤ sizeLine; decide, [.int i tk, x'], .cons ⟨_, rfl⟩ (.cons ru .nil), ⟨_, hT2, rfl, _, rfl⟩⟩
    have I1 : Inv X pins σ (upd H s.heap.objs.size (.tup [.int (i : Nat), x])) { s with heap := h'', toks := tk + 1 } :=
      I.turnedNew (ch := [e, it]) (fun b ob hb q => (sb.2 b (fun z => hb (by simp [z]))).trans (hk b ob (fun z => hb (by simp [z])) (fun z => hb (by simp [z])) q)) hf (Nat.le_refl _) new
    refine ⟨.ref s.heap.objs.size, _, I1, rfl, ⟨_, x, rfl, I.hok.fresh (Nat.le_refl _), rfl, fun ys hy => by rw [I.tuple_inj hy hq]; exact hx⟩, ⟨⟨x', ?_⟩, hst'.1.at fun o q => (sb.2 it (Ne.symm hne)).trans q, hne, hai, hea⟩, fun b hb => ?_⟩
    · have e1 : ((i + 1 : Nat) : Int) = (i : Int) + 1 := by omega
      rw [e1]; exact he'
    · have hb' : b < s.heap.objs.size := by
        have e' : b = e ∨ b = it := by simpa using hb
        rcases e' with z | z
        · rw [z]; exact hel
        · rw [z]; exact hil
      rw [upd_ne (Nat.ne_of_lt hb')]
      exact (hf b hb).1
  done := by
    intro X hP hw hK hc i pins s σ H E I hf st hg
    subst hP hw hK
    obtain ⟨⟨old, he⟩, hit, hne, hai, hea⟩ := st
    obtain ⟨xs, hq, hx⟩ := hg
    obtain ⟨its, rv, p, hz⟩ := I.tuple hq
    have p' : s.heap.IsTuple a its.toArray := p
    obtain ⟨f0, f1, f2, f3, f4, f5⟩ := hf it (by simp)
    have hl := rv.length
    have hT : s.TypeIs (.ref e) "enumerate" := ⟨_, he, rfl⟩
    unfold pyNext
    refine wpAny_bind (wpAny_attempt (wpAny_callSpecial?_slot (name := Str.ofString "__next__") hT F.slot_enumerate_next
      (wpAny_call_entry F.slot_enumerate_next hT F.entry_enumerate_next ?_ (F.args_enumerate_next_1 _))))
    show wpAny _ _ (field (.ref e) 2 >>= _) _ _ _
    refine wpAny_bind (wpAny_field he rfl (x := .ref it) rfl ?_)
    refine wpAny_bind (wpAny_nextOf_tuple_end (I.ok.hd hc) hit p' (by simp; omega) fun h' x he' hx' => ?_)
    obtain ⟨o, ho, hcl⟩ := hx'
    refine wpAny_bind (wpAny_isInstance (T := "StopIteration") (b := true) ⟨o, ho, hcl⟩ isSubtype_stop ?_)
    exact wpAny_pure ⟨rfl, I.turned (t' := s.toks) (fun b o hb q => he' b o hb q) f0 f1 f3 f4 f5⟩
  self := fun A i s Q E st h => let ⟨⟨_, he⟩, _⟩ := st; wpAny_pyIter_enum he h
def iEnumT (K : PySem.W.Frag) (ta : TA) : TI := fun σ H R => ta σ H fun vs H1 => ∃ a xs, vs = [.ref a] ∧ SqT K H1 a xs ∧ R (IteT K a) H1
theorem pi_enumT {X : Cx} {e : Expr} {ta : TA} {p pos tpos : Pos} {elts : List Expr} {kk : Nat} (hg : Gl X "enumerate") (hm : X.mg "enumerate" = none) (ha : PA X [e] ta) (hs : starEach [e] X.env = [(false, eval e X.env)] := by rfl) :
    PI X (.Tuple elts kk tpos) (.Call (.Name "enumerate" p) [e] [] pos) (iEnumT X.K ta) := by
  refine ⟨fun pins s σ H R I h => ?_⟩
  refine Call_ (ld_blt I hg hm boot_enumerate (PyProof.Rows.callWith_type1 (thn (ha.run pos pins s σ H _ I h) fun us s1 ⟨vs, H1, I1, r1, q1⟩ => ?_) hs rfl))
  obtain ⟨a, xs, ex, hq, q⟩ := q1
  subst ex
  cases r1 with
  | cons r rr =>
    cases rr
    cases r
    obtain ⟨its, rv, p', hz⟩ := I1.tuple hq
    have hal : a < s1.heap.objs.size := by
      obtain ⟨o, ho, _⟩ := p'
      exact Heap.lt_size ho
    refine mi_enumerate_tuple (show s1.heap.IsTuple a its.toArray from p') fun h' he hit hsz hk => wpAny_pyIter_enum he ?_
    have I2 : Inv X pins σ H1 { s1 with heap := h' } := I1.kept (t' := s1.toks) hk
    refine ⟨s1.heap.objs.size + 1, [s1.heap.objs.size + 1, s1.heap.objs.size], _, _, H1, rfl, I2, turn_enumT a (s1.heap.objs.size + 1) s1.heap.objs.size, ⟨⟨.none, he⟩, hit, Nat.succ_ne_self _, Nat.ne_of_lt hal, Nat.ne_of_gt (Nat.lt_succ_of_lt hal)⟩, fun b hb => ?_, q⟩
    have e' : b = s1.heap.objs.size + 1 ∨ b = s1.heap.objs.size := by simpa using hb
    have hle : s1.heap.objs.size ≤ b := by
      rcases e' with z | z
      · rw [z]; exact Nat.le_succ _
      · rw [z]; exact Nat.le_refl _
    exact I1.fpOk hle (I1.hok.fresh hle)
section
variable {X : Cx} {G : Gx} {W : WX}
def enumD (ds : List Dv) : List Dv := ds.mapIdx fun i d => .tup [.int (i : Nat), d]
def mEnum (ds : List Dv) : M (List Dv) := fun S => match ds with
  | [.tup xs] => .ok (enumD xs) S
  | [.lst xs] => .ok (enumD xs) S
  | [.con xs] => .ok (enumD xs) S
  | _ => .bad
def iEnum (a : EA) : EA := fun δ => (a δ).bind mEnum
theorem enumD_get {ds : List Dv} {i : Nat} {d : Dv} (h : (enumD ds)[i]? = some d) : ∃ y, ds[i]? = some y ∧ d = .tup [.int (i : Nat), y] := by
  unfold enumD at h
  rw [List.getElem?_mapIdx] at h
  cases e : ds[i]? with
  | none => rw [e] at h; cases h
  | some y =>
    rw [e] at h
    cases h
    exact ⟨y, rfl, rfl⟩
theorem itok_eT {ρ : Rg} {H : Hp} {a : Addr} {vs : List V} {ds : List Dv} (h : StT G.K ρ H a vs) (r : RvA G.K ρ H vs ds) : ItOk G ρ H (IteT G.K a) (enumD ds) where
  go := fun ρ1 H1 S1 i d s rs e => by
    obtain ⟨y, e1, rfl⟩ := enumD_get e
    obtain ⟨v, h1, h2⟩ := (r.stepB s).get e1
    have q := (h.stepB s).sq
    exact ⟨⟨vs, v, q, h1⟩, fun x H2 ⟨T, z, e1, e2, e3, e4⟩ => by
      subst e1 e3
      have e5 := (e4 vs q).symm.trans h1
      cases e5
      exact ⟨Stp.new e2, rs.new e2, .tup ⟨upd_same, rs.nin e2⟩ (.cons (.int _) (.cons (h2.step (Stp.new e2)) .nil))⟩⟩
  stop := fun ρ1 H1 s => ⟨vs, (h.stepB s).sq, by rw [r.length]; simp [enumD]⟩
theorem itok_eL {ρ : Rg} {H : Hp} {a : Addr} {vs : List V} {ds : List Dv} (h : StL G.K ρ H a vs) (r : RvA G.K ρ H vs ds) : ItOk G ρ H (Ite G.K a) (enumD ds) where
  go := fun ρ1 H1 S1 i d s rs e => by
    obtain ⟨y, e1, rfl⟩ := enumD_get e
    obtain ⟨v, h1, h2⟩ := (r.stepB s).get e1
    have q := (h.stepB s).sq
    exact ⟨⟨vs, v, q, h1⟩, fun x H2 ⟨T, z, e1, e2, e3, e4⟩ => by
      subst e1 e3
      have e5 := (e4 vs q).symm.trans h1
      cases e5
      exact ⟨Stp.new e2, rs.new e2, .tup ⟨upd_same, rs.nin e2⟩ (.cons (.int _) (.cons (h2.step (Stp.new e2)) .nil))⟩⟩
  stop := fun ρ1 H1 s => ⟨vs, (h.stepB s).sq, by rw [r.length]; simp [enumD]⟩
theorem ri_enum {e : Expr} {mr : EA} {p pos tpos : Pos} {elts : List Expr} {kk : Nat} (hK : X.K = G.K) (hg : Gl X "enumerate") (hm : X.mg "enumerate" = none) (ha : PA X [e] (tA G W mr)) (hs : starEach [e] X.env = [(false, eval e X.env)] := by rfl) :
    PI X (.Tuple elts kk tpos) (.Call (.Name "enumerate" p) [e] [] pos) (tI G W (iEnum mr)) := ((pi_enum (tpos := tpos) (elts := elts) (kk := kk) (p := p) (pos := pos) hg hm ha hs).or (pi_enumT hg hm ha hs)).imp fun σ H R q => by
  obtain ⟨ρ, δ, S, cf, p⟩ := q
  have p2 := Post.bind (rel := ar G) p
  cases ed : mr δ S with
  | bad => rw [ed] at p2; exact p2.elim
  | ex x S1 =>
    rw [ed] at p2
    exact .inl ⟨ρ, δ, S, cf, by rw [ed]; exact p2⟩
  | ok ds S1 =>
    have pd : Post G W σ (ir G) ρ H (mEnum ds S1) R := by
      unfold iEnum M.bind at p
      rw [ed] at p
      exact p
    unfold mEnum at pd
    split at pd
    · refine .inr ⟨ρ, δ, S, cf, ?_⟩
      rw [ed]
      intro v H1 ρ1 s1 rs1 rv
      obtain ⟨v2, rfl, rv2⟩ := rv.one
      cases rv2 with
      | @tup a vs _ ht hr =>
        refine ⟨a, vs, rfl, by rw [hK]; exact ht.sq, ?_⟩
        rw [hK]
        exact pd _ H1 ρ1 s1 rs1 (itok_eT ht hr)
    · refine .inl ⟨ρ, δ, S, cf, ?_⟩
      rw [ed]
      intro v H1 ρ1 s1 rs1 rv
      obtain ⟨v2, rfl, rv2⟩ := rv.one
      cases rv2 with
      | @lst a vs _ ht0 hn hr =>
        have ht : StL G.K ρ1 H1 a vs := .inl ⟨.inl ht0, hn⟩
        refine ⟨a, vs, rfl, by rw [hK]; exact ht.sq, ?_⟩
        rw [hK]
        exact pd _ H1 ρ1 s1 rs1 (itok_eL ht hr)
    · refine .inl ⟨ρ, δ, S, cf, ?_⟩
      rw [ed]
      intro v H1 ρ1 s1 rs1 rv
      obtain ⟨v2, rfl, rv2⟩ := rv.one
      cases rv2 with
      | @con a vs _ ht hr =>
        refine ⟨a, vs, rfl, by rw [hK]; exact ht.sq, ?_⟩
        rw [hK]
        exact pd _ H1 ρ1 s1 rs1 (itok_eL ht hr)
    · exact pd.elim
end
end Mi
end T_Sim7
section T_Grd
set_option Elab.async false
set_option linter.all false
set_option maxRecDepth 100000
set_option maxHeartbeats 4000000
/-! Grd: promises of defs that may call repr: where nothing is being shown around the call. -/
namespace Mi
open PySem PySem.Spec PyProof.Rows L2
/-- a def's promise, where no repr runs around it -/
structure FnG (P : Program) (w : World) (K : PySem.W.Frag) (mg : Str → Option Value) (base : Heap) (k : Nat) (f : Addr) (fd : FuncData) (ps : List Str) (sp : Sp) : Prop where
  len : ∀ vs H Q E, sp vs H Q E → vs.length = ps.length
  run : ∀ (A : Around), A.guards = some [] → Room k A → ∀ (outer : List Env) (s : Shared) (H : Hp) (args : Args) (us : List Value) (vs : List V) (Q : VK) (E : XK), Env0 P w K mg base A outer s H → BindsTo s fd args (ps.zip us) → Vals vs us → sp vs H Q E →
    codeAny (model P w) A (.call (.ref f) args) (CR (L2.CX P w) outer P w H s Q E) s
theorem FnG.mono {P : Program} {w : World} {K : PySem.W.Frag} {mg : Str → Option Value} {base : Heap} {j k : Nat} {f : Addr} {fd : FuncData} {ps : List Str} {sp : Sp} (F : FnG P w K mg base j f fd ps sp) (h : j ≤ k) : FnG P w K mg base k f fd ps sp :=
  ⟨F.len, fun A hg hr => F.run A hg (hr.mono h)⟩
theorem guards_deeper {A : Around} {env : Env} (h : A.guards = some []) : (A.deeper env).guards = some [] := h
section
variable {P : Program} {w : World} {K : PySem.W.Frag} {mg : Str → Option Value} {base : Heap} {x qual : Str} {params : Arguments} {body : List Stmt} {scope : Scope} {f : Addr} {fd : FuncData}
theorem okG {N ps : List Str} {k : Nat} {sp : Sp} (F : FunD K x qual params body scope [] [] f fd) (Sc : FnScope N ps scope) (len : ∀ vs H Q E, sp vs H Q E → vs.length = ps.length)
    (hbody : ∀ (cdv : Value) (A : Around) (outer : List Env) (s : Shared) (H : Hp) (vs : List V) (Q : VK) (E : XK), A.guards = some [] → Room k (A.deeper (envOfC qual scope s.heap.objs.size f cdv)) → sp vs H Q E →
      ∃ t, PSs (dcx P w K mg base N qual scope f cdv A outer s H E) body t ∧ t { nx := fun _ H' => Q .non H', rt := Q } (start N vs) H) : FnG P w K mg base (k + 1) f fd ps sp := by
  obtain ⟨oc, od, dV, kV, doc, pm, an, cdv, ct, osl, rfl, lk, hcd, _, _⟩ := F.ex
  refine ⟨len, fun A hgd hr outer s H args us vs Q E e0 hb r hsp => ?_⟩
  have KX : K.In s.heap := e0.mod.kin.keeps fun b o e => (e0.bs b o e).1
  have nl : s.heap.NoLimit := e0.mod.nolimit.keeps fun b o e => (e0.bs b o e).1
  refine codeAny_call_function hr.depth (KX _ _ lk) rfl Sc.co Sc.gen rfl (PySem.W.codeRec_of KX hcd) (hb _ _ _ _ ?_)
  refine wpAny_newFunctionEnv_cells Sc.kind (fun ⟨n, v⟩ hy => (Sc.par n (List.of_mem_zip hy).1).elim .inl fun q => .inr ⟨q, PySem.W.cellsFrom_some _ _ _ (.inl q)⟩) fun env he s1 x => ?_
  subst he
  refine ⟨nl.keeps x.toInCall.keep, codeAny_func ?_⟩
  obtain ⟨t, ht, hq⟩ := hbody cdv A outer s H vs Q E hgd (hr.deeper _) hsp
  refine wpAny_mono (ht.run [] s1 (start N vs) H _ (inv_start Sc hr.hd e0 (len _ _ _ _ hsp) r x) hq) (fun fl s' hs => ?_) fun e s' hs => hs
  match fl, hs with
  | .ret u, ⟨v, σ', H', J, rv, q⟩ => exact ⟨v, H', J.os, J.bare, J.base, J.hok, rv, q⟩
  | .next, ⟨σ', H', J, q⟩ => exact ⟨V.non, H', J.os, J.bare, J.base, J.hok, rfl, q⟩
  | .brk, ⟨_, _, _, q⟩ => exact q.elim
  | .cont, ⟨_, _, _, q⟩ => exact q.elim
/-- a def does what its mirror does -/
theorem ok_defG {N ps : List Str} {k : Nat} {m : SM} {T : List (Addr × Str)} (F : FunD K x qual params body scope [] [] f fd) (Sc : FnScope N ps scope)
    (hb : ∀ (cdv : Value) (A : Around) (outer : List Env) (s : Shared) (H : Hp) (E : XK), A.guards = some [] → Room k (A.deeper (envOfC qual scope s.heap.objs.size f cdv)) → PSs (dcx P w K mg base N qual scope f cdv A outer s H E) body (tS ⟨K, mg, T, none, none⟩ (fun c dx _ H' => E c dx H') m)) :
    FnG P w K mg base (k + 1) f fd ps (spM ⟨K, mg, T, none, none⟩ ps.length (fnOf ps.length N.length m)) := by
  refine okG F Sc (fun vs H Q E ⟨_, _, _, hl, _⟩ => hl) (fun cdv A outer s H vs Q E hgd hr h => ⟨_, hb cdv A outer s H E hgd hr, ?_⟩)
  obtain ⟨ρ, S, ds, hl, r, rs, p⟩ := h
  have el2 : ds.length = ps.length := by rw [← r.length, hl]
  refine ⟨ρ, _, S, startD rs r ⟨rfl, rfl⟩, ?_⟩
  unfold fnOf at p
  rw [if_pos el2, ← el2] at p
  cases e : m (ds.map some ++ List.replicate (N.length - ds.length) none) S with
  | nx δ' S' => rw [e] at p; exact fun σ' H' ρ' s1 c1 => p .non H' ρ' s1 c1.rs .non
  | rt d S' => rw [e] at p; exact p
  | bk δ' S' => rw [e] at p; exact p.elim
  | ct δ' S' => rw [e] at p; exact p.elim
  | ex x δ' S' => rw [e] at p; exact fun c dx σ' H' ρ' s1 c1 r1 => p c dx H' ρ' s1 c1.rs r1
  | bad => rw [e] at p; exact p
end
section
variable {G : Gx} {W : WX} {X : Cx} {a : Expr} {es : List Expr} {mr mk : EA} {pos : Pos}
theorem run_fnG {pins : List (Addr × Obj)} {σ : L2.St} {H : Hp} {s : Shared} {Q : VK} {k : Nat} {f : Addr} {fd : FuncData} {ps : List Str} {sp : Sp} {args : Args} {us : List Value} {vs : List V} (F : FnG X.prog X.w X.K X.mg X.base k f fd ps sp) (hgd : X.A.guards = some []) (hr : Room k X.A) (tk : Takes X W)
    (hb : BindsTo s fd args (ps.zip us)) (I : Inv X pins σ H s) (r : Vals vs us) (h : sp vs H Q (WE W σ)) : codeAny (model X.prog X.w) X.A (.call (.ref f) args) (fun r s' => match r with
      | .ok (.ret u) => EP X pins σ Q u s'
      | .ok _ => False
      | .error e => X.xe e s') s :=
  codeAny_mono (F.run X.A hgd hr X.stack s H args us vs Q (WE W σ) I.env0 hb r h) fun r s' hq => match r, hq with
    | .error e, hq => passAt tk σ pins H s e s' I hq
    | .ok (.ret u), hq => I.after hq
    | .ok .next, hq => hq
    | .ok .brk, hq => hq
    | .ok .cont, hq => hq
/-- f(e, ..), f a def of the module -/
theorem re_callG {k : Nat} {f : Addr} {fd : FuncData} {ps : List Str} {n : Nat} {mf : List Dv → M Dv} {x : Str} {p : Pos} (tk : Takes X W) (F : FnG X.prog X.w X.K X.mg X.base k f fd ps (spM G n mf)) (har : ∀ ds S, ds.length ≠ n → mf ds S = .bad) (hgd : X.A.guards = some []) (hr : Room k X.A) (hg : Gl X x) (hm : X.mg x = some (.ref f)) (hk : PySem.W.keepIn X.K (.ref f) = true) (hb : L2.Binds X.K fd ps [])
    (ha : PA X (a :: es) (tA G W mr)) (hdb : (x == ("__debug__" : Str)) = false := by decide) (he : starEach (a :: es) X.env = (false, eval a X.env) :: starEach es X.env := by rfl) (hpl : (backTo pos (starEach es X.env)).any (·.1) = false := by rfl) :
    PE X (.Call (.Name x p) (a :: es) [] pos) (tE G W (eN mf mr)) :=
  ⟨fun pins s σ H Q I q => by
    obtain ⟨ρ, δ, S, cf, p⟩ := q
    refine wpAny_Call_Name_kw (ld_glob I hg hm ?_ hdb)
    refine PySem.W.callWith_K (h₀ := X.base) I.ok.mod.kin hk (thn (ha.run pos pins s σ H _ I ⟨ρ, δ, S, cf, Post.bind p⟩) fun us s1 ⟨vs, H1, I1, r, ρ1, S1, ds, s1', rs1, rx, p1⟩ => ⟨I1.kIn, ?_⟩) he hpl
    have h := sp_of har rs1 rx p1
    have hl : us.length = ps.length := by rw [← r.length]; exact F.len _ _ _ _ h
    have b := hb s1 us I1.kIn (by rw [List.append_nil]; exact hl)
    rw [List.append_nil] at b
    exact wpAny_call (run_fnG F hgd hr tk b I1 r h)⟩
/-- keywords' values -/
theorem rk_nil : PK X [] (tA G W aNil) := ⟨fun pos pins s σ H Q I q => pk_nil.run pos pins s σ H Q I (by
  obtain ⟨ρ, δ, S, cf, p⟩ := q
  exact Post.pure p cf.rs .nil)⟩
theorem rk_cons {e : Expr} {me : EX} {kws : List Keyword} {nm : Option Str} {kpos : Pos} (ha : PE X e (tE G W me)) (hr : PK X kws (tA G W mr)) : PK X (⟨nm, e, kpos⟩ :: kws) (tA G W (aCons me mr)) := ⟨fun pos pins s σ H Q I q => (pk_cons ha hr).run pos pins s σ H Q I (by
  obtain ⟨ρ, δ, S, cf, p⟩ := q
  refine ⟨ρ, δ, S, cf, (Post.bind p).mono fun x H1 ⟨ρ1, S1, d, s1, rs1, rx, p1⟩ => ?_⟩
  refine ⟨ρ1, δ, S1, cf.step s1 rs1, (Post.bind p1).mono fun xs H2 ⟨ρ2, S2, ds, s2, rs2, rxs, p2⟩ => ?_⟩
  exact Post.pure p2 rs2 (.cons (rx.step s2) rxs))⟩
/-- the order of keywords: which of them stands at each parameter -/
def pick {α : Type} [Inhabited α] (js : List Nat) (xs : List α) : List α := js.map fun j => xs.getD j default
def eK (f : List Dv → M Dv) (js : List Nat) (a : EA) : EX := fun δ => (a δ).bind fun ds => if ds.length = js.length then f (pick js ds) else mBad
theorem pick_rel {K : PySem.W.Frag} {ρ : Rg} {H : Hp} {vs : List V} {ds : List Dv} (r : RvA K ρ H vs ds) : ∀ {js : List Nat}, (∀ j ∈ js, j < ds.length) → RvA K ρ H (js.map fun j => vs.getD j .non) (pick js ds)
  | [], _ => .nil
  | j :: js, h => by
    have hj := h j (by simp)
    obtain ⟨v, e1, e2⟩ := r.get (List.getElem?_eq_getElem hj)
    refine .cons ?_ (pick_rel r fun i hi => h i (List.mem_cons_of_mem _ hi))
    show Rv K ρ H (vs.getD j .non) (ds.getD j default)
    rw [List.getD_eq_getElem?_getD, List.getD_eq_getElem?_getD, e1, List.getElem?_eq_getElem hj]
    exact e2
theorem pick_vals {vs : List V} {us : List Value} (r : Vals vs us) : ∀ {js : List Nat}, (∀ j ∈ js, j < us.length) → Vals (js.map fun j => vs.getD j .non) (js.map fun j => us.getD j .none)
  | [], _ => .nil
  | j :: js, h => by
    have hj : j < us.length := h j (by simp)
    have hj2 : j < vs.length := by rw [r.length]; exact hj
    obtain ⟨u, e1, e2⟩ := r.get (show vs[j]? = some vs[j] from List.getElem?_eq_getElem hj2)
    refine .cons ?_ (pick_vals r fun i hi => h i (List.mem_cons_of_mem _ hi))
    show RelV (vs.getD j .non) (us.getD j .none)
    rw [List.getD_eq_getElem?_getD, List.getD_eq_getElem?_getD, e1, List.getElem?_eq_getElem hj2]
    exact e2
/-- f(k = v, ..), all by keywords -/
theorem re_callKw {k : Nat} {f : Addr} {fd : FuncData} {ps ks : List Str} {n : Nat} {mf : List Dv → M Dv} {x : Str} {p : Pos} {kw : Keyword} {kws : List Keyword} {js : List Nat} (tk : Takes X W) (F : FnG X.prog X.w X.K X.mg X.base k f fd ps (spM G n mf)) (har : ∀ ds S, ds.length ≠ n → mf ds S = .bad) (hgd : X.A.guards = some []) (hr : Room k X.A) (hg : Gl X x) (hm : X.mg x = some (.ref f)) (hk : PySem.W.keepIn X.K (.ref f) = true)
    (hb : ∀ (s : Shared) (ws : List Value), X.K.In s.heap → ws.length = ks.length → BindsTo s fd ⟨[], ks.zip ws⟩ (ps.zip (js.map fun j => ws.getD j .none))) (hjs : js.length = ks.length) (hjl : ∀ j ∈ js, j < js.length)
    (hkw : PK X (kw :: kws) (tA G W mr)) (hall : (backToKw pos (keywordEach (kw :: kws) X.env)).all (·.1.isSome) = true := by rfl) (hks : (backToKw pos (keywordEach (kw :: kws) X.env)).filterMap (·.1) = ks := by rfl)
    (hdb : (x == ("__debug__" : Str)) = false := by decide)
    (hpl : ((backTo pos (starEach [] X.env)).any (·.1) || (backToKw pos (keywordEach (kw :: kws) X.env)).any (·.1.isNone)) = false := by rfl) :
    PE X (.Call (.Name x p) [] (kw :: kws) pos) (tE G W (eK mf js mr)) := ⟨fun pins s σ H Q I q => by
    obtain ⟨ρ, δ, S, cf, p⟩ := q
    refine wpAny_Call_Name_kw (ld_glob I hg hm ?_ hdb)
    refine PySem.W.callWith_KW0 (h₀ := X.base) I.ok.mod.kin hk hall (thn (hkw.run pos pins s σ H _ I ⟨ρ, δ, S, cf, Post.bind p⟩) fun ws s1 ⟨vs, H1, I1, r, ρ1, S1, ds, s1', rs1, rx, p1⟩ => ⟨I1.kIn, ?_⟩) hpl
    rw [hks]
    dsimp only at p1
    by_cases hl : ds.length = js.length
    · rw [if_pos hl] at p1
      have hl2 : ws.length = js.length := by rw [← r.length, rx.length, hl]
      have h := sp_of har rs1 (pick_rel rx fun j hj => by rw [hl]; exact hjl j hj) p1
      exact wpAny_call (run_fnG F hgd hr tk (hb s1 ws I1.kIn (by rw [hl2, hjs])) I1 (pick_vals r fun j hj => by rw [hl2]; exact hjl j hj) h)
    · rw [if_neg hl] at p1
      exact p1.elim⟩
end
section
variable {K : PySem.W.Frag} {x qual : Str} {params : Arguments} {body : List Stmt} {scope : Scope} {f : Addr} {fd : FuncData} {ps ks : List Str} {js : List Nat}
theorem kwN (F : FunD K x qual params body scope [] [] f fd) (h : ∀ (kV doc pm : Value) (an : Option Addr) (cdv ct : Value) (ws : List Value), ws.length = ks.length → bindArgs (PySem.W.fnOf x qual params body scope .none kV doc pm an cdv ct) ⟨[], ks.zip ws⟩ = pure (ps.zip (js.map fun j => ws.getD j .none))) (s : Shared) (ws : List Value) (_ : K.In s.heap) (hl : ws.length = ks.length) :
    BindsTo s fd ⟨[], ks.zip ws⟩ (ps.zip (js.map fun j => ws.getD j .none)) := by
  obtain ⟨oc, od, dV, kV, doc, pm, an, cdv, ct, osl, rfl, lk, hcd, hD, hK⟩ := F.ex
  rcases hD with ⟨_, rfl⟩ | ⟨e, _⟩
  · exact .of_eq (h kV doc pm an cdv ct ws hl)
  · exact absurd rfl e
end
end Mi
end T_Grd
section T_Fin
set_option Elab.async false
set_option linter.all false
set_option maxRecDepth 100000
set_option maxHeartbeats 4000000
/-! Fin: the law's def is called with the script. -/
namespace Mi
open PySem PySem.Spec PyProof.Rows L2
theorem ints_rel {K : PySem.W.Frag} {ρ : Rg} {H : Hp} : ∀ ns : List Int, RvA K ρ H (ns.map V.int) (ns.map Dv.int)
  | [] => .nil
  | n :: ns => .cons (.int n) (ints_rel ns)
theorem stl_of {K : PySem.W.Frag} {H : Hp} {a : Addr} {xs : List V} (h : SqL K H a xs) : StL K ⟨[], []⟩ H a xs := by
  rcases h with h | h
  · exact .inl ⟨h, by simp [Out]⟩
  · exact .inr h
theorem rs_empty {K : PySem.W.Frag} {mg : Str → Option Value} {H : Hp} : RS ⟨K, mg, [], none, none⟩ ⟨[], []⟩ H [] :=
  ⟨rfl, List.nodup_nil, fun _ h => (nomatch h), fun _ _ _ h => by simp at h, fun _ h => (nomatch h), ⟨trivial, trivial⟩⟩
/-- a heap of which the script alone is known -/
theorem call_at {P : Program} {w : World} {K : PySem.W.Frag} {mg mb : Str → Option Value} {k : Nat} {fa a : Addr} {fd : FuncData} {x : Str} {mf : List Dv → M Dv} {s : Shared} {ns : List Int} {H : Hp}
    (KX : K.In s.heap) (hns : s.heap.Ns mainGlobals mg) (hb : s.heap.Ns builtinsNs mb) (hbb : ∀ x : Str, x ≠ "__name__" → mb x = bootBuiltins x) (nl : s.heap.NoLimit) (hg : s.gens = #[]) (hr : Room k callerA)
    (F : ∀ base : Heap, K.In base → base.Ns mainGlobals mg → FnG P w K mg base k fa fd [x] (spM ⟨K, mg, [], none, none⟩ 1 mf)) (hbind : ∀ (s : Shared) (u : Value), BindsTo s fd ⟨[u], []⟩ [(x, u)])
    (law : ∃ S', mf [.con (ns.map .int)] [] = .ok (.bl true) S') (hO : Only H) (hS : SqL K H a (ns.map V.int)) (hok : HOk P w H s.heap) (nd : ∀ b o es ep, s.heap.get? b = some o → o.data = .dict es ep → H b = none) (hK : ∀ b o, K.lookup b = some o → H b = none) :
    codeAny (model P w) callerA (.call (.ref fa) ⟨[.ref a], []⟩) (fun r s' => r = .ok (.ret (.bool true)) ∧ OldK s.heap s'.heap ∧ s'.os = s.os ∧ AllBare s'.gens) s := by
  have ns2 : ∀ {b : Addr} {m : Str → Option Value}, s.heap.Ns b m → (hidT s.heap H).Ns b m := fun ⟨o, es, ep, e, d, r⟩ => ⟨o, es, ep, hidT_get e (nd _ _ _ _ e d), d, r⟩
  have kin : K.In (hidT s.heap H) := fun b o e => hidT_get (KX b o e) (hK b o e)
  have md : Mod K mg (hidT s.heap H) := ⟨kin, ns2 hns, ⟨mb, ns2 hb, hbb⟩, let ⟨mc, h1, h2⟩ := nl; ⟨mc, ns2 h1, h2⟩⟩
  have e0 : Env0 P w K mg (hidT s.heap H) callerA [] s H := ⟨rfl, md, fun b o e => of_hidT e, Nat.le_of_eq (hidT_size _ _), trivial, fun b hb => by simp [frs] at hb, hok, .of_eq hg⟩
  obtain ⟨S', eS⟩ := law
  have sp : spM ⟨K, mg, [], none, none⟩ 1 mf [.ref a] H (fun v _ => v = .bl true) (fun _ _ _ => False) := by
    refine ⟨⟨[], []⟩, [], [.con (ns.map .int)], rfl, .cons (.con (stl_of hS) (ints_rel ns)) .nil, rs_empty, ?_⟩
    rw [eS]
    intro v H' ρ' _ _ rv
    cases rv
    rfl
  refine codeAny_mono ((F _ kin (ns2 hns)).run callerA rfl hr [] s H ⟨[.ref a], []⟩ [.ref a] [.ref a] _ _ e0 (hbind s (.ref a)) (.cons rfl .nil) sp) fun r s' h => ?_
  match r, h with
  | .error e, ⟨_, _, _, _, _, _, _, _, _, _, _, _, h⟩ => exact (show False from h).elim
  | .ok .next, h => exact (show False from h).elim
  | .ok .brk, h => exact (show False from h).elim
  | .ok .cont, h => exact (show False from h).elim
  | .ok (.ret u), ⟨v, H', os, bare, un, hok', r', q⟩ =>
    have q' : v = .bl true := q
    subst q'
    obtain rfl : u = Value.bool true := r'
    refine ⟨rfl, OldK.of_keep fun b o e => ?_, os, bare⟩
    rcases hO b with z | ⟨ob, xs, z⟩
    · exact un.keep b o e z (by simp [frs]) (by simp)
    · have e1 := (hok b _ z).1
      have e2 := (hok' b _ (un.frzs b ob _ z)).1
      rw [e] at e1
      cases e1
      exact e2
theorem walkG {l : PySem.W.OpenLaw} {n k : Nat} {q : Program} {loose : List Str} {XP : (Str → Option Value) → Heap → Prop} {YP : World → Heap → Prop} {d : DefRec} {x : Str} {mf : List Dv → M Dv}
    (hn : l.most = some n) (hn2 : n ≤ sizeLine) (hdf : d.params.defaults = []) (hr : Room k callerA)
    (F : ∀ (w : World) (mg : Str → Option Value) (fa : Addr) (h : Heap), YP w h → h.Ns mainGlobals mg → mg d.name = some (.ref fa) →
      ∃ (K : PySem.W.Frag) (fd : FuncData), K.In h ∧ (∀ (s : Shared) (u : Value), BindsTo s fd ⟨[u], []⟩ [(x, u)]) ∧ ∀ base : Heap, K.In base → base.Ns mainGlobals mg → FnG l.prog w K mg base k fa fd [x] (spM ⟨K, mg, [], none, none⟩ 1 mf))
    (law : ∀ ns : List Int, ns.length ≤ n → ∃ S', mf [.con (ns.map .int)] [] = .ok (.bl true) S') :
    PySem.W.WalkO q loose XP YP l.row.toRowW d [] (fun f vs => PySem.call f vs) := by
  refine Att.attach_call hn hdf fun w s₀ s mg mb fa o pm cd doc a vs ns G Y ho hd hcd hmg hobj hints hlen hg => ?_
  obtain ⟨K, fd, KX, hb, hF⟩ := F w mg fa _ Y G.T.g hmg
  have rv := vals_ints hints
  have lenV := hints.length
  have lz : ns.length ≤ sizeLine := Nat.le_trans hlen hn2
  cases hk : K.lookup a with
  | some oa =>
    have e := KX a oa hk
    rw [hobj] at e
    cases e
    exact call_at (H := fun _ => none) KX G.T.g G.T.b G.T.builtins G.T.nolimit hg hr hF hb (law ns hlen) (fun _ => .inl rfl) (.inr ⟨_, vs.toArray, _, hk, rfl, rfl, rfl, by rw [List.size_toArray, lenV]; exact lz, by simpa using rv⟩) (fun b u z => by cases z) (fun _ _ _ _ _ _ => rfl) fun _ _ _ => rfl
  | none =>
    have hat : ∀ {b : Addr} {u : HO}, (if b = a then some (HO.frz { cls := .type "list", data := .seq vs.toArray } (.lst (ns.map V.int))) else none) = some u → b = a ∧ u = HO.frz { cls := .type "list", data := .seq vs.toArray } (.lst (ns.map V.int)) := fun {b u} z => by
      by_cases hb : b = a
      · rw [if_pos hb] at z
        exact ⟨hb, (Option.some.inj z).symm⟩
      · rw [if_neg hb] at z
        cases z
    refine call_at (H := fun b => if b = a then some (.frz { cls := .type "list", data := .seq vs.toArray } (.lst (ns.map V.int))) else none) KX G.T.g G.T.b G.T.builtins G.T.nolimit hg hr hF hb (law ns hlen) (fun b => ?_) (.inl (.inr ⟨{ cls := .type "list", data := .seq vs.toArray }, if_pos rfl⟩)) (fun b u z => ?_) (fun b o es ep e1 e2 => ?_) fun b o e => ?_
    · by_cases hb : b = a
      · exact .inr ⟨_, _, if_pos hb⟩
      · exact .inl (if_neg hb)
    · obtain ⟨rfl, rfl⟩ := hat z
      exact ⟨hobj, by rw [List.length_map]; exact lz, vs, _, rv, hobj⟩
    · refine if_neg fun hb => ?_
      subst hb
      rw [hobj] at e1
      cases e1
      cases e2
    · refine if_neg fun hb => ?_
      subst hb
      rw [hk] at e
      cases e
end Mi
end T_Fin
section T_Sim8
set_option Elab.async false
set_option linter.all false
set_option maxRecDepth 100000
set_option maxHeartbeats 4000000
namespace Mi
open PySem PySem.Spec PyProof.Rows L2
/-! ### signs of shown texts -/
theorem okS_ofString (s : String) : OkS (Str.ofString s) := by
  rw [Str.ofString_eq_toList]
  intro c hc
  have hc' : c ∈ s.toList.map Char.toNat := hc
  obtain ⟨d, _, rfl⟩ := List.mem_map.mp hc'
  have := d.valid
  rcases this with h | ⟨_, h⟩
  · have : d.toNat < 0xD800 := h
    omega
  · exact h
theorem okS_cons {l : List Nat} (h : ∀ c ∈ l, c < 0x110000) : OkS ⟨l.toArray⟩ := fun c hc => h c (by simpa using hc)
theorem okS_empty : OkS Str.empty := fun c hc => by simp [Str.empty] at hc
theorem okS_join {sep : Str} (hs : OkS sep) : ∀ {ts : List Str}, (∀ t ∈ ts, OkS t) → OkS (Str.join sep ts)
  | [], _ => okS_empty
  | [x], h => h x (by simp)
  | x :: y :: r, h => by
    show OkS (x ++ sep ++ Str.join sep (y :: r))
    exact okS_app (okS_app (h x (by simp)) hs) (okS_join hs fun t ht => h t (List.mem_cons_of_mem _ ht))
theorem okS_textFrom : ∀ {ts : List Str} {k : Nat} {acc : Str}, OkS acc → (∀ t ∈ ts, OkS t) → OkS (textFrom k acc ts)
  | [], _, _, ha, _ => ha
  | t :: r, k, acc, ha, h => by
    show OkS (textFrom (k + 1) (acc ++ (if k > 0 then ", " else "" : String) ++ t) r)
    exact okS_textFrom (okS_app (okS_app ha (okS_ofString _)) (h t (by simp))) fun x hx => h x (List.mem_cons_of_mem _ hx)
theorem dig_lt (n : Nat) : ∀ c ∈ (Nat.toDigits 16 n).map Char.toNat, c < 0x110000 := by
  intro c hc
  obtain ⟨d, _, rfl⟩ := List.mem_map.mp hc
  rcases d.valid with h | ⟨_, h⟩
  · have : d.toNat < 0xD800 := h
    omega
  · exact h
theorem reprChar_lt {q c : Nat} (hc : c < 0x110000) : ∀ d ∈ Builtin.Str.reprChar q c, d < 0x110000 := by
  intro d hd
  unfold Builtin.Str.reprChar at hd
  have hex : ∀ w : Nat, ∀ d ∈ List.replicate (w - ((Nat.toDigits 16 c).map Char.toNat).length) 48 ++ (Nat.toDigits 16 c).map Char.toNat, d < 0x110000 := fun w d h => by
    rcases List.mem_append.mp h with h | h
    · rw [(List.mem_replicate.mp h).2]
      decide
    · exact dig_lt c d h
  have two : ∀ {a b : Nat}, a < 0x110000 → b < 0x110000 → ∀ d ∈ [a, b], d < 0x110000 := fun ha hb d h => by
    rcases List.mem_cons.mp h with h | h
    · rw [h]; exact ha
    · rw [List.mem_singleton.mp h]; exact hb
  dsimp only at hd
  split at hd
  · exact two (by decide) hc d hd
  split at hd
  · exact two (by decide) (by decide) d hd
  split at hd
  · exact two (by decide) (by decide) d hd
  split at hd
  · exact two (by decide) (by decide) d hd
  split at hd
  · rw [List.mem_singleton.mp hd]; exact hc
  split at hd
  · rcases List.mem_append.mp hd with h | h
    · exact two (by decide) (by decide) d h
    · exact hex 2 d h
  split at hd
  · rcases List.mem_append.mp hd with h | h
    · exact two (by decide) (by decide) d h
    · exact hex 4 d h
  · rcases List.mem_append.mp hd with h | h
    · exact two (by decide) (by decide) d h
    · exact hex 8 d h
theorem okS_repr {x : Str} (h : OkS x) : OkS (reprText x) := by
  have hq : reprQuote x < 0x110000 := by
    unfold reprQuote
    split <;> decide
  have key : ∀ (l : List Nat) (acc : Array Nat), (∀ c ∈ l, c < 0x110000) → (∀ c ∈ acc.toList, c < 0x110000) → ∀ c ∈ (l.foldl (fun out c => out ++ (Builtin.Str.reprChar (reprQuote x) c).toArray) acc).toList, c < 0x110000 := by
    intro l
    induction l with
    | nil => exact fun acc _ ha => ha
    | cons a l ih =>
      intro acc hl ha
      refine ih _ (fun c hc => hl c (List.mem_cons_of_mem _ hc)) fun c hc => ?_
      rw [Array.toList_append] at hc
      rcases List.mem_append.mp hc with hc | hc
      · exact ha c hc
      · exact reprChar_lt (hl a (by simp)) c (by simpa using hc)
  intro c hc
  unfold reprText at hc
  dsimp only at hc
  rw [Array.toList_push, ← Array.foldl_toList] at hc
  rcases List.mem_append.mp hc with hc | hc
  · exact key x.cps.toList _ h (fun c hc => by rw [List.mem_singleton.mp hc]; exact hq) c hc
  · rw [List.mem_singleton.mp hc]; exact hq
mutual
def okD : PyData → Prop
  | .str x => OkS x
  | .list xs | .tuple xs => okDA xs
  | .dict kvs => okDK kvs
  | .none | .bool _ | .int _ => True
def okDA : List PyData → Prop
  | [] => True
  | x :: xs => okD x ∧ okDA xs
def okDK : List (PyData × PyData) → Prop
  | [] => True
  | (a, b) :: r => okD a ∧ okD b ∧ okDK r
end
mutual
theorem okS_shown : ∀ p : PyData, okD p → OkS p.shown
  | .none, _ => okS_ofString _
  | .bool b, _ => by
    show OkS (if b then "True" else "False")
    split <;> exact okS_ofString _
  | .int i, _ => okS_ofString _
  | .str x, h => okS_repr (show OkS x from h)
  | .list xs, h => okS_app (okS_textFrom (okS_ofString _) (okS_shownA xs h)) (okS_ofString _)
  | .tuple xs, h => by
    show OkS (("(" : Str) ++ Str.join ", " (PyData.shownAll xs) ++ (if (PyData.shownAll xs).length == 1 then ",)" else ")" : String))
    exact okS_app (okS_app (okS_ofString _) (okS_join (okS_ofString _) (okS_shownA xs h))) (okS_ofString _)
  | .dict kvs, h => okS_app (okS_app (okS_ofString _) (okS_join (okS_ofString _) (okS_shownK kvs h))) (okS_ofString _)
theorem okS_shownA : ∀ xs : List PyData, okDA xs → ∀ t ∈ PyData.shownAll xs, OkS t
  | [], _ => fun _ h => (nomatch h)
  | x :: xs, h => fun t ht => by
    rcases List.mem_cons.mp (show t ∈ x.shown :: PyData.shownAll xs from ht) with e | ht
    · rw [e]; exact okS_shown x h.1
    · exact okS_shownA xs h.2 t ht
theorem okS_shownK : ∀ kvs : List (PyData × PyData), okDK kvs → ∀ t ∈ PyData.shownKv kvs, OkS t
  | [], _ => fun _ h => (nomatch h)
  | (a, b) :: r, h => fun t ht => by
    rcases List.mem_cons.mp (show t ∈ (a.shown ++ ": " ++ b.shown) :: PyData.shownKv r from ht) with e | ht
    · rw [e]; exact okS_app (okS_app (okS_shown a h.1) (okS_ofString _)) (okS_shown b h.2.1)
    · exact okS_shownK r h.2.2 t ht
end
/-! ### a value's data, read in the heap -/
section
variable {X : Cx} {G : Gx} {ρ : Rg} {H : Hp} {S : Sto} {pins : List (Addr × Obj)} {σ : L2.St} {s : Shared}
def SmD (K : PySem.W.Frag) : Prop := ∃ o : Obj, K.lookup sysModules = some o ∧ o.cls = .type "dict"
/-- d is p in the heap -/
def Rds (h : Heap) (u : Value) (p : PyData) (k : Nat) : Prop := (∃ as, Reads h u p as ∧ sysModules ∉ as) ∧ okD p ∧ p.depth ≤ k
def RdsA (h : Heap) (us : List Value) (ps : List PyData) (k : Nat) : Prop := (∃ as, ReadsAll h us ps as ∧ sysModules ∉ as) ∧ okDA ps ∧ PyData.depthAll ps ≤ k
theorem rds_all {h : Heap} {k : Nat} (ih : ∀ (d : Dv) (p : PyData) (v : V) (u : Value), deep S k d = some p → Rv G.K ρ H v d → RelV v u → Rds h u p k) :
    ∀ (ds : List Dv) (ps : List PyData) (vs : List V) (us : List Value), optAll (ds.map (deep S k)) = some ps → RvA G.K ρ H vs ds → Vals vs us → RdsA h us ps k
  | [], _, _, _, h, r, rv => by
    cases h
    cases r
    cases rv
    exact ⟨⟨[], .nil, by simp⟩, trivial, Nat.zero_le _⟩
  | d :: ds, _, _, _, h, r, rv => by
    obtain ⟨b, r', e1, e2, rfl⟩ := optAll_cons (show optAll (deep S k d :: ds.map (deep S k)) = _ from h)
    cases r with
    | cons h1 r1 =>
      cases rv with
      | cons u1 ur =>
        obtain ⟨⟨as, a1, a2⟩, a3, a4⟩ := ih d b _ _ e1 h1 u1
        obtain ⟨⟨bs, b1, b2⟩, b3, b4⟩ := rds_all ih ds r' _ _ e2 r1 ur
        refine ⟨⟨as ++ bs, .cons a1 b1, by simp [a2, b2]⟩, ⟨a3, b3⟩, ?_⟩
        show max b.depth (PyData.depthAll r') ≤ k
        omega
theorem okSB_ok {x : Str} (h : okSB x = true) : OkS x := fun c hc => of_decide_eq_true (List.all_eq_true.mp h c hc)
theorem rds_dict {h : Heap} : ∀ {es : List DictEntry} {kvs : List (Key × V)} {vs : List (Key × Value)} {dks : List (Key × Dv)} {k : Nat} {ps : List PyData},
    Pairs (mixKind X.prog X.w) es vs → KV kvs vs → kvs.map (·.1) = dks.map (·.1) → dks.all (fun q => okKB q.1) = true →
    (∃ bs, ReadsAll h (vs.map (·.2)) ps bs ∧ sysModules ∉ bs) → okDA ps → PyData.depthAll ps ≤ k →
    (∃ as bs, ReadsAll h (es.map (·.key)) (((dks.map fun q => kPd q.1).zip ps).map (·.1)) as ∧ ReadsAll h (es.map (·.val)) (((dks.map fun q => kPd q.1).zip ps).map (·.2)) bs ∧ sysModules ∉ as ++ bs) ∧ okDK ((dks.map fun q => kPd q.1).zip ps) ∧ PyData.depthKv ((dks.map fun q => kPd q.1).zip ps) ≤ k := by
  intro es
  induction es with
  | nil =>
    intro kvs vs dks k ps p r e ok hv hd hk
    cases p
    cases r
    cases dks with
    | nil => exact ⟨⟨[], [], .nil, .nil, by simp⟩, trivial, Nat.zero_le _⟩
    | cons => cases e
  | cons e0 es ih =>
    intro kvs vs dks k ps p r e ok hv hd hk
    cases p with
    | @cons _ kv _ vs h1 h2 p =>
      cases r with
      | @cons q0 _ kvs _ h3 r =>
        cases dks with
        | nil => cases e
        | cons dk dks =>
          obtain ⟨bs, hb, hb2⟩ := hv
          cases hb with
          | @cons _ _ d ds as1 bs1 c1 c2 =>
            obtain ⟨ok1, ok2⟩ := Bool.and_eq_true_iff.mp (show (okKB dk.1 && dks.all fun q => okKB q.1) = true from ok)
            have hm : max d.depth (PyData.depthAll ds) ≤ k := hk
            obtain ⟨⟨as, bs, i1, i2, i3⟩, i4, i5⟩ := ih (k := k) p r (List.cons.inj e).2 ok2 ⟨bs1, c2, fun m => hb2 (List.mem_append_right _ m)⟩ hd.2 (by omega)
            have ek : q0.1 = dk.1 := (List.cons.inj e).1
            have key : Reads h e0.key (kPd dk.1) [] ∧ okD (kPd dk.1) ∧ (kPd dk.1).depth = 0 := by
              rw [← ek, h3.1]
              rw [← ek, h3.1] at ok1
              rcases keyIs_shape h1 with ⟨i, t, e1, e2⟩ | ⟨x, t, e1, e2⟩
              · rw [e1, e2]
                exact ⟨.int i t, trivial, rfl⟩
              · rw [e1, e2]
                rw [e1] at ok1
                exact ⟨.str x t, okSB_ok ok1, rfl⟩
            refine ⟨⟨[] ++ as, as1 ++ bs, .cons key.1 i1, .cons (by show Reads h e0.val d as1; rw [h2]; exact c1) i2, ?_⟩, ⟨key.2.1, hd.1, i4⟩, ?_⟩
            · intro m
              rcases List.mem_append.mp m with m | m
              · exact i3 (List.mem_append_left _ m)
              · rcases List.mem_append.mp m with m | m
                · exact hb2 (List.mem_append_left _ m)
                · exact i3 (List.mem_append_right _ m)
            · show max (max (kPd dk.1).depth d.depth) (PyData.depthKv ((dks.map fun q => kPd q.1).zip ds)) ≤ k
              rw [key.2.2]
              omega
theorem kv_snd : ∀ {kvs : List (Key × V)} {vs : List (Key × Value)}, KV kvs vs → Vals (kvs.map (·.2)) (vs.map (·.2))
  | _, _, .nil => .nil
  | _, _, .cons h r => .cons h.2 (kv_snd r)
theorem rds_of (hK : X.K = G.K) (sm : SmD X.K) (rs : RS G ρ H S) (I : L2.Inv X pins σ H s) : ∀ (k : Nat) (d : Dv) (p : PyData) (v : V) (u : Value), deep S k d = some p → Rv G.K ρ H v d → RelV v u → Rds s.heap u p k
  | 0, _, _, _, _, h, _, _ => by cases h
  | k + 1, d, p, v, u, h, r, rv => by
    have ih := rds_of hK sm rs I k
    have nsm : ∀ {a : Addr} {o : Obj}, s.heap.get? a = some o → o.cls = .type "list" → a ≠ sysModules := fun {a o} e c z => by
      obtain ⟨o2, h1, h2⟩ := sm
      rw [z, I.kIn _ _ h1] at e
      cases e
      rw [h2] at c
      exact absurd c (by decide)
    have lst : ∀ {a : Addr} {xs : List V} {ds : List Dv}, SqL X.K H a xs → RvA G.K ρ H xs ds → (optAll (ds.map (deep S k))).map PyData.list = some p → Rds s.heap (.ref a) p (k + 1) := fun {a xs ds} hx hr h' => by
      cases e : optAll (ds.map (deep S k)) with
      | none => rw [e] at h'; cases h'
      | some ps =>
        rw [e] at h'
        cases h'
        obtain ⟨its, rv, ⟨o, n, ho, hc, _, hd⟩, _⟩ := I.list hx
        obtain ⟨⟨as, a1, a2⟩, a3, a4⟩ := rds_all ih ds ps xs its e hr rv
        refine ⟨⟨a :: as, .list ho hc hd (by simpa using a1), fun m => ?_⟩, a3, Nat.succ_le_succ a4⟩
        rcases List.mem_cons.mp m with m | m
        · exact nsm ho hc m.symm
        · exact a2 m
    cases r with
    | exc => cases h
    | exc0 => cases h
    | non => cases h; cases rv; exact ⟨⟨[], .none, by simp⟩, trivial, Nat.zero_le _⟩
    | bl b => cases h; cases rv; exact ⟨⟨[], .bool b, by simp⟩, trivial, Nat.zero_le _⟩
    | int i =>
      cases h
      obtain ⟨t, rfl⟩ := rv
      exact ⟨⟨[], .int i t, by simp⟩, trivial, Nat.zero_le _⟩
    | str x hx =>
      cases h
      obtain ⟨t, rfl⟩ := rv
      exact ⟨⟨[], .str x t, by simp⟩, hx, Nat.zero_le _⟩
    | @tup a vs ds ht r =>
      have h' : (optAll (ds.map (deep S k))).map PyData.tuple = some p := h
      cases e : optAll (ds.map (deep S k)) with
      | none => rw [e] at h'; cases h'
      | some ps =>
        rw [e] at h'
        cases h'
        cases rv
        obtain ⟨its, rv, ⟨o, ho, hc, n, hd⟩, _⟩ := I.tuple (show SqT X.K H a vs by rw [hK]; exact ht.sq)
        obtain ⟨⟨as, a1, a2⟩, a3, a4⟩ := rds_all ih ds ps vs its e r rv
        exact ⟨⟨as, .tuple ho hc hd (by simpa using a1), a2⟩, a3, Nat.succ_le_succ a4⟩
    | @lst a vs ds ht n r =>
      cases rv
      exact lst (SqL.of ht) r h
    | @con a vs ds ht r =>
      cases rv
      exact lst (by rw [hK]; exact ht.sq) r h
    | @dct a kvs dks ht n e r =>
      have h' : (if dks.all (fun q => okKB q.1) = true then (optAll ((dks.map (·.2)).map (deep S k))).map (fun vs => PyData.dict ((dks.map fun q => kPd q.1).zip vs)) else none) = some p := h
      by_cases hkb : dks.all (fun q => okKB q.1) = true
      case neg => rw [if_neg hkb] at h'; cases h'
      rw [if_pos hkb] at h'
      cases e2 : optAll ((dks.map (·.2)).map (deep S k)) with
      | none => rw [e2] at h'; cases h'
      | some ps =>
        rw [e2] at h'
        cases h'
        cases rv
        obtain ⟨_, hsm, vs, kv, o, es, ep, ho, hc, hd, _, hp, _⟩ := dk_of I.hok ht
        have vals : Vals (kvs.map (·.2)) (vs.map (·.2)) := by
          exact kv_snd kv
        obtain ⟨a1, a3, a4⟩ := rds_all ih (dks.map (·.2)) ps _ _ e2 r vals
        obtain ⟨⟨as, bs, b1, b2, b3⟩, b4, b5⟩ := rds_dict (X := X) hp kv e hkb a1 a3 a4
        refine ⟨⟨a :: as ++ bs, .dict ho hc.1 hd b1 b2, fun m => ?_⟩, b4, Nat.succ_le_succ b5⟩
        rcases List.mem_append.mp m with m | m
        · rcases List.mem_cons.mp m with m | m
          · rw [← m] at hsm
            simp at hsm
          · exact b3 (List.mem_append_left _ m)
        · exact b3 (List.mem_append_right _ m)
    | @loc n a hn' =>
      have h' : (match S[n]? with | some (.lst xs) => (optAll (xs.map (deep S k))).map PyData.list | _ => none) = some p := h
      obtain ⟨ob, h1, h2⟩ := rs.at hn'
      rw [h1] at h'
      cases ob with
      | lst ds =>
        obtain ⟨vs, q1, q2⟩ := h2
        cases rv
        exact lst (SqL.of q1) q2 h'
      | _ => cases h'
/-! ### repr -/
theorem re_repr {W : WX} {a : Expr} {mr : EA} {p pos : Pos} (hK : X.K = G.K) (sm : SmD X.K) (hgd : X.A.guards = some []) (hu : X.A.units + 64 < cLine) (hg : Gl X "repr") (hm : X.mg "repr" = none) (ha : PA X [a] (tA G W mr))
    (he : starEach [a] X.env = (false, eval a X.env) :: starEach [] X.env := by rfl) (hpl : (backTo pos (starEach [] X.env)).any (·.1) = false := by rfl) : PE X (.Call (.Name "repr" p) [a] [] pos) (tE G W (eN mRepr mr)) :=
  ⟨fun pins s σ H Q I q => by
    obtain ⟨ρ, δ, S, cf, p⟩ := q
    refine wpAny_Call_Name_kw (ld_blt I hg hm (show bootBuiltins "repr" = some (.builtin "repr") by decide +kernel) ?_ (by decide) (by decide))
    refine PyProof.Rows.callWith_builtin1 (thn (ha.run pos pins s σ H _ I ⟨ρ, δ, S, cf, Post.bind p⟩) fun us s1 ⟨vs, H1, I1, r, ρ1, S1, ds, s1', rs1, rx, p1⟩ => ?_) he hpl
    unfold mRepr at p1
    split at p1
    · rename_i d
      split at p1
      · rename_i pd hd
        split at p1
        · rename_i hc
          obtain ⟨hc1, hc3⟩ := Bool.and_eq_true_iff.mp hc
          obtain ⟨hc1, hc2⟩ := Bool.and_eq_true_iff.mp hc1
          have hc3 := of_decide_eq_true hc3
          obtain ⟨v, rfl, rv⟩ := rx.one
          obtain ⟨u, rfl, ru⟩ := vals1 r
          obtain ⟨⟨as, h1, h2⟩, h3, h4⟩ := rds_of hK sm rs1 I1 dpt d pd v u hd rv ru
          have hz : pd.shown.length ≤ sizeLine := by
            have := PyData.shown_le_bulk 400 (by decide) pd hc2
            rw [sizeLine_eq]
            omega
          have fin : ∀ {t : Tok} {s' : Shared}, L2.Inv X pins σ H1 s' → EP X pins σ Q (.str pd.shown t) s' := fun {t s'} J => ⟨.str pd.shown, H1, J, ⟨t, rfl⟩, p1.val rs1 (.str _ (okS_shown pd h3))⟩
          cases h1 with
          | none => exact PySem.P.repr_of_none (fin (I1.tok _))
          | bool b => exact PySem.P.repr_of_bool (fin (I1.tok _))
          | int i t => exact PySem.P.repr_of_int (of_decide_eq_true hc1) (fin (I1.tok _))
          | str x t => exact PySem.P.repr_of_str (fin (I1.tok _)) hz
          | list q1 q2 q3 q4 => exact repr_of_reads' (.list q1 q2 q3 q4) hc1 (fun _ => h2) hgd (by have : dpt = 12 := rfl; omega) (fun _ _ e => e) (fun h' u tk hk => fin (I1.kept (t' := tk) hk)) hz
          | tuple q1 q2 q3 q4 => exact repr_of_reads' (.tuple q1 q2 q3 q4) hc1 (fun _ => h2) hgd (by have : dpt = 12 := rfl; omega) (fun _ _ e => e) (fun h' u tk hk => fin (I1.kept (t' := tk) hk)) hz
          | dict q1 q2 q3 q4 q5 => exact repr_of_reads' (.dict q1 q2 q3 q4 q5) hc1 (fun _ => h2) hgd (by have : dpt = 12 := rfl; omega) (fun _ _ e => e) (fun h' u tk hk => fin (I1.kept (t' := tk) hk)) hz
        · exact p1.elim
      · exact p1.elim
    · exact p1.elim⟩
end
end Mi
end T_Sim8
section T_Sim9
set_option Elab.async false
set_option linter.all false
set_option maxRecDepth 100000
set_option maxHeartbeats 4000000
/-! Sim9: dicts. -/
namespace Mi
open PySem PySem.Spec PyProof.Rows L2
/-! ### the mirror -/
def keyOf : Dv → Option Key
  | .int i => some (.inl i)
  | .str x => some (.inr x)
  | _ => none
def keysOf (ds : List Dv) : Option (List Key) := optAll (ds.map keyOf)
section
variable {κ : Type} [DecidableEq κ]
def valD (kvs : List (κ × Dv)) (k : κ) : Option Dv := (kvs.find? fun kv => decide (kv.1 = k)).map (·.2)
def putD (kvs : List (κ × Dv)) (k : κ) (v : Dv) : List (κ × Dv) := if (kvs.any fun kv => decide (kv.1 = k)) = true then kvs.map (fun kv => if kv.1 = k then (kv.1, v) else kv) else kvs ++ [(k, v)]
end
/-- what stands at a key; the outer none: not covered -/
def dGet (S : Sto) (d e : Dv) : Option (Option Dv) := match d with
  | .dct kvs => (keyOf e).map (valD kvs)
  | .loc n => (match S[n]? with
    | some (.dK kvs) => (keyOf e).map (valD kvs)
    | some (.dT kvs) => (match e with
      | .tup xs => (keysOf xs).map (valD kvs)
      | _ => none)
    | _ => none)
  | _ => none
def mDGet (d e : Dv) : M Dv := fun S => match dGet S d e with
  | some (some v) => .ok v S
  | _ => .bad
/-- d.get(e, f) -/
def eDGet2 (a b c : EX) : EX := fun δ => (a δ).bind fun d S0 => if kind S0 d = some "dict" then ((b δ).bind fun e => (c δ).bind fun f S => match dGet S d e with
  | some o => .ok (o.getD f) S
  | none => .bad) S0 else .bad
def eDGet1 (a b : EX) : EX := fun δ => (a δ).bind fun d S0 => if kind S0 d = some "dict" then ((b δ).bind fun e S => match dGet S d e with
  | some o => .ok (o.getD .non) S
  | none => .bad) S0 else .bad
/-- e in d -/
def mDIn (k : Bool → Bool) (e d : Dv) : M Dv := fun S => match dGet S d e with
  | some o => .ok (.bl (k o.isSome)) S
  | none => .bad
def dPut (S : Sto) (d e v : Dv) : Option Sto := match d with
  | .loc n => (match S[n]? with
    | some (.dK kvs) => (match keyOf e with
      | some k => if kvs.length < lim then some (S.set n (.dK (putD kvs k v))) else none
      | none => none)
    | some (.dT kvs) => (match e with
      | .tup xs => (match keysOf xs with
        | some k => if kvs.length < lim then some (S.set n (.dT (putD kvs k v))) else none
        | none => none)
      | _ => none)
    | _ => none)
  | _ => none
/-- a[b] = v -/
def sDPut (a b v : EX) : SM := fun δ S => onOk (v δ S) δ fun y S1 => onOk (a δ S1) δ fun d S2 => onOk (b δ S2) δ fun e S3 => match dPut S3 d e y with
  | some S4 => .nx δ S4
  | none => .bad
/-! ### relation -/
section
variable {κ : Type} [DecidableEq κ] {K : PySem.W.Frag} {ρ : Rg} {H : Hp}
theorem val_rel : ∀ {kvs : List (κ × V)} {dks : List (κ × Dv)} (k : κ), kvs.map (·.1) = dks.map (·.1) → RvA K ρ H (kvs.map (·.2)) (dks.map (·.2)) → (valV kvs k = none ∧ valD dks k = none) ∨ ∃ v d, valV kvs k = some v ∧ valD dks k = some d ∧ Rv K ρ H v d
  | [], [], _, _, _ => .inl ⟨rfl, rfl⟩
  | [], _ :: _, _, e, _ => by cases e
  | _ :: _, [], _, e, _ => by cases e
  | (a, v) :: kvs, (b, d) :: dks, k, e, r => by
    have e1 : a = b := (List.cons.inj e).1
    subst e1
    cases r with
    | cons h1 r1 =>
      by_cases hk : a = k
      · exact .inr ⟨v, d, by simp [valV, List.find?_cons, hk], by simp [valD, List.find?_cons, hk], h1⟩
      · have z := val_rel k (List.cons.inj e).2 r1
        have e2 : valV ((a, v) :: kvs) k = valV kvs k := by simp [valV, List.find?_cons, hk]
        have e3 : valD ((a, d) :: dks) k = valD dks k := by simp [valD, List.find?_cons, hk]
        rw [e2, e3]
        exact z
theorem any_rel : ∀ {kvs : List (κ × V)} {dks : List (κ × Dv)} (k : κ), kvs.map (·.1) = dks.map (·.1) → (kvs.any fun kv => decide (kv.1 = k)) = (dks.any fun kv => decide (kv.1 = k))
  | [], [], _, _ => rfl
  | [], _ :: _, _, e => by cases e
  | _ :: _, [], _, e => by cases e
  | (a, v) :: kvs, (b, d) :: dks, k, e => by
    have e1 : a = b := (List.cons.inj e).1
    subst e1
    rw [List.any_cons, List.any_cons, any_rel k (List.cons.inj e).2]
theorem repl_rel {v : V} {d : Dv} (h : Rv K ρ H v d) (k : κ) : ∀ {kvs : List (κ × V)} {dks : List (κ × Dv)}, kvs.map (·.1) = dks.map (·.1) → RvA K ρ H (kvs.map (·.2)) (dks.map (·.2)) →
    (kvs.map fun kv => if kv.1 = k then (kv.1, v) else kv).map (·.1) = (dks.map fun kv => if kv.1 = k then (kv.1, d) else kv).map (·.1) ∧ RvA K ρ H ((kvs.map fun kv => if kv.1 = k then (kv.1, v) else kv).map (·.2)) ((dks.map fun kv => if kv.1 = k then (kv.1, d) else kv).map (·.2))
  | [], [], _, _ => ⟨rfl, .nil⟩
  | [], _ :: _, e, _ => by cases e
  | _ :: _, [], e, _ => by cases e
  | (a, u) :: kvs, (b, w) :: dks, e, r => by
    have e1 : a = b := (List.cons.inj e).1
    subst e1
    cases r with
    | cons h1 r1 =>
      obtain ⟨i1, i2⟩ := repl_rel h k (List.cons.inj e).2 r1
      by_cases hk : a = k
      · simp only [List.map_cons, hk, if_true]
        exact ⟨by rw [i1], .cons h i2⟩
      · simp only [List.map_cons, hk, if_false]
        exact ⟨by rw [i1], .cons h1 i2⟩
theorem put_rel {v : V} {d : Dv} (h : Rv K ρ H v d) (k : κ) {kvs : List (κ × V)} {dks : List (κ × Dv)} (e : kvs.map (·.1) = dks.map (·.1)) (r : RvA K ρ H (kvs.map (·.2)) (dks.map (·.2))) :
    (putK kvs k v).map (·.1) = (putD dks k d).map (·.1) ∧ RvA K ρ H ((putK kvs k v).map (·.2)) ((putD dks k d).map (·.2)) := by
  unfold putK putD
  rw [any_rel k e]
  by_cases hc : (dks.any fun kv => decide (kv.1 = k)) = true
  · rw [if_pos hc, if_pos hc]
    exact repl_rel h k e r
  · rw [if_neg hc, if_neg hc]
    simp only [List.map_append, List.map_cons, List.map_nil]
    exact ⟨by rw [e], r.app (.cons h .nil)⟩
end
section
variable {G : Gx} {W : WX} {X : Cx} {ρ : Rg} {H : Hp} {S : Sto}
theorem key_rel {v : V} {d : Dv} {k : Key} (r : Rv G.K ρ H v d) (h : keyOf d = some k) : v = kV k := by
  cases r with
  | int i => cases h; rfl
  | str x _ => cases h; rfl
  | _ => cases h
theorem keys_rel : ∀ {ds : List Dv} {vs : List V} {ks : List Key}, RvA G.K ρ H vs ds → keysOf ds = some ks → vs = ks.map kV
  | [], _, ks, r, h => by
    cases r
    cases h
    rfl
  | d :: ds, _, ks, r, h => by
    obtain ⟨b, r', e1, e2, rfl⟩ := optAll_cons (show optAll (keyOf d :: ds.map keyOf) = _ from h)
    cases r with
    | cons h1 r1 => rw [key_rel h1 e1, keys_rel r1 e2]; rfl
/-- the mirror's look is the heap's -/
theorem dGet_ok {v u : V} {d e : Dv} {o : Option Dv} (rs : RS G ρ H S) (rv : Rv G.K ρ H v d) (ru : Rv G.K ρ H u e) (h : dGet S d e = some o) : ∃ a r, v = .ref a ∧ DGet H a u r ∧ ((r = none ∧ o = none) ∨ ∃ x y, r = some x ∧ o = some y ∧ Rv G.K ρ H x y) := by
  have dk : ∀ {a : Addr} {kvs : List (Key × V)} {dks : List (Key × Dv)}, H a = some (.dK kvs) → kvs.map (·.1) = dks.map (·.1) → RvA G.K ρ H (kvs.map (·.2)) (dks.map (·.2)) → (keyOf e).map (valD dks) = some o →
      ∃ r, DGet H a u r ∧ ((r = none ∧ o = none) ∨ ∃ x y, r = some x ∧ o = some y ∧ Rv G.K ρ H x y) := fun {a kvs dks} ha e1 e2 h => by
    cases q : keyOf e with
    | none => rw [q] at h; cases h
    | some k =>
      rw [q] at h
      have h' : valD dks k = o := Option.some.inj h
      have hu := key_rel ru q
      subst hu
      refine ⟨_, DGet.k ha, ?_⟩
      rcases val_rel k e1 e2 with ⟨z1, z2⟩ | ⟨x, y, z1, z2, z3⟩
      · exact .inl ⟨z1, by rw [← h', z2]⟩
      · exact .inr ⟨x, y, z1, by rw [← h', z2], z3⟩
  unfold dGet at h
  cases rv with
  | dct h1 n e1 r =>
    obtain ⟨r', q1, q2⟩ := dk h1 e1 r h
    exact ⟨_, r', rfl, q1, q2⟩
  | @loc n a hn =>
    obtain ⟨ob, h1, h2⟩ := rs.at hn
    dsimp only at h
    rw [h1] at h
    cases ob with
    | ins c fs => cases h
    | lst ds => cases h
    | dK dks =>
      obtain ⟨kvs, ha, e1, e2⟩ := h2
      obtain ⟨r', q1, q2⟩ := dk ha e1 e2 h
      exact ⟨_, r', rfl, q1, q2⟩
    | dT dks =>
      obtain ⟨kvs, ha, e1, e2⟩ := h2
      cases ru with
      | @tup b vs ds ht rt =>
        have h' : (keysOf ds).map (valD dks) = some o := h
        cases q : keysOf ds with
        | none => rw [q] at h'; cases h'
        | some k =>
          rw [q] at h'
          have h2 : valD dks k = o := Option.some.inj h'
          have hv := keys_rel rt q
          subst hv
          refine ⟨a, _, rfl, DGet.t ha ht.1, ?_⟩
          rcases val_rel k e1 e2 with ⟨z1, z2⟩ | ⟨x, y, z1, z2, z3⟩
          · exact .inl ⟨z1, by rw [← h2, z2]⟩
          · exact .inr ⟨x, y, z1, by rw [← h2, z2], z3⟩
      | _ => cases h
  | _ => cases h
theorem re_dget {o i : Expr} {mo mi : EX} {pos : Pos} (hu : X.A.units + 1 < cLine) (ho : PE X o (tE G W mo)) (hi : PE X i (tE G W mi)) (hs : NoSl i) : PE X (.Subscript o i pos) (tE G W (e2 mDGet mo mi)) := (pe_dget hu ho hi hs).imp fun σ H Q q => by
  obtain ⟨ρ, δ, S, cf, p⟩ := q
  refine ⟨ρ, δ, S, cf, (Post.bind p).mono fun x H1 ⟨ρ1, S1, d, s1, rs1, rx, p1⟩ => ?_⟩
  refine ⟨ρ1, δ, S1, cf.step s1 rs1, (Post.bind p1).mono fun y H2 ⟨ρ2, S2, e, s2, rs2, ry, p2⟩ => ?_⟩
  unfold mDGet at p2
  dsimp only at p2
  split at p2
  · rename_i v hd
    obtain ⟨a, r, rfl, g, h⟩ := dGet_ok rs2 (rx.step s2) ry hd
    rcases h with ⟨_, z⟩ | ⟨x, y, rfl, z, rr⟩
    · cases z
    · cases z
      exact ⟨a, x, rfl, g, p2.val rs2 rr⟩
  · exact p2.elim
/-- e in d -/
def rDIn (k : Bool → Bool) : R2 := fun y x H Q => ∃ a o, x = .ref a ∧ DGet H a y o ∧ Q (.bl (k o.isSome)) H
theorem op_dIn (hu : X.A.units + 1 < cLine) : OpR X (compareOp .In) (rDIn id) := by
  intro pins s σ H x y v u Q I rx ry h
  obtain ⟨a, o, rfl, g, q⟩ := h
  cases ry
  exact L2.d_in hu I g rx fun s' I' => ⟨.bl o.isSome, H, I', rfl, q⟩
theorem op_dNotIn (hu : X.A.units + 1 < cLine) : OpR X (compareOp .NotIn) (rDIn not) := by
  intro pins s σ H x y v u Q I rx ry h
  obtain ⟨a, o, rfl, g, q⟩ := h
  cases ry
  exact L2.d_notIn hu I g rx fun s' I' => ⟨.bl (!o.isSome), H, I', rfl, q⟩
theorem d_dIn {k : Bool → Bool} : Op2 G W (rDIn k) (mDIn k) := by
  intro ρ H σ S x y d e Q rs rx ry p
  unfold mDIn at p
  split at p
  · rename_i o hd
    obtain ⟨a, r, rfl, g, h⟩ := dGet_ok rs ry rx hd
    refine ⟨a, r, rfl, g, ?_⟩
    have e : r.isSome = o.isSome := by
      rcases h with ⟨rfl, rfl⟩ | ⟨_, _, rfl, rfl, _⟩ <;> rfl
    rw [e]
    exact p.val rs (.bl _)
  · exact p.elim
theorem isD_ok {v : V} {d : Dv} (rs : RS G ρ H S) (r : Rv G.K ρ H v d) (h : kind S d = some "dict") : ∃ a, v = .ref a ∧ IsD H a := by
  cases r with
  | exc => cases h
  | exc0 => cases h
  | non => exact absurd h (by show ¬ (some "NoneType" = some "dict"); decide)
  | bl b => exact absurd h (by show ¬ (some "bool" = some "dict"); decide)
  | int i => exact absurd h (by show ¬ (some "int" = some "dict"); decide)
  | str x _ => exact absurd h (by show ¬ (some "str" = some "dict"); decide)
  | tup h1 _ => exact absurd h (by show ¬ (some "tuple" = some "dict"); decide)
  | lst h1 _ _ => exact absurd h (by show ¬ (some "list" = some "dict"); decide)
  | con h1 _ => exact absurd h (by show ¬ (some "list" = some "dict"); decide)
  | dct h1 _ _ _ => exact ⟨_, rfl, .inl ⟨_, .inl h1⟩⟩
  | @loc n a hn =>
    have h : (match S[n]? with | some (.lst _) => some "list" | some (.dK _) => some "dict" | some (.dT _) => some "dict" | some (.ins _ _) => none | none => none) = some "dict" := h
    obtain ⟨ob, h1, h2⟩ := rs.at hn
    rw [h1] at h
    cases ob with
    | ins c fs => cases h
    | lst ds => exact absurd h (by show ¬ (some "list" = some "dict"); decide)
    | dK ds =>
      obtain ⟨vs, q, _⟩ := h2
      exact ⟨a, rfl, .inl ⟨_, .inl q⟩⟩
    | dT ds =>
      obtain ⟨vs, q, _⟩ := h2
      exact ⟨a, rfl, .inr ⟨_, .inl q⟩⟩
theorem re_dget2 {o e f : Expr} {mo me mf : EX} {apos cpos : Pos} (hu : X.A.units + 1 < cLine) (ho : PE X o (tE G W mo)) (he : PE X e (tE G W me)) (hf : PE X f (tE G W mf)) (m : M2 X o "get" apos e f cpos) : PE X (.Call (.Attribute o "get" apos) [e, f] [] cpos) (tE G W (eDGet2 mo me mf)) :=
  (pe_dget2 hu ho he hf m).imp fun σ H Q q => by
    obtain ⟨ρ, δ, S, cf, p⟩ := q
    refine ⟨ρ, δ, S, cf, (Post.bind p).mono fun x H1 ⟨ρ1, S1, d, s1, rs1, rx, p1⟩ => ?_⟩
    dsimp only at p1
    split at p1
    · rename_i hk
      obtain ⟨a, rfl, hd⟩ := isD_ok rs1 rx hk
      refine ⟨a, rfl, hd, ρ1, δ, S1, cf.step s1 rs1, (Post.bind p1).mono fun y H2 ⟨ρ2, S2, e, s2, rs2, ry, p2⟩ => ?_⟩
      refine ⟨ρ2, δ, S2, (cf.step s1 rs1).step s2 rs2, (Post.bind p2).mono fun z H3 ⟨ρ3, S3, f, s3, rs3, rz, p3⟩ => ?_⟩
      dsimp only at p3
      split at p3
      · rename_i oo hg
        obtain ⟨a', r, ea, g, h⟩ := dGet_ok rs3 ((rx.step s2).step s3) (ry.step s3) hg
        cases ea
        refine ⟨r, g, ?_⟩
        rcases h with ⟨rfl, rfl⟩ | ⟨x, y, rfl, rfl, rr⟩
        · exact p3.val rs3 rz
        · exact p3.val rs3 rr
      · exact p3.elim
    · exact p1.elim
theorem re_dget1 {o e : Expr} {mo me : EX} {apos cpos : Pos} (hu : X.A.units + 1 < cLine) (ho : PE X o (tE G W mo)) (he : PE X e (tE G W me)) (m : M1 X o "get" apos e cpos) : PE X (.Call (.Attribute o "get" apos) [e] [] cpos) (tE G W (eDGet1 mo me)) :=
  (pe_dget1 hu ho he m).imp fun σ H Q q => by
    obtain ⟨ρ, δ, S, cf, p⟩ := q
    refine ⟨ρ, δ, S, cf, (Post.bind p).mono fun x H1 ⟨ρ1, S1, d, s1, rs1, rx, p1⟩ => ?_⟩
    dsimp only at p1
    split at p1
    · rename_i hk
      obtain ⟨a, rfl, hd⟩ := isD_ok rs1 rx hk
      refine ⟨a, rfl, hd, ρ1, δ, S1, cf.step s1 rs1, (Post.bind p1).mono fun y H2 ⟨ρ2, S2, e, s2, rs2, ry, p2⟩ => ?_⟩
      dsimp only at p2
      split at p2
      · rename_i oo hg
        obtain ⟨a', r, ea, g, h⟩ := dGet_ok rs2 (rx.step s2) ry hg
        cases ea
        refine ⟨r, g, ?_⟩
        rcases h with ⟨rfl, rfl⟩ | ⟨x, y, rfl, rfl, rr⟩
        · exact p2.val rs2 .non
        · exact p2.val rs2 rr
      · exact p2.elim
    · exact p1.elim
/-- a[b] = v -/
theorem rs_dput {o i e : Expr} {mo mi me : EX} {pos pos' : Pos} (hu : X.A.units + 1 < cLine) (ho : PE X o (tE G W mo)) (hi : PE X i (tE G W mi)) (hv : PE X e (tE G W me)) (hs : swapsWith e (some (.Subscript o i pos')) pos.line X.env = pure false := by rfl) :
    PS X (.Assign [.Subscript o i pos'] e pos) (tS G W (sDPut mo mi me)) := (ps_dput hu ho hi hv hs).imp fun D σ H q => by
  obtain ⟨ρ, δ, S, cf, p⟩ := q
  refine ⟨ρ, δ, S, cf, (postS_on (rel := vr G) cf p).mono fun x H1 ⟨ρ1, S1, d, s1, rs1, rx, p1⟩ => ?_⟩
  have c1 := cf.step s1 rs1
  refine ⟨ρ1, δ, S1, c1, (postS_on (rel := vr G) c1 p1).mono fun y H2 ⟨ρ2, S2, e, s2, rs2, ry, p2⟩ => ?_⟩
  have c2 := c1.step s2 rs2
  refine ⟨ρ2, δ, S2, c2, (postS_on (rel := vr G) c2 p2).mono fun z H3 ⟨ρ3, S3, f, s3, rs3, rz, p3⟩ => ?_⟩
  have c3 := c2.step s3 rs3
  have rx3 := (rx.step s2).step s3
  have ry3 := ry.step s3
  cases ed : dPut S3 e f d with
  | none => rw [ed] at p3; exact p3.elim
  | some S4 =>
    rw [ed] at p3
    unfold dPut at ed
    cases ry3 with
    | @loc n a hn =>
      obtain ⟨ob, h1, h2⟩ := rs3.at hn
      dsimp only at ed
      rw [h1] at ed
      cases ob with
      | ins c fs => cases ed
      | lst ds => cases ed
      | dK dks =>
        obtain ⟨kvs, ha, e1, e2⟩ := h2
        dsimp only at ed
        cases q : keyOf f with
        | none => rw [q] at ed; cases ed
        | some k =>
          rw [q] at ed
          dsimp only at ed
          split at ed
          · rename_i hl
            cases ed
            have hz := key_rel rz q
            subst hz
            have st : Stp ρ3 H3 ρ3 (upd H3 a (.dK (putK kvs k x))) := Stp.put (List.mem_of_getElem? hn)
            have el : kvs.length = dks.length := by simpa using congrArg List.length e1
            refine ⟨a, _, rfl, DPut.k ha (lim_lt (by rw [el]; exact hl)), ?_⟩
            obtain ⟨q1, q2⟩ := put_rel rx3 k e1 e2
            exact p3 σ _ ρ3 st (c3.step st (rs3.put hn ⟨_, upd_same, q1, q2.step st⟩))
          · cases ed
      | dT dks =>
        obtain ⟨kvs, ha, e1, e2⟩ := h2
        cases rz with
        | @tup b vs ds ht rt =>
          dsimp only at ed
          cases q : keysOf ds with
          | none => rw [q] at ed; cases ed
          | some k =>
            rw [q] at ed
            dsimp only at ed
            split at ed
            · rename_i hl
              cases ed
              have hv := keys_rel rt q
              subst hv
              have st : Stp ρ3 H3 ρ3 (upd H3 a (.dT (putK kvs k x))) := Stp.put (List.mem_of_getElem? hn)
              have el : kvs.length = dks.length := by simpa using congrArg List.length e1
              refine ⟨a, _, rfl, DPut.t ha ht.1 (lim_lt (by rw [el]; exact hl)), ?_⟩
              obtain ⟨q1, q2⟩ := put_rel rx3 k e1 e2
              exact p3 σ _ ρ3 st (c3.step st (rs3.put hn ⟨_, upd_same, q1, q2.step st⟩))
            · cases ed
        | _ => cases ed
    | _ => cases ed
/-! ### {} -/
def mDct0 : EX := eC (.dct [])
theorem re_dct0 {pos : Pos} : PE X (.Dict [] [] pos) (tE G W mDct0) := pe_dnewK.imp fun σ H Q q => by
  obtain ⟨ρ, δ, S, cf, p⟩ := q
  exact fun u hu => p _ _ ρ (Stp.new hu) (cf.rs.new hu) (.dct upd_same (cf.rs.nin hu) rfl .nil)
end
end Mi
end T_Sim9
section T_SimA
set_option Elab.async false
set_option linter.all false
set_option maxRecDepth 100000
set_option maxHeartbeats 4000000
/-! SimA: dict displays, dict comprehensions, join, walks over lists of the store. -/
namespace Mi
open PySem PySem.Spec PyProof.Rows L2
/-! ### {(..): v} -/
def tDispT (tk tv : TE) : TE := fun σ H Q => ∀ p, H p = none → tk σ (upd H p (.dT [])) fun x H1 => tv σ H1 fun y H2 => ∃ b ks, H2 p = some (.dT []) ∧ x = .ref b ∧ H2 b = some (.tup (ks.map kV)) ∧ Q (.ref p) (upd H2 p (.dT [(ks, y)]))
theorem pe_dispT {X : Cx} {k v : Expr} {tk tv : TE} {pos : Pos} (hu : X.A.units + 1 < cLine) (hk : PE X k tk) (hv : PE X v tv) : PE X (.Dict [some k] [v] pos) (tDispT tk tv) := by
  refine ⟨fun pins s σ H Q I q => ?_⟩
  have hn := I.hok.fresh (Nat.le_refl s.heap.objs.size)
  have I1 := I.laid (a := s.heap.objs.size) (o := .dT []) (h' := s.heap.push { cls := .type "dict", data := .dict #[] }) (t' := s.toks) (fun _ _ q => Heap.get?_push_of_some _ q) (Nat.le_refl _) (dt_empty s.heap I.big)
  refine wpAny_Dict_any rfl rfl (by simp) (by show 1 ≤ 15; decide) (pairTrees_cons_walk (thn (hk.run pins _ σ _ _ I1 (q _ hn)) fun u s1 ⟨x, H1, I2, rx, q1⟩ => thn (hv.run pins s1 σ H1 _ I2 q1) fun w2 s2 ⟨y, H2, I3, ry, b, ks, hp, ex, hb, q2⟩ => pairTrees_nil_walk ?_))
  subst ex
  obtain rfl : u = Value.ref b := rx
  obtain ⟨z, hd, xs, rel, dd⟩ := dt_of I3.hok hp
  cases rel
  unfold storeAll
  rw [List.forIn_cons]
  refine wpAny_bind (wpAny_bind (wpAny_dictSet_heap (hsz := Nat.zero_le _) (show (tupleKind (mixKind X.prog X.w)).room X.A from (show X.A.units < cLine by omega)) (key_of I3.hok hb) dd fun h' dd' hs => wpAny_pure ?_))
  show wpAny _ _ (forIn [] PUnit.unit _) _ _ _
  rw [List.forIn_nil]
  refine wpAny_pure ⟨.ref s.heap.objs.size, _, ?_, rfl, q2⟩
  have kt : L2.KT H2 (putK [] ks y) (storedH [] ks b w2) := L2.KT.put (kvs := []) (xs := []) .nil ks hb ry
  obtain ⟨o', es, ep, ho, h2, h3, h4, _, h5⟩ := dd'
  refine d_write I3 (by rw [hp]; exact True.intro) hs ⟨o', ho⟩ ⟨by show 1 ≤ sizeLine; decide, hd, _, (show L2.KT H2 [(ks, y)] (storedH [] ks b w2) from kt).keeps fun c ys ec => ?_, o', es, ep, ho, h2, h3, h4, h5⟩
  rw [upd_ne (ne_of ec hp (fun z => nomatch z))]
  exact ec
/-- what was private comes into the store -/
theorem RS.reveal {G : Gx} {ρ ρ' : Rg} {H : Hp} {S : Sto} {p : Addr} {o : HO} {ob : Ob} (r : RS G ρ' H S) (eb : ρ'.b = ρ.b ++ [p]) (nb : p ∉ ρ.b) {u : HO} (hu : H p = some u) (h1 : NoTbl u) (h2 : ∀ c q, u ≠ LamX.CodeO c q) (hr : Ro G.K ⟨ρ'.s ++ [p], ρ.b⟩ (upd H p o) p ob) :
    RS G ⟨ρ'.s ++ [p], ρ.b⟩ (upd H p o) (S ++ [ob]) := by
  have mp : p ∈ ρ'.b := by rw [eb]; simp
  have ns := (r.bt p mp).1
  have conv : ∀ {v : V} {d : Dv}, Rv G.K ρ' H v d → Rv G.K ⟨ρ'.s ++ [p], ρ.b⟩ (upd H p o) v d := fun {v d} q => by
    have ag : Agr ρ' H ρ' (upd H p o) := ⟨rfl, fun _ z => z, fun a n => upd_ne fun e => n.2 (by rw [e]; exact mp)⟩
    have q1 := q.agr ag
    -- from ρ' to the new ρ: a step in which p is new in the store
    have st : ∀ {v : V} {d : Dv}, Rv G.K ρ' (upd H p o) v d → Rv G.K ⟨ρ'.s ++ [p], ρ.b⟩ (upd H p o) v d := by
      have out : ∀ a, Out ρ' a → Out ⟨ρ'.s ++ [p], ρ.b⟩ a := fun a n => ⟨fun m => (List.mem_append.mp m).elim n.1 fun m => n.2 (by rw [List.mem_singleton.mp m]; exact mp), fun m => n.2 (by rw [eb]; exact List.mem_append_left _ m)⟩
      intro v d q
      exact Rv.rec (motive_1 := fun v d _ => Rv G.K ⟨ρ'.s ++ [p], ρ.b⟩ (upd H p o) v d) (motive_2 := fun vs ds _ => RvA G.K ⟨ρ'.s ++ [p], ρ.b⟩ (upd H p o) vs ds) .non .bl .int .str
        (fun h _ ih => .tup ⟨h.1, out _ h.2⟩ ih) (fun h n _ ih => .lst h (out _ n) ih)
        (fun h _ ih => .con (h.imp (fun z => ⟨z.1, out _ z.2⟩) id) ih) (fun h n e _ ih => .dct h (out _ n) e ih)
        (fun {n a} h => .loc (by show (ρ'.s ++ [p])[n]? = some a; rw [List.getElem?_append_left (List.getElem?_eq_some_iff.mp h).1]; exact h)) (fun h n hd nd e _ ih => .exc h (out _ n) hd (out _ nd) e ih) (fun h n => .exc0 h (out _ n)) .nil (fun _ _ i1 i2 => .cons i1 i2) q
    exact st q1
  have convA : ∀ {vs : List V} {ds : List Dv}, RvA G.K ρ' H vs ds → RvA G.K ⟨ρ'.s ++ [p], ρ.b⟩ (upd H p o) vs ds := fun {vs} => by
    induction vs with
    | nil => intro ds q; cases q; exact .nil
    | cons v vs ih => intro ds q; cases q with | cons h t => exact .cons (conv h) (ih t)
  have nep : ∀ {a : Addr}, a ∈ ρ'.s → a ≠ p := fun m e => ns (by rw [← e]; exact m)
  refine ⟨by simp [r.len], ?_, fun a m => ?_, fun k a ob' e1 e2 => ?_, tabs_put r.tab hu h1 h2, ?_⟩
  · exact List.nodup_append.mpr ⟨r.nd, by simp, fun a ha b hb e => by rw [List.mem_singleton.mp hb] at e; exact nep ha e⟩
  · have m' : a ∈ ρ'.b := by rw [eb]; exact List.mem_append_left _ m
    have hne : a ≠ p := fun e => nb (by rw [← e]; exact m)
    refine ⟨fun z => ?_, ?_⟩
    · rcases List.mem_append.mp z with z | z
      · exact (r.bt a m').1 z
      · exact hne (List.mem_singleton.mp z)
    · obtain ⟨o', q, pv⟩ := (r.bt a m').2
      exact ⟨o', by rw [upd_ne hne]; exact q, pv⟩
  · by_cases hk : k < ρ'.s.length
    · rw [List.getElem?_append_left hk] at e1
      rw [List.getElem?_append_left (by rw [← r.len]; exact hk)] at e2
      have q := r.ob k a ob' e1 e2
      have hne := nep (List.mem_of_getElem? e1)
      cases ob' with
      | lst ds =>
        obtain ⟨vs, q1, q2⟩ := q
        exact ⟨vs, by rw [upd_ne hne]; exact q1, convA q2⟩
      | dK ds =>
        obtain ⟨vs, q1, q3, q2⟩ := q
        exact ⟨vs, by rw [upd_ne hne]; exact q1, q3, convA q2⟩
      | dT ds =>
        obtain ⟨vs, q1, q3, q2⟩ := q
        exact ⟨vs, by rw [upd_ne hne]; exact q1, q3, convA q2⟩
      | ins c fs =>
        obtain ⟨dx, fv, q1, ⟨q4, q5⟩, q3, q2⟩ := q
        exact ⟨dx, fv, by rw [upd_ne hne]; exact q1, ⟨by rw [upd_ne (fun e => q5.2 (by rw [e]; exact mp))]; exact q4, ⟨fun m => (List.mem_append.mp m).elim q5.1 fun m => q5.2 (by rw [List.mem_singleton.mp m]; exact mp), fun m => q5.2 (by rw [eb]; exact List.mem_append_left _ m)⟩⟩, q3, convA q2⟩
    · rw [List.getElem?_append_right (by omega)] at e1
      rw [List.getElem?_append_right (by rw [← r.len]; omega), ← r.len] at e2
      have ek : k - ρ'.s.length = 0 := by
        have := (List.getElem?_eq_some_iff.mp e1).1
        simp at this
        omega
      rw [ek] at e1 e2
      cases e1
      cases e2
      exact hr
  · obtain ⟨x, y⟩ := r.xok
    have outs : ∀ {c : Addr}, Out ρ' c → Out { s := ρ'.s ++ [p], b := ρ.b } c := fun {c} z2 => ⟨fun m => (List.mem_append.mp m).elim z2.1 fun m => z2.2 (by rw [List.mem_singleton.mp m]; exact mp), fun m => z2.2 (by rw [eb]; exact List.mem_append_left _ m)⟩
    constructor
    · unfold XokE at x ⊢
      split at x
      · trivial
      · obtain ⟨fv, z1, z2, z3, z4⟩ := x
        exact ⟨fv, by rw [upd_ne (fun e => z2.2 (by rw [e]; exact mp))]; exact z1, outs z2, z3, convA z4⟩
    · unfold Fok at y ⊢
      split at y
      · trivial
      · obtain ⟨y, r⟩ := y
        refine ⟨⟨by rw [upd_ne (fun e => y.2.2 (by rw [e]; exact mp))]; exact y.1, outs y.2⟩, fun i d e => ?_⟩
        obtain ⟨v, e1, e2⟩ := r i d e
        exact ⟨v, e1, conv e2⟩
section
variable {G : Gx} {W : WX} {X : Cx}
/-- {k: v}, k a tuple: a dict of the store -/
def eDispT (a b : EX) : EX := fun δ S0 => match a δ S0 with
  | .ok x S1 => (match b δ S1 with
    | .ok y S => (match x with
      | .tup xs => (match keysOf xs with
        | some ks => .ok (.loc S.length) (S ++ [.dT [(ks, y)]])
        | none => .bad)
      | _ => .bad)
    | _ => .bad)
  | _ => .bad
theorem re_dispT {k v : Expr} {mk mv : EX} {pos : Pos} (hu : X.A.units + 1 < cLine) (hk : PE X k (tE G W0 mk)) (hv : PE X v (tE G W0 mv)) (hxn : G.xc = none ∧ G.fx = none := by exact ⟨rfl, rfl⟩) : PE X (.Dict [some k] [v] pos) (tE G W (eDispT mk mv)) := (pe_dispT hu hk hv).imp fun σ H Q q => by
  obtain ⟨ρ, δ, S, cf, p⟩ := q
  intro u hu0
  have rsH := cf.rs.hide (o := .dT []) hu0
  have stB : StB ρ H (ρ.hide u) (upd H u (.dT [])) := ⟨⟨[], by simp [Rg.hide], fun _ z => nomatch z⟩, ⟨[u], rfl, fun a m => by rw [List.mem_singleton.mp m]; exact Nw.of hu0⟩, (Stp.new (ρ := ρ) (o := .dT []) hu0).kept⟩
  have cf1 : Cf G (ρ.hide u) (upd H u (.dT [])) σ δ S := by
    have z := cf.wipe stB rsH [] hxn
    exact z
  have nb : u ∉ ρ.b := (cf.rs.nin hu0).2
  refine ⟨ρ.hide u, δ, S, cf1, ?_⟩
  unfold eDispT at p
  cases e1 : mk δ S with
  | bad => rw [e1] at p; exact p.elim
  | ex x S1 => rw [e1] at p; exact p.elim
  | ok x S1 =>
    rw [e1] at p
    intro vx H1 ρ1 s1 rs1 rx
    refine ⟨ρ1, δ, S1, cf1.step s1 rs1, ?_⟩
    dsimp only at p
    cases e2 : mv δ S1 with
    | bad => rw [e2] at p; exact p.elim
    | ex y S2 => rw [e2] at p; exact p.elim
    | ok y S2 =>
      rw [e2] at p
      intro vy H2 ρ2 s2 rs2 ry
      have st := s1.trans s2
      have hu2 : H2 u = some (.dT []) := st.kept _ _ upd_same (by simpa [Rg.hide] using (cf.rs.nin hu0).1) (fun _ z => nomatch z)
      have rx2 := rx.step s2
      have eb : ρ2.b = ρ.b ++ [u] := by rw [st.pb]; rfl
      cases rx2 with
      | @tup b vs ds ht rt =>
        dsimp only at p
        cases q : keysOf ds with
        | none => rw [q] at p; exact p.elim
        | some ks =>
          rw [q] at p
          have hv := keys_rel rt q
          subst hv
          refine ⟨b, ks, hu2, rfl, ht.1, ?_⟩
          have ob : Ro G.K ⟨ρ2.s ++ [u], ρ.b⟩ (upd H2 u (.dT [(ks, vy)])) u (.dT [(ks, y)]) := by
            refine ⟨[(ks, vy)], upd_same, rfl, .cons ?_ .nil⟩
            have ag : Agr ρ2 H2 ρ2 (upd H2 u (.dT [(ks, vy)])) := ⟨rfl, fun _ z => z, fun a n => upd_ne fun e => n.2 (by rw [e, eb]; simp)⟩
            have r1 := ry.agr ag
            have out : ∀ a, Out ρ2 a → Out ⟨ρ2.s ++ [u], ρ.b⟩ a := fun a n => ⟨fun m => (List.mem_append.mp m).elim n.1 fun m => n.2 (by rw [List.mem_singleton.mp m, eb]; simp), fun m => n.2 (by rw [eb]; exact List.mem_append_left _ m)⟩
            exact Rv.rec (motive_1 := fun v d _ => Rv G.K ⟨ρ2.s ++ [u], ρ.b⟩ (upd H2 u (.dT [(ks, vy)])) v d) (motive_2 := fun vs ds _ => RvA G.K ⟨ρ2.s ++ [u], ρ.b⟩ (upd H2 u (.dT [(ks, vy)])) vs ds) .non .bl .int .str
              (fun h _ ih => .tup ⟨h.1, out _ h.2⟩ ih) (fun h n _ ih => .lst h (out _ n) ih)
              (fun h _ ih => .con (h.imp (fun z => ⟨z.1, out _ z.2⟩) id) ih) (fun h n e _ ih => .dct h (out _ n) e ih)
              (fun {n a} h => .loc (by show (ρ2.s ++ [u])[n]? = some a; rw [List.getElem?_append_left (List.getElem?_eq_some_iff.mp h).1]; exact h)) (fun h n hd nd e _ ih => .exc h (out _ n) hd (out _ nd) e ih) (fun h n => .exc0 h (out _ n)) .nil (fun _ _ i1 i2 => .cons i1 i2) r1
          have rs3 := rs2.reveal eb nb hu2 (fun _ z => nomatch z) (fun _ _ z => nomatch z) ob
          refine p (.ref u) _ ⟨ρ2.s ++ [u], ρ.b⟩ ⟨?_, rfl, fun a o h n nt => ?_⟩ rs3 (.loc ?_)
          · obtain ⟨m2, e2, f2⟩ := st.pre
            refine ⟨m2 ++ [u], by rw [e2]; simp [Rg.hide], fun a ha => ?_⟩
            rcases List.mem_append.mp ha with ha | ha
            · have := f2 a ha
              refine ⟨this.1, ?_⟩
              by_cases hau : a = u
              · rw [hau]; exact Nw.of hu0
              · intro o ho nt
                exact this.2 o (by rw [upd_ne hau]; exact ho) nt
            · rw [List.mem_singleton.mp ha]; exact ⟨(cf.rs.nin hu0).1, Nw.of hu0⟩
          · rw [upd_ne (ne_of_none h hu0)]
            exact st.kept a o (stB.kept a o h n nt) (by simpa [Rg.hide] using n) nt
          · show (ρ2.s ++ [u])[S2.length]? = some u
            rw [← rs2.len, List.getElem?_append_right (Nat.le_refl _)]
            simp
      | _ => exact p.elim
end
end Mi
end T_SimA
section T_SimB
set_option Elab.async false
set_option linter.all false
set_option maxRecDepth 100000
set_option maxHeartbeats 4000000
/-! SimB: dict comprehensions, walks over lists of the store, join. -/
namespace Mi
open PySem PySem.Spec PyProof.Rows L2
/-! ### the mirror -/
def dcGo (g : TGm) (t : EB) (ek ev : EX) (δ : En) : List Dv → List (Key × Dv) → Sto → Res (List (Key × Dv))
  | [], acc, S => .ok acc S
  | d :: r, acc, S => match g d δ S with
    | none => .bad
    | some (δ1, S1) => match t δ1 S1 with
      | .ok true S2 => (match ek δ1 S2 with
        | .ok y S3 => (match ev δ1 S3 with
          | .ok z S4 => (match keyOf y with
            | some k => dcGo g t ek ev δ r (putD acc k z) S4
            | none => .bad)
          | _ => .bad)
        | _ => .bad)
      | .ok false S2 => dcGo g t ek ev δ r acc S2
      | _ => .bad
def dcOk (r : Res (List (Key × Dv))) : Res Dv := match r with
  | .ok ds S => .ok (.dct ds) S
  | _ => .bad
def dcEnd (g : TGm) (t : EB) (ek ev : EX) (δ : En) (ds : List Dv) (S : Sto) : Res Dv := if ds.length ≤ lim then dcOk (dcGo g t ek ev δ ds [] S) else .bad
def eDc (it : EA) (g : TGm) (t : EB) (ek ev : EX) (vs : List Nat) : EX := fun δ => (it δ).bind fun ds => dcEnd g t ek ev (wipeD δ vs) ds
/-- for .. in a list of the store, as it stands at each turn -/
def nxL (S : Sto) (n i : Nat) : Option (Option Dv) := match S[n]? with
  | some (.lst ds) => some ds[i]?
  | _ => none
def forLGo (n : Nat) (g : TGm) (body : SM) : Nat → Nat → En → Sto → SR
  | 0, _, _, _ => .bad
  | f + 1, i, δ, S => match nxL S n i with
    | none => .bad
    | some none => .nx δ S
    | some (some d) => match g d δ S with
      | none => .bad
      | some (δ1, S1) => match body δ1 S1 with
        | .nx δ' S' => forLGo n g body f (i + 1) δ' S'
        | .ct δ' S' => forLGo n g body f (i + 1) δ' S'
        | .bk δ' S' => .nx δ' S'
        | .rt d S' => .rt d S'
        | .ex x δ' S' => .ex x δ' S'
        | .bad => .bad
/-- for .. in e, e a list of the store | any other row -/
def forE (g : TGm) (body : SM) (d : Dv) (δ : En) (S : Sto) : SR := match d with
  | .loc n => forLGo n g body lim 0 δ S
  | d => onOk (mItems d S) δ fun ds S' => forGo g body ds δ S'
def sForE (e : EX) (g : TGm) (body : SM) : SM := fun δ S => onOk (e δ S) δ fun d S' => forE g body d δ S'
def lcLGo (n : Nat) (g : TGm) (t : EB) (e : EX) (δ : En) : Nat → Nat → List Dv → Sto → Res (List Dv)
  | 0, _, _, _ => .bad
  | f + 1, i, acc, S => match nxL S n i with
    | none => .bad
    | some none => .ok acc S
    | some (some d) => match g d δ S with
      | none => .bad
      | some (δ1, S1) => match t δ1 S1 with
        | .ok true S2 => (match e δ1 S2 with
          | .ok y S3 => lcLGo n g t e δ f (i + 1) (acc ++ [y]) S3
          | _ => .bad)
        | .ok false S2 => lcLGo n g t e δ f (i + 1) acc S2
        | _ => .bad
def lcE (g : TGm) (t : EB) (e : EX) (δ : En) (d : Dv) : M Dv := fun S => match d with
  | .loc n => lcOk (lcLGo n g t e δ lim 0 [] S)
  | d => (match mItems d S with
    | .ok ds S' => lcEnd g t e δ ds S'
    | _ => .bad)
def eLcE (a : EX) (g : TGm) (t : EB) (e : EX) (vs : List Nat) : EX := fun δ => (a δ).bind fun d => lcE g t e (wipeD δ vs) d
section
variable {G : Gx} {W : WX} {X : Cx} {tg : Expr} {pos : Pos}
/-! ### dict comprehensions -/
theorem t_dc {mi : EA} {ws vs : List Nat} {g : TGm} {mt : EB} {mk me : EX} {σ : L2.St} {H : Hp} {Q : VK} (hxn : G.xc = none ∧ G.fx = none) (hw : ∀ j ∈ ws, j ∈ vs) (q : tE G W (eDc mi g mt mk me vs) σ H Q) : tDc (tI G W mi) (tG G ws g) (tB G W0 mt) (tE G W0 mk) (tE G W0 me) vs σ H Q := by
  obtain ⟨ρ, δ, S, cf, p⟩ := q
  refine ⟨ρ, δ, S, cf, (Post.bind p).mono fun J H1 ⟨ρ1, S1, ds, s1, rs1, rj, p1⟩ D hD => ?_⟩
  have cf1 := cf.step s1 rs1
  have p1 : Post G W σ (vr G) ρ1 H1 (if ds.length ≤ lim then dcOk (dcGo g mt mk me (wipeD δ vs) ds [] S1) else .bad) Q := p1
  by_cases hlim : ds.length ≤ lim
  · rw [if_pos hlim] at p1
    refine ⟨fun i m H' => m = ds.length - i ∧ i ≤ ds.length ∧ ∃ ρ' S' acc av, StB ρ1 H1 ρ' H' ∧ ρ'.b = ρ1.b ++ [D] ∧ RS G ρ' H' S' ∧ H' D = some (.dK av) ∧ (av.map (·.1) = acc.map (·.1) ∧ RvA G.K ρ' H' (av.map (·.2)) (acc.map (·.2))) ∧ av.length ≤ i ∧
      Post G W σ (vr G) ρ1 H1 (dcOk (dcGo g mt mk me (wipeD δ vs) (ds.drop i) acc S')) Q, ⟨ds.length, by simp, Nat.zero_le _, ρ1.hide D, S1, [], [], ?_, rfl, rs1.hide hD, upd_same, ⟨rfl, .nil⟩, Nat.le_refl _, by simpa using p1⟩, ?_⟩
    · exact ⟨⟨[], by simp [Rg.hide], fun _ z => nomatch z⟩, ⟨[D], rfl, fun a m => by rw [List.mem_singleton.mp m]; exact Nw.of hD⟩, (Stp.new (ρ := ρ1) hD).kept⟩
    rintro i m H' ⟨rfl, hi, ρ', S', acc, av, s', eb, rs', hd', ra, hl, p'⟩
    have mD : D ∈ ρ'.b := by rw [eb]; simp
    by_cases hlt : i < ds.length
    · have e0 : ds.drop i = ds[i] :: ds.drop (i + 1) := List.drop_eq_getElem_cons hlt
      rw [e0] at p'
      obtain ⟨g1, g2⟩ := rj.go ρ' H' S' i ds[i] s' rs' (List.getElem?_eq_getElem hlt)
      refine .inr ⟨g1, fun H'' => ∃ ρ'' S'' acc'' av'', StB ρ1 H1 ρ'' H'' ∧ ρ''.b = ρ1.b ++ [D] ∧ RS G ρ'' H'' S'' ∧ H'' D = some (.dK av'') ∧ (av''.map (·.1) = acc''.map (·.1) ∧ RvA G.K ρ'' H'' (av''.map (·.2)) (acc''.map (·.2))) ∧ av''.length ≤ i + 1 ∧
        Post G W σ (vr G) ρ1 H1 (dcOk (dcGo g mt mk me (wipeD δ vs) (ds.drop (i + 1)) acc'' S'')) Q, ?_, fun x H2 hy => ?_⟩
      · rintro H'' ⟨ρ'', S'', acc'', av'', q1, q2, q3, q4, q5, q6, q7⟩
        exact ⟨ds.length - (i + 1), by omega, rfl, hlt, ρ'', S'', acc'', av'', q1, q2, q3, q4, q5, q6, q7⟩
      · obtain ⟨t1, t2, t3⟩ := g2 x H2 hy
        refine ⟨ρ', wipeD δ vs, S', ds[i], cf1.wipe (s'.trans t1) t2 vs hxn, t3, ?_⟩
        unfold dcGo at p'
        cases e : g ds[i] (wipeD δ vs) S' with
        | none =>
          rw [e] at p'
          exact p'.elim
        | some z =>
          obtain ⟨δ3, S3⟩ := z
          rw [e] at p'
          intro σ3 H3 ρ3 s3 c3 b3
          refine ⟨wipe_but b3 hw, ρ3, δ3, S3, c3, ?_⟩
          dsimp only at p'
          cases e2 : mt δ3 S3 with
          | bad =>
            rw [e2] at p'
            exact p'.elim
          | ex x S4 =>
            rw [e2] at p'
            exact p'.elim
          | ok b S4 =>
            rw [e2] at p'
            intro b' H4 ρ4 s4 rs4 eb'
            have eb2 : b' = b := eb'
            subst eb2
            have st4 : Stp ρ' H' ρ4 H4 := (t1.trans s3).trans s4
            have hD4 : H4 D = some (.dK av) := st4.kept _ _ hd' (rs'.bt D mD).1 (fun _ z => nomatch z)
            cases b' with
            | false =>
              show ∃ ρ'' S'' acc'' av'', _
              exact ⟨ρ4, S4, acc, av, s'.trans st4, by rw [st4.pb, eb], rs4, hD4, ⟨ra.1, ra.2.step st4⟩, by omega, p'⟩
            | true =>
              refine ⟨ρ4, δ3, S4, c3.step s4 rs4, ?_⟩
              dsimp only at p'
              cases e3 : mk δ3 S4 with
              | bad =>
                rw [e3] at p'
                exact p'.elim
              | ex x S5 =>
                rw [e3] at p'
                exact p'.elim
              | ok y S5 =>
                rw [e3] at p'
                intro v H5 ρ5 s5 rs5 rv
                refine ⟨ρ5, δ3, S5, (c3.step s4 rs4).step s5 rs5, ?_⟩
                dsimp only at p'
                cases e4 : me δ3 S5 with
                | bad =>
                  rw [e4] at p'
                  exact p'.elim
                | ex x S6 =>
                  rw [e4] at p'
                  exact p'.elim
                | ok z S6 =>
                  rw [e4] at p'
                  intro vz H6 ρ6 s6 rs6 rvz
                  dsimp only at p'
                  cases e5 : keyOf y with
                  | none =>
                    rw [e5] at p'
                    exact p'.elim
                  | some k =>
                    rw [e5] at p'
                    have hv := key_rel rv e5
                    subst hv
                    have st6 : Stp ρ' H' ρ6 H6 := (st4.trans s5).trans s6
                    have hD6 : H6 D = some (.dK av) := st6.kept _ _ hd' (rs'.bt D mD).1 (fun _ z => nomatch z)
                    have mD6 : D ∈ ρ6.b := by rw [st6.pb]; exact mD
                    have ag : Agr ρ6 H6 ρ6 (upd H6 D (.dK (putK av k vz))) := ⟨rfl, fun _ z => z, fun a n => upd_ne fun e => n.2 (by rw [e]; exact mD6)⟩
                    obtain ⟨r1, r2⟩ := put_rel rvz k ra.1 (ra.2.step st6)
                    have hlp := length_putK av k vz
                    refine ⟨av, k, rfl, hD6, lim_lt (by omega), ρ6, S6, putD acc k z, putK av k vz, ?_, by rw [st6.pb, eb], ?_, upd_same, ⟨r1, r2.agr ag⟩, by omega, p'⟩
                    · have z5 := s'.trans st6
                      exact ⟨z5.pre, z5.pb, fun a o h n nt => by rw [upd_ne (ne_of_none h hD)]; exact z5.kept a o h n nt⟩
                    · have np := (rs6.bt D mD6).1
                      refine ⟨rs6.len, rs6.nd, fun a m => ⟨(rs6.bt a m).1, ?_⟩, fun n a ob e1 e2 => (rs6.ob n a ob e1 e2).agr ag (upd_ne fun e => np (by rw [← e]; exact List.mem_of_getElem? e1)), tabs_put rs6.tab hD6 (fun _ z => by cases z) (fun _ _ z => by cases z), rs6.xok.agr ag⟩
                      by_cases e : a = D
                      · exact ⟨_, by rw [e, upd_same], fun _ z => (by cases z), fun _ _ z => (by cases z)⟩
                      · obtain ⟨u, q, pv⟩ := (rs6.bt a m).2
                        exact ⟨u, by rw [upd_ne e]; exact q, pv⟩
    · have ei : i = ds.length := by omega
      subst ei
      rw [List.drop_length] at p'
      refine .inl ⟨rj.stop ρ' H' s', ?_⟩
      have oD : D ∉ ρ1.b := fun m => by
        obtain ⟨u, z, _⟩ := (rs1.bt D m).2
        rw [hD] at z
        cases z
      have ag : Agr ρ' H' ⟨ρ'.s, ρ1.b⟩ H' := ⟨rfl, fun a n => ⟨n.1, fun m => n.2 (by rw [eb]; exact List.mem_append_left _ m)⟩, fun _ _ => rfl⟩
      refine p' (.ref D) H' ⟨ρ'.s, ρ1.b⟩ ⟨s'.pre, rfl, s'.kept⟩ (rs'.show rfl eb) (.dct hd' ⟨(rs'.bt D mD).1, oD⟩ ra.1 (ra.2.agr ag))
  · rw [if_neg hlim] at p1
    exact p1.elim
theorem re_dc {kx vx iter : Expr} {ifs : List Expr} {scope : Scope} {own : List (Str × Nat)} {ws : List Nat} {g : TGm} {mt : EB} {mi : EA} {mk me : EX} (hc : X.calm = true) (hN : X.N.Nodup) (hi : PI X tg iter (tI G W mi)) (ok : BlkOk X.N X.env.scope scope own)
    (hg : ∀ (s : Shared) (H : Hp) (C : Addr) (cl : List (Str × Addr)) (fp : List Addr), PG (X.blk s H scope (compEnvC scope cl C X.env) fp) tg (tG G ws g)) (ht : ∀ (s : Shared) (H : Hp) (C : Addr) (cl : List (Str × Addr)) (fp : List Addr), PTs (X.blk s H scope (compEnvC scope cl C X.env) fp) ifs (tB G W0 mt))
    (hk : ∀ (s : Shared) (H : Hp) (C : Addr) (cl : List (Str × Addr)) (fp : List Addr), PE (X.blk s H scope (compEnvC scope cl C X.env) fp) kx (tE G W0 mk))
    (he : ∀ (s : Shared) (H : Hp) (C : Addr) (cl : List (Str × Addr)) (fp : List Addr), PE (X.blk s H scope (compEnvC scope cl C X.env) fp) vx (tE G W0 me)) (hw : ∀ j ∈ ws, j ∈ own.map (·.2)) (hs : ∀ x, foldedSetIterable iter X.env x = pure x := by intro _; rfl) (hxn : G.xc = none ∧ G.fx = none := by exact ⟨rfl, rfl⟩) :
    PE X (.DictComp kx vx [⟨tg, iter, ifs, 0⟩] scope pos) (tE G W (eDc mi g mt mk me (own.map (·.2)))) := (pe_dc hc hN hi ok hg ht hk he hs).imp fun σ H Q q => t_dc hxn hw q
/-! ### walks over lists of the store -/
theorem itl_go {ρ : Rg} {H : Hp} {S : Sto} {n i : Nat} {a : Addr} {d : Dv} (rs : RS G ρ H S) (hn : ρ.s[n]? = some a) (h : nxL S n i = some (some d)) : (Itl G.K a).go i H ∧ ∀ x H2, (Itl G.K a).yld i H x H2 → H2 = H ∧ Rv G.K ρ H x d := by
  unfold nxL at h
  obtain ⟨ob, h1, h2⟩ := rs.at hn
  rw [h1] at h
  cases ob with
  | lst ds =>
    obtain ⟨vs, q1, q2⟩ := h2
    obtain ⟨v, e1, e2⟩ := q2.get (Option.some.inj h)
    have sq : SqL G.K H a vs := SqL.of q1
    exact ⟨⟨vs, v, sq, e1⟩, fun x H2 ⟨e3, e4⟩ => by
      have e5 := (e4 vs sq).symm.trans e1
      cases e5
      exact ⟨e3, e2⟩⟩
  | _ => cases h
theorem itl_stop {ρ : Rg} {H : Hp} {S : Sto} {n i : Nat} {a : Addr} (rs : RS G ρ H S) (hn : ρ.s[n]? = some a) (h : nxL S n i = some none) : (Itl G.K a).stop i H := by
  unfold nxL at h
  obtain ⟨ob, h1, h2⟩ := rs.at hn
  rw [h1] at h
  cases ob with
  | lst ds =>
    obtain ⟨vs, q1, q2⟩ := h2
    have e : ds[i]? = none := Option.some.inj h
    exact ⟨vs, SqL.of q1, by rw [q2.length]; exact List.getElem?_eq_none_iff.mp e⟩
  | _ => cases h
theorem loc_of {ρ : Rg} {H : Hp} {v : V} {n : Nat} (r : Rv G.K ρ H v (.loc n)) : ∃ a, v = .ref a ∧ ρ.s[n]? = some a := by
  cases r with
  | loc h => exact ⟨_, rfl, h⟩
theorem rs_forL {e : Expr} {body : List Stmt} {vs : List Nat} {g : TGm} {mb : SM} {me : EX} (hK : X.K = G.K) (hp : PassesOwn (model X.prog X.w) X.A X.env X.xe) (hc : X.calm = true) (he : PE X e (tE G W me)) (hg : PG X tg (tG G vs g)) (hb : PSs X body (tS G W mb))
    (hs : ∀ x, foldedSetIterable e X.env x = pure x := by intro _; rfl) : PS X (.For tg e body [] pos) (tS G W (sForE me g mb)) := by
  have hA := rs_for (G := G) (W := W) (pos := pos) hp hc (ri_of hK he) hg hb hs
  have hB := ps_for (pos := pos) hp hc (pi_list (tg := tg) he) hg hb hs
  refine ⟨fun pins s σ H D I q => ?_⟩
  obtain ⟨ρ, δ, S, cf, p⟩ := q
  unfold sForE at p
  have viaA : (∀ n S1, me δ S ≠ .ok (.loc n) S1) → PostS G W ρ H (sFor (iOf me) g mb δ S) D := fun hno => by
    unfold sFor iOf M.bind
    cases ed : me δ S with
    | bad => rw [ed] at p; exact p
    | ex x S1 => rw [ed] at p; exact p
    | ok d S1 =>
      rw [ed] at p
      cases d with
      | loc n => exact absurd ed (hno n S1)
      | _ => exact p
  by_cases hl : ∃ n S1, me δ S = .ok (.loc n) S1
  · obtain ⟨n, S1, ed⟩ := hl
    refine hB.run pins s σ H D I ⟨ρ, δ, S, cf, ?_⟩
    rw [ed] at p ⊢
    intro v H1 ρ1 s1 rs1 rv
    obtain ⟨a, rfl, hn⟩ := loc_of rv
    have p1 : PostS G W ρ1 H1 (forLGo n g mb lim 0 δ S1) D := PostS.step s1 p
    obtain ⟨ob, h1, h2⟩ := rs1.at hn
    cases ob with
    | dK ds =>
      have z : nxL S1 n 0 = none := by unfold nxL; rw [h1]
      unfold forLGo at p1
      rw [z] at p1
      exact p1.elim
    | dT ds =>
      have z : nxL S1 n 0 = none := by unfold nxL; rw [h1]
      unfold forLGo at p1
      rw [z] at p1
      exact p1.elim
    | ins c fs =>
      have z : nxL S1 n 0 = none := by unfold nxL; rw [h1]
      unfold forLGo at p1
      rw [z] at p1
      exact p1.elim
    | lst ds0 =>
      obtain ⟨vs0, q1, q2⟩ := h2
      refine ⟨a, rfl, ⟨vs0, SqL.of q1⟩, ?_⟩
      rw [hK]
      refine ⟨fun i m σ' H' => ∃ ρ' δ' S', ρ'.s[n]? = some a ∧ Cf G ρ' H' σ' δ' S' ∧ PostS G W ρ' H' (forLGo n g mb m i δ' S') D, ⟨lim, ρ1, δ, S1, hn, cf.step s1 rs1, p1⟩, ?_⟩
      rintro i m σ' H' ⟨ρ', δ', S', hn', c', p'⟩
      cases m with
      | zero => exact p'.elim
      | succ m =>
        unfold forLGo at p'
        cases en : nxL S' n i with
        | none => rw [en] at p'; exact p'.elim
        | some o =>
          rw [en] at p'
          cases o with
          | none => exact .inl ⟨itl_stop c'.rs hn' en, p' σ' H' ρ' Stp.refl c'⟩
          | some d =>
            obtain ⟨g1, g2⟩ := itl_go c'.rs hn' en
            refine .inr ⟨g1, fun σ'' H'' => ∃ ρ'' δ'' S'', ρ''.s[n]? = some a ∧ Cf G ρ'' H'' σ'' δ'' S'' ∧ PostS G W ρ'' H'' (forLGo n g mb m (i + 1) δ'' S'') D, fun σ'' H'' q => ⟨m, Nat.lt_succ_self m, q⟩, fun x H2 hy => ?_⟩
            obtain ⟨rfl, t3⟩ := g2 x H2 hy
            refine ⟨ρ', δ', S', d, c', t3, ?_⟩
            dsimp only at p'
            cases e : g d δ' S' with
            | none =>
              rw [e] at p'
              exact p'
            | some z =>
              obtain ⟨δ1, S3⟩ := z
              rw [e] at p'
              intro σ3 H3 ρ3 s3 c3 _
              refine ⟨ρ3, δ1, S3, c3, ?_⟩
              dsimp only at p'
              cases e2 : mb δ1 S3 with
              | nx δ4 S4 =>
                rw [e2] at p'
                exact fun σ4 H4 ρ4 s4 c4 => ⟨ρ4, δ4, S4, (s3.trans s4).get hn', c4, PostS.step (s3.trans s4) p'⟩
              | ct δ4 S4 =>
                rw [e2] at p'
                exact fun σ4 H4 ρ4 s4 c4 => ⟨ρ4, δ4, S4, (s3.trans s4).get hn', c4, PostS.step (s3.trans s4) p'⟩
              | bk δ4 S4 =>
                rw [e2] at p'
                exact fun σ4 H4 ρ4 s4 c4 => p' σ4 H4 ρ4 (s3.trans s4) c4
              | rt d S4 =>
                rw [e2] at p'
                exact fun v H4 ρ4 s4 c4 r4 => p' v H4 ρ4 (s3.trans s4) c4 r4
              | ex x δ4 S4 =>
                rw [e2] at p'
                exact fun c dx σ4 H4 ρ4 s4 c4 r4 => p' c dx σ4 H4 ρ4 (s3.trans s4) c4 r4
              | bad =>
                rw [e2] at p'
                exact p'
  · exact hA.run pins s σ H D I ⟨ρ, δ, S, cf, viaA fun n S1 e => hl ⟨n, S1, e⟩⟩
end
end Mi
end T_SimB
section T_SimC
set_option Elab.async false
set_option linter.all false
set_option maxRecDepth 100000
set_option maxHeartbeats 4000000
/-! SimC: comprehensions over a list of the store, join. -/
namespace Mi
open PySem PySem.Spec PyProof.Rows L2
section
variable {G : Gx} {W : WX} {X : Cx} {tg : Expr} {pos : Pos} {me : EX}
theorem t_lcL {ma : EX} {ws vs : List Nat} {g : TGm} {mt : EB} {σ : L2.St} {H : Hp} {Q : VK} {ρ : Rg} {δ : En} {S S0 : Sto} {n : Nat} (hK : X.K = G.K) (hxn : G.xc = none ∧ G.fx = none) (hw : ∀ j ∈ ws, j ∈ vs) (cf : Cf G ρ H σ δ S) (ed : ma δ S = .ok (.loc n) S0)
    (p : Post G W σ (vr G) ρ H (lcOk (lcLGo n g mt me (wipeD δ vs) lim 0 [] S0)) Q) : tLc (iList X.K (tE G W ma)) (tG G ws g) (tB G W0 mt) (tE G W0 me) vs σ H Q := by
  refine ⟨ρ, δ, S, cf, ?_⟩
  rw [ed]
  intro v H1 ρ1 s1 rs1 rv
  obtain ⟨a, rfl, hn⟩ := loc_of rv
  have p1 : Post G W σ (vr G) ρ1 H1 (lcOk (lcLGo n g mt me (wipeD δ vs) lim 0 [] S0)) Q := p.step s1
  have cf1 := cf.step s1 rs1
  obtain ⟨ob, h1, h2⟩ := rs1.at hn
  cases ob with
  | dK ds =>
    have z : nxL S0 n 0 = none := by unfold nxL; rw [h1]
    unfold lcLGo at p1
    rw [z] at p1
    exact p1.elim
  | dT ds =>
    have z : nxL S0 n 0 = none := by unfold nxL; rw [h1]
    unfold lcLGo at p1
    rw [z] at p1
    exact p1.elim
  | ins c fs =>
    have z : nxL S0 n 0 = none := by unfold nxL; rw [h1]
    unfold lcLGo at p1
    rw [z] at p1
    exact p1.elim
  | lst ds0 =>
    obtain ⟨vs0, q1, q2⟩ := h2
    refine ⟨a, rfl, ⟨vs0, SqL.of q1⟩, ?_⟩
    rw [hK]
    intro D hD
    refine ⟨fun i m H' => i + m = lim ∧ ∃ ρ' S' acc av, ρ'.s[n]? = some a ∧ StB ρ1 H1 ρ' H' ∧ ρ'.b = ρ1.b ++ [D] ∧ RS G ρ' H' S' ∧ H' D = some (.lst av) ∧ RvA G.K ρ' H' av acc ∧ acc.length ≤ i ∧
      Post G W σ (vr G) ρ1 H1 (lcOk (lcLGo n g mt me (wipeD δ vs) m i acc S')) Q, ⟨lim, Nat.zero_add _, ρ1.hide D, S0, [], [], hn, ?_, rfl, rs1.hide hD, upd_same, .nil, Nat.le_refl _, p1⟩, ?_⟩
    · exact ⟨⟨[], by simp [Rg.hide], fun _ z => nomatch z⟩, ⟨[D], rfl, fun a m => by rw [List.mem_singleton.mp m]; exact Nw.of hD⟩, (Stp.new (ρ := ρ1) hD).kept⟩
    rintro i m H' ⟨him, ρ', S', acc, av, hn', s', eb, rs', hd', ra, hl, p'⟩
    have mD : D ∈ ρ'.b := by rw [eb]; simp
    cases m with
    | zero => exact p'.elim
    | succ m =>
      unfold lcLGo at p'
      cases en : nxL S' n i with
      | none => rw [en] at p'; exact p'.elim
      | some o =>
        rw [en] at p'
        cases o with
        | none =>
          refine .inl ⟨itl_stop rs' hn' en, ?_⟩
          have oD : D ∉ ρ1.b := fun m => by
            obtain ⟨u, z, _⟩ := (rs1.bt D m).2
            rw [hD] at z
            cases z
          have ag : Agr ρ' H' ⟨ρ'.s, ρ1.b⟩ H' := ⟨rfl, fun a n => ⟨n.1, fun m => n.2 (by rw [eb]; exact List.mem_append_left _ m)⟩, fun _ _ => rfl⟩
          exact p' (.ref D) H' ⟨ρ'.s, ρ1.b⟩ ⟨s'.pre, rfl, s'.kept⟩ (rs'.show rfl eb) (.lst hd' ⟨(rs'.bt D mD).1, oD⟩ (ra.agr ag))
        | some d =>
          obtain ⟨g1, g2⟩ := itl_go rs' hn' en
          refine .inr ⟨g1, fun H'' => ∃ ρ'' S'' acc'' av'', ρ''.s[n]? = some a ∧ StB ρ1 H1 ρ'' H'' ∧ ρ''.b = ρ1.b ++ [D] ∧ RS G ρ'' H'' S'' ∧ H'' D = some (.lst av'') ∧ RvA G.K ρ'' H'' av'' acc'' ∧ acc''.length ≤ i + 1 ∧
            Post G W σ (vr G) ρ1 H1 (lcOk (lcLGo n g mt me (wipeD δ vs) m (i + 1) acc'' S'')) Q, ?_, fun x H2 hy => ?_⟩
          · rintro H'' q
            exact ⟨m, Nat.lt_succ_self m, by omega, q⟩
          · obtain ⟨rfl, t3⟩ := g2 x H2 hy
            refine ⟨ρ', wipeD δ vs, S', d, cf1.wipe s' rs' vs hxn, t3, ?_⟩
            dsimp only at p'
            cases e : g d (wipeD δ vs) S' with
            | none =>
              rw [e] at p'
              exact p'.elim
            | some z =>
              obtain ⟨δ3, S3⟩ := z
              rw [e] at p'
              intro σ3 H3 ρ3 s3 c3 b3
              refine ⟨wipe_but b3 hw, ρ3, δ3, S3, c3, ?_⟩
              dsimp only at p'
              cases e2 : mt δ3 S3 with
              | bad =>
                rw [e2] at p'
                exact p'.elim
              | ex x S4 =>
                rw [e2] at p'
                exact p'.elim
              | ok b S4 =>
                rw [e2] at p'
                intro b' H4 ρ4 s4 rs4 eb'
                have eb2 : b' = b := eb'
                subst eb2
                have st4 := s3.trans s4
                have hD4 : H4 D = some (.lst av) := st4.kept _ _ hd' (rs'.bt D mD).1 (fun _ z => nomatch z)
                cases b' with
                | false =>
                  show ∃ ρ'' S'' acc'' av'', _
                  exact ⟨ρ4, S4, acc, av, st4.get hn', s'.trans st4, by rw [st4.pb, eb], rs4, hD4, ra.step st4, by omega, p'⟩
                | true =>
                  refine ⟨ρ4, δ3, S4, c3.step s4 rs4, ?_⟩
                  dsimp only at p'
                  cases e3 : me δ3 S4 with
                  | bad =>
                    rw [e3] at p'
                    exact p'.elim
                  | ex x S5 =>
                    rw [e3] at p'
                    exact p'.elim
                  | ok y S5 =>
                    rw [e3] at p'
                    intro v H5 ρ5 s5 rs5 rv
                    have st5 := st4.trans s5
                    have hD5 : H5 D = some (.lst av) := st5.kept _ _ hd' (rs'.bt D mD).1 (fun _ z => nomatch z)
                    have mD5 : D ∈ ρ5.b := by rw [st5.pb]; exact mD
                    have ag : Agr ρ5 H5 ρ5 (upd H5 D (.lst (av ++ [v]))) := ⟨rfl, fun _ z => z, fun a n => upd_ne fun e => n.2 (by rw [e]; exact mD5)⟩
                    have el := ra.length
                    refine ⟨av, hD5, lim_lt (by omega), ρ5, S5, acc ++ [y], av ++ [v], st5.get hn', ?_, by rw [st5.pb, eb], rs5.putB mD5 hD5, upd_same, ((ra.step st5).app (.cons rv .nil)).agr ag, by simp; omega, p'⟩
                    have z5 := s'.trans st5
                    exact ⟨z5.pre, z5.pb, fun a o h n nt => by rw [upd_ne (ne_of_none h hD)]; exact z5.kept a o h n nt⟩
/-- which of the two readings -/
theorem t_lcE {ma : EX} {ws vs : List Nat} {g : TGm} {mt : EB} {σ : L2.St} {H : Hp} {Q : VK} (hK : X.K = G.K) (hxn : G.xc = none ∧ G.fx = none) (hw : ∀ j ∈ ws, j ∈ vs) (q : tE G W (eLcE ma g mt me vs) σ H Q) :
    tLc (iList X.K (tE G W ma)) (tG G ws g) (tB G W0 mt) (tE G W0 me) vs σ H Q ∨ tLc (tI G W (iOf ma)) (tG G ws g) (tB G W0 mt) (tE G W0 me) vs σ H Q := by
  obtain ⟨ρ, δ, S, cf, p⟩ := q
  unfold eLcE M.bind at p
  by_cases hl : ∃ n S1, ma δ S = .ok (.loc n) S1
  · obtain ⟨n, S1, ed⟩ := hl
    rw [ed] at p
    exact .inl (t_lcL hK hxn hw cf ed p)
  · refine .inr (t_lc hxn hw ⟨ρ, δ, S, cf, ?_⟩)
    unfold eLc iOf M.bind
    cases ed : ma δ S with
    | bad => rw [ed] at p; exact p
    | ex x S1 => rw [ed] at p; exact p
    | ok d S1 =>
      rw [ed] at p
      cases d with
      | loc n => exact absurd ⟨n, S1, ed⟩ hl
      | _ => exact p
theorem re_lcE {elt e : Expr} {ifs : List Expr} {scope : Scope} {own : List (Str × Nat)} {ws : List Nat} {g : TGm} {mt : EB} {ma : EX} (hK : X.K = G.K) (hc : X.calm = true) (hN : X.N.Nodup) (ha : PE X e (tE G W ma)) (ok : BlkOk X.N X.env.scope scope own)
    (hg : ∀ (s : Shared) (H : Hp) (C : Addr) (cl : List (Str × Addr)) (fp : List Addr), PG (X.blk s H scope (compEnvC scope cl C X.env) fp) tg (tG G ws g)) (ht : ∀ (s : Shared) (H : Hp) (C : Addr) (cl : List (Str × Addr)) (fp : List Addr), PTs (X.blk s H scope (compEnvC scope cl C X.env) fp) ifs (tB G W0 mt))
    (he : ∀ (s : Shared) (H : Hp) (C : Addr) (cl : List (Str × Addr)) (fp : List Addr), PE (X.blk s H scope (compEnvC scope cl C X.env) fp) elt (tE G W0 me)) (hw : ∀ j ∈ ws, j ∈ own.map (·.2)) (hs : ∀ x, foldedSetIterable e X.env x = pure x := by intro _; rfl) (hxn : G.xc = none ∧ G.fx = none := by exact ⟨rfl, rfl⟩) :
    PE X (.ListComp elt [⟨tg, e, ifs, 0⟩] scope pos) (tE G W (eLcE ma g mt me (own.map (·.2)))) :=
  ⟨fun pins s σ H Q I q => (t_lcE hK hxn hw q).elim (fun q => (pe_lc hc hN (pi_list (tg := tg) ha) ok hg ht he hs).run pins s σ H Q I q) fun q => (pe_lc hc hN (ri_of hK ha) ok hg ht he hs).run pins s σ H Q I q⟩
theorem rs_setLcE {i : Nat} {y : Str} {py spos : Pos} {elt e : Expr} {ifs : List Expr} {scope : Scope} {own : List (Str × Nat)} {ws : List Nat} {g : TGm} {mt : EB} {ma : EX} (hK : X.K = G.K) (hc : X.calm = true) (hN : X.N.Nodup) (hy : X.N[i]? = some y) (hyl : X.env.scope.names.lookup y = some .local)
    (hsw : swapsWith (.ListComp elt [⟨tg, e, ifs, 0⟩] scope pos) (some (.Name y py)) spos.line X.env = pure true) (ha : PE X e (tE G W ma)) (ok : BlkOk X.N X.env.scope scope own)
    (hg : ∀ (s : Shared) (H : Hp) (C : Addr) (cl : List (Str × Addr)) (fp : List Addr), PG (X.blk s H scope (compEnvC scope cl C X.env) fp) tg (tG G ws g)) (ht : ∀ (s : Shared) (H : Hp) (C : Addr) (cl : List (Str × Addr)) (fp : List Addr), PTs (X.blk s H scope (compEnvC scope cl C X.env) fp) ifs (tB G W0 mt))
    (he : ∀ (s : Shared) (H : Hp) (C : Addr) (cl : List (Str × Addr)) (fp : List Addr), PE (X.blk s H scope (compEnvC scope cl C X.env) fp) elt (tE G W0 me)) (hw : ∀ j ∈ ws, j ∈ own.map (·.2)) (hs : ∀ x, foldedSetIterable e X.env x = pure x := by intro _; rfl) (hxn : G.xc = none ∧ G.fx = none := by exact ⟨rfl, rfl⟩) :
    PS X (.Assign [.Name y py] (.ListComp elt [⟨tg, e, ifs, 0⟩] scope pos) spos) (tS G W (sSet i (eLcE ma g mt me (own.map (·.2))))) :=
  ⟨fun pins s σ H D I q => by
    have q2 := t_set (G := G) (W := W) (slotOk_none hxn) q
    rcases t_lcE (X := X) hK hxn hw q2 with q3 | q3
    · exact (ps_setLc hc hN hy hyl hsw (pi_list (tg := tg) ha) ok hg ht he hs).run pins s σ H D I q3
    · exact (ps_setLc hc hN hy hyl hsw (ri_of hK ha) ok hg ht he hs).run pins s σ H D I q3⟩
/-! ### join -/
def strsOf : List Dv → Option (List Str)
  | [] => some []
  | .str x :: r => (strsOf r).map (x :: ·)
  | _ :: _ => none
/-- the items of a list, a tuple -/
def asT (S : Sto) : Dv → Option (List Dv)
  | .tup xs => some xs
  | l => asC S l
def mJoin (d : Dv) (ds : List Dv) : M Dv := fun S => match d, ds with
  | .str a, [l] => (match asT S l with
    | some xs => (match strsOf xs with
      | some ys => if (ys.map (·.length)).sum + ys.length * a.length ≤ lim then .ok (.str (Str.join a ys)) S else .bad
      | none => .bad)
    | none => .bad)
  | _, _ => .bad
def eJoin (o a : EX) : EX := fun δ => (o δ).bind fun d S => match d with
  | .str x => ((a δ).bind fun l => mJoin (.str x) [l]) S
  | _ => .bad
theorem strs_rel {ρ : Rg} {H : Hp} : ∀ {ds : List Dv} {vs : List V} {ys : List Str}, RvA G.K ρ H vs ds → strsOf ds = some ys → vs = ys.map V.str ∧ ∀ y ∈ ys, OkS y
  | [], _, ys, r, h => by
    cases r
    cases h
    exact ⟨rfl, fun _ z => (nomatch z)⟩
  | d :: ds, _, ys, r, h => by
    cases r with
    | cons h1 r1 =>
      cases h1 with
      | str x hx =>
        have h' : (strsOf ds).map (x :: ·) = some ys := h
        cases e : strsOf ds with
        | none => rw [e] at h'; cases h'
        | some l =>
          rw [e] at h'
          cases h'
          obtain ⟨i1, i2⟩ := strs_rel r1 e
          refine ⟨by rw [i1]; rfl, fun y hy => ?_⟩
          rcases List.mem_cons.mp hy with z | z
          · rw [z]; exact hx
          · exact i2 y z
      | _ => cases h
end
end Mi
end T_SimC
section T_SimD
set_option Elab.async false
set_option linter.all false
set_option maxRecDepth 100000
set_option maxHeartbeats 4000000
namespace Mi
open PySem PySem.Spec PyProof.Rows L2
section
variable {G : Gx} {W : WX} {X : Cx}
theorem txtjoin {a : Str} {ys : List Str} : Txt.join a ys = Str.join a ys := StrLaws.glued_eq_join a ys
theorem re_join {o e : Expr} {mo me : EX} {apos pos : Pos} (hK : X.K = G.K) (ho : PE X o (tE G W mo)) (he : PE X e (tE G W me)) (hs : starEach [e] X.env = [(false, eval e X.env)] := by rfl) (hbase : attributeBase o "join" X.env (eval o X.env) = eval o X.env := by rfl) (hline : (apos.endLine == pos.line) = true := by rfl) :
    PE X (.Call (.Attribute o "join" apos) [e] [] pos) (tE G W (eJoin mo me)) := (pe_join ho he hs hbase hline).imp fun σ H Q q => by
  obtain ⟨ρ, δ, S, cf, p⟩ := q
  refine ⟨ρ, δ, S, cf, (Post.bind p).mono fun x H1 ⟨ρ1, S1, d, s1, rs1, rx, p1⟩ => ?_⟩
  cases rx with
  | str x hx =>
    refine ⟨⟨x, rfl⟩, ρ1, δ, S1, cf.step s1 rs1, (Post.bind (rel := vr G) p1).mono fun y H2 ⟨ρ2, S2, l, s2, rs2, ry, p2⟩ => ?_⟩
    unfold mJoin at p2
    dsimp only at p2
    have key : ∀ xs, asT S2 l = some xs → ∃ a vs, y = .ref a ∧ (SqL X.K H2 a vs ∨ SqT X.K H2 a vs) ∧ RvA G.K ρ2 H2 vs xs := fun xs h => by
      cases ry with
      | @tup a vs ds ht r =>
        cases h
        exact ⟨a, vs, rfl, .inr (by rw [hK]; exact ht.sq), r⟩
      | lst h1 n r => obtain ⟨a, vs, e1, e2, e3⟩ := asC_ok rs2 (.lst h1 n r) h; exact ⟨a, vs, e1, .inl (by rw [hK]; exact e2), e3⟩
      | con h1 r => obtain ⟨a, vs, e1, e2, e3⟩ := asC_ok rs2 (.con h1 r) h; exact ⟨a, vs, e1, .inl (by rw [hK]; exact e2), e3⟩
      | loc hn => obtain ⟨a, vs, e1, e2, e3⟩ := asC_ok rs2 (.loc hn) h; exact ⟨a, vs, e1, .inl (by rw [hK]; exact e2), e3⟩
      | _ => cases h
    cases e1 : asT S2 l with
    | none => rw [e1] at p2; exact p2.elim
    | some xs =>
      rw [e1] at p2
      dsimp only at p2
      cases e2 : strsOf xs with
      | none => rw [e2] at p2; exact p2.elim
      | some ys =>
        rw [e2] at p2
        dsimp only at p2
        split at p2
        · rename_i hl
          obtain ⟨a, vs, rfl, hq, r⟩ := key xs e1
          obtain ⟨rfl, hok⟩ := strs_rel r e2
          exact ⟨x, a, ys, rfl, rfl, hq, Nat.le_trans hl (by decide), by rw [txtjoin]; exact p2.val rs2 (.str _ (okS_join hx hok))⟩
        · exact p2.elim
  | _ => exact p1.elim
end
end Mi
end T_SimD
section T_SimE
set_option Elab.async false
set_option linter.all false
set_option maxRecDepth 100000
set_option maxHeartbeats 4000000
namespace Mi
open PySem PySem.Spec PyProof.Rows L2
section
variable {G : Gx} {W : WX} {X : Cx} {tg : Expr} {pos : Pos}
/-- y = {k: v for ..} -/
theorem rs_setDc {i : Nat} {y : Str} {py spos : Pos} {kx vx iter : Expr} {ifs : List Expr} {scope : Scope} {own : List (Str × Nat)} {ws : List Nat} {g : TGm} {mt : EB} {mi : EA} {mk me : EX} (hc : X.calm = true) (hN : X.N.Nodup) (hy : X.N[i]? = some y) (hyl : X.env.scope.names.lookup y = some .local)
    (hsw : swapsWith (.DictComp kx vx [⟨tg, iter, ifs, 0⟩] scope pos) (some (.Name y py)) spos.line X.env = pure true) (hi : PI X tg iter (tI G W mi)) (ok : BlkOk X.N X.env.scope scope own)
    (hg : ∀ (s : Shared) (H : Hp) (C : Addr) (cl : List (Str × Addr)) (fp : List Addr), PG (X.blk s H scope (compEnvC scope cl C X.env) fp) tg (tG G ws g)) (ht : ∀ (s : Shared) (H : Hp) (C : Addr) (cl : List (Str × Addr)) (fp : List Addr), PTs (X.blk s H scope (compEnvC scope cl C X.env) fp) ifs (tB G W0 mt))
    (hk : ∀ (s : Shared) (H : Hp) (C : Addr) (cl : List (Str × Addr)) (fp : List Addr), PE (X.blk s H scope (compEnvC scope cl C X.env) fp) kx (tE G W0 mk))
    (he : ∀ (s : Shared) (H : Hp) (C : Addr) (cl : List (Str × Addr)) (fp : List Addr), PE (X.blk s H scope (compEnvC scope cl C X.env) fp) vx (tE G W0 me)) (hw : ∀ j ∈ ws, j ∈ own.map (·.2)) (hs : ∀ x, foldedSetIterable iter X.env x = pure x := by intro _; rfl) (hxn : G.xc = none ∧ G.fx = none := by exact ⟨rfl, rfl⟩) :
    PS X (.Assign [.Name y py] (.DictComp kx vx [⟨tg, iter, ifs, 0⟩] scope pos) spos) (tS G W (sSet i (eDc mi g mt mk me (own.map (·.2))))) := by
  refine ⟨fun pins s σ H D I q => ?_⟩
  have q2 := t_dc hxn hw (t_set (G := G) (W := W) (slotOk_none hxn) q)
  rw [exec_Assign_Name_used _ _ _ _ hsw]
  refine wpAny_bind (wpAny_standAt (wpAny_bind ?_))
  show wpAny _ X.A (do let _ ← comprehension (.DictComp kx vx [⟨tg, iter, ifs, 0⟩] scope pos) scope X.env (firstIterPos [⟨tg, iter, ifs, 0⟩] pos) newDict false (eval iter X.env) (some (assign (.Name y py) X.env))) _ _ s
  refine wpAny_bind (thn (dc_core (Qf := fun _ s' => SP X pins D .next s') hc hN I hi ok hg ht hk he hs q2 fun L C s' m H' I' q hn f => ?_) fun _ s' hq => wpAny_pure (wpAny_pure hq))
  show wpAny _ _ (assign (.Name y py) X.env (.ref L)) _ _ _
  refine wpAny_assign_Name (store_ok2 (v := V.ref L) I' hN hy (.inl hyl) rfl (fun s2 I2 ⟨a, sb, ha⟩ => ?_) (.inr hyl))
  obtain ⟨f0, f1, f2, f3, f4, f5⟩ := f
  refine ⟨m, hn.sameBut sb (ha.elim (fun z => z ▸ f1) fun z e => f4 y a z e.symm), fun h3 sb3 => ?_⟩
  exact ⟨_, H', I2.turned (t' := s2.toks) (fun b o hb e => (sb3.2 b hb).trans e) f0 f1 f3 f4 f5, q⟩
end
end Mi
end T_SimE
section T_SimF
set_option Elab.async false
set_option linter.all false
set_option maxRecDepth 100000
set_option maxHeartbeats 4000000
/-! SimF: ({}, i) == ({}, j). -/
namespace Mi
open PySem PySem.Spec PyProof.Rows L2
def mEqX (d e : Dv) : M Dv := fun S => match d, e with
  | .tup [.dct [], .int i], .tup [.dct [], .int j] => .ok (.bl (i == j)) S
  | d, e => mEq d e S
section
variable {G : Gx} {W : WX} {X : Cx}
def rEqE : R2 := fun x y H Q => ∃ a b c d i j, x = .ref a ∧ y = .ref b ∧ H a = some (.tup [.ref c, .int i]) ∧ H b = some (.tup [.ref d, .int j]) ∧ H c = some (.dK []) ∧ H d = some (.dK []) ∧ Q (.bl (i == j)) H
theorem op_eqE (hu : X.A.units + 64 < cLine) : OpR X (compareOp .Eq) rEqE := by
  intro pins s σ H x y v u Q I rx ry h
  obtain ⟨a, b, c, d, i, j, rfl, rfl, ha, hb, hc, hd, q⟩ := h
  cases rx
  cases ry
  obtain ⟨its, r1, t1, _⟩ := I.tuple (show SqT X.K H a [.ref c, .int i] from .inl (.inl ha))
  obtain ⟨its2, r2, t2, _⟩ := I.tuple (show SqT X.K H b [.ref d, .int j] from .inl (.inl hb))
  obtain ⟨u1, u2, rfl, e1, ⟨k1, e2⟩⟩ := vals2 r1
  obtain ⟨w1, w2, rfl, e3, ⟨k2, e4⟩⟩ := vals2 r2
  subst e2 e4
  obtain rfl : u1 = Value.ref c := e1
  obtain rfl : w1 = Value.ref d := e3
  obtain ⟨_, sc, vs1, kv1, d1⟩ := dk_of I.hok hc
  obtain ⟨_, sd, vs2, kv2, d2⟩ := dk_of I.hok hd
  cases kv1
  cases kv2
  have t1' : s.heap.IsTuple a #[Value.ref c, Value.int i k1] := t1
  have t2' : s.heap.IsTuple b #[Value.ref d, Value.int j k2] := t2
  have dd : PySem.W.EqTree X.prog X.w s 1 (.ref c) (.ref d) true := by
    by_cases hcd : c = d
    · subst hcd
      exact .same
    · exact .dicts (n := 0) (e := fun _ => true) hcd sc sd d1 d2 (fun k v y hm => by simp at hm)
  refine PySem.W.eq_tuplesT (n := 1) (e := fun k => if k = 0 then true else i == j) t1' t2' (fun k h1 h2 => ?_) (by omega) ⟨.bl (i == j), H, I, ?_, q⟩
  · match k, h1 with
    | 0, _ => exact dd
    | 1, _ => exact .leaf fun A _ => SeqAt.EqAt.int_int i k1 j k2
    | k + 2, h1 => exact absurd h1 (by simp)
  · show Value.bool _ = Value.bool _
    simp [List.range_succ]
theorem o_eqX (hK : X.K = G.K) (hu : X.A.units + 64 < cLine) : OpR X (compareOp .Eq) (fun x y H Q => rEqE x y H Q ∨ ∃ d e, Dp G.K H x d ∧ Dp G.K H y e ∧ SeqAt.shaped d = true ∧ SeqAt.shaped e = true ∧ Q (.bl (id (PyData.eqv d e))) H) := OpR_or (op_eqE hu) (o_eq hK hu)
theorem d_eqX : Op2 G W (fun x y H Q => rEqE x y H Q ∨ ∃ d e, Dp G.K H x d ∧ Dp G.K H y e ∧ SeqAt.shaped d = true ∧ SeqAt.shaped e = true ∧ Q (.bl (id (PyData.eqv d e))) H) mEqX := by
  intro ρ H σ S x y d e Q rs rx ry p
  unfold mEqX at p
  split at p
  · rename_i i j
    cases rx with
    | @tup a vs _ ht r =>
      cases ry with
      | @tup b ws _ ht2 r2 =>
        obtain ⟨v1, v2, rfl, q1, q2⟩ := r.two
        obtain ⟨w1, w2, rfl, q3, q4⟩ := r2.two
        cases q2
        cases q4
        cases q1 with
        | @dct c kvs _ hc nc ec _ =>
          cases q3 with
          | @dct d kvs2 _ hd nd ed _ =>
            cases kvs with
            | cons => cases ec
            | nil =>
              cases kvs2 with
              | cons => cases ed
              | nil => exact .inl ⟨a, b, c, d, i, j, rfl, rfl, ht.1, ht2.1, hc, hd, p.val rs (.bl _)⟩
  · exact .inr (d_eqv ρ H σ S x y d e Q rs rx ry p)
end
end Mi
end T_SimF
section T_SimG
set_option Elab.async false
set_option linter.all false
set_option maxRecDepth 100000
set_option maxHeartbeats 4000000
/-! SimG: own exception classes over any of the four built-in bases. -/
namespace Mi
open PySem PySem.W PySem.Calls PyProof.Rows PySem.HandSPX
/-- own classes, then the base's line -/
inductive OwnT (tl : List Value) : List Value → Prop
  | base : OwnT tl tl
  | own {c : Addr} {r : List Value} (h : OwnT tl r) : OwnT tl (.ref c :: r)
def ownTB (tl : List Value) : List Value → Bool
  | [] => [] == tl
  | v :: r => (v :: r == tl) || (match v with
    | .ref _ => ownTB tl r
    | _ => false)
theorem ownTB_ok {tl : List Value} : ∀ {l : List Value}, ownTB tl l = true → OwnT tl l
  | [], h => by
    have e : [] = tl := beq_iff_eq.mp h
    rw [← e]
    exact .base
  | v :: r, h => by
    unfold ownTB at h
    rcases Bool.or_eq_true_iff.mp h with h | h
    · have e := beq_iff_eq.mp h
      rw [e]
      exact .base
    · cases v with
      | ref c => exact .own (ownTB_ok h)
      | _ => cases h
theorem OwnT.has {tl l : List Value} (h : OwnT tl l) (x : String) : l.contains (.type x) = tl.contains (.type x) := by
  induction h with
  | base => rfl
  | own _ ih => rw [List.contains_cons, ih]; rfl
theorem OwnT.lets {tl l : List Value} (h : OwnT tl l) (self : Value) (hp : refuseLoop self "__setattr__" tl = pure ()) : refuseLoop self "__setattr__" l = pure () := by
  induction h with
  | base => exact hp
  | own _ ih => rw [refuseLoop_ref]; exact ih
open Builtin Builtin.ObjectAttr
section
variable {prog : Program} {w : World} {A : Around} {E : Value → Shared → Prop} {R : Result → Shared → Prop} {hp : Heap} {g : Array GenState} {d : Drawn} {t : Nat} {os : OsState} {B : String} {tl : List Value}
/-- object.__setattr__ on an exception, as far as its own dict -/
theorem osaG {K : W.Frag} {name : Str} {tk : Tok} {v : Value} {x C : Addr} {ox : Obj} {od : Option Obj} {cd : ClassData} (S : StoreFacts B tl "object.__setattr__" "object")
    (X : K.In hp) (I : W.InstAt hp x ox C od) (hcd : W.clsIn K C = some cd) (hm : OwnT tl cd.mro) (hne : cd.mro.isEmpty = false) (ha : W.findIn K (.ref C) name = some none)
    (hq : ∀ Q : Fin → Shared → Prop, (∀ s', R (.ok (.ret .none)) s' → Q (.done (.ret .none)) s') → wpAny (model prog w) A.in1 (storeInOwnDict (.ref x) (.ref C) (.str name tk) name v false) Q (fun e s' => R (.error e) s') ⟨hp, g, d, t, os⟩) :
    codeAny (model prog w) A (.call (.builtin "object.__setattr__") ⟨[.ref x, .str name tk, v], []⟩) R ⟨hp, g, d, t, os⟩ := by
  have SF := F.store_object
  have ho : cd.mro.contains (.type "object") = true := (hm.has "object").trans S.hasOwner
  have sub : W.Looks (model prog w) hp (isInstance (.ref x) (.type "object")) true := I.type.andThen (W.looks_mroIn X (by unfold W.mroIn; rw [hcd, Option.bind_some, if_neg (by rw [hne]; exact Bool.false_ne_true), ho]))
  refine codeAny_call_builtin SF.slot.plain SF.entry (@W.check_slot (model prog w) _ _ ⟨hp, g, d, t, os⟩ "object.__setattr__" "object" "__setattr__" (.ref x) [.str name tk, v] [] _ SF.kind SF.split sub (SF.args (.ref x) (.str name tk) v) ?_)
  have l1 : W.Looks (model prog w) hp (mroOf (.ref C)) cd.mro := (W.looks_clsIn X hcd).andThen .now
  have l2 : W.Looks (model prog w) hp (storeTaker? none) none := .now
  rw [W.osa_eq, refuse_eq]
  refine wpAny_bind (wpAny_bind (I.type.at (wpAny_bind (l1.at ?_))))
  rw [hm.lets _ (S.passes _)]
  refine wpAny_pure (wpAny_bind (I.type.at (wpAny_bind ((W.looks_findIn X ha).at (wpAny_bind (l2.at ?_))))))
  show wpAny _ _ (storeInOwnDict (.ref x) (.ref C) (.str name tk) name v false) _ _ _
  exact hq _ fun s' z => z
/-- .. that has none as yet -/
theorem osaG_new {K : W.Frag} {name : Str} {tk : Tok} {v : Value} {x C : Addr} {fv : Array Value} {cd : ClassData} (S : StoreFacts B tl "object.__setattr__" "object")
    (X : K.In hp) (hx : hp.get? x = some { cls := .ref C, data := .fields fv }) (hcd : W.clsIn K C = some cd) (hm : OwnT tl cd.mro) (hne : cd.mro.isEmpty = false) (hh : cd.hasDict = true) (ha : W.findIn K (.ref C) name = some none)
    (hq : ∀ h' tk' dx, (∀ b o, b ≠ x → hp.get? b = some o → h'.get? b = some o) → hp.objs.size ≤ dx → dx ≠ x → h'.get? x = some { cls := .ref C, dict := some dx, data := .fields fv } →
      h'.Ns1 dx (fun y => if y = name then some v else none) → R (.ok (.ret .none)) ⟨h', g, d, tk', os⟩) :
    codeAny (model prog w) A (.call (.builtin "object.__setattr__") ⟨[.ref x, .str name tk, v], []⟩) R ⟨hp, g, d, t, os⟩ := by
  refine osaG (od := none) S X ⟨hx, rfl, rfl, trivial⟩ hcd hm hne ha fun Q hQ => ?_
  have nx : x ≠ hp.objs.size := Nat.ne_of_lt (Heap.lt_size hx)
  have lc : W.Looks (model prog w) hp (classData C) cd := W.looks_clsIn X hcd
  obtain ⟨_, _, _, _, _, hd, _, _, _, _, _⟩ := cd
  dsimp only at hh
  subst hh
  unfold storeInOwnDict ownDictForStores
  repeat (first | with_reducible refine store_in_new ?_ ?_ | with_reducible refine wpAny_loadPart_at hx ?_ | with_reducible refine lc.at ?_ | wp_step)
  · exact ⟨_, #[], _, (Heap.get?_update_ne _ _ _ _ nx.symm).trans (Heap.get?_push_at rfl rfl), rfl, fun e he => absurd he (by simp), fun _ => rfl⟩
  · intro h' tk' hn' hs
    have hx1 : (hp.push { cls := .type "dict", data := .dict #[] }).get? x = some { cls := .ref C, data := .fields fv } := Heap.get?_push_of_some _ hx
    exact hQ _ (hq h' tk' hp.objs.size (fun b o hb ho => (hs.2 b (Nat.ne_of_lt (Heap.lt_size ho))).trans ((Heap.get?_update_ne _ _ _ _ hb).trans (Heap.get?_push_of_some _ ho))) (Nat.le_refl _) nx.symm ((hs.2 x nx).trans (Heap.get?_update_self _ hx1 rfl)) hn')
/-- .. that has one -/
theorem osaG_old {K : W.Frag} {name : Str} {tk : Tok} {v : Value} {x C dx : Addr} {fv : Array Value} {cd : ClassData} {m0 : Str → Option Value} {nl : List Str} (S : StoreFacts B tl "object.__setattr__" "object")
    (X : K.In hp) (hx : hp.get? x = some { cls := .ref C, dict := some dx, data := .fields fv }) (hns : hp.Ns1 dx m0) (hw : Within m0 nl) (hz : nl.length ≤ 1000) (hcd : W.clsIn K C = some cd) (hm : OwnT tl cd.mro) (hne : cd.mro.isEmpty = false) (hh : cd.hasDict = true) (ha : W.findIn K (.ref C) name = some none)
    (hq : ∀ h' tk', (∀ b o, b ≠ dx → hp.get? b = some o → h'.get? b = some o) → h'.Ns1 dx (fun y => if y = name then some v else m0 y) → R (.ok (.ret .none)) ⟨h', g, d, tk', os⟩) :
    codeAny (model prog w) A (.call (.builtin "object.__setattr__") ⟨[.ref x, .str name tk, v], []⟩) R ⟨hp, g, d, t, os⟩ := by
  obtain ⟨od, _, _, hod, _, _⟩ := hns.count hw
  refine osaG (od := some od) S X ⟨hx, rfl, rfl, hod⟩ hcd hm hne ha fun Q hQ => ?_
  have lc : W.Looks (model prog w) hp (classData C) cd := W.looks_clsIn X hcd
  obtain ⟨_, _, _, _, _, hd, _, _, _, _, _⟩ := cd
  dsimp only at hh
  subst hh
  unfold storeInOwnDict ownDictForStores
  repeat (first | with_reducible refine OEX.store_in_old hns hw hz ?_ | with_reducible refine wpAny_loadPart_at hx ?_ | with_reducible refine lc.at ?_ | wp_step)
  exact fun h' tk' hn' hs => hQ _ (hq h' tk' (fun b o hb ho => (hs.2 b hb).trans ho) hn')
end
/-! ### type.__call__ with keywords -/
section
variable {prog : Program} {w : World} {A : Around} {E : Value → Shared → Prop} {R : Result → Shared → Prop} {h : Heap} {g : Array GenState} {d : Drawn} {t : Nat} {os : OsState}
variable {nm q : Str} {C N : Addr} {bs bm bmB : List Value} {hdct : Bool} {sn : List Str} {sub : List Value} {ab : Bool} {col : Option Bool} {dd : Option Addr} {k0 k1 k2 k3 k5 : Option Value} {B newId initId : String} {kw : List (Str × Value)}
theorem check_newK {M : Model} (F : ExcBaseFacts B newId initId bmB) (hT : bm.contains (.type B) = true) {rest : List Value} {Q : Unit → Shared → Prop}
    (hC : h.get? C = some (excClassObj nm q C N bs bm hdct sn sub ab col dd k0 k1 k2 k3 k5 newId)) (hq : Q () ⟨h, g, d, t, os⟩) : wpAny M A (checkBuiltinCall newId ⟨.ref C :: rest, kw⟩) Q E ⟨h, g, d, t, os⟩ := by
  have c1 : (Value.ref C :: bm).contains (.type B) = true := by rw [List.contains_cons, hT, Bool.or_true]
  have c2 := F.noStar
  simp only [checkBuiltinCall, F.newKind, F.newSplit, F.newRow]
  repeat (first | refine wpAny_loadPart_at hC ?_ | (refine wpAny_isSubtype_exc hC ?_; rw [c1]) | refine wpAny_staticBase_exc hC ?_ | refine wpAny_madeBy_exc hC ?_ | simp only [bne_self_eq_false, Bool.false_eq_true, if_false] | wp_step)
  exact hq
theorem newK (F : ExcBaseFacts B newId initId bmB) (hT : ∀ X : String, bm.contains (.type X) = bmB.contains (.type X)) {rest : List Value}
    (hC : h.get? C = some (excClassObj nm q C N bs bm hdct sn sub ab col dd k0 k1 k2 k3 k5 newId))
    (hq : R (.ok (.ret (.ref (h.objs.size + 1)))) ⟨(h.push (W.kdv_tup rest)).push (excO C h.objs.size), g, d, t, os⟩) (hrest : rest.length ≤ sizeLine) :
    codeAny (model prog w) A (.builtin newId ⟨.ref C :: rest, kw⟩) R ⟨h, g, d, t, os⟩ := by
  have c0 := F.ends
  have c1 : (Value.ref C :: bm).contains (.type B) = true := by rw [List.contains_cons, hT, F.hasB, Bool.or_true]
  have c2 : (Value.ref C :: bm).contains (.type "AttributeError") = false := by rw [List.contains_cons, hT, F.noAttr]; rfl
  have c3 : (Value.ref C :: bm).contains (.type "NameError") = false := by rw [List.contains_cons, hT, F.noName]; rfl
  refine codeAny_builtinAt F.entry ?_
  unfold Builtin.«BaseException.__new__»
  refine PySem.wpAt_bind ?_
  show PySem.wpAt _ _ _ (stack >>= _) _ _ _
  refine PySem.wpAt_bind (PySem.wpAt_stack fun p below => PySem.wpAt_of_wpAny ?_)
  wp_walk
  refine PySem.wpAt_of_wpAny ?_
  rw [F.owner]
  repeat (first | with_reducible refine wpAny_madeHere_exc F.canon hC ?_ | with_reducible refine wpAny_loadPart_at hC ?_ | (with_reducible refine wpAny_isSubtype_exc hC ?_; first | rw [c1] | rw [c2] | rw [c3]) | wp_step)
  show R _ _
  rw [Heap.size_push]
  exact hq
theorem type_callK (F : ExcBaseFacts B newId initId bmB) (hT : ∀ X : String, bm.contains (.type X) = bmB.contains (.type X)) {rest : List Value} {fI : Addr} {Q : Fin → Shared → Prop}
    (hC : h.get? C = some (excClassObj nm q C N bs bm hdct sn sub ab col dd k0 k1 k2 k3 k5 newId))
    (hi : W.Looks (model prog w) h (typeLookup (.ref C) "__init__") (some (.ref fI))) (hb : ∀ self, W.Looks (model prog w) h (bindSpecial (.ref fI) self) (.ref fI, [self])) (hrest : rest.length ≤ sizeLine)
    (hq : codeAny (model prog w) A (.call (.ref fI) ⟨.ref (h.objs.size + 1) :: rest, kw⟩)
      (fun r s' => match r with | .ok (.ret v) => v = .none ∧ Q (.done (.ret (.ref (h.objs.size + 1)))) s' | .ok _ => False | .error e => E e s')
      ⟨(h.push (W.kdv_tup rest)).push (excO C h.objs.size), g, d, t, os⟩) :
    wpAny (model prog w) A (Builtin.«type.__call__» ⟨.ref C :: rest, kw⟩) Q E ⟨h, g, d, t, os⟩ := by
  repeat (first | with_reducible refine wpAny_loadPart_at hC ?_ | with_reducible refine wpAny_madeBy_exc hC ?_ | wp_step)
  refine codeAny_call_builtin_code (Code.quiet_builtin _ F.quiet) (check_newK F (by rw [hT, F.hasB]) hC ?_)
  refine newK F hT hC ?_ hrest
  show wpAny _ _ _ _ _ _
  have kk : ∀ b o, h.get? b = some o → ((h.push (W.kdv_tup rest)).push (excO C h.objs.size)).get? b = some o := fun b o e => Heap.get?_push_of_some _ (Heap.get?_push_of_some _ e)
  have g1 := kk _ _ hC
  have g2 : ((h.push (W.kdv_tup rest)).push (excO C h.objs.size)).get? (h.objs.size + 1) = some (excO C h.objs.size) := by heap_get
  have g3 : (Value.ref C :: bm).contains (.ref C) = true := by simp
  unfold isInstance
  repeat (first | with_reducible refine wpAny_loadPart_at g2 ?_ | (with_reducible refine wpAny_isSubtype_exc g1 ?_; rw [g3]) | wp_step)
  show wpAny _ _ (typeLookup (.ref C) _) _ _ _
  refine (hi.keeps kk).at ?_
  refine wpAny_holding (wpAny_bind (((hb (.ref (h.objs.size + 1))).keeps kk).at ?_))
  refine wpAny_bind (wpAny_call (codeAny_mono hq fun r s' z => ?_))
  rcases r with e | (v | _ | _ | _) <;> first | exact z | exact z.elim | skip
  obtain ⟨rfl, z⟩ := z
  first
    | exact wpAny_pure (wpAny_pure z)
    | (wp_walk; exact z)
theorem callK (F : ExcBaseFacts B newId initId bmB) (hT : ∀ X : String, bm.contains (.type X) = bmB.contains (.type X)) {rest : List Value} {fI : Addr}
    (hC : h.get? C = some (excClassObj nm q C N bs bm hdct sn sub ab col dd k0 k1 k2 k3 k5 newId))
    (hi : W.Looks (model prog w) h (typeLookup (.ref C) "__init__") (some (.ref fI))) (hb : ∀ self, W.Looks (model prog w) h (bindSpecial (.ref fI) self) (.ref fI, [self])) (hrest : rest.length ≤ sizeLine)
    (hq : codeAny (model prog w) (A.under (.builtin "type.__call__" ⟨.ref C :: rest, kw⟩)) (.call (.ref fI) ⟨.ref (h.objs.size + 1) :: rest, kw⟩) (W.InitBack (h.objs.size + 1) R)
      ⟨(h.push (W.kdv_tup rest)).push (excO C h.objs.size), g, d, t, os⟩) :
    codeAny (model prog w) A (.call (.ref C) ⟨rest, kw⟩) R ⟨h, g, d, t, os⟩ := by
  have f1 := tc_lookup
  have f2 := tc_bind (.ref C)
  have f3 : (⟨h, g, d, t, os⟩ : Shared).TypeIs (.ref C) "type" := ⟨_, hC, rfl⟩
  refine codeAny_of_tree ?_
  show wpAny _ _ (callAny (.ref C) _) _ _ _
  repeat (any_goals (first | assumption | with_reducible refine wpAny_loadPart_at hC ?_ | wp_step))
  refine ⟨rfl, ?_⟩
  refine codeAny_call_builtin_at (Code.quiet_builtin _ (by decide +kernel)) entry_typeCall (wpAny_check_type_call_sub hC (type_callK F hT hC hi hb hrest ?_))
  refine codeAny_mono hq fun r s' z => ?_
  rcases r with e | (v | _ | _ | _) <;> exact z
end
end Mi
end T_SimG
section T_SimH
set_option Elab.async false
set_option linter.all false
set_option maxRecDepth 100000
set_option maxHeartbeats 4000000
/-! SimH: .. the layer's part. -/
namespace Mi
open PySem PySem.Spec PyProof.Rows L2
/-- a base: its ids, its line -/
structure Bse where
  B : String
  nw : String
  ini : String
  tl : List Value
structure BseOk (b : Bse) : Prop where
  F : ExcBaseFacts b.B b.nw b.ini b.tl
  S : StoreFacts b.B b.tl "object.__setattr__" "object"
/-- what the written part says of an own exception class -/
structure OexG (K : PySem.W.Frag) (b : Bse) (C : Addr) : Prop where
  ok : BseOk b
  cls : ∃ nm q N bs bm sn sub ab col dd k0 k1 k2 k3 k5, K.lookup C = some (excClassObj nm q C N bs bm true sn sub ab col dd k0 k1 k2 k3 k5 b.nw) ∧ OwnT b.tl bm
  sa : PySem.W.findIn K (.ref C) "__setattr__" = some (some (.builtin "object.__setattr__"))
  exC : PySem.W.subIn K (.ref C) (.type "BaseException") = some true
  tyC : PySem.W.typeIn K (.ref C) = some (.type "type")
  kC : PySem.W.keepIn K (.ref C) = true
section
variable {X : Cx} {pins : List (Addr × Obj)} {σ : L2.St} {H : Hp} {s : Shared} {a C dx : Addr} {f : Str} {y : V} {u : Value} {fs : List (Str × V)} {Q : Unit → Shared → Prop} {E : Value → Shared → Prop} {A : Around} {b : Bse}
theorem gst_new (T : OexG X.K b C) (I : Inv X pins σ H s) (e : H a = some (exo a C none)) (hno : PySem.W.findIn X.K (.ref C) f = some none) (ry : RelV y u)
    (h : ∀ dx s', H dx = none → dx ≠ a → Inv X pins σ (upd (upd H dx (exd dx [(f, y)])) a (exo a C (some dx))) s' → Q () s') : wpAny (model X.prog X.w) A (setAttr (.ref a) f u) Q E s := by
  obtain ⟨nm, q, N, bs, bm, sn, sub, ab, col, dd, k0, k1, k2, k3, k5, hC, hbm⟩ := T.cls
  have hcl : PySem.W.clsIn X.K C = some { name := nm, bases := bs, mro := .ref C :: bm, ns := N, qualname := q, hasDict := true, slotNames := sn, subclasses := sub, abstract := ab, collection := col, hasDel := false } := by unfold PySem.W.clsIn; rw [hC] <;> rfl
  obtain ⟨t1, ho⟩ := exo_at I.hok e
  obtain ⟨hp, g, d, t, os⟩ := s
  refine PySem.W.set_plain I.kIn (od := none) ⟨ho, rfl, rfl, trivial⟩ T.sa ?_
  refine osaG_new T.ok.S I.kIn ho hcl (.own hbm) rfl rfl hno fun h' tk' dx k dn dne hx hn => ?_
  have hnd : H dx = none := I.hok.fresh dn
  have nd : ∀ {c : Addr} {o : Obj}, hp.get? c = some o → c ≠ dx := fun {c o} z => Nat.ne_of_lt (Nat.lt_of_lt_of_le (Heap.lt_size z) dn)
  have na : ∀ {c : Addr}, H c = none → c ≠ a := fun {c} n z => by rw [z, e] at n; cases n
  have U : Un X.fs [] H (upd (upd H dx (exd dx [(f, y)])) a (exo a C (some dx))) hp h' := {
    keep := fun c o z n _ _ => k c o (na n) z
    slot := fun c o z n _ _ => ⟨o.slots, k c o (na n) z⟩
    free := fun c o z n _ => by rw [upd_ne (na n), upd_ne (nd z)]; exact n
    there := fun c o z _ => by
      by_cases hb : c = a
      · exact ⟨_, by rw [hb]; exact hx⟩
      · exact ⟨o, k c o hb z⟩
    tups := fun c xs z => by rw [upd_ne (at_ne e z exo_tup), upd_ne (ne_of_none z hnd)]; exact z
    frzs := fun c o v z => by rw [upd_ne (at_ne e z exo_frz), upd_ne (ne_of_none z hnd)]; exact z
    tbls := fun c ps z => ⟨#[], by rw [upd_ne (at_ne e z exo_tbl), upd_ne (ne_of_none z hnd), z]; simp⟩ }
  refine h dx _ hnd dne (I.un (t' := tk') U fun c o z => ?_)
  by_cases hb : c = a
  · subst hb
    rw [upd_same] at z
    cases z
    exact exo_ok hx
  · rw [upd_ne hb] at z
    by_cases hd : c = dx
    · subst hd
      rw [upd_same] at z
      cases z
      exact exd_ok hn (relO_put (fs := []) ry fun g => True.intro)
    · rw [upd_ne hd] at z
      exact (I.hok c o z).stay (fun c' v hc z' => k c' v (by
          rcases hc with hc | hc
          · rw [hc]
            exact hb
          · exact at_ne e hc exo_own) z')
        (fun c' hc => by rw [upd_ne (at_ne e hc exo_own), upd_ne (ne_of_none hc hnd)]; exact hc) (fun c' xs hc => by rw [upd_ne (at_ne e hc exo_tup), upd_ne (ne_of_none hc hnd)]; exact hc)
theorem gst_old (T : OexG X.K b C) (I : Inv X pins σ H s) (e : H a = some (exo a C (some dx))) (ed : H dx = some (exd dx fs)) (hl : fs.length ≤ 900) (hno : PySem.W.findIn X.K (.ref C) f = some none) (ry : RelV y u)
    (h : ∀ s', Inv X pins σ (upd H dx (exd dx ((f, y) :: fs))) s' → Q () s') : wpAny (model X.prog X.w) A (setAttr (.ref a) f u) Q E s := by
  obtain ⟨nm, q, N, bs, bm, sn, sub, ab, col, dd, k0, k1, k2, k3, k5, hC, hbm⟩ := T.cls
  have hcl : PySem.W.clsIn X.K C = some { name := nm, bases := bs, mro := .ref C :: bm, ns := N, qualname := q, hasDict := true, slotNames := sn, subclasses := sub, abstract := ab, collection := col, hasDel := false } := by unfold PySem.W.clsIn; rw [hC] <;> rfl
  obtain ⟨t1, ho⟩ := exo_at I.hok e
  obtain ⟨mA, hns, rel⟩ := exd_at I.hok ed
  have hw := within_of rel
  obtain ⟨hp, g, d, t, os⟩ := s
  obtain ⟨oD, _, _, hoD, _, _⟩ := hns.count hw
  refine PySem.W.set_plain I.kIn (od := some oD) ⟨ho, rfl, rfl, hoD⟩ T.sa ?_
  refine osaG_old T.ok.S I.kIn ho hns hw (by rw [List.length_map]; omega) hcl (.own hbm) rfl rfl hno fun h' tk' k hn => ?_
  have hd : ∃ o, h'.get? dx = some o := by
    obtain ⟨o, _, _, e', _⟩ := hn
    exact ⟨o, e'⟩
  exact h _ (I.write (t' := tk') (x := dx) (e := dx) (o := exd dx ((f, y) :: fs)) (by rw [ed]; exact True.intro) (.inl rfl) k hd (exd_ok hn (relO_put ry rel)))
theorem ginit_ok {us : List Value} {Q : Value → Shared → Prop} (T : OexG X.K b C) (I : Inv X pins σ H s) (e : H a = some (exo a C none)) (hl : us.length ≤ sizeLine) (h : ∀ s', Inv X pins σ H s' → Q .none s') :
    wpAny (model X.prog X.w) A (call (.builtin b.ini) (.ref a :: us)) Q E s := by
  obtain ⟨nm, q, N, bs, bm, sn, sub, ab, col, dd, k0, k1, k2, k3, k5, hC, hbm⟩ := T.cls
  obtain ⟨t1, ho⟩ := exo_at I.hok e
  obtain ⟨hp, g, d, t, os⟩ := s
  refine wpAny_call (PySem.HandSPX.init_base T.ok.F (fun Y => hbm.has Y) (I.kIn _ _ hC) ho hl fun h' t2 k hx => ?_)
  have J := I.write (t' := t) (x := a) (e := a) (o := exo a C none) (by rw [e]; exact True.intro) (.inl rfl) k ⟨_, hx⟩ (exo_ok hx)
  have eu : upd H a (exo a C none) = H := funext fun c => by
    by_cases hc : c = a
    · rw [hc, upd_same, e]
    · rw [upd_ne hc]
  rw [eu] at J
  exact h _ J
end
/-- B.__init__(self, ..) -/
def tGi (K : PySem.W.Frag) (b : Bse) (ta : TA) : TE := fun σ H Q => ta σ H fun vs H1 => ∃ (a C : Addr) (ws : List V), vs = .ref a :: ws ∧ ws.length ≤ 1000 ∧ OexG K b C ∧ H1 a = some (exo a C none) ∧ Q .non H1
/-- self.f = e -/
def tGst (K : PySem.W.Frag) (f : Str) (to te : TE) : TS := fun D σ H => te σ H fun y H1 => to σ H1 fun x H2 => ∃ (a C : Addr) (b : Bse), x = .ref a ∧ OexG K b C ∧ PySem.W.findIn K (.ref C) f = some none ∧
  ((H2 a = some (exo a C none) ∧ ∀ dx, H2 dx = none → dx ≠ a → D.nx σ (upd (upd H2 dx (exd dx [(f, y)])) a (exo a C (some dx)))) ∨
    ∃ (dx : Addr) (fs : List (Str × V)), H2 a = some (exo a C (some dx)) ∧ H2 dx = some (exd dx fs) ∧ fs.length ≤ 900 ∧ D.nx σ (upd H2 dx (exd dx ((f, y) :: fs))))
section
variable {X : Cx} {o e : Expr} {es : List Expr} {to te : TE} {ta : TA} {f : Str} {p p' p1 p2 pos : Pos} {b : Bse}
theorem pg_init {pl : Sem Bool} {x : Str} {D : Addr} {mc : Value} (hg : Gl X x) (hm : X.mg x = some (.ref D)) (hrd : PySem.W.readsIn X.K D mc = true) (hga : PySem.W.specialIn X.K (.ref D) "__getattribute__" = some (some (.builtin "type.__getattribute__")))
    (hi : PySem.W.findCls X.K (.ref D) mc "__init__" = some (.val (.builtin b.ini))) (hh : PySem.W.handedIn (.builtin b.ini) = true) (ha : PA X (e :: es) ta) (hdb : (x == ("__debug__" : Str)) = false := by decide)
    (hc : eval (.Call (.Attribute (.Name x p1) "__init__" p2) (e :: es) [] pos) X.env = (do
      let ov ← eval (.Name x p1) X.env
      standAt p2.atName
      let (f, first) ← holding [ov] (getMethod ov "__init__" pl)
      callWith pos f first (backTo pos (starEach (e :: es) X.env)) (backToKw pos (keywordEach [] X.env))) := by rfl)
    (he : starEach (e :: es) X.env = (false, eval e X.env) :: starEach es X.env := by rfl) (hpl : (backTo pos (starEach es X.env)).any (·.1) = false := by rfl) :
    PE X (.Call (.Attribute (.Name x p1) "__init__" p2) (e :: es) [] pos) (tGi X.K b ta) := by
  refine ⟨fun pins s σ H Q I h => ?_⟩
  refine PySem.W.methodCall_KW (ld_glob I hg hm ?_ hdb) hc
  refine PySem.W.method_cls I.kIn hga (PySem.W.cls_value I.kIn hrd hi hh ?_)
  show wpAny _ _ (callWith pos (Value.builtin b.ini) [] (backTo pos (starEach (e :: es) X.env)) []) _ _ _
  refine PyProof.Rows.callWith_method1 (thn (ha.run pos pins _ σ H _ (I.tok _) h) fun us s1 ⟨vs, H1, I1, r1, a, C, ws, ev, hl, T, ea, q⟩ => ?_) he hpl
  subst ev
  cases r1 with
  | @cons _ u0 _ ur ra rw' =>
    obtain rfl : u0 = Value.ref a := ra
    exact ginit_ok T I1 ea (by rw [← Paired.length rw', sizeLine_eq]; omega) fun s' J => ⟨.non, H1, J, rfl, q⟩
theorem ps_gst (ho : PE X o to) (he : PE X e te) (hs : swapsWith e (some (.Attribute o f p')) pos.line X.env = pure false := by rfl) : PS X (.Assign [.Attribute o f p'] e pos) (tGst X.K f to te) := by
  refine ⟨fun pins s σ H D I h => ?_⟩
  refine plainObj_wpAny_Assign_Attribute (thn (he.run pins s σ H _ I h) fun v s1 ⟨y, H1, I1, r1, q1⟩ => thn (ho.run pins s1 σ H1 _ I1 q1) fun u s2 ⟨x, H2, I2, r2, a, C, b, ex, T, hno, q⟩ => ?_) hs
  subst ex
  obtain rfl : u = Value.ref a := r2
  rcases q with ⟨ea, q⟩ | ⟨dx, fs, ea, ed, hl, q⟩
  · exact gst_new T I2 ea hno r1 fun dx s' n ne J => ⟨σ, _, J, q dx n ne⟩
  · exact gst_old T I2 ea ed hl hno r1 fun s' J => ⟨σ, _, J, q⟩
end
end Mi
end T_SimH
section T_SimI
set_option Elab.async false
set_option linter.all false
set_option maxRecDepth 100000
set_option maxHeartbeats 4000000
/-! SimI: exceptions as values: made, their fields, their classes. -/
namespace Mi
open PySem PySem.Spec PyProof.Rows L2
/-- the fields as the dict keeps them -/
def fz {α : Type} (fl : List Str) (vs : List α) : List (Str × α) := (fl.zip vs).reverse
theorem fz_names {α : Type} {fl : List Str} {vs : List α} (h : vs.length = fl.length) : (fz fl vs).map (·.1) = fl.reverse := by
  unfold fz
  rw [List.map_reverse, List.map_fst_zip (by omega)]
theorem fz_vals {α : Type} {fl : List Str} {vs : List α} (h : vs.length = fl.length) : (fz fl vs).map (·.2) = vs.reverse := by
  unfold fz
  rw [List.map_reverse, List.map_snd_zip (by omega)]
/-- what __init__(self, f, ..) promises -/
def spG (K : PySem.W.Frag) (b : Bse) (fl : List Str) : Sp := fun vs H Q _ => ∃ (a C : Addr) (ws : List V), vs = .ref a :: ws ∧ ws.length = fl.length ∧ OexG K b C ∧ (∀ f ∈ fl, PySem.W.findIn K (.ref C) f = some none) ∧ H a = some (exo a C none) ∧
  (fl = [] → Q .non H) ∧ (fl ≠ [] → ∀ dx, H dx = none → dx ≠ a → Q .non (upd (upd H dx (exd dx (fz fl ws))) a (exo a C (some dx))))
section
variable {P : Program} {w : World} {K : PySem.W.Frag} {mg : Str → Option Value} {base : Heap} {x qual : Str} {params : Arguments} {scope : Scope} {f : Addr} {fd : FuncData} {b : Bse} {txt : Str} {body : List Stmt}
theorem ok_gx0 (F : FunD K x qual params body scope [] [] f fd) (Sc : FnScope ["self"] ["self"] scope)
    (hb : ∀ (cdv : Value) (A : Around) (outer : List Env) (s : Shared) (H : Hp) (E : XK), PSs (dcx P w K mg base ["self"] qual scope f cdv A outer s H E) body (tDrop (tGi K b (tCons (tVar 0) (tCons (tC (.str txt)) tNil))))) :
    FnOk P w K mg base (L2.CX P w) 2 f fd ["self"] (spG K b []) := by
  refine F.ok Sc (fun vs H Q E h => ?_) (fun cdv A outer s H vs Q E hr h => ⟨_, hb cdv A outer s H E, ?_⟩)
  · obtain ⟨a, C, ws, rfl, hl, _⟩ := h
    exact congrArg Nat.succ hl
  · obtain ⟨a, C, ws, rfl, hl, T, hno, ha, q, _⟩ := h
    obtain rfl : ws = [] := List.eq_nil_of_length_eq_zero hl
    exact ⟨_, rfl, a, C, [.str txt], rfl, by show 1 ≤ 1000; decide, T, ha, q rfl⟩
theorem ok_gx1 {fld : Str} (F : FunD K x qual params body scope [] [] f fd) (Sc : FnScope ["self", fld] ["self", fld] scope)
    (hb : ∀ (cdv : Value) (A : Around) (outer : List Env) (s : Shared) (H : Hp) (E : XK), PSs (dcx P w K mg base ["self", fld] qual scope f cdv A outer s H E) body (tSeq (tDrop (tGi K b (tCons (tVar 0) (tCons (tC (.str txt)) tNil)))) (tGst K fld (tVar 0) (tVar 1)))) :
    FnOk P w K mg base (L2.CX P w) 2 f fd ["self", fld] (spG K b [fld]) := by
  refine F.ok Sc (fun vs H Q E h => ?_) (fun cdv A outer s H vs Q E hr h => ⟨_, hb cdv A outer s H E, ?_⟩)
  · obtain ⟨a, C, ws, rfl, hl, _⟩ := h
    exact congrArg Nat.succ hl
  · obtain ⟨a, C, ws, rfl, hl, T, hno, ha, _, q⟩ := h
    obtain ⟨v, rfl⟩ := List.length_eq_one_iff.mp hl
    refine ⟨_, rfl, ?_⟩
    refine ⟨a, C, [.str txt], rfl, by show 1 ≤ 1000; decide, T, ha, ?_⟩
    exact ⟨_, rfl, _, rfl, a, C, b, rfl, T, hno fld (by simp), .inl ⟨ha, fun dx hdx hne => q (by simp) dx hdx hne⟩⟩
theorem ok_gx2 {f1 f2 : Str} (F : FunD K x qual params body scope [] [] f fd) (Sc : FnScope ["self", f1, f2] ["self", f1, f2] scope)
    (hb : ∀ (cdv : Value) (A : Around) (outer : List Env) (s : Shared) (H : Hp) (E : XK), PSs (dcx P w K mg base ["self", f1, f2] qual scope f cdv A outer s H E) body (tSeq (tDrop (tGi K b (tCons (tVar 0) (tCons (tC (.str txt)) tNil)))) (tSeq (tGst K f1 (tVar 0) (tVar 1)) (tGst K f2 (tVar 0) (tVar 2))))) :
    FnOk P w K mg base (L2.CX P w) 2 f fd ["self", f1, f2] (spG K b [f1, f2]) := by
  refine F.ok Sc (fun vs H Q E h => ?_) (fun cdv A outer s H vs Q E hr h => ⟨_, hb cdv A outer s H E, ?_⟩)
  · obtain ⟨a, C, ws, rfl, hl, _⟩ := h
    exact congrArg Nat.succ hl
  · obtain ⟨a, C, ws, rfl, hl, T, hno, ha, _, q⟩ := h
    match ws, hl with
    | [v1, v2], _ =>
    refine ⟨_, rfl, ?_⟩
    refine ⟨a, C, [.str txt], rfl, by show 1 ≤ 1000; decide, T, ha, ?_⟩
    refine ⟨_, rfl, _, rfl, a, C, b, rfl, T, hno f1 (by simp), .inl ⟨ha, fun dx hdx hne => ?_⟩⟩
    refine ⟨_, rfl, _, rfl, a, C, b, rfl, T, hno f2 (by simp), .inr ⟨dx, [(f1, v1)], upd_same, by rw [upd_ne hne, upd_same], by show 1 ≤ 900; decide, ?_⟩⟩
    have z := q (by simp) dx hdx hne
    have e : upd (upd (upd H dx (exd dx [(f1, v1)])) a (exo a C (some dx))) dx (exd dx [(f2, v2), (f1, v1)]) = upd (upd H dx (exd dx (fz [f1, f2] [v1, v2]))) a (exo a C (some dx)) := funext fun c => by
      by_cases h1 : c = dx
      · rw [h1, upd_same, upd_ne hne, upd_same]
        rfl
      · by_cases h2 : c = a
        · rw [h2, upd_ne (Ne.symm hne), upd_same, upd_same]
        · rw [upd_ne h1, upd_ne h2, upd_ne h1, upd_ne h2, upd_ne h1]
    show _
    rw [← e] at z
    exact z
end
section
variable {X : Cx} {b : Bse} {C fI : Addr} {fd : FuncData} {ps fl : List Str}
theorem run_mkG {pins : List (Addr × Obj)} {σ : L2.St} {H : Hp} {s : Shared} {Q : VK} {us uss : List Value} {kw : List (Str × Value)} {vs : List V} (T : OexG X.K b C) (iC : PySem.W.findIn X.K (.ref C) "__init__" = some (some (.ref fI))) (tI : PySem.W.typeIn X.K (.ref fI) = some (.type "function"))
    (F1 : FnOk X.prog X.w X.K X.mg X.base (L2.CX X.prog X.w) 2 fI fd ps (spG X.K b fl)) (hr : Room 3 X.A) (I : Inv X pins σ H s) (hbd : ∀ (a : Addr) (s' : Shared), X.K.In s'.heap → BindsTo s' fd ⟨.ref a :: us, kw⟩ (ps.zip (.ref a :: uss))) (r : Vals vs uss) (hus : us.length ≤ sizeLine)
    (h : ∀ a, H a = none → spG X.K b fl (.ref a :: vs) (upd H a (exo a C none)) (fun v H2 => v = .non ∧ Q (.ref a) H2) (fun _ _ _ => False)) :
    wpAny (model X.prog X.w) X.A (call (.ref C) us kw) (EP X pins σ Q) X.xe s := by
  obtain ⟨nm, q, N, bs, bm, sn, sub, ab, col, dd, k0, k1, k2, k3, k5, hC, hbm⟩ := T.cls
  obtain ⟨hp, g, dr, tk, os⟩ := s
  have hsz : hp.objs.size ≤ hp.objs.size + 1 := Nat.le_succ _
  have hq := h (hp.objs.size + 1) (I.hok.fresh hsz)
  have kk : ∀ c o, hp.get? c = some o → ((hp.push (PySem.W.kdv_tup us)).push (PySem.HandSPX.excO C hp.objs.size)).get? c = some o := fun c o e => Heap.get?_push_of_some _ (Heap.get?_push_of_some _ e)
  have hget : ((hp.push (PySem.W.kdv_tup us)).push (PySem.HandSPX.excO C hp.objs.size)).get? (hp.objs.size + 1) = some (PySem.HandSPX.excO C hp.objs.size) := by heap_get
  have I2 : Inv X pins σ (upd H (hp.objs.size + 1) (exo (hp.objs.size + 1) C none)) ⟨(hp.push (PySem.W.kdv_tup us)).push (PySem.HandSPX.excO C hp.objs.size), g, dr, tk, os⟩ := I.laid (t' := tk) kk hsz (exo_ok hget)
  have r2 : Vals (V.ref (hp.objs.size + 1) :: vs) (Value.ref (hp.objs.size + 1) :: uss) := .cons rfl r
  refine wpAny_call (callK T.ok.F (fun Y => hbm.has Y) (I.kIn _ _ hC) (PySem.W.looks_findIn I.kIn iC) (fun self => PySem.W.bind_fn I.kIn self tI) hus
    (codeAny_mono (F1.run _ X.stack _ _ ⟨Value.ref (hp.objs.size + 1) :: us, kw⟩ (Value.ref (hp.objs.size + 1) :: uss) _ _ (fun _ _ _ => False) (hr.make C us kw) (I2.env0.make C us kw) (hbd _ _ I2.kIn) r2 hq) fun r s' hq' => ?_))
  cases r with
  | error er => exact passL pins σ _ _ er s' I2 hq'
  | ok fl =>
    cases fl with
    | ret u =>
      obtain ⟨v, H', I3, rv, ev, q3⟩ := I2.after hq'
      subst ev
      exact ⟨rv, ⟨V.ref (hp.objs.size + 1), H', I3, rfl, q3⟩⟩
    | next => exact False.elim hq'
    | brk => exact False.elim hq'
    | cont => exact False.elim hq'
end
/-- C(..) -/
def mMkx (c : Str) (fl : List Str) (ds : List Dv) : M Dv := fun S => if ds.length = fl.length then .ok (.exc c (fz fl ds)) S else .bad
theorem mkx_sp {G : Gx} {W : WX} {σ : L2.St} {ρ : Rg} {H : Hp} {S : Sto} {b : Bse} {fl : List Str} {x : Str} {vs : List V} {ds : List Dv} {Q : VK} {a : Addr} (T : OexG G.K b (He.ga G.K x)) (hno : ∀ f ∈ fl, PySem.W.findIn G.K (.ref (He.ga G.K x)) f = some none) (rs : RS G ρ H S) (rx : RvA G.K ρ H vs ds) (p : Post G W σ (vr G) ρ H (mMkx x fl ds S) Q) (ha : H a = none) :
    spG G.K b fl (.ref a :: vs) (upd H a (exo a (He.ga G.K x) none)) (fun v H2 => v = .non ∧ Q (.ref a) H2) (fun _ _ _ => False) := by
  unfold mMkx at p
  by_cases hl : ds.length = fl.length
  · rw [if_pos hl] at p
    have hlv : vs.length = fl.length := rx.length.trans hl
    refine ⟨a, _, vs, rfl, hlv, T, hno, upd_same, fun e => ⟨rfl, ?_⟩, fun _ dx hdx hne => ⟨rfl, ?_⟩⟩
    · subst e
      obtain rfl : ds = [] := List.eq_nil_of_length_eq_zero hl
      exact p (.ref a) _ ρ (Stp.new ha) (rs.new ha) (.exc0 upd_same (rs.nin ha))
    · have hd : H dx = none := by
        have z : upd H a (exo a (He.ga G.K x) none) dx = H dx := upd_ne hne
        rw [← z]
        exact hdx
      have ha2 : upd H dx (exd dx (fz fl vs)) a = none := by rw [upd_ne (Ne.symm hne)]; exact ha
      have e : upd (upd (upd H a (exo a (He.ga G.K x) none)) dx (exd dx (fz fl vs))) a (exo a (He.ga G.K x) (some dx)) = upd (upd H dx (exd dx (fz fl vs))) a (exo a (He.ga G.K x) (some dx)) := funext fun c => by
        by_cases h2 : c = a
        · rw [h2, upd_same, upd_same]
        · rw [upd_ne h2, upd_ne h2]
          by_cases h1 : c = dx
          · rw [h1, upd_same, upd_same]
          · rw [upd_ne h1, upd_ne h1, upd_ne h2]
      rw [e]
      have st : Stp ρ H ρ (upd (upd H dx (exd dx (fz fl vs))) a (exo a (He.ga G.K x) (some dx))) := (Stp.new hd).trans (Stp.new ha2)
      refine p (.ref a) _ ρ st ((rs.new hd).new ha2) (.exc (dx := dx) (fv := fz fl vs) upd_same (rs.nin ha) (by rw [upd_ne hne, upd_same]) (rs.nin hd) (by rw [fz_names hlv, fz_names hl]) ?_)
      rw [fz_vals hlv, fz_vals hl]
      exact (rx.step st).rev
  · rw [if_neg hl] at p
    exact p.elim
section
variable {G : Gx} {W : WX} {X : Cx} {x : Str} {b : Bse} {fI : Addr} {fd : FuncData} {fl ps ks : List Str} {e : Expr} {es : List Expr} {mr : EA} {p pos : Pos} {js : List Nat}
theorem re_mkx (hK : X.K = G.K) (T : OexG X.K b (He.ga X.K x)) (hno : ∀ f ∈ fl, PySem.W.findIn X.K (.ref (He.ga X.K x)) f = some none) (iC : PySem.W.findIn X.K (.ref (He.ga X.K x)) "__init__" = some (some (.ref fI))) (tI : PySem.W.typeIn X.K (.ref fI) = some (.type "function"))
    (F1 : FnOk X.prog X.w X.K X.mg X.base (L2.CX X.prog X.w) 2 fI fd ps (spG X.K b fl)) (hr : Room 3 X.A) (hb : L2.Binds X.K fd ps []) (hps : ps.length = fl.length + 1) (hz : fl.length ≤ 100) (hg : Gl X x) (hm : X.mg x = some (.ref (He.ga X.K x))) (ha : PA X (e :: es) (tA G W mr))
    (hdb : (x == ("__debug__" : Str)) = false := by decide) (he : starEach (e :: es) X.env = (false, eval e X.env) :: starEach es X.env := by rfl) (hpl : (backTo pos (starEach es X.env)).any (·.1) = false := by rfl) :
    PE X (.Call (.Name x p) (e :: es) [] pos) (tE G W (eN (mMkx x fl) mr)) := ⟨fun pins s σ H Q I q => by
  obtain ⟨ρ, δ, S, cf, p⟩ := q
  refine wpAny_Call_Name_kw (ld_glob I hg hm ?_ hdb)
  refine PySem.W.callWith_K (h₀ := X.base) I.ok.mod.kin T.kC (thn (ha.run pos pins s σ H _ I ⟨ρ, δ, S, cf, Post.bind p⟩) fun us s1 ⟨vs, H1, I1, r, ρ1, S1, ds, s1', rs1, rx, p1⟩ => ⟨I1.kIn, ?_⟩) he hpl
  have hl : ds.length = fl.length := by
    by_cases hl : ds.length = fl.length
    · exact hl
    · unfold mMkx at p1
      rw [if_neg hl] at p1
      exact p1.elim
  have hus : us.length = fl.length := by rw [← r.length, rx.length, hl]
  refine run_mkG T iC tI F1 hr I1 (fun a s' hk => ?_) r (by show us.length ≤ sizeLine; rw [sizeLine_eq]; omega) fun a hna => ?_
  · have z := hb s' (.ref a :: us) hk (by rw [List.append_nil, List.length_cons, hus, hps])
    rw [List.append_nil] at z
    exact z
  · have z := mkx_sp (a := a) (by rw [← hK]; exact T) (by rw [← hK]; exact hno) rs1 rx p1 hna
    rw [← hK] at z
    exact z⟩
theorem re_mkxK {kws : List Keyword} (hK : X.K = G.K) (T : OexG X.K b (He.ga X.K x)) (hno : ∀ f ∈ fl, PySem.W.findIn X.K (.ref (He.ga X.K x)) f = some none) (iC : PySem.W.findIn X.K (.ref (He.ga X.K x)) "__init__" = some (some (.ref fI))) (tI : PySem.W.typeIn X.K (.ref fI) = some (.type "function"))
    (F1 : FnOk X.prog X.w X.K X.mg X.base (L2.CX X.prog X.w) 2 fI fd ps (spG X.K b fl)) (hr : Room 3 X.A)
    (hb : ∀ (s : Shared) (u : Value) (ws : List Value), X.K.In s.heap → ws.length = ks.length → BindsTo s fd ⟨[u], ks.zip ws⟩ (ps.zip (u :: js.map fun j => ws.getD j .none))) (hjs : js.length = ks.length) (hjl : ∀ j ∈ js, j < js.length)
    (hg : Gl X x) (hm : X.mg x = some (.ref (He.ga X.K x))) (hkw : PK X kws (tA G W mr)) (hall : (backToKw pos (keywordEach kws X.env)).all (·.1.isSome) = true := by rfl) (hks : (backToKw pos (keywordEach kws X.env)).filterMap (·.1) = ks := by rfl)
    (hdb : (x == ("__debug__" : Str)) = false := by decide) (hpl : ((backTo pos (starEach [] X.env)).any (·.1) || (backToKw pos (keywordEach kws X.env)).any (·.1.isNone)) = false := by rfl) :
    PE X (.Call (.Name x p) [] kws pos) (tE G W (eK (mMkx x fl) js mr)) := ⟨fun pins s σ H Q I q => by
  obtain ⟨ρ, δ, S, cf, p⟩ := q
  refine wpAny_Call_Name_kw (ld_glob I hg hm ?_ hdb)
  refine PySem.W.callWith_KW0 (h₀ := X.base) I.ok.mod.kin T.kC hall (thn (hkw.run pos pins s σ H _ I ⟨ρ, δ, S, cf, Post.bind p⟩) fun ws s1 ⟨vs, H1, I1, r, ρ1, S1, ds, s1', rs1, rx, p1⟩ => ⟨I1.kIn, ?_⟩) hpl
  rw [hks]
  dsimp only at p1
  by_cases hl : ds.length = js.length
  · rw [if_pos hl] at p1
    have hl2 : ws.length = js.length := by rw [← r.length, rx.length, hl]
    refine run_mkG T iC tI F1 hr I1 (fun a s' hk => hb s' (.ref a) ws hk (by rw [hl2, hjs])) (pick_vals r fun j hj => by rw [hl2]; exact hjl j hj) (Nat.zero_le _) fun a hna => ?_
    have z := mkx_sp (a := a) (by rw [← hK]; exact T) (by rw [← hK]; exact hno) rs1 (pick_rel rx fun j hj => by rw [hl]; exact hjl j hj) p1 hna
    rw [← hK] at z
    exact z
  · rw [if_neg hl] at p1
    exact p1.elim⟩
end
end Mi
end T_SimI
section T_SimJ
set_option Elab.async false
set_option linter.all false
set_option maxRecDepth 100000
set_option maxHeartbeats 4000000
/-! SimJ: exceptions: keywords, raise, fields, classes. -/
namespace Mi
open PySem PySem.Spec PyProof.Rows L2
section
variable {K : PySem.W.Frag} {x qual : Str} {params : Arguments} {body : List Stmt} {scope : Scope} {f : Addr} {fd : FuncData} {ps ks : List Str} {js : List Nat}
theorem kwG (F : FunD K x qual params body scope [] [] f fd) (h : ∀ (kV doc pm : Value) (an : Option Addr) (cdv ct : Value) (u : Value) (ws : List Value), ws.length = ks.length → bindArgs (PySem.W.fnOf x qual params body scope .none kV doc pm an cdv ct) ⟨[u], ks.zip ws⟩ = pure (ps.zip (u :: js.map fun j => ws.getD j .none))) (s : Shared) (u : Value) (ws : List Value) (_ : K.In s.heap) (hl : ws.length = ks.length) :
    BindsTo s fd ⟨[u], ks.zip ws⟩ (ps.zip (u :: js.map fun j => ws.getD j .none)) := by
  obtain ⟨oc, od, dV, kV, doc, pm, an, cdv, ct, osl, rfl, lk, hcd, hD, hK⟩ := F.ex
  rcases hD with ⟨_, rfl⟩ | ⟨e, _⟩
  · exact .of_eq (h kV doc pm an cdv ct u ws hl)
  · exact absurd rfl e
end
section
variable {G : Gx} {W : WX} {X : Cx} {e : Expr} {es : List Expr} {me : EX} {p pos pos2 : Pos}
/-- e.f, e an exception -/
def mFld (cs : List Str) (f : Str) (d : Dv) : M Dv := match d with
  | .exc c fs => if c ∈ cs then mOpt (fs.lookup f) else mBad
  | _ => mBad
theorem re_att {f : Str} {cs : List Str} (hK : X.K = G.K) (T : ∀ c ∈ cs, XfC X.K (He.ga X.K c) ∧ PySem.W.findIn X.K (.ref (He.ga X.K c)) f = some none) (he : PE X e (tE G W me)) (hb : attributeBase e f X.env (eval e X.env) = eval e X.env := by rfl) :
    PE X (.Attribute e f pos) (tE G W (e1 (mFld cs f) me)) := ⟨fun pins s σ H Q I q => by
  obtain ⟨ρ, δ, S, cf, p⟩ := q
  refine attr_of hb (thn (he.run pins s σ H _ I ⟨ρ, δ, S, cf, Post.bind p⟩) fun u s1 ⟨x, H1, I1, rx, ρ1, S1, d, s1', rs1, rv, p1⟩ => ?_)
  cases rv with
  | @exc a dx c fv fs h n hd nd en r =>
    obtain rfl : u = Value.ref a := rx
    unfold mFld at p1
    dsimp only at p1
    by_cases hc : c ∈ cs
    · rw [if_pos hc] at p1
      obtain ⟨T1, T2⟩ := T c hc
      cases hl : fs.lookup f with
      | none => rw [hl] at p1; exact p1.elim
      | some y =>
        rw [hl] at p1
        obtain ⟨v, hv, ry⟩ := lookup_rel en r hl
        rw [← hK] at h
        obtain ⟨t1, ho⟩ := exo_at I1.hok h
        obtain ⟨mA, hns, rel⟩ := exd_at I1.hok hd
        obtain ⟨od, hod, hlk⟩ := lookIn_ns hns
        obtain ⟨u, hu, ru⟩ := RelO.some_of (v := v) (o := mA f) (by rw [← hv]; exact rel f)
        have J : PySem.W.InstAt s1.heap a _ (He.ga X.K c) (some od) := ⟨ho, rfl, rfl, hod⟩
        exact HandSPX.exc_get I1.kIn J T1.ga T1.gg T1.exC (PySem.W.findObj_own T1.hdC T2 rfl (by rw [hlk, hu])) (handed_of ru) ⟨v, H1, I1.tok _, ru, p1.val rs1 ry⟩
    · rw [if_neg hc] at p1
      exact p1.elim
  | @exc0 a c h n =>
    unfold mFld at p1
    dsimp only at p1
    split at p1 <;> exact p1.elim
  | _ => exact p1.elim⟩
/-- isinstance(e, Y), e an exception of one of the classes cs; those of them that are Y's: yes -/
def mIsx (cs yes : List Str) (d : Dv) : M Dv := match d with
  | .exc c _ => if c ∈ cs then M.pure (.bl (decide (c ∈ yes))) else mBad
  | _ => mBad
def rIsx (K : PySem.W.Frag) : List V → Hp → VK → Prop := fun xs H Q => ∃ (a D : Addr) (d : Option Addr) (c : V) (cv : Value) (b : Bool), H a = some (exo a D d) ∧ (∀ dx, d = some dx → ∃ fs, H dx = some (exd dx fs)) ∧ ExcC K D ∧ xs = [.ref a, c] ∧ ClsV c cv ∧ PySem.W.kitOne K (.ref D) cv = some b ∧ Q (.bl b) H
theorem call_isx : CallR X (.builtin "isinstance") (rIsx X.K) := by
  intro pins s σ H xs us Q I r h
  obtain ⟨a, D, d, c, cv, b, ha, hd, C, rfl, hcv, e, q⟩ := h
  obtain ⟨u1, u2, rfl, r1, r2⟩ := vals2 r
  cases r1
  have ec := hcv.eq r2
  subst ec
  obtain ⟨t1, ho⟩ := exo_at I.hok ha
  have J : ∃ od, PySem.W.InstAt s.heap a ({ cls := .ref D, dict := d, data := .fields #[.ref t1, .none, .none, .none, .bool false, .none] } : Obj) D od := by
    cases d with
    | none => exact ⟨none, ho, rfl, rfl, trivial⟩
    | some dx =>
      obtain ⟨fs, hx⟩ := hd dx rfl
      obtain ⟨mA, ⟨od, _, _, hod, _⟩, _⟩ := exd_at I.hok hx
      exact ⟨some od, ho, rfl, rfl, hod⟩
  exact PySem.W.kia_one (PySem.W.mi_kitx C) I.kIn J e (fun z => nomatch z) fun tk => ⟨.bl b, H, I.kept (t' := tk) fun _ _ z => z, rfl, q⟩
theorem re_isx {y : Str} {cs yes : List Str} {v : V} {cv : Value} {p1 p2 : Pos} (hK : X.K = G.K) (T : ∀ c ∈ cs, ExcC X.K (He.ga X.K c) ∧ PySem.W.kitOne X.K (.ref (He.ga X.K c)) cv = some (decide (c ∈ yes))) (hv : ClsV v cv) (hg : Gl X "isinstance") (hm : X.mg "isinstance" = none)
    (he : PE X e (tE G W me)) (hy : PE X (.Name y p1) (tC v)) (hs : starEach [e, .Name y p1] X.env = (false, eval e X.env) :: starEach [.Name y p1] X.env := by rfl) (hs2 : starEach [.Name y p1] X.env = (false, eval (.Name y p1) X.env) :: starEach [] X.env := by rfl) (hpl : (backTo pos (starEach [.Name y p1] X.env)).any (·.1) = false := by rfl) :
    PE X (.Call (.Name "isinstance" p2) [e, .Name y p1] [] pos) (tE G W (e1 (mIsx cs yes) me)) :=
  (pe_callB call_isx hg hm (by decide +kernel) (pa_cons he (pa_cons hy pa_nil hs2) hs) (by decide) (by decide) hs hpl).imp fun σ H Q q => by
    obtain ⟨ρ, δ, S, cf, p⟩ := q
    refine ⟨ρ, δ, S, cf, (Post.bind p).mono fun x H1 ⟨ρ1, S1, d, s1, rs1, rv, p1⟩ => ?_⟩
    cases rv with
    | @exc a dx c fv fs h n hd nd en r =>
      unfold mIsx at p1
      dsimp only at p1
      by_cases hc : c ∈ cs
      · rw [if_pos hc] at p1
        obtain ⟨T1, T2⟩ := T c hc
        exact ⟨a, He.ga X.K c, some dx, v, cv, _, by rw [hK]; exact h, fun dy e => by cases e; exact ⟨fv, hd⟩, T1, rfl, hv, T2, p1.val rs1 (.bl _)⟩
      · rw [if_neg hc] at p1
        exact p1.elim
    | @exc0 a c h n =>
      unfold mIsx at p1
      dsimp only at p1
      by_cases hc : c ∈ cs
      · rw [if_pos hc] at p1
        obtain ⟨T1, T2⟩ := T c hc
        exact ⟨a, He.ga X.K c, none, v, cv, _, by rw [hK]; exact h, (fun dy e => by cases e), T1, rfl, hv, T2, p1.val rs1 (.bl _)⟩
      · rw [if_neg hc] at p1
        exact p1.elim
    | _ => exact p1.elim
/-! ### raise -/
theorem pmkG {x : Str} {b : Bse} {C fI : Addr} {fd : FuncData} {ps fl : List Str} {ta : TA} (T : OexG X.K b C) (iC : PySem.W.findIn X.K (.ref C) "__init__" = some (some (.ref fI))) (tI : PySem.W.typeIn X.K (.ref fI) = some (.type "function"))
    (F1 : FnOk X.prog X.w X.K X.mg X.base (L2.CX X.prog X.w) 2 fI fd ps (spG X.K b fl)) (hr : Room 3 X.A) (hb : L2.Binds X.K fd ps []) (hg : Gl X x) (hm : X.mg x = some (.ref C)) (ha : PA X (e :: es) ta)
    (hdb : (x == ("__debug__" : Str)) = false := by decide) (he : starEach (e :: es) X.env = (false, eval e X.env) :: starEach es X.env := by rfl) (hpl : (backTo pos (starEach es X.env)).any (·.1) = false := by rfl) :
    PMk X (.Call (.Name x p) (e :: es) [] pos) (tMkO C (spG X.K b fl) [] ta) := by
  intro pins s σ H Q I h
  obtain ⟨nm, q, N, bs, bm, sn, sub, ab, col, dd, k0, k1, k2, k3, k5, hC, hbm⟩ := T.cls
  refine wpAny_Call_Name_kw (ld_glob I hg hm ?_ hdb)
  refine PySem.W.callWith_K (h₀ := X.base) I.ok.mod.kin T.kC (thn (ha.run pos pins s σ H _ I h) fun us s1 ⟨vs, H1, I1, r1, hz, q1⟩ => ⟨I1.kIn, ?_⟩) he hpl
  show wpAny _ _ (call (.ref C) us) _ _ _
  obtain ⟨hp, g, dr, tk, os⟩ := s1
  have hsz : hp.objs.size ≤ hp.objs.size + 1 := Nat.le_succ _
  have hq := q1 (hp.objs.size + 1) (I1.hok.fresh hsz)
  have kk : ∀ c o, hp.get? c = some o → ((hp.push (PySem.W.kdv_tup us)).push (PySem.HandSPX.excO C hp.objs.size)).get? c = some o := fun c o e => Heap.get?_push_of_some _ (Heap.get?_push_of_some _ e)
  have hget : ((hp.push (PySem.W.kdv_tup us)).push (PySem.HandSPX.excO C hp.objs.size)).get? (hp.objs.size + 1) = some (PySem.HandSPX.excO C hp.objs.size) := by heap_get
  have I2 : Inv X pins σ (upd H1 (hp.objs.size + 1) (exo (hp.objs.size + 1) C none)) ⟨(hp.push (PySem.W.kdv_tup us)).push (PySem.HandSPX.excO C hp.objs.size), g, dr, tk, os⟩ := I1.laid (t' := tk) kk hsz (exo_ok hget)
  have r2 : Vals (V.ref (hp.objs.size + 1) :: (vs ++ [])) (Value.ref (hp.objs.size + 1) :: (us ++ [])) := .cons rfl (r1.append .nil)
  have hl : (Value.ref (hp.objs.size + 1) :: us ++ []).length = ps.length := by
    have e := r2.length
    rw [F1.len _ _ _ _ hq] at e
    exact e.symm
  refine wpAny_call (PySem.HandSPX.call_own T.ok.F (fun Y => hbm.has Y) (I1.kIn _ _ hC) (PySem.W.looks_findIn I1.kIn iC) (fun self => PySem.W.bind_fn I1.kIn self tI) (by rw [← Paired.length r1, sizeLine_eq]; omega)
    (codeAny_mono (F1.run _ X.stack _ _ ⟨Value.ref (hp.objs.size + 1) :: us, []⟩ (Value.ref (hp.objs.size + 1) :: (us ++ [])) _ _ (fun _ _ _ => False) (hr.make C us []) (I2.env0.make C us []) (by have z := hb ⟨(hp.push (PySem.W.kdv_tup us)).push (PySem.HandSPX.excO C hp.objs.size), g, dr, tk, os⟩ (Value.ref (hp.objs.size + 1) :: us) I2.kIn hl; rw [List.cons_append] at z; exact z) r2 hq) fun r s' hq' => ?_))
  cases r with
  | error er => exact passL pins σ _ _ er s' I2 hq'
  | ok fl =>
    cases fl with
    | ret u =>
      obtain ⟨v, H2, os2, bare2, un2, hok2, rv, ev, d, fs, ea, ed, hd1, q2⟩ := hq'
      subst ev
      obtain ⟨h2, g2, d2, t2, os'⟩ := s'
      exact ⟨rv, mk_end (raises_own T.exC T.tyC) I1 hsz kk un2 hok2 os2 bare2 ea ed hd1 q2⟩
    | next => exact False.elim hq'
    | brk => exact False.elim hq'
    | cont => exact False.elim hq'
/-- raise C(e, ..) -/
def sRaiseG (c : Str) (fl : List Str) (a : EA) : SM := fun δ S => onOk (a δ S) δ fun ds S' => if ds.length = fl.length ∧ fl ≠ [] then .ex ⟨c, fz fl ds⟩ δ S' else .bad
theorem rs_raiseG {x : Str} {b : Bse} {C fI : Addr} {fd : FuncData} {ps fl : List Str} {mr : EA} (hK : X.K = G.K) (hM : X.mg = G.mg) (hc : X.calm = true) (tk : Takes X W) (T : OexG X.K b C) (hno : ∀ f ∈ fl, PySem.W.findIn X.K (.ref C) f = some none) (iC : PySem.W.findIn X.K (.ref C) "__init__" = some (some (.ref fI))) (tI : PySem.W.typeIn X.K (.ref fI) = some (.type "function"))
    (F1 : FnOk X.prog X.w X.K X.mg X.base (L2.CX X.prog X.w) 2 fI fd ps (spG X.K b fl)) (hr : Room 3 X.A) (hb : L2.Binds X.K fd ps []) (hz : fl.length ≤ 100) (hg : Gl X x) (hm : X.mg x = some (.ref C)) (ha : PA X (e :: es) (tA G W mr))
    (hdb : (x == ("__debug__" : Str)) = false := by decide) (he : starEach (e :: es) X.env = (false, eval e X.env) :: starEach es X.env := by rfl) (hpl : (backTo pos (starEach es X.env)).any (·.1) = false := by rfl) :
    PS X (.Raise (some (.Call (.Name x p) (e :: es) [] pos)) none pos2) (tS G W (sRaiseG x fl mr)) :=
  (ps_raise hc tk (pmkG T iC tI F1 hr hb hg hm ha hdb he hpl)).imp fun D σ H q => by
    obtain ⟨ρ, δ, S, cf, p⟩ := q
    refine ⟨ρ, δ, S, cf, ?_⟩
    unfold sRaiseG at p
    cases e1 : mr δ S with
    | bad => simp only [e1, onOk] at p; exact p
    | ex z S1 =>
      simp only [e1, onOk] at p
      exact fun c dx H' ρ' s rs rx => p c dx σ H' ρ' s (cf.step s rs) rx
    | ok ds S1 =>
      simp only [e1, onOk] at p
      intro vs H1 ρ1 s1 rs1 rv
      by_cases hl : ds.length = fl.length ∧ fl ≠ []
      · rw [if_pos hl] at p
        obtain ⟨hl, hne0⟩ := hl
        have hlv : vs.length = fl.length := rv.length.trans hl
        refine ⟨by omega, fun a ha => ⟨a, C, vs ++ [], rfl, by rw [List.append_nil]; exact hlv, T, hno, upd_same, fun z => absurd z hne0, fun _ dx hdx hne => ⟨rfl, dx, fz fl (vs ++ []), upd_same, ?_, ?_, ?_⟩⟩⟩
        · rw [upd_ne hne, upd_same]
        · have z : (upd H1 a (exo a C none)) dx = H1 dx := upd_ne hne
          rw [← z]
          exact hdx
        · rw [List.append_nil]
          have hd1 : H1 dx = none := by
            have z : (upd H1 a (exo a C none)) dx = H1 dx := upd_ne hne
            rw [← z]
            exact hdx
          have eH : upd (del (upd (upd (upd H1 a (exo a C none)) dx (exd dx (fz fl vs))) a (exo a C (some dx))) a) dx (.xd (fz fl vs)) = upd H1 dx (.xd (fz fl vs)) := by
            funext c
            by_cases h1 : c = dx
            · subst h1
              rw [upd_same, upd_same]
            · rw [upd_ne h1, upd_ne h1]
              by_cases h2 : c = a
              · subst h2
                rw [del_same, ha]
              · rw [del_ne h2, upd_ne h2, upd_ne h1, upd_ne h2]
          rw [eH]
          have st : Stp ρ1 H1 ρ1 (upd H1 dx (.xd (fz fl vs))) := Stp.new hd1
          have rs2 := rs1.new (o := .xd (fz fl vs)) hd1
          refine p _ _ σ _ ρ1 (s1.trans st) ((cf.step s1 rs1).step st rs2) ⟨C, dx, fz fl vs, by rw [← hM]; exact hm, rfl, rfl, upd_same, rs1.nin hd1, ?_, ?_⟩
          · show (fz fl vs).map (·.1) = (fz fl ds).map (·.1)
            rw [fz_names hlv, fz_names hl]
          · show RvA G.K ρ1 _ ((fz fl vs).map (·.2)) ((fz fl ds).map (·.2))
            rw [fz_vals hlv, fz_vals hl]
            exact (rv.step st).rev
      · rw [if_neg hl] at p
        exact p.elim
end
end Mi
end T_SimJ
section T_SimK
set_option Elab.async false
set_option linter.all false
set_option maxRecDepth 100000
set_option maxHeartbeats 4000000
/-! SimK: names out of a list; a dict of one constant. -/
namespace Mi
open PySem PySem.Spec PyProof.Rows L2
section
variable {G : Gx} {W : WX} {X : Cx} {pos : Pos}
/-- a, b, .. = a list -/
def gLp (gs : List TGm) : TGm := fun d δ S => match asC S d with
  | some ds => gAll gs ds δ S
  | none => none
theorem rg_lst {es : List Expr} {ws : List Nat} {gs : List TGm} {k n : Nat} (hK : X.K = G.K) (hc : X.calm = true) (h : PGs X es (tGs G ws gs)) (hg : gs.length = n) (hn : (assignEach es X.env).length = n := by rfl) (hst : (assignEach es X.env).findIdx? (·.1) = none := by rfl) : PG X (.Tuple es k pos) (tG G ws (gLp gs)) :=
  (pg_lst hc h hn hst).imp fun v σ H Q q => by
    obtain ⟨ρ, δ, S, d, cf, r, p⟩ := q
    unfold gLp at p
    cases hd : asC S d with
    | none => rw [hd] at p; exact p.elim
    | some ds =>
      rw [hd] at p
      obtain ⟨a, vs, rfl, hq, hr⟩ := asC_ok cf.rs r hd
      refine ⟨a, vs, rfl, by rw [hK]; exact hq, ?_, ρ, δ, S, ds, cf, hr, p⟩
      cases e : gAll gs ds δ S with
      | none =>
        dsimp only at p
        rw [e] at p
        exact p.elim
      | some z => rw [hr.length, gAll_len e, hg]
/-- {k: i} -/
theorem re_disp1 {k : Str} {i : Int} {j1 j2 : Nat} {p1 p2 : Pos} (hk : OkS k := by unfold OkS; decide +kernel) : PE X (.Dict [some (.Constant (.str k) j1 p1)] [.Constant (.int i) j2 p2] pos) (tE G W (eC (.dct [(.inr k, .int i)]))) :=
  (pe_disp (trs := [(tC (.str k), tC (.int i))]) (pps_cons pe_str pe_int pps_nil) rfl rfl (by simp) (by show 1 ≤ 15; decide)).imp fun σ H Q q => by
    obtain ⟨ρ, δ, S, cf, p⟩ := q
    intro u hu
    refine ⟨upd_same, [(.inr k, .int i)], rfl, by show 1 ≤ 15; decide, ?_⟩
    have e : upd (upd H u (.dK [])) u (.dK (mergeK [] [(.inr k, .int i)])) = upd H u (.dK [(.inr k, .int i)]) := funext fun c => by
      by_cases h : c = u
      · rw [h, upd_same, upd_same]
        rfl
      · rw [upd_ne h, upd_ne h, upd_ne h]
    show Q (.ref u) (upd (upd H u (.dK [])) u (.dK (mergeK [] [(.inr k, .int i)])))
    rw [e]
    exact p _ _ ρ (Stp.new hu) (cf.rs.new hu) (.dct upd_same (cf.rs.nin hu) rfl (.cons (.int i) .nil))
end
end Mi
end T_SimK
section T_SimL
set_option Elab.async false
set_option linter.all false
set_option maxRecDepth 100000
set_option maxHeartbeats 4000000
/-! SimL: sorted, with and without key=. -/
namespace Mi
open PySem PySem.Spec PyProof.Rows L2
section
variable {prog : Program} {w : World} {A : Around} {E : Value → Shared → Prop} {s : Shared}
/-- sorted(x, ..): x's items are gathered (vs), a new list of them is sorted -/
theorem sorted_thru {x : Value} {vs : List Value} {kw : List (Str × Value)} {Q : Value → Shared → Prop}
    (hcol : ∀ (Q' : List Value → Shared → Prop) (E' : Value → Shared → Prop), (∀ h', (∀ b o, s.heap.get? b = some o → h'.get? b = some o) → Q' vs { s with heap := h' }) → wpAny (model prog w) A.in1 (collect x) Q' E' s)
    (hL : vs.length ≤ sizeLine) (ha1 : argsOk "sorted" ⟨[x], kw⟩) (ha2 : ∀ y, argsOk "list.sort" ⟨[.ref y], kw⟩)
    (body : ∀ (h' : Heap) (E' : Value → Shared → Prop), (∀ b o, s.heap.get? b = some o → h'.get? b = some o) → wpAny (model prog w) A.in1.in1 (Builtin.«list.sort» ⟨[.ref h'.objs.size], kw⟩) (fun f s' => f = .done (.ret .none) ∧ Q (.ref h'.objs.size) s') E' { s with heap := h'.push (seqObj "list" vs.toArray 0) }) :
    wpAny (model prog w) A (call (.builtin "sorted") [x] kw) Q E s := by
  refine call_function_entry_kw kind_sorted plain_sorted entry_sorted ha1 ?_
  unfold Builtin.«sorted»
  refine wpAny_bind (m := checkCount "sorted" 1 1 _) (wpAny_pure (wpAny_bind (hcol _ _ fun h' kp => wpAny_bind (wpAny_newList ?_ hL))))
  refine wpAny_bind (wpAny_holding (wpAny_call_entry_kw (s := { s with heap := h'.push (seqObj "list" vs.toArray 0) }) slot_list_sort ⟨_, Heap.get?_push_size _ rfl, rfl⟩ entry_list_sort ?b (ha2 _)))
  case b =>
    refine wpAny_mono (body h' _ kp) (fun f s' hf => ?_) fun _ _ z => z
    obtain ⟨rfl, hq⟩ := hf
    exact ⟨_, rfl, wpAny_pure ⟨_, rfl, hq⟩⟩
end
/-! ### sorted(xs) -/
open PySem.W (alike AllAlike Sortable dataLe EachIs dataKind sortVals SortsAt sortingHeap)
/-- items that stand for data -/
def rSortD (K : PySem.W.Frag) : List V → Hp → VK → Prop := fun vs H Q => ∃ (a : Addr) (bs : List (V × PyData)), vs = [.ref a] ∧ (SqL K H a (bs.map (·.1)) ∨ SqT K H a (bs.map (·.1))) ∧ (∀ b ∈ bs, Dp K H b.1 b.2) ∧ AllAlike (bs.map (·.2)) ∧ Sortable (bs.map (·.2)) ∧ (∀ b ∈ bs, b.2.depth ≤ 12) ∧
  ∀ p, H p = none → Q (.ref p) (upd H p (.lst ((bs.mergeSort (dataLe false (·.2))).map (·.1))))
theorem each_vals : ∀ {bs : List (V × PyData)} {us : List Value}, Vals (bs.map (·.1)) us → EachIs (fun (u : Value) (b : V × PyData) => RelV b.1 u) us bs
  | [], us, r => by
    cases r
    exact .nil
  | b :: bs, us, r => by
    cases r with
    | cons h t => exact .cons h (each_vals t)
theorem vals_each : ∀ {bs : List (V × PyData)} {us : List Value}, EachIs (fun (u : Value) (b : V × PyData) => RelV b.1 u) us bs → Vals (bs.map (·.1)) us
  | _, _, .nil => .nil
  | _, _, .cons h t => .cons h (vals_each t)
theorem each_reads {X : Cx} {pins : List (Addr × Obj)} {σ : L2.St} {H : Hp} {s : Shared} (I : Inv X pins σ H s) : ∀ {bs : List (V × PyData)} {us : List Value}, (∀ b ∈ bs, Dp X.K H b.1 b.2) → Vals (bs.map (·.1)) us → EachIs (fun (u : Value) (b : V × PyData) => ∃ as, PySem.Reads s.heap u b.2 as) us bs
  | [], us, _, r => by
    cases r
    exact .nil
  | b :: bs, us, hd, r => by
    cases r with
    | cons h t => exact .cons (Dp.reads I _ _ _ (hd b (by simp)) h) (each_reads I (fun c hc => hd c (List.mem_cons_of_mem _ hc)) t)
/-- gathering the items of a list, a tuple -/
theorem collect_sq {X : Cx} {pins : List (Addr × Obj)} {σ : L2.St} {H : Hp} {s : Shared} {a : Addr} {xs : List V} {A : Around} (I : Inv X pins σ H s) (h : SqL X.K H a xs ∨ SqT X.K H a xs) : ∃ its : List Value, Vals xs its ∧ its.length ≤ sizeLine ∧
    ∀ (Q' : List Value → Shared → Prop) (E' : Value → Shared → Prop), (∀ h', (∀ b o, s.heap.get? b = some o → h'.get? b = some o) → Q' its { s with heap := h' }) → wpAny (model X.prog X.w) A (collect (.ref a)) Q' E' s := by
  rcases h with h | h
  · obtain ⟨its, r, ⟨o, n, e1, e2, e3, e4⟩, z⟩ := I.list h
    refine ⟨its, r, by rw [← r.length]; exact z, fun Q' E' k => ?_⟩
    exact wpAny_collect_seq a (.inl rfl) e1 e2 e4 (fun h' kp => by simpa using k h' kp) (by rw [List.size_toArray, ← r.length]; exact z)
  · obtain ⟨its, r, ⟨o, e1, e2, n, e4⟩, z⟩ := I.tuple h
    refine ⟨its, r, by rw [← r.length]; exact z, fun Q' E' k => ?_⟩
    exact wpAny_collect_seq a (.inr rfl) e1 e2 e4 (fun h' kp => by simpa using k h' kp) (by rw [List.size_toArray, ← r.length]; exact z)
theorem cr_sortD {X : Cx} (hu : X.A.units + 64 < cLine) : CallR X (.builtin "sorted") (rSortD X.K) := by
  intro pins s σ H vs us Q I r h
  obtain ⟨a, bs, rfl, hs, hd, hal, hsk, hdp, q⟩ := h
  obtain ⟨u, rfl, ru⟩ := vals1 r
  obtain rfl : u = Value.ref a := ru
  obtain ⟨its, rv, hz, hcol⟩ := collect_sq (A := X.A.in1) I hs
  have hlen : its.length = bs.length := by rw [← rv.length, List.length_map]
  refine sorted_thru hcol hz (args_sorted1 _) (fun _ => args_list_sort _) fun h' E' kp => ?_
  have ho : (h'.push (seqObj "list" its.toArray 0)).get? h'.objs.size = some (seqObj "list" its.toArray 0) := Heap.get?_push_size _ rfl
  have up : ∀ b o, h'.get? b = some o → (sortingHeap (h'.push (seqObj "list" its.toArray 0)) h'.objs.size its).get? b = some o := fun b o e =>
    PySem.W.sortingHeap_old (Nat.ne_of_lt (Heap.lt_size e)) (Heap.get?_push_of_some _ e)
  have er := (each_reads I hd rv).mono (R' := fun (u : Value) (b : V × PyData) => ∃ as, PySem.Reads (sortingHeap (h'.push (seqObj "list" its.toArray 0)) h'.objs.size its) u b.2 as) fun u b ⟨as, x⟩ => ⟨as, PyProof.Rows.Reads.keeps (fun c o e => up c o (kp c o e)) x⟩
  have so := PySem.W.sortVals_data false (each_vals rv) er hal
  refine PySem.W.list_sort_vals (s := { s with heap := h'.push (seqObj "list" its.toArray 0) }) ho (SortsAt.data (s := { s with heap := sortingHeap (h'.push (seqObj "list" its.toArray 0)) h'.objs.size its }) (PySem.W.each_map (R := fun v d => ∃ as, PySem.Reads (sortingHeap (h'.push (seqObj "list" its.toArray 0)) h'.objs.size its) v d as) (fun b : V × PyData => b.2) er) hal hsk (PySem.W.bound_map (A := X.A.in1.in1) fun b hb => ?_)) hz ⟨rfl, ?_⟩
  · have := hdp b hb
    show X.A.units + 2 + b.2.depth < cLine
    omega
  · have I1 : Inv X pins σ H { s with heap := h' } := I.kept (t' := s.toks) kp
    obtain ⟨n, hn⟩ := sortedHeap_at (vs := its) (out := (sortVals (dataKind (sortingHeap (h'.push (seqObj "list" its.toArray 0)) h'.objs.size its) (bs.map (·.2))) false its its).toArray) ho
    have kp2 : ∀ b o, h'.get? b = some o → (sortedHeap (h'.push (seqObj "list" its.toArray 0)) h'.objs.size its (sortVals (dataKind (sortingHeap (h'.push (seqObj "list" its.toArray 0)) h'.objs.size its) (bs.map (·.2))) false its its).toArray).get? b = some o := fun b o e =>
      (sortedHeap_old (Nat.ne_of_lt (Heap.lt_size e)) (Heap.lt_size (Heap.get?_push_of_some _ e))).trans (Heap.get?_push_of_some _ e)
    refine ⟨.ref h'.objs.size, upd H h'.objs.size (.lst ((bs.mergeSort (dataLe false (·.2))).map (·.1))), I1.laid (t' := s.toks) kp2 (Nat.le_refl _) ⟨?_, _, n, vals_each so, hn⟩, rfl, q _ (I1.hok.fresh (Nat.le_refl _))⟩
    rw [List.length_map, List.length_mergeSort, ← hlen]
    exact hz
/-! ### the mirror -/
def seqOf (S : Sto) : Dv → Option (List Dv)
  | .tup xs => some xs
  | d => asC S d
def alikeB (ps : List PyData) : Bool := ps.all fun p => ps.all fun q => alike p q
def tupB : PyData → Bool
  | .tuple (_ :: _) => true
  | _ => false
def otherB : PyData → Bool
  | .tuple _ => false
  | .none => false
  | _ => true
def sortB (ps : List PyData) : Bool := noDictA ps && alikeB ps && (ps.all tupB || ps.all otherB)
theorem sortB_ok {ps : List PyData} (h : sortB ps = true) : noDictA ps = true ∧ AllAlike ps ∧ Sortable ps := by
  unfold sortB at h
  obtain ⟨h, h3⟩ := Bool.and_eq_true_iff.mp h
  obtain ⟨h1, h2⟩ := Bool.and_eq_true_iff.mp h
  refine ⟨h1, fun d hd d' hd' => List.all_eq_true.mp (List.all_eq_true.mp h2 d hd) d' hd', ?_⟩
  rcases Bool.or_eq_true_iff.mp h3 with h | h
  · refine .inl fun d hd => ?_
    have z := List.all_eq_true.mp h d hd
    unfold tupB at z
    split at z
    · exact ⟨_, _, rfl⟩
    · cases z
  · refine .inr fun d hd => ?_
    have z := List.all_eq_true.mp h d hd
    refine ⟨fun e => ?_, fun xs e => ?_⟩
    · rw [e] at z; cases z
    · rw [e] at z; cases z
/-- sorted by what stands beside -/
def byK {α : Type} (xs : List (α × PyData)) : List α := (xs.mergeSort (dataLe false (·.2))).map (·.1)
def sortedD (S : Sto) (xs ks : List Dv) : Option (List Dv) := match optAll (ks.map (deep S dpt)) with
  | some ps => if sortB ps = true then some (byK (xs.zip ps)) else none
  | none => none
def mSorted (ds : List Dv) : M Dv := fun S => match ds with
  | [d] => (match seqOf S d with
    | some xs => (match sortedD S xs xs with
      | some ys => .ok (.lst ys) S
      | none => .bad)
    | none => .bad)
  | _ => .bad
theorem rvA_of_each {K : PySem.W.Frag} {ρ : Rg} {H : Hp} : ∀ {as : List (V × PyData)} {bs : List (Dv × PyData)}, EachIs (fun (a : V × PyData) (b : Dv × PyData) => Rv K ρ H a.1 b.1 ∧ a.2 = b.2) as bs → RvA K ρ H (as.map (·.1)) (bs.map (·.1))
  | _, _, .nil => .nil
  | _, _, .cons h t => .cons h.1 (rvA_of_each t)
theorem each_of_rvA {K : PySem.W.Frag} {ρ : Rg} {H : Hp} : ∀ {vs : List V} {ds : List Dv} (ps : List PyData), RvA K ρ H vs ds → EachIs (fun (a : V × PyData) (b : Dv × PyData) => Rv K ρ H a.1 b.1 ∧ a.2 = b.2) (vs.zip ps) (ds.zip ps)
  | _, _, [], _ => by
    rw [List.zip_nil_right, List.zip_nil_right]
    exact .nil
  | _, _, _ :: _, .nil => .nil
  | _, _, p :: ps, .cons h t => .cons ⟨h, rfl⟩ (each_of_rvA ps t)
theorem each_snd {K : PySem.W.Frag} {ρ : Rg} {H : Hp} : ∀ {as : List (V × PyData)} {bs : List (Dv × PyData)}, EachIs (fun (a : V × PyData) (b : Dv × PyData) => Rv K ρ H a.1 b.1 ∧ a.2 = b.2) as bs → ∀ p ∈ as.zip bs, p.1.2 = p.2.2 := fun h p hp => (h.zip p hp).2
/-- the sorted ones go together -/
theorem byK_rel {K : PySem.W.Frag} {ρ : Rg} {H : Hp} {vs : List V} {ds : List Dv} (ps : List PyData) (r : RvA K ρ H vs ds) : RvA K ρ H (byK (vs.zip ps)) (byK (ds.zip ps)) := by
  have e := each_of_rvA ps r
  refine rvA_of_each (PySem.W.sort_each e fun p hp q hq => ?_)
  show dataLe false (fun x : V × PyData => x.2) p.1 q.1 = dataLe false (fun x : Dv × PyData => x.2) p.2 q.2
  unfold PySem.W.dataLe PySem.W.sortLe
  dsimp only
  rw [each_snd e p hp, each_snd e q hq]
theorem dpA_zip {K : PySem.W.Frag} {H : Hp} : ∀ {vs : List V} {ps : List PyData}, DpAll K H vs ps → ∀ b ∈ vs.zip ps, Dp K H b.1 b.2
  | _, _, .nil, b, hb => by cases hb
  | _, _, .cons h t, b, hb => by
    rcases List.mem_cons.mp hb with e | hb
    · rw [e]; exact h
    · exact dpA_zip t b hb
theorem depthAll_mem : ∀ {ps : List PyData} {k : Nat}, PyData.depthAll ps ≤ k → ∀ p ∈ ps, p.depth ≤ k
  | p :: ps, k, h, q, hq => by
    have h' : max p.depth (PyData.depthAll ps) ≤ k := by
      have e : PyData.depthAll (p :: ps) = max p.depth (PyData.depthAll ps) := by simp [PyData.depthAll]
      rw [← e]; exact h
    rcases List.mem_cons.mp hq with e | hq
    · rw [e]; omega
    · exact depthAll_mem (by omega) q hq
section
variable {G : Gx} {W : WX}
theorem seqOf_ok {ρ : Rg} {H : Hp} {S : Sto} {d : Dv} {v : V} {xs : List Dv} (rs : RS G ρ H S) (r : Rv G.K ρ H v d) (e : seqOf S d = some xs) : ∃ a vs, v = .ref a ∧ (SqL G.K H a vs ∨ SqT G.K H a vs) ∧ RvA G.K ρ H vs xs := by
  unfold seqOf at e
  split at e
  · cases e
    cases r with
    | @tup a vs _ h r => exact ⟨a, vs, rfl, .inr h.sq, r⟩
  · obtain ⟨a, vs, rfl, h, r⟩ := asC_ok rs r e
    exact ⟨a, vs, rfl, .inl h, r⟩
theorem keys_ok {ρ : Rg} {H : Hp} {S : Sto} {ds : List Dv} {vs : List V} {ps : List PyData} (rs : RS G ρ H S) (r : RvA G.K ρ H vs ds) (e : optAll (ds.map (deep S dpt)) = some ps) (hn : noDictA ps = true) :
    (∀ b ∈ vs.zip ps, Dp G.K H b.1 b.2) ∧ (∀ p ∈ ps, p.depth ≤ 12) ∧ ps.length = vs.length := by
  have l := layA (G := G) (fun d p v a b c => deep_lay rs dpt d p v a b c) ds ps vs e hn r
  exact ⟨dpA_zip (deep_dpA (G := G) (fun d p v a b c => deep_dp rs dpt d p v a b c) ds ps vs e hn r), depthAll_mem l.2, by rw [r.length]; simpa using (optAll_len e).symm⟩
theorem d_sorted : OpN G W (rSortD G.K) mSorted := by
  intro ρ H σ S xs ds Q rs rx p
  unfold mSorted at p
  split at p
  · split at p
    · rename_i ys e
      split at p
      · rename_i zs e2
        obtain ⟨v, rfl, rv⟩ := rx.one
        obtain ⟨a, vs, rfl, h, r⟩ := seqOf_ok rs rv e
        unfold sortedD at e2
        split at e2
        · rename_i ps e3
          split at e2
          · rename_i hb
            cases e2
            obtain ⟨hn, hal, hsk⟩ := sortB_ok hb
            obtain ⟨k1, k2, k3⟩ := keys_ok rs r e3 hn
            have m1 : (vs.zip ps).map (·.1) = vs := List.map_fst_zip (by omega)
            have m2 : (vs.zip ps).map (·.2) = ps := List.map_snd_zip (by omega)
            refine ⟨a, vs.zip ps, rfl, by rw [m1]; exact h, k1, by rw [m2]; exact hal, by rw [m2]; exact hsk, fun b hb => k2 _ (by rw [← m2]; exact List.mem_map_of_mem hb), fun l hl => ?_⟩
            exact p.newL rs (byK_rel ps r) hl
          · cases e2
        · cases e2
      · exact p.elim
    · exact p.elim
  · exact p.elim
end
end Mi
end T_SimL
section T_SimM
set_option Elab.async false
set_option linter.all false
set_option maxRecDepth 100000
set_option maxHeartbeats 4000000
/-! SimM: sorted(xs, key=f), f a def of the module. -/
namespace Mi
open PySem PySem.Spec PyProof.Rows L2
open PySem.W (alike AllAlike Sortable dataLe EachIs dataKind sortVals SortsAt sortingHeap KeepsBut KeyedOut)
/-- f is called for each item, the keys are gathered -/
def KeyRun (sp : Sp) : List V → List V → Hp → (List V → Hp → Prop) → Prop
  | [], acc, H, Q => Q acc H
  | x :: xs, acc, H, Q => sp [x] H (fun v H' => KeyRun sp xs (acc ++ [v]) H' Q) (fun _ _ _ => False)
def rSortK (K : PySem.W.Frag) (f : Addr) (sp : Sp) : List V → List V → Hp → VK → Prop := fun vs zs H Q => zs = [.ref f] ∧ ∃ (a : Addr) (xs : List V), vs = [.ref a] ∧ (SqL K H a xs ∨ SqT K H a xs) ∧
  KeyRun sp xs [] H fun ks H' => ∃ ps : List PyData, ps.length = xs.length ∧ (∀ b ∈ ks.zip ps, Dp K H' b.1 b.2) ∧ AllAlike ps ∧ Sortable ps ∧ (∀ p ∈ ps, p.depth ≤ 12) ∧ ∀ p, H' p = none → Q (.ref p) (upd H' p (.lst (byK (xs.zip ps))))
section
variable {X : Cx} {pins : List (Addr × Obj)} {σ : L2.St} {H : Hp} {s : Shared}
theorem fpOk_at {H' : Hp} {b : Addr} (h : FpOk X pins H b) (n : H' b = none) : FpOk X pins H' b := ⟨n, h.2⟩
/-- a record of ours becomes a tracked list -/
theorem track_lst {a : Addr} {ys : List V} {its : List Value} {n : Nat} (I : Inv X pins σ H s) (hf : FpOk X pins H a) (ho : s.heap.get? a = some (seqObj "list" its.toArray n)) (hz : ys.length ≤ sizeLine) (r : Vals ys its) : Inv X pins σ (upd H a (.lst ys)) s := by
  have hn := hf.1
  have z := I.step (g' := s.gens) (t' := s.toks) (d' := s.drawn) (ch := [a]) (h' := s.heap) (H' := upd H a (.lst ys)) (fun b hb => by
    rw [List.mem_singleton.mp hb]
    exact ⟨hf.2.2.2.1, hf.2.1, hf.2.2.2.2.1, hf.2.2.2.2.2⟩) (fun _ _ _ _ _ e _ => e) (fun _ o _ _ _ e _ => ⟨o.slots, e⟩)
    (fun b o hb _ e => by rw [upd_ne (fun q => hb (List.mem_singleton.mpr q))]; exact e) (fun _ o _ e => ⟨o, e⟩)
    (fun b xs e => by rw [upd_ne (ne_of_none e hn)]; exact e) (fun b o u e => by rw [upd_ne (ne_of_none e hn)]; exact e) (fun b ps e => ⟨#[], by rw [upd_ne (ne_of_none e hn), e]; simp⟩) (fun _ q => q)
    (I.hok.laidN (fun _ _ e => e) hn ⟨hz, its, n, r, ho⟩) I.bare
  exact z
/-- f(u), within the sort's own calls -/
theorem key_call {k : Nat} {f : Addr} {fd : FuncData} {y : Str} {sp : Sp} {x : V} {u : Value} {Q : VK} (F : FnG X.prog X.w X.K X.mg X.base k f fd [y] sp) (hgd : X.A.guards = some []) (hr : Room (k + 2) X.A) (hb : L2.Binds X.K fd [y] []) (I : Inv X pins σ H s) (r : RelV x u) (h : sp [x] H Q fun _ _ _ => False) :
    wpAny (model X.prog X.w) X.A.in1.in1 (call (.ref f) [u]) (fun v s' => EP X pins σ Q v s') (fun _ _ => False) s := by
  have b := hb s [u] I.kIn rfl
  rw [List.append_nil] at b
  refine wpAny_call (codeAny_mono (F.run X.A.in1.in1 hgd hr.in1.in1 X.stack s H ⟨[u], []⟩ [u] [x] Q (fun _ _ _ => False) I.env0.in1.in1 b (.cons r .nil) h) fun r s' hq => ?_)
  match r, hq with
  | .ok (.ret u), hq => exact I.after hq
  | .ok .next, hq => exact hq
  | .ok .brk, hq => exact hq
  | .ok .cont, hq => exact hq
  | .error e, hq =>
    obtain ⟨_, _, _, _, _, _, _, _, _, _, _, _, z⟩ := hq
    exact z
theorem cr_sortK {k : Nat} {f : Addr} {fd : FuncData} {y : Str} {sp : Sp} (F : FnG X.prog X.w X.K X.mg X.base k f fd [y] sp) (hgd : X.A.guards = some []) (hr : Room (k + 2) X.A) (hb : L2.Binds X.K fd [y] []) (hu : X.A.units + 64 < cLine) :
    CallRK X (.builtin "sorted") [Str.ofString "key"] (rSortK X.K f sp) := by
  intro pins s σ H vs zs us ws Q I r rz h
  obtain ⟨rfl, a, xs, rfl, hs, run⟩ := h
  obtain rfl := Vals.ref1 r
  obtain rfl := Vals.ref1 rz
  obtain ⟨its, rv, hz, hcol⟩ := collect_sq (A := X.A.in1) I hs
  refine sorted_thru hcol hz (ksk_s1 _ _) (fun _ => ksk_l1 _ _) fun h' E' kp => ?_
  have I0 : Inv X pins σ H { s with heap := h' } := I.kept (t' := s.toks) kp
  have ho : (h'.push (seqObj "list" its.toArray 0)).get? h'.objs.size = some (seqObj "list" its.toArray 0) := Heap.get?_push_size _ rfl
  obtain ⟨e1, ho1⟩ : ∃ e1, ((h'.push (seqObj "list" its.toArray 0)).update h'.objs.size (Obj.mapSeq fun _ => (#[] : Array Value))).get? h'.objs.size = some (seqObj "list" #[] e1) := ⟨_, get?_update_seq ho fun _ => #[]⟩
  show wpAny _ _ (Builtin.«list.sort» ⟨[.ref h'.objs.size], [(Str.ofString "key", .ref f)]⟩) _ _ _
  rw [ksk_t1]
  unfold ksk_tree
  refine wpAny_bind (listItems_at ho rfl (wpAny_bind (listUpdate_at ho rfl (wpAny_bind (seqEpoch_at ho1 rfl (wpAny_bind (wpAny_newTuple (wpAny_bind (wpAny_newList (wpAny_holding ?_) (Nat.zero_le _))) hz)))) (by rw [List.size_toArray]; exact hz) (Nat.zero_le _))))
  obtain ⟨kS, ekS⟩ : ∃ kS, kS = (((h'.push (seqObj "list" its.toArray 0)).update h'.objs.size (Obj.mapSeq fun _ => (#[] : Array Value))).push (seqObj "tuple" its.toArray 0)).objs.size := ⟨_, rfl⟩
  rw [← ekS]
  have szk : kS = h'.objs.size + 2 := by rw [ekS, size_push', Heap.size_update, size_push']
  have nka : kS ≠ h'.objs.size := by omega
  obtain ⟨hS, ehS⟩ : ∃ hS, hS = sortingHeap (h'.push (seqObj "list" its.toArray 0)) h'.objs.size its := ⟨_, rfl⟩
  have up : ∀ b o, h'.get? b = some o → hS.get? b = some o := fun b o e => by
    rw [ehS]
    exact PySem.W.sortingHeap_old (Nat.ne_of_lt (Heap.lt_size e)) (Heap.get?_push_of_some _ e)
  have hk0 : hS.get? kS = some (seqObj "list" #[] 0) := by
    rw [ehS, ekS]
    exact Heap.get?_push_size _ rfl
  have ha0 : hS.get? h'.objs.size = some (seqObj "list" #[] e1) := by
    rw [ehS]
    exact Heap.get?_push_of_some _ (Heap.get?_push_of_some _ ho1)
  show wpAny _ _ (ksk_rest h'.objs.size (.ref f) false its.toArray e1 (.ref kS)) _ _ { s with heap := sortingHeap (h'.push (seqObj "list" its.toArray 0)) h'.objs.size its }
  rw [← ehS]
  have I1 : Inv X pins σ H { s with heap := hS } := I0.kept (t' := s.toks) up
  have fk : FpOk X pins H kS := I0.fpOk (show h'.objs.size ≤ kS by omega) (I0.hok.fresh (show h'.objs.size ≤ kS by omega))
  have fa : FpOk X pins H h'.objs.size := I0.fpOk (Nat.le_refl _) (I0.hok.fresh (Nat.le_refl _))
  obtain ⟨La, eLa⟩ : ∃ La, La = h'.objs.size := ⟨_, rfl⟩
  rw [← eLa] at ha0 nka fa ⊢
  clear ho ho1 ehS up szk ekS
  -- the pins: the list of keys, the emptied list
  have pinned : ∀ {H' : Hp} {s' : Shared} {kA : Array Value} {e : Nat}, Inv X pins σ H' s' → H' kS = none → H' La = none → s'.heap.get? kS = some (seqObj "list" kA e) → s'.heap.get? La = some (seqObj "list" #[] e1) → Inv X (pins ++ [(kS, seqObj "list" kA e), (La, seqObj "list" #[] e1)]) σ H' s' := fun {H' s' kA e} J n1 n2 g1 g2 => J.pins_of fun p hp => by
    rcases List.mem_append.mp hp with hp | hp
    · exact J.pin p (List.mem_append_right _ hp)
    · rcases List.mem_cons.mp hp with rfl | hp
      · exact ⟨g1, n1, fk.2.1, fk.2.2.1, fun v z => by cases z⟩
      · rw [List.mem_singleton.mp hp]
        exact ⟨g2, n2, fa.2.1, fa.2.2.1, fun v z => by cases z⟩
  unfold ksk_rest
  refine wpAny_bind (wpAny_rule ?_)
  rw [List.forIn_toArray]
  refine wpAny_bind (ksk_fold (fun i s' => ∃ H' kA e acc, Inv X (pins ++ [(kS, seqObj "list" kA e), (La, seqObj "list" #[] e1)]) σ H' s' ∧ Vals acc kA.toList ∧ acc.length = i ∧ KeyRun sp (xs.drop i) acc H' fun ks H' => ∃ ps : List PyData, ps.length = xs.length ∧ (∀ b ∈ ks.zip ps, Dp X.K H' b.1 b.2) ∧ AllAlike ps ∧ Sortable ps ∧ (∀ p ∈ ps, p.depth ≤ 12) ∧ ∀ p, H' p = none → Q (.ref p) (upd H' p (.lst (byK (xs.zip ps)))))
    its 0 { s with heap := hS } ⟨H, #[], 0, [], pinned I1 fk.1 fa.1 hk0 ha0, .nil, rfl, run⟩ ?step ?done)
  case step =>
    rintro j u s' hx ⟨H', kA, e, acc, J, ra, hl, hrun⟩
    simp only [Nat.zero_add] at hl hrun ⊢
    have hj : j < its.length := (List.getElem?_eq_some_iff.mp hx).1
    have hjx : j < xs.length := by rw [rv.length]; exact hj
    obtain ⟨u', hu', ru⟩ := rv.get (List.getElem?_eq_getElem hjx)
    rw [hx] at hu'
    cases hu'
    rw [List.drop_eq_getElem_cons hjx] at hrun
    refine wpAny_bind (wpAny_attempt (wpAny_mono (key_call F hgd hr hb J ru hrun) (fun v s2 he => ?_) fun _ _ z => z.elim))
    obtain ⟨kv, H2, J2, rk, q2⟩ := he
    have nk := J2.pin (kS, seqObj "list" kA e) (by simp)
    have na := J2.pin (La, seqObj "list" #[] e1) (by simp)
    have hsz : kA.size ≤ its.length := by
      have z1 : acc.length = kA.toList.length := ra.length
      have z2 : kA.toList.length = kA.size := Array.length_toList
      omega
    dsimp only
    have s1 := Heap.SameBut.update s2.heap kS (Obj.mapSeq (·.push v))
    obtain ⟨c2, hc2⟩ : ∃ c2, (s2.heap.update kS (Obj.mapSeq (·.push v))).get? kS = some (seqObj "list" (kA.push v) c2) := ⟨_, get?_update_seq nk.1 (·.push v)⟩
    refine wpAny_bind (listUpdate_at nk.1 rfl (wpAny_pure ⟨rfl, H2, kA.push v, c2, acc ++ [kv], ?_, ?_, by simp [hl], ?_⟩) (by omega) (by rw [Array.size_push]; omega))
    · have J3 : Inv X pins σ H2 { s2 with heap := s2.heap.update kS (Obj.mapSeq (·.push v)) } := J2.unpinned.turnedL (t' := s2.toks) (ch := [kS]) (fun b o hb q => (s1.2 b (fun z => hb (List.mem_singleton.mpr z))).trans q) fun b hb => by
        rw [List.mem_singleton.mp hb]
        exact fpOk_at fk nk.2.1
      exact pinned J3 nk.2.1 na.2.1 hc2 ((s1.2 La nka.symm).trans na.1)
    · have : (kA.push v).toList = kA.toList ++ [v] := by simp
      rw [this]
      exact ra.append (.cons rk .nil)
    · have : xs.drop (0 + j + 1) = xs.drop (j + 1) := by rw [Nat.zero_add]
      first
        | exact q2
        | (rw [this]; exact q2)
  case done =>
    rintro s' ⟨H', kA, e, acc, J, ra, hl, hrun⟩
    have eL : 0 + its.length = xs.length := by rw [Nat.zero_add, rv.length]
    rw [eL, List.drop_length] at hrun
    rw [eL] at hl
    obtain ⟨ps, p1, p2, p3, p4, p5, q⟩ := hrun
    have nk := J.pin (kS, seqObj "list" kA e) (by simp)
    have na := J.pin (La, seqObj "list" #[] e1) (by simp)
    refine wpAny_bind (listItems_at nk.1 rfl ?_)
    obtain ⟨G0, g1, g2⟩ := L2.restrict s'.heap fun b => !decide (b = kS)
    have kb : KeepsBut La G0 s'.heap := fun b o hb q => by
      by_cases hbk : b = kS
      · rw [g2 b (by simp [hbk])] at q
        cases q
      · rw [← g1 b (by simp [hbk])]
        exact q
    have m1 : (acc.zip ps).map (·.1) = acc := List.map_fst_zip (by omega)
    have m2 : (acc.zip ps).map (·.2) = ps := List.map_snd_zip (by omega)
    have m3 : (xs.zip ps).map (·.1) = xs := List.map_fst_zip (by omega)
    have m4 : (xs.zip ps).map (·.2) = ps := List.map_snd_zip (by omega)
    have er : EachIs (fun (v : Value) (d : PyData) => ∃ as, PySem.Reads s'.heap v d as) kA.toList ps := by
      have z := PySem.W.each_map (R := fun (v : Value) (d : PyData) => ∃ as, PySem.Reads s'.heap v d as) (fun b : V × PyData => b.2) (each_reads J p2 (by rw [m1]; exact ra))
      rw [show (acc.zip ps).map (fun b : V × PyData => b.2) = ps from m2] at z
      exact z
    have hsz : kA.size = its.length := by
      have z1 : acc.length = kA.toList.length := ra.length
      have z2 : kA.toList.length = kA.size := Array.length_toList
      have z3 : xs.length = its.length := rv.length
      omega
    refine PySem.W.keyH_end (κ := dataKind s'.heap ps) (h₁ := G0) kb (g2 kS (by simp)) nk.1 na.1 nka (SortsAt.data er p3 p4 fun d hd => ?_) hsz hz fun h3 tk3 c k3 n3 => ⟨rfl, ?_⟩
    · have := p5 d hd
      show X.A.units + 2 + d.depth < cLine
      omega
    · have rel : EachIs (fun (u : Value) (b : V × PyData) => RelV b.1 u) its (xs.zip ps) := each_vals (by rw [m3]; exact rv)
      have so := PySem.W.keyedOut_each (rev := false) (bs := xs.zip ps) (out := sortVals (dataKind s'.heap ps) false kA.toList its) (fun b : V × PyData => b.2) ⟨s'.heap, kA.toList, by rw [show (xs.zip ps).map (fun b : V × PyData => b.2) = ps from m4]; exact p3, by rw [show (xs.zip ps).map (fun b : V × PyData => b.2) = ps from m4], by rw [show (xs.zip ps).map (fun b : V × PyData => b.2) = ps from m4]; exact er⟩ rel
      have hbl : (byK (xs.zip ps)).length ≤ sizeLine := by
        unfold byK
        rw [List.length_map, List.length_mergeSort, List.length_zip, p1, Nat.min_self, rv.length]
        exact hz
      have J3 : Inv X pins σ H' { s' with heap := h3, toks := tk3 } := J.unpinned.turnedL (t' := tk3) (ch := [kS, La]) (fun b o hb q => k3 b o (fun z => hb (by simp [z])) (by rw [g1 b (by simp; exact fun z => hb (by simp [z]))]; exact q)) fun b hb => by
        rcases List.mem_cons.mp hb with rfl | hb
        · exact fpOk_at fk nk.2.1
        · rw [List.mem_singleton.mp hb]
          exact fpOk_at fa na.2.1
      rw [eLa]
      rw [eLa] at n3 na fa
      exact ⟨.ref h'.objs.size, upd H' h'.objs.size (.lst (byK (xs.zip ps))), track_lst J3 (fpOk_at fa na.2.1) n3 hbl (vals_each so), rfl, q _ na.2.1⟩
end
end Mi
end T_SimM
section T_SimN
set_option Elab.async false
set_option linter.all false
set_option maxRecDepth 100000
set_option maxHeartbeats 4000000
/-! SimN: sorted(xs, key=f): the mirror's rule. -/
namespace Mi
open PySem PySem.Spec PyProof.Rows L2
open PySem.W (AllAlike Sortable)
/-- the keys, one after another; nothing may be raised -/
def keysGo (mf : List Dv → M Dv) : List Dv → List Dv → Sto → Res (List Dv)
  | [], acc, S => .ok acc S
  | d :: r, acc, S => match mf [d] S with
    | .ok k S' => keysGo mf r (acc ++ [k]) S'
    | _ => .bad
def mSortK (mf : List Dv → M Dv) (d : Dv) : M Dv := fun S => match seqOf S d with
  | some xs => (match keysGo mf xs [] S with
    | .ok ks S' => (match sortedD S' xs ks with
      | some ys => .ok (.lst ys) S'
      | none => .bad)
    | _ => .bad)
  | none => .bad
def mSortKS (mf : List Dv → M Dv) (d : Dv) : M Dv := fun S => match seqOf S d with
  | some xs => (match keysGo mf xs [] S with
    | .ok ks S' => (match sortedD S' xs ks with
      | some ys => .ok (.loc S'.length) (S' ++ [.lst ys])
      | none => .bad)
    | _ => .bad)
  | none => .bad
section
variable {G : Gx} {W : WX} {X : Cx}
theorem keyrun_ok {mf : List Dv → M Dv} {Qf : List V → Hp → Prop} : ∀ (xs : List Dv) (vs acc : List V) (kds : List Dv) (ρ : Rg) (H : Hp) (S : Sto) (ks : List Dv) (S' : Sto), RS G ρ H S → RvA G.K ρ H vs xs → RvA G.K ρ H acc kds → keysGo mf xs kds S = .ok ks S' →
    (∀ kvs H' ρ', Stp ρ H ρ' H' → RS G ρ' H' S' → RvA G.K ρ' H' kvs ks → Qf kvs H') → KeyRun (spM G 1 mf) vs acc H Qf
  | [], vs, acc, kds, ρ, H, S, ks, S', rs, rv, ra, e, q => by
    cases rv
    cases e
    exact q acc H ρ Stp.refl rs ra
  | x :: xs, vs, acc, kds, ρ, H, S, ks, S', rs, rv, ra, e, q => by
    cases rv with
    | @cons v vs _ _ h1 r1 =>
      unfold keysGo at e
      cases e1 : mf [x] S with
      | ex y S1 => rw [e1] at e; cases e
      | bad => rw [e1] at e; cases e
      | ok k S1 =>
        rw [e1] at e
        refine ⟨ρ, S, [x], rfl, .cons h1 .nil, rs, ?_⟩
        rw [e1]
        intro kv H1 ρ1 s1 rs1 rk
        exact keyrun_ok xs vs (acc ++ [kv]) (kds ++ [k]) ρ1 H1 S1 ks S' rs1 (r1.step s1) ((ra.step s1).app (.cons rk .nil)) e fun kvs H' ρ' s2 rs2 r2 => q kvs H' ρ' (s1.trans s2) rs2 r2
theorem keysGo_len {mf : List Dv → M Dv} : ∀ {xs kds : List Dv} {S : Sto} {ks : List Dv} {S' : Sto}, keysGo mf xs kds S = .ok ks S' → ks.length = kds.length + xs.length
  | [], kds, S, ks, S', e => by
    cases e
    rfl
  | x :: xs, kds, S, ks, S', e => by
    unfold keysGo at e
    cases e1 : mf [x] S with
    | ex y S1 => rw [e1] at e; cases e
    | bad => rw [e1] at e; cases e
    | ok k S1 =>
      rw [e1] at e
      rw [keysGo_len e]
      simp
      omega
/-- sorted(e, key=f) -/
theorem re_sortK {k : Nat} {f : Addr} {fd : FuncData} {y g : Str} {mf : List Dv → M Dv} {e : Expr} {me : EX} {p kp kp2 pos : Pos} (hK : X.K = G.K) (F : FnG X.prog X.w X.K X.mg X.base k f fd [y] (spM G 1 mf)) (hgd : X.A.guards = some []) (hr : Room (k + 2) X.A) (hb : L2.Binds X.K fd [y] []) (hu : X.A.units + 64 < cLine)
    (hg : Gl X "sorted") (hm : X.mg "sorted" = none) (hgf : Gl X g) (hmf : X.mg g = some (.ref f)) (he : PE X e (tE G W me)) (hdf : (g == ("__debug__" : Str)) = false := by decide)
    (hs : starEach [e] X.env = [(false, eval e X.env)] := by rfl) (hs1 : backTo pos (starEach [e] X.env) = (false, eval e X.env) :: backTo pos (starEach [] X.env) := by rfl) (hs2 : (backTo pos (starEach [e] X.env)).any (·.1) = false := by rfl)
    (hk1 : (backToKw pos (keywordEach [⟨some "key", .Name g kp, kp2⟩] X.env)).all (·.1.isSome) = true := by rfl) (hk2 : (backToKw pos (keywordEach [⟨some "key", .Name g kp, kp2⟩] X.env)).any (·.1.isNone) = false := by rfl) (hk3 : (backToKw pos (keywordEach [⟨some "key", .Name g kp, kp2⟩] X.env)).filterMap (·.1) = [Str.ofString "key"] := by rfl) :
    PE X (.Call (.Name "sorted" p) [e] [⟨some "key", .Name g kp, kp2⟩] pos) (tE G W (e1 (mSortK mf) me)) := by
  refine (pe_callBK (cr_sortK F hgd hr hb hu) hg hm (by decide +kernel) (pa_cons he pa_nil hs) (pk_cons (pe_glob (v := .ref f) hgf hmf rfl hdf) pk_nil) (by decide) (by decide) hs1 hs2 hk1 hk2 hk3).imp fun σ H Q q => ?_
  obtain ⟨ρ, δ, S, cf, p⟩ := q
  refine ⟨ρ, δ, S, cf, (Post.bind p).mono fun x H1 ⟨ρ1, S1, d, s1, rs1, rx, p1⟩ => ?_⟩
  show rSortK X.K f (spM G 1 mf) [x] [.ref f] H1 Q
  rw [hK]
  unfold mSortK at p1
  cases e1 : seqOf S1 d with
  | none => rw [e1] at p1; exact p1.elim
  | some xs =>
    rw [e1] at p1
    dsimp only at p1
    cases e2 : keysGo mf xs [] S1 with
    | ex y S2 => rw [e2] at p1; exact p1.elim
    | bad => rw [e2] at p1; exact p1.elim
    | ok ks S2 =>
      rw [e2] at p1
      dsimp only at p1
      cases e3 : sortedD S2 xs ks with
      | none => rw [e3] at p1; exact p1.elim
      | some ys =>
        rw [e3] at p1
        obtain ⟨a, vs, rfl, h, r⟩ := seqOf_ok rs1 rx e1
        refine ⟨rfl, a, vs, rfl, h, keyrun_ok xs vs [] [] ρ1 H1 S1 ks S2 rs1 r .nil e2 fun kvs H' ρ' s2 rs2 rk => ?_⟩
        unfold sortedD at e3
        split at e3
        · rename_i ps e4
          split at e3
          · rename_i hb
            cases e3
            obtain ⟨hn, hal, hsk⟩ := sortB_ok hb
            obtain ⟨k1, k2, k3⟩ := keys_ok rs2 rk e4 hn
            have hl := keysGo_len e2
            have l1 := rk.length
            have l2 := r.length
            refine ⟨ps, by simp at hl; omega, k1, hal, hsk, k2, fun l hl => ?_⟩
            exact Post.newL (Post.step s2 p1) rs2 (byK_rel ps (r.step s2)) hl
          · cases e3
        · cases e3
/-- .. whose list is changed later -/
theorem re_sortKS {k : Nat} {f : Addr} {fd : FuncData} {y g : Str} {mf : List Dv → M Dv} {e : Expr} {me : EX} {p kp kp2 pos : Pos} (hK : X.K = G.K) (F : FnG X.prog X.w X.K X.mg X.base k f fd [y] (spM G 1 mf)) (hgd : X.A.guards = some []) (hr : Room (k + 2) X.A) (hb : L2.Binds X.K fd [y] []) (hu : X.A.units + 64 < cLine)
    (hg : Gl X "sorted") (hm : X.mg "sorted" = none) (hgf : Gl X g) (hmf : X.mg g = some (.ref f)) (he : PE X e (tE G W me)) (hdf : (g == ("__debug__" : Str)) = false := by decide)
    (hs : starEach [e] X.env = [(false, eval e X.env)] := by rfl) (hs1 : backTo pos (starEach [e] X.env) = (false, eval e X.env) :: backTo pos (starEach [] X.env) := by rfl) (hs2 : (backTo pos (starEach [e] X.env)).any (·.1) = false := by rfl)
    (hk1 : (backToKw pos (keywordEach [⟨some "key", .Name g kp, kp2⟩] X.env)).all (·.1.isSome) = true := by rfl) (hk2 : (backToKw pos (keywordEach [⟨some "key", .Name g kp, kp2⟩] X.env)).any (·.1.isNone) = false := by rfl) (hk3 : (backToKw pos (keywordEach [⟨some "key", .Name g kp, kp2⟩] X.env)).filterMap (·.1) = [Str.ofString "key"] := by rfl) :
    PE X (.Call (.Name "sorted" p) [e] [⟨some "key", .Name g kp, kp2⟩] pos) (tE G W (e1 (mSortKS mf) me)) := by
  refine (pe_callBK (cr_sortK F hgd hr hb hu) hg hm (by decide +kernel) (pa_cons he pa_nil hs) (pk_cons (pe_glob (v := .ref f) hgf hmf rfl hdf) pk_nil) (by decide) (by decide) hs1 hs2 hk1 hk2 hk3).imp fun σ H Q q => ?_
  obtain ⟨ρ, δ, S, cf, p⟩ := q
  refine ⟨ρ, δ, S, cf, (Post.bind p).mono fun x H1 ⟨ρ1, S1, d, s1, rs1, rx, p1⟩ => ?_⟩
  show rSortK X.K f (spM G 1 mf) [x] [.ref f] H1 Q
  rw [hK]
  unfold mSortKS at p1
  cases e1 : seqOf S1 d with
  | none => rw [e1] at p1; exact p1.elim
  | some xs =>
    rw [e1] at p1
    dsimp only at p1
    cases e2 : keysGo mf xs [] S1 with
    | ex y S2 => rw [e2] at p1; exact p1.elim
    | bad => rw [e2] at p1; exact p1.elim
    | ok ks S2 =>
      rw [e2] at p1
      dsimp only at p1
      cases e3 : sortedD S2 xs ks with
      | none => rw [e3] at p1; exact p1.elim
      | some ys =>
        rw [e3] at p1
        obtain ⟨a, vs, rfl, h, r⟩ := seqOf_ok rs1 rx e1
        refine ⟨rfl, a, vs, rfl, h, keyrun_ok xs vs [] [] ρ1 H1 S1 ks S2 rs1 r .nil e2 fun kvs H' ρ' s2 rs2 rk => ?_⟩
        unfold sortedD at e3
        split at e3
        · rename_i ps e4
          split at e3
          · rename_i hb
            cases e3
            obtain ⟨hn, hal, hsk⟩ := sortB_ok hb
            obtain ⟨k1, k2, k3⟩ := keys_ok rs2 rk e4 hn
            have hl := keysGo_len e2
            have l1 := rk.length
            have l2 := r.length
            refine ⟨ps, by simp at hl; omega, k1, hal, hsk, k2, fun l hl => ?_⟩
            have p2 := Post.step s2 p1
            refine p2 _ _ (ρ'.add l) (Stp.newS hl (rs2.nin hl).1) (rs2.newS hl (byK_rel ps (r.step s2))) (.loc ?_)
            rw [show (ρ'.add l).s = ρ'.s ++ [l] from rfl, ← rs2.len, List.getElem?_append_right (Nat.le_refl _)]
            simp
          · cases e3
        · cases e3
end
end Mi
end T_SimN
section T_SimO
set_option Elab.async false
set_option linter.all false
set_option maxRecDepth 100000
set_option maxHeartbeats 4000000
/-! SimO: texts cut, texts repeated, {x: i}. -/
namespace Mi
open PySem PySem.Spec PyProof.Rows L2 TL
/-! ### x * n, x a text -/
def repS (x : Str) (n : Nat) : Str := ⟨(List.replicate n x.cps).foldl (· ++ ·) #[]⟩
theorem foldl_mem {c : Nat} : ∀ (l : List (Array Nat)) (acc : Array Nat), c ∈ (l.foldl (· ++ ·) acc).toList → c ∈ acc.toList ∨ ∃ a ∈ l, c ∈ a.toList
  | [], acc, h => .inl h
  | a :: l, acc, h => by
    rcases foldl_mem l (acc ++ a) h with h | ⟨b, hb, h⟩
    · rw [Array.toList_append] at h
      rcases List.mem_append.mp h with h | h
      · exact .inl h
      · exact .inr ⟨a, by simp, h⟩
    · exact .inr ⟨b, List.mem_cons_of_mem _ hb, h⟩
theorem foldl_len : ∀ (n : Nat) (a acc : Array Nat), ((List.replicate n a).foldl (· ++ ·) acc).size = acc.size + n * a.size
  | 0, a, acc => by simp
  | n + 1, a, acc => by
    rw [List.replicate_succ, List.foldl_cons, foldl_len n a (acc ++ a), Array.size_append, Nat.succ_mul]
    omega
theorem okS_rep {x : Str} (h : OkS x) (n : Nat) : OkS (repS x n) := fun c hc => by
  rcases foldl_mem _ _ hc with z | ⟨a, ha, z⟩
  · simp at z
  · rw [(List.mem_replicate.mp ha).2] at z
    exact h c z
def rMulS : R2 := fun x y H Q => ∃ (i : Str) (n : Int), x = .str i ∧ y = .int n ∧ 2 ≤ n ∧ n ≤ 1000 ∧ 1 ≤ i.length ∧ i.length ≤ 1000 ∧ Q (.str (repS i n.toNat)) H
section
variable {X : Cx} {G : Gx} {W : WX}
theorem op_mulS : OpR X (binaryOp .Mult) rMulS := by
  intro pins s σ H x y v u Q I rx ry h
  obtain ⟨i, n, rfl, rfl, h1, h2, h3, h4, q⟩ := h
  obtain ⟨t, rfl⟩ := rx
  obtain ⟨t', rfl⟩ := ry
  have m : i.length * n.toNat ≤ 1000 * 1000 := Nat.mul_le_mul h4 (by omega)
  refine P.mul_str (by rw [Bool.or_eq_false_iff]; exact ⟨decide_eq_false (by omega), decide_eq_false (by omega)⟩) (fun _ _ z => ?_) (fun _ _ => ?_) ?_
  · have d : (2 ^ 63 - 1 : Int) / n ≥ (2 ^ 63 - 1) / 1000 := by
      have e1 := Int.ediv_mul_le (2 ^ 63 - 1) (show (1000 : Int) ≠ 0 by decide)
      refine Int.le_ediv_of_mul_le (by omega) ?_
      have : (2 ^ 63 - 1 : Int) / 1000 = 9223372036854775 := by decide
      rw [this]
      have : (9223372036854775 : Int) * n ≤ 9223372036854775 * 1000 := Int.mul_le_mul_of_nonneg_left h2 (by decide)
      omega
    have : (2 ^ 63 - 1 : Int) / 1000 = 9223372036854775 := by decide
    omega
  · unfold Builtin.Str.tooLong
    refine decide_eq_false ?_
    have : sizeLine = 2 ^ 24 := by decide
    omega
  · rw [if_neg (by omega), if_neg (by
      rw [Bool.or_eq_true_iff]
      rintro (z | z)
      · have := eq_of_beq z
        omega
      · have := eq_of_beq z
        omega)]
    refine ⟨?_, .str _, H, I.tok _, ⟨_, rfl⟩, q⟩
    show ((List.replicate n.toNat i.cps).foldl (· ++ ·) #[]).size ≤ sizeLine
    rw [foldl_len]
    have e1 : i.cps.size = i.length := rfl
    have e2 : n.toNat * i.cps.size = i.length * n.toNat := by rw [e1, Nat.mul_comm]
    have : sizeLine = 2 ^ 24 := by decide
    simp only [Array.size_empty]
    omega
def mMulS (d e : Dv) : M Dv := fun S => match d, e with
  | .str x, .int n => if 2 ≤ n ∧ n ≤ 1000 ∧ 1 ≤ x.length ∧ x.length ≤ 1000 then .ok (.str (repS x n.toNat)) S else .bad
  | _, _ => .bad
theorem d_mulS : Op2 G W rMulS mMulS := by
  intro ρ H σ S x y d e Q rs rx ry p
  unfold mMulS at p
  split at p
  · split at p
    · rename_i hc
      cases ry
      cases rx with
      | str _ hi => exact ⟨_, _, rfl, rfl, hc.1, hc.2.1, hc.2.2.1, hc.2.2.2, p.val rs (.str _ (okS_rep hi _))⟩
    · exact p.elim
  · exact p.elim
/-! ### x.split(y) -/
theorem spl_mem {T : List Nat} {c : Nat} : ∀ (l : List Nat) (k : Nat) (acc : List Nat) (p : List Nat), p ∈ spl T k acc l → c ∈ p → c ∈ acc ∨ c ∈ l
  | [], k, acc, p, hp, hc => by
    rw [spl_nil] at hp
    rw [List.mem_singleton.mp hp] at hc
    exact .inl hc
  | d :: r, 0, acc, p, hp, hc => by
    cases e : pre T (d :: r) with
    | true =>
      rw [spl_hit e] at hp
      rcases List.mem_cons.mp hp with z | z
      · rw [z] at hc; exact .inl hc
      · rcases spl_mem r _ [] p z hc with z | z
        · cases z
        · exact .inr (List.mem_cons_of_mem _ z)
    | false =>
      rw [spl_miss e] at hp
      rcases spl_mem r _ _ p hp hc with z | z
      · rcases List.mem_append.mp z with z | z
        · exact .inl z
        · rw [List.mem_singleton.mp z]; exact .inr (by simp)
      · exact .inr (List.mem_cons_of_mem _ z)
  | d :: r, k + 1, acc, p, hp, hc => by
    have hp : p ∈ spl T k acc r := hp
    rcases spl_mem r k acc p hp hc with z | z
    · exact .inl z
    · exact .inr (List.mem_cons_of_mem _ z)
def mSplit (d e : Dv) : M Dv := fun S => match d, e with
  | .str a, .str b => if 1 ≤ b.length ∧ b.cps.all (· < 256) = true ∧ a.length + 2 ≤ lim then .ok (.lst ((Txt.split a b).map Dv.str)) S else .bad
  | _, _ => .bad
def eSplit (o e : EX) : EX := fun δ => (o δ).bind fun d S => match d with
  | .str x => ((e δ).bind fun y => mSplit (.str x) y) S
  | _ => .bad
theorem rvA_strs {K : PySem.W.Frag} {ρ : Rg} {H : Hp} : ∀ {ys : List Str}, (∀ y ∈ ys, OkS y) → RvA K ρ H (ys.map V.str) (ys.map Dv.str)
  | [], _ => .nil
  | y :: ys, h => .cons (.str y (h y (by simp))) (rvA_strs fun z hz => h z (List.mem_cons_of_mem _ hz))
theorem split_ok {a b : Str} (ha : OkS a) (h1 : 1 ≤ b.length) (h2 : b.cps.all (· < 256) = true) : ∀ y ∈ Txt.split a b, OkS y := fun y hy c hc => by
  have hne : tl b ≠ [] := fun e => by
    have : (tl b).length = 0 := by rw [e]; rfl
    rw [← len_tl b] at this
    omega
  have e := split_spl a b hne (TL.kind_ok h2)
  have hm : tl y ∈ spl (tl b) 0 [] (tl a) := by rw [← e]; exact List.mem_map_of_mem hy
  rcases spl_mem (c := c) _ _ _ _ hm hc with z | z
  · cases z
  · exact ha c z
theorem re_split {o e : Expr} {mo me : EX} {apos pos : Pos} (ho : PE X o (tE G W mo)) (he : PE X e (tE G W me)) (hs : starEach [e] X.env = [(false, eval e X.env)] := by rfl) (hbase : attributeBase o "split" X.env (eval o X.env) = eval o X.env := by rfl) (hline : (apos.endLine == pos.line) = true := by rfl) :
    PE X (.Call (.Attribute o "split" apos) [e] [] pos) (tE G W (eSplit mo me)) := (pe_split ho he hs hbase hline).imp fun σ H Q q => by
  obtain ⟨ρ, δ, S, cf, p⟩ := q
  refine ⟨ρ, δ, S, cf, (Post.bind p).mono fun x H1 ⟨ρ1, S1, d, s1, rs1, rx, p1⟩ => ?_⟩
  cases rx with
  | str x hx =>
    refine ⟨⟨x, rfl⟩, ρ1, δ, S1, cf.step s1 rs1, (Post.bind (rel := vr G) p1).mono fun y H2 ⟨ρ2, S2, l, s2, rs2, ry, p2⟩ => ?_⟩
    unfold mSplit at p2
    cases ry with
    | str y hy =>
      dsimp only at p2
      split at p2
      · rename_i hc
        refine ⟨x, y, rfl, rfl, ?_, Nat.le_trans hc.2.2 (by decide), fun u hu => p2.newL rs2 (rvA_strs (split_ok hx hc.1 hc.2.1)) hu⟩
        rw [beq_eq_false_iff_ne]
        omega
      · exact p2.elim
    | _ => exact p2.elim
  | _ => exact p1.elim
/-! ### {x: i}, x a name that holds a text -/
def mDisp1 (i : Int) (d : Dv) : M Dv := match d with
  | .str x => M.pure (.dct [(.inr x, .int i)])
  | _ => mBad
theorem re_dispV {n : Nat} {y : Str} {i : Int} {j2 : Nat} {p1 p2 pos : Pos} (hv : PE X (.Name y p1) (tVar n)) : PE X (.Dict [some (.Name y p1)] [.Constant (.int i) j2 p2] pos) (tE G W (e1 (mDisp1 i) (eVar n))) :=
  (pe_disp (trs := [(tVar n, tC (.int i))]) (pps_cons hv pe_int pps_nil) rfl rfl (by simp) (by show 1 ≤ 15; decide)).imp fun σ H Q q => by
    obtain ⟨ρ, δ, S, cf, p⟩ := q
    intro u hu
    have p : Post G W σ (vr G) ρ H ((eVar n δ).bind (mDisp1 i) S) Q := p
    cases e : δ[n]? with
    | none =>
      unfold eVar at p
      rw [e] at p
      exact p.elim
    | some od =>
      cases od with
      | none =>
        unfold eVar at p
        rw [e] at p
        exact p.elim
      | some d =>
        obtain ⟨v, h1, h2⟩ := cf.sl n d e
        unfold eVar at p
        rw [e] at p
        have p : Post G W σ (vr G) ρ H (mDisp1 i d S) Q := p
        cases h2 with
        | str k hk =>
          refine ⟨.str k, h1, upd_same, [(.inr k, .int i)], rfl, by show 1 ≤ 15; decide, ?_⟩
          have e : upd (upd H u (.dK [])) u (.dK (mergeK [] [(.inr k, .int i)])) = upd H u (.dK [(.inr k, .int i)]) := funext fun c => by
            by_cases h : c = u
            · rw [h, upd_same, upd_same]
              rfl
            · rw [upd_ne h, upd_ne h, upd_ne h]
          show Q (.ref u) (upd (upd H u (.dK [])) u (.dK (mergeK [] [(.inr k, .int i)])))
          rw [e]
          exact p _ _ ρ (Stp.new hu) (cf.rs.new hu) (.dct upd_same (cf.rs.nin hu) rfl (.cons (.int i) .nil))
        | _ => exact p.elim
end
end Mi
end T_SimO
section T_SimP
set_option Elab.async false
set_option linter.all false
set_option maxRecDepth 100000
set_option maxHeartbeats 4000000
/-! SimP: a lambda without parameters handed to a def that calls it. -/
namespace Mi
open PySem PySem.Spec PyProof.Rows L2 LamX
/-- x(): what was handed in is run -/
def eAct (th : M Dv) : EX := fun _ => th
/-- a def of one parameter, a function that it calls; n names -/
def lamEnd (r : SR) : Res Dv := match r with
  | .nx _ S' => .ok .non S'
  | .rt d S' => .ok d S'
  | _ => .bad
def lamFn (n : Nat) (body : M Dv → SM) (th : M Dv) : M Dv := fun S => lamEnd (body th (List.replicate n none) S)
/-- f(lambda: e) -/
def eLam (f : M Dv → M Dv) (e : EX) : EX := fun δ => f (e δ)
abbrev Gx.lx (G : Gx) (f c : Addr) (q : Str) (σ : L2.St) (δ : En) : Gx := { G with fx := some (0, f, c, q, σ, δ) }
section
variable {G : Gx} {X : Cx} {ρ : Rg} {H : Hp} {S : Sto} {f c : Addr} {q : Str} {σ : L2.St} {δ : En}
theorem RS.lx (r : RS G ρ H S) (h : Fok (G.lx f c q σ δ) ρ H) : RS (G.lx f c q σ δ) ρ H S := ⟨r.len, r.nd, r.bt, r.ob, r.tab, r.xok.1, h⟩
theorem RS.unlx (hf : G.fx = none) (r : RS (G.lx f c q σ δ) ρ H S) : RS G ρ H S := ⟨r.len, r.nd, r.bt, r.ob, r.tab, r.xok.1, by unfold Fok; rw [hf]; trivial⟩
/-- what the lambda does, seen from the def that calls it -/
theorem post_act {W : WX} {σZ : L2.St} {th : M Dv} {Q : VK} (hf : G.fx = none) (r0 : RS (G.lx f c q σ δ) ρ H S) (p : Post (G.lx f c q σ δ) W σZ (vr (G.lx f c q σ δ)) ρ H (th S) Q) : Post G (fun cl dx _ H' => W cl dx σZ H') σ (vr G) ρ H (th S) Q := by
  cases e : th S with
  | ok d S' =>
    rw [e] at p
    exact fun v H' ρ' s rs rv => p v H' ρ' s (rs.lx (r0.xok.stepB s.b).2) rv
  | ex x S' =>
    rw [e] at p
    exact fun cl dx H' ρ' s rs rx => p cl dx H' ρ' s (rs.lx (r0.xok.stepB s.b).2) rx
  | bad => rw [e] at p; exact p
/-- .. and back -/
theorem post_out {W : WX} {th : M Dv} {Q : VK} (hf : G.fx = none) (p : Post G W [] (vr G) ρ H (th S) Q) : Post (G.lx f c q σ δ) W [] (vr (G.lx f c q σ δ)) ρ H (th S) Q := by
  cases e : th S with
  | ok d S' =>
    rw [e] at p
    exact fun v H' ρ' s rs rv => p v H' ρ' s (rs.unlx hf) rv
  | ex x S' =>
    rw [e] at p
    exact fun cl dx H' ρ' s rs rx => p cl dx H' ρ' s (rs.unlx hf) rx
  | bad => rw [e] at p; exact p
end
section
variable {X : Cx} {G : Gx} {pins : List (Addr × Obj)} {σ : L2.St} {δ : En} {H : Hp} {s : Shared}
/-- a(), in the def that got the lambda -/
theorem re_act {CXg : CXT} {Eg : XK} {Ng : List Str} {qg : Str} {sg : Scope} {g f c' : Addr} {cdg pm ctv : Value} {params : Arguments} {body : Expr} {scope : Scope} {k : Nat} {a : Str} {pn : List (Addr × Obj)} {xe : Value → Shared → Prop} {W : WX} {me : EX} {p1 p2 : Pos}
    (hG : G.xc = none ∧ G.fx = none) (hlen : σ.length = δ.length) (I : Inv X pins σ H s) (L : LamS X.env.scope scope) (hf : s.heap.get? f = some (PySem.W.kla_obj "<lambda>" (X.env.qual ++ "<lambda>") params body scope (cloFrom X.env.cells scope.names []) pm c' ctv)) (hfn : H f = none) (hfr : f ∉ frs X.stack)
    (hbind : bindArgs (PySem.W.kla_fn "<lambda>" (X.env.qual ++ "<lambda>") params body scope (cloFrom X.env.cells scope.names []) pm (.ref c') ctv) ⟨[], []⟩ = pure [])
    (tk : Takes ((cxOf CXg X.prog X.w X.K X.mg X.base Ng qg sg g cdg X.A X.stack s H Eg).tr pn xe) W) (hr : Room (k + 1) (X.A.deeper (envOfC qg sg s.heap.objs.size g cdg)))
    (hgd : X.A.guards = some []) (hbody : ∀ (A : Around) (outer : List Env) (s : Shared) (H : Hp) (E : XK), A.guards = some [] → Room k (A.deeper (lamEnv X scope s.heap.objs.size f c')) → PE (lamCx X A outer s H E scope f c') body (tE G (fun cl dx _ H' => E cl dx H') me))
    (hN : Ng[0]? = some a) (hv : Vis sg a) (hd : (a == ("__debug__" : Str)) = false := by decide) (hcd : (a == ("__classdict__" : Str)) = false := by decide) :
    PE ((cxOf CXg X.prog X.w X.K X.mg X.base Ng qg sg g cdg X.A X.stack s H Eg).tr pn xe) (.Call (.Name a p1) [] [] p2) (tE (G.lx f c' (X.env.qual ++ "<lambda>") σ δ) W (eAct (me δ))) := by
  refine ⟨fun pinsZ sZ σZ HZ Q IZ h => ?_⟩
  obtain ⟨ρZ, δZ, SZ, cf, p⟩ := h
  have hs : σZ[0]? = some (some (.ref f)) := cf.xs.2 _ rfl
  obtain ⟨⟨hc, _⟩, hcap⟩ := cf.rs.xok.2
  have ht : tE G (fun cl dx _ H' => W cl dx σZ H') me σ HZ Q := ⟨ρZ, δ, SZ, ⟨cf.rs.unlx hG.2, hlen, hcap, slX_none hG⟩, post_act hG.2 cf.rs p⟩
  refine wpAny_Call_Name_kw (thn ((pe_var (pos := p1) (i := 0) hN hv hd hcd).run pinsZ sZ σZ HZ (fun v H1 => v = .ref f ∧ H1 = HZ) IZ ⟨_, hs, rfl, rfl⟩) fun u s1 ⟨v, H1, I1, r1, ev, eH⟩ => ?_)
  rw [ev] at r1
  rw [eH] at I1
  obtain rfl : u = Value.ref f := r1
  have of1 := I1.base.keep f _ hf hfn hfr (fun z => nomatch (show f ∈ ([] : List Addr) from z))
  refine PySem.W.callWith_F0 ⟨_, _, _, _, of1⟩ ?_
  obtain ⟨⟨oc, vs, t, hoc, hdc, hvc⟩, _, _⟩ := I1.hok c' _ hc
  have rc : codeAny (model X.prog X.w) (X.A.deeper (envOfC qg sg s.heap.objs.size g cdg)) (.call (.ref f) ⟨[], []⟩) (CR (L2.CX X.prog X.w) (envOfC qg sg s.heap.objs.size g cdg :: X.stack) X.prog X.w HZ s1 Q (WE W σZ)) s1 := by
    refine PySem.W.kla_callFunE hr.depth of1 rfl L.co L.gen rfl ⟨c', oc, vs, t, rfl, hoc, hdc, hvc⟩ (by
      rw [hbind]
      refine wpAny_pure (wpAny_newFunctionEnv (fun y hy => (L.own y hy).2) (fun y hy => nomatch hy) (fun h₁ hns hsb => ⟨I1.nolimit.fresh _ hsb, ?_⟩) L.kind)
      have kp : ∀ b o, s1.heap.get? b = some o → h₁.get? b = some o := fun b o e => hsb.extBut b o (Nat.ne_of_lt (Heap.lt_size e)) (Heap.get?_push_of_some _ e)
      have J := lam_start2 (E := WE W σZ) (f := f) (c' := c') (tk := s1.toks + ([] : List (Str × Value)).length) I L I1.env0 hr.hd I1.base hns kp
      exact PySem.W.kla_codeExpr (wpAny_mono ((hbody (X.A.deeper (envOfC qg sg s.heap.objs.size g cdg)) _ s1 HZ (WE W σZ) hgd (hr.deeper _)).run [] _ _ HZ Q J ht) (fun v s' ⟨w', H', J', rv, q⟩ => ⟨w', H', J'.os, J'.bare, J'.base, J'.hok, rv, q⟩) fun e s' hq => hq))
  refine wpAny_call (codeAny_mono rc fun r s' hq => ?_)
  match r, hq with
  | .error e, hq => exact passAt tk σZ pinsZ HZ s1 e s' I1 hq
  | .ok (.ret u), hq => exact I1.after hq
  | .ok .next, hq => exact hq.elim
  | .ok .brk, hq => exact hq.elim
  | .ok .cont, hq => exact hq.elim
end
section
variable {X : Cx} {G : Gx} {W : WX}
/-- the context of the def that gets the lambda -/
abbrev zcx (X : Cx) (Ng : List Str) (x : Str) (sg : Scope) (g : Addr) (cdv : Value) (s : Shared) (H : Hp) : Cx := cxOf C8.CX0 X.prog X.w X.K X.mg X.base Ng x sg g cdv X.A X.stack s H C8.E0
/-- g(lambda: e) -/
theorem re_lam {x a : Str} {g c P : Addr} {k n : Nat} {fd : FuncData} {pg : Arguments} {bg : List Stmt} {sg : Scope} {Ng : List Str} {params : Arguments} {body : Expr} {scope : Scope} {mb : M Dv → SM} {me : EX} {p lpos pos : Pos}
    (hG : G.xc = none ∧ G.fx = none) (F : FunD X.K x x pg bg sg [] [] g fd) (hg : Gl X x) (hm : X.mg x = some (.ref g)) (hk : PySem.W.keepIn X.K (.ref g) = true) (hb : L2.Binds X.K fd [a] []) (Sg : FnScope Ng [a] sg) (hNg : Ng[0]? = some a) (hva : Vis sg a) (hn : Ng.length = n)
    (hB : ∀ (cdv : Value) (s : Shared) (H : Hp) (f c' : Addr) (q : Str) (σ : L2.St) (δ : En) (th : M Dv), Room (k + 1) (X.A.deeper (envOfC x sg s.heap.objs.size g cdv)) →
      (∀ (W : WX) (pn : List (Addr × Obj)) (xe : Value → Shared → Prop) (p1 p2 : Pos), Takes ((zcx X Ng x sg g cdv s H).tr pn xe) W → PE ((zcx X Ng x sg g cdv s H).tr pn xe) (.Call (.Name a p1) [] [] p2) (tE (G.lx f c' q σ δ) W (eAct th))) →
      PSs (zcx X Ng x sg g cdv s H) bg (tS (G.lx f c' q σ δ) W0 (mb th)))
    (TB : TabB X.base X.mg c P) (hcode : X.env.code = .ref c) (hmT : (P, X.env.qual ++ "<lambda>") ∈ G.T) (hu : ∀ p ∈ G.T, p.1 = P → p.2 = X.env.qual ++ "<lambda>") (hr : Room (k + 2) X.A) (L : LamS X.env.scope scope) (hdef : defaultsOf params X.env = ([], []))
    (hbind : ∀ (q : Str) (cl : List (Str × Addr)) (pm cv ctv : Value), bindArgs (PySem.W.kla_fn "<lambda>" q params body scope cl pm cv ctv) ⟨[], []⟩ = pure [])
    (hgd : X.A.guards = some []) (hbody : ∀ (A : Around) (outer : List Env) (s : Shared) (H : Hp) (E : XK) (f c' : Addr), A.guards = some [] → Room k (A.deeper (lamEnv X scope s.heap.objs.size f c')) → PE (lamCx X A outer s H E scope f c') body (tE G (fun cl dx _ H' => E cl dx H') me))
    (hdb : (x == ("__debug__" : Str)) = false := by decide) (hd : (a == ("__debug__" : Str)) = false := by decide) (hcd : (a == ("__classdict__" : Str)) = false := by decide) :
    PE X (.Call (.Name x p) [.Lambda params body scope lpos] [] pos) (tE G W (eLam (lamFn n mb) me)) := by
  obtain ⟨oc, od, dV, kV, doc, pm, an, cdv, ct, osl, rfl, lk, hcg, _, _⟩ := F.ex
  refine ⟨fun pins s σ H Q I h => ?_⟩
  obtain ⟨ρ, δ, S, cf, p⟩ := h
  refine wpAny_Call_Name_kw (ld_glob I hg hm (PySem.W.callWith_K (h₀ := X.base) I.ok.mod.kin hk ?_ (by rfl) (by rfl)) hdb)
  show wpAny _ _ (spliced ((false, eval (.Lambda params body scope lpos) X.env) :: backTo pos (starEach [] X.env))) _ _ s
  refine Calls.spliced_cons (lam_make2 (T := G.T) I TB hcode hmT hu cf.rs.tab hdef (L.has I.ok) fun f c' pm' ctv H1 s' I1 eN T1 hf hfn hfr hco => Calls.spliced_nil ⟨I1.kIn, ?_⟩)
  have st : Stp ρ H ρ H1 := ⟨⟨[], by simp, fun _ z => nomatch z⟩, rfl, fun b o e _ nt => eN b o e nt⟩
  have rs1 : RS G ρ H1 S := ⟨cf.rs.len, cf.rs.nd, fun b m => by
    obtain ⟨z, o, e, pv⟩ := cf.rs.bt b m
    exact ⟨z, o, eN b o e pv.1, pv⟩, fun i b ob e1 e2 => by
    have q := cf.rs.ob i b ob e1 e2
    obtain ⟨u, hu, nt, _⟩ := q.some
    exact q.step st (by rw [hu]; exact eN b u hu nt), T1, cf.rs.xok.stepB st.b⟩
  have out : Out ρ c' := ⟨fun m => by
    obtain ⟨u, e, _, nc⟩ := rs1.mem m
    rw [hco] at e
    exact nc _ _ (Option.some.inj e).symm, fun m => by
    obtain ⟨_, u, e, _, nc⟩ := rs1.bt c' m
    rw [hco] at e
    exact nc _ _ (Option.some.inj e).symm⟩
  have fok : Fok (G.lx f c' (X.env.qual ++ "<lambda>") σ δ) ρ H1 := ⟨⟨hco, out⟩, fun i d e => by
    obtain ⟨v, e1, e2⟩ := cf.sl i d e
    exact ⟨v, e1, e2.step st⟩⟩
  have p1 : Post G W σ (vr G) ρ H1 (lamFn n mb (me δ) S) Q := Post.step st p
  have rc : codeAny (model X.prog X.w) X.A (.call (.ref g) ⟨[.ref f], []⟩) (CR C8.CX0 X.stack X.prog X.w H1 s' Q C8.E0) s' := by
    refine run_ofS (N := Ng) (ps := [a]) (us := [.ref f]) (vs := [.ref f]) lk hcg Sg hr I1.env0 (hb s' [.ref f] I1.kIn rfl) (.cons rfl .nil) rfl fun hr' => ⟨_, hB cdv s' H1 f c' (X.env.qual ++ "<lambda>") σ δ (me δ) hr' (fun W pn xe p1 p2 tk => re_act hG cf.len I1 L hf hfn hfr (hbind _ _ _ _ _) tk hr' hgd (fun A outer s H E hg2 hr2 => hbody A outer s H E f c' hg2 hr2) hNg hva hd hcd), ?_⟩
    refine ⟨ρ, List.replicate n none, S, ⟨rs1.lx fok, by simp [L2.start, ← hn]; cases Ng with | nil => cases hNg | cons => simp, fun i d e => ?_, fun q e => (by rw [show (G.lx f c' (X.env.qual ++ "<lambda>") σ δ).xc = G.xc from rfl, hG.1] at e; cases e), fun q e => by cases e; rfl⟩, ?_⟩
    · rw [List.getElem?_replicate] at e
      split at e <;> cases e
    · unfold lamFn at p1
      cases e : mb (me δ) (List.replicate n none) S with
      | nx δ' S' => rw [e] at p1; exact fun σ' H' ρ' s1 c1 => p1 .non H' ρ' s1 (c1.rs.unlx hG.2) .non
      | rt d S' => rw [e] at p1; exact fun v H' ρ' s1 r1 rv => p1 v H' ρ' s1 (r1.unlx hG.2) rv
      | bk δ' S' => rw [e] at p1; exact p1.elim
      | ct δ' S' => rw [e] at p1; exact p1.elim
      | ex x δ' S' => rw [e] at p1; exact p1.elim
      | bad => rw [e] at p1; exact p1.elim
  refine wpAny_call (codeAny_mono rc fun r s2 hq => ?_)
  match r, hq with
  | .error e, hq => exact (show False from hq).elim
  | .ok (.ret u), hq => exact I1.after hq
  | .ok .next, hq => exact hq.elim
  | .ok .brk, hq => exact hq.elim
  | .ok .cont, hq => exact hq.elim
end
end Mi
end T_SimP
section T_SimQ
set_option Elab.async false
set_option linter.all false
set_option maxRecDepth 100000
set_option maxHeartbeats 4000000
/-! SimQ: promises of defs that make lambdas: the code object is known. -/
namespace Mi
open PySem PySem.Spec PyProof.Rows L2
/-- cdv is the code object of the def at f -/
def CdOf (K : PySem.W.Frag) (f : Addr) (cdv : Value) : Prop := ∃ (oc : Value) (od : Option Addr) (fd : FuncData) (osl : Array (Option Value)), K.lookup f = some ⟨oc, od, .func fd, osl⟩ ∧ fd.code = cdv ∧ ∃ c, cdv = .ref c
theorem CdOf.eq {K : PySem.W.Frag} {x : Str} {cdv : Value} (h : CdOf K (He.ga K x) cdv) : cdv = .ref (He.cT K (x, none)).1 := by
  obtain ⟨oc, od, fd, osl, lk, e, c, rfl⟩ := h
  have z := He.codeOf_eq (p := (x, none)) lk e
  show Value.ref c = .ref (He.codeOf K (x, none))
  rw [z]
section
variable {P : Program} {w : World} {K : PySem.W.Frag} {mg : Str → Option Value} {base : Heap} {x qual : Str} {params : Arguments} {body : List Stmt} {scope : Scope} {f : Addr} {fd : FuncData}
theorem okT {N ps : List Str} {k : Nat} {sp : Sp} (F : FunD K x qual params body scope [] [] f fd) (Sc : FnScope N ps scope) (len : ∀ vs H Q E, sp vs H Q E → vs.length = ps.length)
    (hbody : ∀ (cdv : Value) (A : Around) (outer : List Env) (s : Shared) (H : Hp) (vs : List V) (Q : VK) (E : XK), CdOf K f cdv → A.guards = some [] → Room k (A.deeper (envOfC qual scope s.heap.objs.size f cdv)) → sp vs H Q E →
      ∃ t, PSs (dcx P w K mg base N qual scope f cdv A outer s H E) body t ∧ t { nx := fun _ H' => Q .non H', rt := Q } (start N vs) H) : FnG P w K mg base (k + 1) f fd ps sp := by
  obtain ⟨oc, od, dV, kV, doc, pm, an, cdv, ct, osl, rfl, lk, hcd, _, _⟩ := F.ex
  refine ⟨len, fun A hgd hr outer s H args us vs Q E e0 hb r hsp => ?_⟩
  have KX : K.In s.heap := e0.mod.kin.keeps fun b o e => (e0.bs b o e).1
  have nl : s.heap.NoLimit := e0.mod.nolimit.keeps fun b o e => (e0.bs b o e).1
  refine codeAny_call_function hr.depth (KX _ _ lk) rfl Sc.co Sc.gen rfl (PySem.W.codeRec_of KX hcd) (hb _ _ _ _ ?_)
  refine wpAny_newFunctionEnv_cells Sc.kind (fun ⟨n, v⟩ hy => (Sc.par n (List.of_mem_zip hy).1).elim .inl fun q => .inr ⟨q, PySem.W.cellsFrom_some _ _ _ (.inl q)⟩) fun env he s1 x => ?_
  subst he
  refine ⟨nl.keeps x.toInCall.keep, codeAny_func ?_⟩
  obtain ⟨t, ht, hq⟩ := hbody cdv A outer s H vs Q E ⟨oc, od, _, osl, lk, rfl, He.codeIn_ref hcd⟩ hgd (hr.deeper _) hsp
  refine wpAny_mono (ht.run [] s1 (start N vs) H _ (inv_start Sc hr.hd e0 (len _ _ _ _ hsp) r x) hq) (fun fl s' hs => ?_) fun e s' hs => hs
  match fl, hs with
  | .ret u, ⟨v, σ', H', J, rv, q⟩ => exact ⟨v, H', J.os, J.bare, J.base, J.hok, rv, q⟩
  | .next, ⟨σ', H', J, q⟩ => exact ⟨V.non, H', J.os, J.bare, J.base, J.hok, rfl, q⟩
  | .brk, ⟨_, _, _, q⟩ => exact q.elim
  | .cont, ⟨_, _, _, q⟩ => exact q.elim
/-- a def does what its mirror does -/
theorem ok_defT {N ps : List Str} {k : Nat} {m : SM} {T : List (Addr × Str)} (F : FunD K x qual params body scope [] [] f fd) (Sc : FnScope N ps scope)
    (hb : ∀ (cdv : Value) (A : Around) (outer : List Env) (s : Shared) (H : Hp) (E : XK), CdOf K f cdv → A.guards = some [] → Room k (A.deeper (envOfC qual scope s.heap.objs.size f cdv)) → PSs (dcx P w K mg base N qual scope f cdv A outer s H E) body (tS ⟨K, mg, T, none, none⟩ (fun c dx _ H' => E c dx H') m)) :
    FnG P w K mg base (k + 1) f fd ps (spM ⟨K, mg, T, none, none⟩ ps.length (fnOf ps.length N.length m)) := by
  refine okT F Sc (fun vs H Q E ⟨_, _, _, hl, _⟩ => hl) (fun cdv A outer s H vs Q E hcd hgd hr h => ⟨_, hb cdv A outer s H E hcd hgd hr, ?_⟩)
  obtain ⟨ρ, S, ds, hl, r, rs, p⟩ := h
  have el2 : ds.length = ps.length := by rw [← r.length, hl]
  refine ⟨ρ, _, S, startD rs r ⟨rfl, rfl⟩, ?_⟩
  unfold fnOf at p
  rw [if_pos el2, ← el2] at p
  cases e : m (ds.map some ++ List.replicate (N.length - ds.length) none) S with
  | nx δ' S' => rw [e] at p; exact fun σ' H' ρ' s1 c1 => p .non H' ρ' s1 c1.rs .non
  | rt d S' => rw [e] at p; exact p
  | bk δ' S' => rw [e] at p; exact p.elim
  | ct δ' S' => rw [e] at p; exact p.elim
  | ex x δ' S' => rw [e] at p; exact fun c dx σ' H' ρ' s1 c1 r1 => p c dx H' ρ' s1 c1.rs r1
  | bad => rw [e] at p; exact p
end
end Mi
namespace Mi
open PySem PySem.Spec PyProof.Rows L2
theorem u1_of {k : Nat} {A : Around} (r : Room k A) : A.units + 1 < cLine := by
  have := r.un
  omega
theorem u64_of {k : Nat} {A : Around} (r : Room k A) : A.units + 64 < cLine := by
  have := r.un
  omega
theorem u65_of {k : Nat} {A : Around} (r : Room k A) : A.units + 65 < cLine := by
  have := r.un
  omega
end Mi
namespace Mi
open PySem PySem.Spec PyProof.Rows L2
section
variable {G : Gx} {W : WX} {ρ : Rg} {H : Hp} {S : Sto}
/-- a new list of the store -/
theorem Post.newLS {σ : L2.St} {vs : List V} {ds : List Dv} {Q : VK} (p : Post G W σ (vr G) ρ H (.ok (.loc S.length) (S ++ [.lst ds])) Q) (rs : RS G ρ H S) (r : RvA G.K ρ H vs ds) {u : Addr} (hu : H u = none) : Q (.ref u) (upd H u (.lst vs)) := by
  refine p _ _ (ρ.add u) (Stp.newS hu (rs.nin hu).1) (rs.newS hu r) (.loc ?_)
  rw [show (ρ.add u).s = ρ.s ++ [u] from rfl, ← rs.len, List.getElem?_append_right (Nat.le_refl _)]
  simp
/-- xs + ys, changed later -/
def mAddS (d e : Dv) : M Dv := fun S => match asL S d, asL S e with
  | some xs, some ys => if xs.length + ys.length ≤ lim then .ok (.loc S.length) (S ++ [.lst (xs ++ ys)]) else .bad
  | _, _ => .bad
theorem d_addS : Op2 G W (fun x y H Q => (((∃ i j, x = .int i ∧ y = .int j ∧ Q (.int (i + j)) H) ∨ (∃ i j, x = .str i ∧ y = .str j ∧ i.length + j.length ≤ sizeLine ∧ Q (.str (i ++ j)) H)) ∨ rCatA G.K x y H Q) ∨ rCat x y H Q) mAddS := by
  intro ρ H σ S x y d e Q rs rx ry p
  unfold mAddS at p
  split at p
  · rename_i xs ys e1 e2
    split at p
    · rename_i hl
      obtain ⟨a, vs, rfl, h1, r1⟩ := asL_ok rs rx e1
      obtain ⟨b, ws, rfl, h2, r2⟩ := asL_ok rs ry e2
      exact .inr ⟨a, b, vs, ws, rfl, rfl, h1, h2, lim_ok (by rw [r1.length, r2.length]; exact hl), fun u hu => p.newLS rs (r1.app r2) hu⟩
    · exact p.elim
  · exact p.elim
end
end Mi
end T_SimQ
section T_Hd
set_option Elab.async false
set_option linter.all false
set_option maxRecDepth 100000
set_option maxHeartbeats 4000000
/-! Hd: the head's facts. -/
namespace Mi
open PySem PySem.Spec PyProof.Rows L2 He
/-- what is asked besides -/
inductive Fx where
  | oex (x : Str) | xf (x : Str) | exc (x : Str) | noat (x f : Str) | init (x : Str) | exm (x y : Str) (b : Bool) | kit (x y : Str) (b : Bool) | rd (x : Str) | sm
  | oexg (x : Str) (b : Bse) | rdg (x : Str) (b : Bse) | isx (cs : List Str) (y : Str) (yes : List Str) | isb (cs : List Str) (n : String) (yes : List Str) | excs (cs : List Str) | noats (cs : List Str) (f : Str) | kitb (x : Str) (n : String) (b : Bool)
def oexB (K : PySem.W.Frag) (C : Addr) : Bool := (match K.lookup C with
  | some ⟨.type "type", _, .cls cd, sl⟩ => (match cd.mro, sl.toList with
    | .ref C' :: bm, [_, _, _, _, some (.builtin n), _] => decide (C' = C) && (decide (n = "ValueError.__new__") && (!cd.hasDel && (cd.hasDict && PySem.HandSPX.refsVE bm)))
    | _, _ => false)
  | _ => false) && (decide (PySem.W.findIn K (.ref C) "__setattr__" = some (some (.builtin "object.__setattr__"))) && (decide (PySem.W.subIn K (.ref C) (.type "BaseException") = some true) && (decide (PySem.W.typeIn K (.ref C) = some (.type "type")) && PySem.W.keepIn K (.ref C))))
def excB (K : PySem.W.Frag) (D : Addr) : Bool := decide (PySem.W.findIn K (.ref D) "__getattribute__" = some (some (.builtin "BaseException.__getattribute__"))) && (decide (PySem.W.findIn K (.ref D) "__getattr__" = some none) && (decide (PySem.W.subIn K (.ref D) (.type "BaseException") = some true) && (PySem.W.hasDictIn K D &&
  (decide (PySem.W.findIn K (.ref D) "__class__" = some (some (.builtin "object.__class__"))) && (decide (PySem.W.specialIn K (.builtin "object.__class__") "__get__" = some (some (.builtin "getset_descriptor.__get__"))) && (decide (PySem.W.takesIn K (.builtin "object.__class__") = some true) && decide (PySem.W.mroIn K D (.type "object") = some true)))))))
def rdB (K : PySem.W.Frag) (D : Addr) : Bool := PySem.W.readsIn K D (.type "type") && (decide (PySem.W.specialIn K (.ref D) "__getattribute__" = some (some (.builtin "type.__getattribute__"))) && (match PySem.W.findCls K (.ref D) (.type "type") "__init__" with
  | some (.val v) => decide (v = .builtin "ValueError.__init__")
  | _ => false))
abbrev bVE : Bse := ⟨"ValueError", "ValueError.__new__", "ValueError.__init__", [.type "ValueError", .type "Exception", .type "BaseException", .type "object"]⟩
abbrev bLE : Bse := ⟨"LookupError", "LookupError.__new__", "LookupError.__init__", [.type "LookupError", .type "Exception", .type "BaseException", .type "object"]⟩
abbrev bRE : Bse := ⟨"RuntimeError", "RuntimeError.__new__", "RuntimeError.__init__", [.type "RuntimeError", .type "Exception", .type "BaseException", .type "object"]⟩
abbrev bAE : Bse := ⟨"ArithmeticError", "ArithmeticError.__new__", "ArithmeticError.__init__", [.type "ArithmeticError", .type "Exception", .type "BaseException", .type "object"]⟩
theorem bVE_ok : BseOk bVE := ⟨PySem.F.excBase_ValueError, PySem.F.store_ValueError⟩
theorem bLE_ok : BseOk bLE := ⟨PySem.F.excBase_LookupError, PySem.F.store_LookupError⟩
theorem bRE_ok : BseOk bRE := ⟨PySem.F.excBase_RuntimeError, PySem.F.store_RuntimeError⟩
theorem bAE_ok : BseOk bAE := ⟨PySem.F.excBase_ArithmeticError, PySem.F.store_ArithmeticError⟩
def oexgB (K : PySem.W.Frag) (b : Bse) (C : Addr) : Bool := (match K.lookup C with
  | some ⟨.type "type", _, .cls cd, sl⟩ => (match cd.mro, sl.toList with
    | .ref C' :: bm, [_, _, _, _, some (.builtin n), _] => decide (C' = C) && (decide (n = b.nw) && (!cd.hasDel && (cd.hasDict && ownTB b.tl bm)))
    | _, _ => false)
  | _ => false) && (decide (PySem.W.findIn K (.ref C) "__setattr__" = some (some (.builtin "object.__setattr__"))) && (decide (PySem.W.subIn K (.ref C) (.type "BaseException") = some true) && (decide (PySem.W.typeIn K (.ref C) = some (.type "type")) && PySem.W.keepIn K (.ref C))))
def rdgB (K : PySem.W.Frag) (b : Bse) (D : Addr) : Bool := PySem.W.readsIn K D (.type "type") && (decide (PySem.W.specialIn K (.ref D) "__getattribute__" = some (some (.builtin "type.__getattribute__"))) && (match PySem.W.findCls K (.ref D) (.type "type") "__init__" with
  | some (.val v) => decide (v = .builtin b.ini)
  | _ => false))
def smB (K : PySem.W.Frag) : Bool := match K.lookup sysModules with
  | some o => decide (o.cls = .type "dict")
  | none => false
def Fx.ok (K : PySem.W.Frag) : Fx → Bool
  | .oex x => oexB K (ga K x)
  | .xf x => xfB K (ga K x)
  | .exc x => excB K (ga K x)
  | .noat x f => decide (PySem.W.findIn K (.ref (ga K x)) f = some none)
  | .init x => decide (PySem.W.findIn K (.ref (ga K x)) "__init__" = some (some (.ref (ma K (ga K x) "__init__")))) && decide (PySem.W.typeIn K (.ref (ma K (ga K x) "__init__")) = some (.type "function"))
  | .exm x y b => decide (PySem.W.exmOne K (.ref (ga K x)) (.ref (ga K y)) = some b)
  | .kit x y b => decide (PySem.W.kitOne K (.ref (ga K x)) (.ref (ga K y)) = some b)
  | .rd x => rdB K (ga K x)
  | .sm => smB K
  | .oexg x b => oexgB K b (ga K x)
  | .rdg x b => rdgB K b (ga K x)
  | .isx cs y yes => cs.all fun c => decide (PySem.W.kitOne K (.ref (ga K c)) (.ref (ga K y)) = some (decide (c ∈ yes)))
  | .isb cs n yes => cs.all fun c => decide (PySem.W.kitOne K (.ref (ga K c)) (.type n) = some (decide (c ∈ yes)))
  | .excs cs => cs.all fun c => excB K (ga K c) && xfB K (ga K c)
  | .noats cs f => cs.all fun c => decide (PySem.W.findIn K (.ref (ga K c)) f = some none)
  | .kitb x n b => decide (PySem.W.kitOne K (.ref (ga K x)) (.type n) = some b)
theorem bad2 {a b : Bool} (h : (a && b) = true) : a = true ∧ b = true := Bool.and_eq_true_iff.mp h
section
variable {K : PySem.W.Frag} {C : Addr}
theorem oexB_ok (h : oexB K C = true) : OexC K C := by
  obtain ⟨h0, h⟩ := bad2 h
  obtain ⟨h1, h⟩ := bad2 h
  obtain ⟨h2, h⟩ := bad2 h
  obtain ⟨h3, h4⟩ := bad2 h
  refine ⟨?_, of_decide_eq_true h1, of_decide_eq_true h2, of_decide_eq_true h3, h4⟩
  split at h0
  · rename_i dd cd sl ho
    split at h0
    · rename_i C' bm k0 k1 k2 k3 n k5 hm hs
      obtain ⟨a1, h0⟩ := bad2 h0
      obtain ⟨a2, h0⟩ := bad2 h0
      obtain ⟨a3, h0⟩ := bad2 h0
      obtain ⟨a4, a5⟩ := bad2 h0
      have a1 := of_decide_eq_true a1
      have a2 := of_decide_eq_true a2
      obtain ⟨nm, bs, mro, ns, qn, hd, sn, sub, ab, col, del⟩ := cd
      have a3 : del = false := by
        have z : (!del) = true := a3
        cases del <;> simp_all
      have a4 : hd = true := a4
      have hm : mro = _ := hm
      subst a1 a2 a3 a4 hm
      have hsl : sl = #[k0, k1, k2, k3, some (.builtin "ValueError.__new__"), k5] := by
        rw [← Array.toArray_toList (xs := sl), hs]
      subst hsl
      exact ⟨nm, qn, ns, bs, bm, sn, sub, ab, col, dd, k0, k1, k2, k3, k5, ho, a5⟩
    · cases h0
  · cases h0
theorem oexgB_ok {b : Bse} (hb : BseOk b) (h : oexgB K b C = true) : OexG K b C := by
  obtain ⟨h0, h⟩ := bad2 h
  obtain ⟨h1, h⟩ := bad2 h
  obtain ⟨h2, h⟩ := bad2 h
  obtain ⟨h3, h4⟩ := bad2 h
  refine ⟨hb, ?_, of_decide_eq_true h1, of_decide_eq_true h2, of_decide_eq_true h3, h4⟩
  split at h0
  · rename_i dd cd sl ho
    split at h0
    · rename_i C' bm k0 k1 k2 k3 n k5 hm hs
      obtain ⟨a1, h0⟩ := bad2 h0
      obtain ⟨a2, h0⟩ := bad2 h0
      obtain ⟨a3, h0⟩ := bad2 h0
      obtain ⟨a4, a5⟩ := bad2 h0
      have a1 := of_decide_eq_true a1
      have a2 := of_decide_eq_true a2
      obtain ⟨nm, bs, mro, ns, qn, hd, sn, sub, ab, col, del⟩ := cd
      have a3 : del = false := by
        have z : (!del) = true := a3
        cases del <;> simp_all
      have a4 : hd = true := a4
      have hm : mro = _ := hm
      subst a1 a2 a3 a4 hm
      have hsl : sl = #[k0, k1, k2, k3, some (.builtin b.nw), k5] := by
        rw [← Array.toArray_toList (xs := sl), hs]
      subst hsl
      exact ⟨nm, qn, ns, bs, bm, sn, sub, ab, col, dd, k0, k1, k2, k3, k5, ho, ownTB_ok a5⟩
    · cases h0
  · cases h0
theorem rdgB_ok {b : Bse} (h : rdgB K b C = true) : PySem.W.readsIn K C (.type "type") = true ∧ PySem.W.specialIn K (.ref C) "__getattribute__" = some (some (.builtin "type.__getattribute__")) ∧ PySem.W.findCls K (.ref C) (.type "type") "__init__" = some (.val (.builtin b.ini)) := by
  obtain ⟨h1, h⟩ := bad2 h
  obtain ⟨h2, h3⟩ := bad2 h
  refine ⟨h1, of_decide_eq_true h2, ?_⟩
  split at h3
  · rename_i v e
    rw [e, of_decide_eq_true h3]
  · cases h3
theorem all_at {α : Type} {l : List α} {f : α → Bool} (h : l.all f = true) : ∀ c ∈ l, f c = true := List.all_eq_true.mp h
theorem excB_ok (h : excB K C = true) : ExcC K C := by
  obtain ⟨h1, h⟩ := bad2 h
  obtain ⟨h2, h⟩ := bad2 h
  obtain ⟨h3, h⟩ := bad2 h
  obtain ⟨h4, h⟩ := bad2 h
  obtain ⟨h5, h⟩ := bad2 h
  obtain ⟨h6, h⟩ := bad2 h
  obtain ⟨h7, h8⟩ := bad2 h
  exact ⟨of_decide_eq_true h1, of_decide_eq_true h2, of_decide_eq_true h3, h4, of_decide_eq_true h5, of_decide_eq_true h6, of_decide_eq_true h7, of_decide_eq_true h8⟩
theorem rdB_ok (h : rdB K C = true) : PySem.W.readsIn K C (.type "type") = true ∧ PySem.W.specialIn K (.ref C) "__getattribute__" = some (some (.builtin "type.__getattribute__")) ∧ PySem.W.findCls K (.ref C) (.type "type") "__init__" = some (.val (.builtin "ValueError.__init__")) := by
  obtain ⟨h1, h⟩ := bad2 h
  obtain ⟨h2, h3⟩ := bad2 h
  refine ⟨h1, of_decide_eq_true h2, ?_⟩
  split at h3
  · rename_i v e
    rw [e, of_decide_eq_true h3]
  · cases h3
theorem smB_ok (h : smB K = true) : SmD K := by
  unfold smB at h
  split at h
  · rename_i o e
    exact ⟨o, e, of_decide_eq_true h⟩
  · cases h
end
/-! ### the Hook -/
def frM (g : Addr → Option Obj) (n : Nat) : PySem.W.Frag := frG g (asD g n ++ [sysModules, cStatics])
abbrev AlM : Type := AlD × Bool
def obsM (n : Nat) (fa : List Fa) (fn : List DefD) (fx : List Fx) (g : Addr → Option Obj) : AlM := (obsD fa fn (frM g n), fx.all fun f => f.ok (frM g n))
structure SaysM (fa : List Fa) (fn : List DefD) (fx : List Fx) (K : PySem.W.Frag) : Prop where
  d : SaysD fa fn K
  x : ∀ f ∈ fx, f.ok K = true
def hookM (n : Nat) (fa : List Fa) (fn : List DefD) (fx : List Fx) : PySem.W.Hook where
  α := AlM
  obs := fun s => obsM n fa fn fx s.heap.get?
  val := fun _ => (He.valD fn, true)
  says := fun _ h => ∃ K : PySem.W.Frag, K.In h ∧ SaysM fa fn fx K
  of := fun _ _ e => ⟨_, frG_in, ⟨congrArg (fun z : AlM => z.1) e, fun f hf => List.all_eq_true.mp (congrArg (fun z : AlM => z.2) e) f hf⟩⟩
  keeps := fun _ _ _ ⟨K, hK, c⟩ k => ⟨K, PySem.W.Frag.In.keeps hK k, c⟩
theorem obsM_eq {n : Nat} {fa : List Fa} {fn : List DefD} {fx : List Fx} {g : Addr → Option Obj} {s : Shared} (h : ∀ a, g a = s.heap.get? a) : obsM n fa fn fx g = (hookM n fa fn fx).obs s := by
  have e : g = s.heap.get? := funext h
  rw [e]
  rfl
section
variable {fa : List Fa} {fn : List DefD} {fx : List Fx} {K : PySem.W.Frag}
theorem SaysM.at (c : SaysM fa fn fx K) (i : Nat) {f : Fx} (h : fx[i]? = some f := by rfl) : f.ok K = true := c.x f (List.mem_of_getElem? h)
end
/-- a class's own def -/
def clsDef (st : Stmt) (i : Nat) : Stmt := match st with
  | .ClassDef _ _ _ body _ _ _ _ _ _ _ => body.getD i (.Pass ⟨0, 0, 0, 0⟩)
  | _ => .Pass ⟨0, 0, 0, 0⟩
theorem fd_eq {K : PySem.W.Frag} {x q x' q' : Str} {ps ps' : Arguments} {b b' : List Stmt} {sc sc' : Scope} {dv dv' : List V} {kw kw' : List (Str × V)} {f : Addr} {fd fd' : FuncData} (F : FunD K x q ps b sc dv kw f fd) (F' : FunD K x' q' ps' b' sc' dv' kw' f fd') : fd = fd' := by
  obtain ⟨_, _, _, _, _, _, _, _, _, _, _, l1, _⟩ := F.ex
  obtain ⟨_, _, _, _, _, _, _, _, _, _, _, l2, _⟩ := F'.ex
  rw [l1] at l2
  cases l2
  rfl
abbrev FnP (K : PySem.W.Frag) (x q : Str) (st : Stmt) (f : Addr) (fd : FuncData) : Prop := FunD K x q (defArgs st) (defBody st) (defScope st) [] [] f fd
end Mi
end T_Hd
section T_FinT
set_option Elab.async false
set_option linter.all false
set_option maxRecDepth 100000
set_option maxHeartbeats 4000000
/-! FinT: the law's def is called with the script, where lambdas are made: tables of code objects. -/
namespace Mi
open PySem PySem.Spec PyProof.Rows L2 LamX
theorem rs_emptyT {K : PySem.W.Frag} {mg : Str → Option Value} {T : List (Addr × Str)} {H : Hp} (h : Tabs T H) : RS ⟨K, mg, T, none, none⟩ ⟨[], []⟩ H [] :=
  ⟨rfl, List.nodup_nil, fun _ h => (nomatch h), fun _ _ _ h => by simp at h, h, ⟨trivial, trivial⟩⟩
/-- what may be tracked at the start: the script, empty tables -/
def OnlyT (cs : List (Addr × Addr)) (H : Hp) : Prop := ∀ b, H b = none ∨ (∃ p ∈ cs, p.2 = b ∧ H b = some (.tbl #[])) ∨ ∃ o xs, H b = some (.frz o (.lst xs))
theorem call_atT {P : Program} {w : World} {K : PySem.W.Frag} {mg mb : Str → Option Value} {k : Nat} {fa a : Addr} {fd : FuncData} {x : Str} {mf : List Dv → M Dv} {s : Shared} {ns : List Int} {H : Hp} {cs : List (Addr × Addr)} {T : List (Addr × Str)}
    (KX : K.In s.heap) (hns : s.heap.Ns mainGlobals mg) (hb : s.heap.Ns builtinsNs mb) (hbb : ∀ x : Str, x ≠ "__name__" → mb x = bootBuiltins x) (nl : s.heap.NoLimit) (hg : s.gens = #[]) (hr : Room k callerA)
    (hbm : ∃ (bm : Addr) (ob : Obj), mg "__builtins__" = some (.ref bm) ∧ bm ≠ builtinsNs ∧ s.heap.get? bm = some ob ∧ ob.cls = .type "module" ∧ ob.dict = some builtinsNs ∧ ob.data = .plain)
    (hT : ∀ p ∈ cs, s.heap.get? p.2 = some { cls := .none, data := .fields #[] }) (hC : ∀ p ∈ cs, PySem.W.codeHdIn K p.1 p.2 = true) (hTc : ∀ p ∈ T, ∃ q ∈ cs, q.2 = p.1)
    (F : ∀ base : Heap, K.In base → base.Ns mainGlobals mg → (∀ p ∈ cs, TabB base mg p.1 p.2) → FnG P w K mg base k fa fd [x] (spM ⟨K, mg, T, none, none⟩ 1 mf)) (hbind : ∀ (s : Shared) (u : Value), BindsTo s fd ⟨[u], []⟩ [(x, u)])
    (law : ∃ S', mf [.con (ns.map .int)] [] = .ok (.bl true) S') (hO : OnlyT cs H) (hH : ∀ p ∈ cs, H p.2 = some (.tbl #[])) (hS : SqL K H a (ns.map V.int)) (hok : HOk P w H s.heap) (nd : ∀ b o, s.heap.get? b = some o → (∀ vs n, o.data ≠ .seq vs n) → o.data ≠ .fields #[] → H b = none) (hK : ∀ b o, K.lookup b = some o → H b = none) :
    codeAny (model P w) callerA (.call (.ref fa) ⟨[.ref a], []⟩) (fun r s' => r = .ok (.ret (.bool true)) ∧ OldK s.heap s'.heap ∧ s'.os = s.os ∧ AllBare s'.gens) s := by
  have ns2 : ∀ {b : Addr} {m : Str → Option Value}, s.heap.Ns b m → (hidT s.heap H).Ns b m := fun ⟨o, es, ep, e, d, r⟩ => ⟨o, es, ep, hidT_get e (nd _ _ e (fun _ _ z => by rw [d] at z; cases z) (fun z => by rw [d] at z; cases z)), d, r⟩
  have kin : K.In (hidT s.heap H) := fun b o e => hidT_get (KX b o e) (hK b o e)
  have md : Mod K mg (hidT s.heap H) := ⟨kin, ns2 hns, ⟨mb, ns2 hb, hbb⟩, let ⟨mc, h1, h2⟩ := nl; ⟨mc, ns2 h1, h2⟩⟩
  have e0 : Env0 P w K mg (hidT s.heap H) callerA [] s H := ⟨rfl, md, fun b o e => of_hidT e, Nat.le_of_eq (hidT_size _ _), trivial, fun b hb => by simp [frs] at hb, hok, .of_eq hg⟩
  have nmain : ∀ p ∈ cs, mainGlobals ≠ p.2 := fun p hp z => by
    obtain ⟨o, es, ep, e, d, _⟩ := hns
    rw [z, hT p hp] at e
    cases e
    cases d
  have TB : ∀ p ∈ cs, TabB (hidT s.heap H) mg p.1 p.2 := fun p hp => NdefX.tabB_of_K kin (hC p hp) (by
    obtain ⟨bm, ob, b1, b2, b3, b4, b5, b6⟩ := hbm
    refine ⟨bm, ob, b1, b2, fun q => ?_, fun q => ?_, hidT_get b3 (nd _ _ b3 (fun _ _ z => by rw [b6] at z; cases z) (fun z => by rw [b6] at z; cases z)), b4, b5, b6⟩
    · obtain ⟨o, es, ep, e, d, _⟩ := hns
      rw [q, e] at b3
      cases b3
      rw [d] at b6
      cases b6
    · rw [q, hT p hp] at b3
      cases b3
      cases b6) (nmain p hp)
  obtain ⟨S', eS⟩ := law
  have sp : spM ⟨K, mg, T, none, none⟩ 1 mf [.ref a] H (fun v _ => v = .bl true) (fun _ _ _ => False) := by
    refine ⟨⟨[], []⟩, [], [.con (ns.map .int)], rfl, .cons (.con (stl_of hS) (ints_rel ns)) .nil, rs_emptyT (fun p hp => ?_), ?_⟩
    · obtain ⟨q, hq, e⟩ := hTc p hp
      exact TabS.nil (by rw [← e]; exact hH q hq)
    · rw [eS]
      intro v H' ρ' _ _ rv
      cases rv
      rfl
  refine codeAny_mono ((F _ kin (ns2 hns) TB).run callerA rfl hr [] s H ⟨[.ref a], []⟩ [.ref a] [.ref a] _ _ e0 (hbind s (.ref a)) (.cons rfl .nil) sp) fun r s' h => ?_
  match r, h with
  | .error e, ⟨_, _, _, _, _, _, _, _, _, _, _, _, h⟩ => exact (show False from h).elim
  | .ok .next, h => exact (show False from h).elim
  | .ok .brk, h => exact (show False from h).elim
  | .ok .cont, h => exact (show False from h).elim
  | .ok (.ret u), ⟨v, H', os, bare, un, hok', r', q⟩ =>
    have q' : v = .bl true := q
    subst q'
    obtain rfl : u = Value.bool true := r'
    have each : ∀ b o, s.heap.get? b = some o → s'.heap.get? b = some o ∨ ∃ p ∈ cs, p.2 = b ∧ ∃ more : Array Value, s'.heap.get? b = some { cls := .none, data := .fields more } := fun b o e => by
      rcases hO b with z | ⟨p, hp, ep, z⟩ | ⟨ob, xs, z⟩
      · exact .inl (un.keep b o e z (by simp [frs]) (by simp))
      · obtain ⟨more, z2⟩ := un.tbls b #[] z
        exact .inr ⟨p, hp, ep, _, hok' b _ z2⟩
      · have e1 := (hok b _ z).1
        have e2 := (hok' b _ (un.frzs b ob _ z)).1
        rw [e] at e1
        cases e1
        exact .inl e2
    refine ⟨rfl, ⟨fun b o e => ?_, fun b o e => ?_⟩, os, bare⟩
    · rcases each b o e with z | ⟨p, hp, ep, more, z⟩
      · exact .inl z
      · subst ep
        rw [hT p hp] at e
        cases e
        exact .inr (.inl ⟨((PySem.W.codeHd_of_K KX (hC p hp)).tab (hT p hp)).isCodeTable, rfl, #[], more, rfl, by rw [Array.empty_append]; exact z⟩)
    · rcases each b o e with z | ⟨p, hp, ep, more, z⟩
      · exact ⟨o, z⟩
      · exact ⟨_, z⟩
theorem walkGT {l : PySem.W.OpenLaw} {n k : Nat} {q : Program} {loose : List Str} {XP : (Str → Option Value) → Heap → Prop} {YP : World → Heap → Prop} {d : DefRec} {x : Str} {mf : List Dv → M Dv}
    (hn : l.most = some n) (hn2 : n ≤ sizeLine) (hdf : d.params.defaults = []) (hr : Room k callerA)
    (F : ∀ (w : World) (mg : Str → Option Value) (fa : Addr) (h : Heap), YP w h → h.Ns mainGlobals mg → mg d.name = some (.ref fa) →
      ∃ (K : PySem.W.Frag) (fd : FuncData) (cs : List (Addr × Addr)) (T : List (Addr × Str)), K.In h ∧ (∀ p ∈ T, ∃ q ∈ cs, q.2 = p.1) ∧ (∀ p ∈ cs, h.get? p.2 = some { cls := .none, data := .fields #[] }) ∧ (∀ p ∈ cs, K.lookup p.2 = none) ∧ (∀ p ∈ cs, PySem.W.codeHdIn K p.1 p.2 = true) ∧ (∀ (s : Shared) (u : Value), BindsTo s fd ⟨[u], []⟩ [(x, u)]) ∧
        ∀ base : Heap, K.In base → base.Ns mainGlobals mg → (∀ p ∈ cs, TabB base mg p.1 p.2) → FnG l.prog w K mg base k fa fd [x] (spM ⟨K, mg, T, none, none⟩ 1 mf))
    (law : ∀ ns : List Int, ns.length ≤ n → ∃ S', mf [.con (ns.map .int)] [] = .ok (.bl true) S') :
    PySem.W.WalkO q loose XP YP l.row.toRowW d [] (fun f vs => PySem.call f vs) := by
  refine Att.attach_call hn hdf fun w s₀ s mg mb fa o pm cd doc a vs ns G Y ho hd hcd hmg hobj hints hlen hg => ?_
  obtain ⟨K, fd, cs, T, KX, hTc, hT, nT, hC, hb, hF⟩ := F w mg fa _ Y G.T.g hmg
  have rv := vals_ints hints
  have lenV := hints.length
  have lz : ns.length ≤ sizeLine := Nat.le_trans hlen hn2
  have aT : ∀ p ∈ cs, p.2 ≠ a := fun p hp z => by
    have e := hT p hp
    rw [z, hobj] at e
    cases e
  have isT : ∀ b, b ∈ cs.map (·.2) → s.heap.get? b = some { cls := .none, data := .fields #[] } := fun b hb => by
    obtain ⟨p, hp, rfl⟩ := List.mem_map.mp hb
    exact hT p hp
  cases hk : K.lookup a with
  | some oa =>
    have e := KX a oa hk
    rw [hobj] at e
    cases e
    have hat : ∀ {b : Addr} {u : HO}, (if b ∈ cs.map (·.2) then some (HO.tbl #[]) else none) = some u → b ∈ cs.map (·.2) ∧ u = HO.tbl #[] := fun {b u} z => by
      by_cases hb : b ∈ cs.map (·.2)
      · rw [if_pos hb] at z
        exact ⟨hb, (Option.some.inj z).symm⟩
      · rw [if_neg hb] at z
        cases z
    refine call_atT (H := fun b => if b ∈ cs.map (·.2) then some (.tbl #[]) else none) KX G.T.g G.T.b G.T.builtins G.T.nolimit hg hr G.T.bmain hT hC hTc hF hb (law ns hlen) (fun b => ?_) (fun p hp => if_pos (List.mem_map.mpr ⟨p, hp, rfl⟩)) (.inr ⟨_, vs.toArray, _, hk, rfl, rfl, rfl, by rw [List.size_toArray, lenV]; exact lz, by simpa using rv⟩) (fun b u z => ?_) (fun b o e1 e2 e3 => ?_) fun b o e => ?_
    · by_cases hb : b ∈ cs.map (·.2)
      · obtain ⟨p, hp, ep⟩ := List.mem_map.mp hb
        exact .inr (.inl ⟨p, hp, ep, if_pos hb⟩)
      · exact .inl (if_neg hb)
    · obtain ⟨hb, rfl⟩ := hat z
      exact isT b hb
    · refine if_neg fun hb => ?_
      rw [isT b hb] at e1
      cases e1
      exact e3 rfl
    · refine if_neg fun hb => ?_
      obtain ⟨p, hp, ep⟩ := List.mem_map.mp hb
      rw [← ep, nT p hp] at e
      cases e
  | none =>
    have hat : ∀ {b : Addr} {u : HO}, (if b = a then some (HO.frz { cls := .type "list", data := .seq vs.toArray } (.lst (ns.map V.int))) else if b ∈ cs.map (·.2) then some (HO.tbl #[]) else none) = some u → (b = a ∧ u = HO.frz { cls := .type "list", data := .seq vs.toArray } (.lst (ns.map V.int))) ∨ (b ∈ cs.map (·.2) ∧ u = HO.tbl #[]) := fun {b u} z => by
      by_cases hb : b = a
      · rw [if_pos hb] at z
        exact .inl ⟨hb, (Option.some.inj z).symm⟩
      · rw [if_neg hb] at z
        by_cases hb2 : b ∈ cs.map (·.2)
        · rw [if_pos hb2] at z
          exact .inr ⟨hb2, (Option.some.inj z).symm⟩
        · rw [if_neg hb2] at z
          cases z
    refine call_atT (H := fun b => if b = a then some (.frz { cls := .type "list", data := .seq vs.toArray } (.lst (ns.map V.int))) else if b ∈ cs.map (·.2) then some (.tbl #[]) else none) KX G.T.g G.T.b G.T.builtins G.T.nolimit hg hr G.T.bmain hT hC hTc hF hb (law ns hlen) (fun b => ?_) (fun p hp => (if_neg (aT p hp)).trans (if_pos (List.mem_map.mpr ⟨p, hp, rfl⟩))) (.inl (.inr ⟨{ cls := .type "list", data := .seq vs.toArray }, if_pos rfl⟩)) (fun b u z => ?_) (fun b o e1 e2 e3 => ?_) fun b o e => ?_
    · by_cases hb : b = a
      · exact .inr (.inr ⟨_, _, if_pos hb⟩)
      · by_cases hb2 : b ∈ cs.map (·.2)
        · obtain ⟨p, hp, ep⟩ := List.mem_map.mp hb2
          exact .inr (.inl ⟨p, hp, ep, (if_neg hb).trans (if_pos hb2)⟩)
        · exact .inl ((if_neg hb).trans (if_neg hb2))
    · rcases hat z with ⟨rfl, rfl⟩ | ⟨hb, rfl⟩
      · exact ⟨hobj, by rw [List.length_map]; exact lz, vs, _, rv, hobj⟩
      · exact isT b hb
    · show (if b = a then _ else _) = none
      rw [if_neg (fun hb => by
        subst hb
        rw [hobj] at e1
        cases e1
        exact e2 _ _ rfl), if_neg (fun hb => by
        rw [isT b hb] at e1
        cases e1
        exact e3 rfl)]
    · show (if b = a then _ else _) = none
      rw [if_neg (fun hb => by
        subst hb
        rw [hk] at e
        cases e), if_neg (fun hb => by
        obtain ⟨p, hp, ep⟩ := List.mem_map.mp hb
        rw [← ep, nT p hp] at e
        cases e)]
end Mi
end T_FinT
section T_HdT
set_option Elab.async false
set_option linter.all false
set_option maxRecDepth 100000
set_option maxHeartbeats 4000000
/-! HdT: the head's facts, with tables of code objects. -/
namespace Mi
open PySem PySem.Spec PyProof.Rows L2 He
def frN (g : Addr → Option Obj) (n : Nat) : PySem.W.Frag := frT g (asD g n ++ [sysModules, cStatics])
def obsN (n : Nat) (fa : List Fa) (fn : List DefD) (fx : List Fx) (tf : List Defn) (g : Addr → Option Obj) : AlM := (obsD fa fn (frN g n), (fx.all fun f => f.ok (frN g n)) && tabsB g tf (frN g n))
structure SaysN (fa : List Fa) (fn : List DefD) (fx : List Fx) (tf : List Defn) (h : Heap) (K : PySem.W.Frag) : Prop where
  m : SaysM fa fn fx K
  hd : ∀ p ∈ tf, PySem.W.codeHdIn K (cT K p).1 (cT K p).2 = true
  out : ∀ p ∈ tf, K.lookup (cT K p).2 = none
  emp : ∀ p ∈ tf, h.get? (cT K p).2 = some { cls := .none, data := .fields #[] }
theorem saysN_of {n : Nat} {fa : List Fa} {fn : List DefD} {fx : List Fx} {tf : List Defn} {h : Heap} (e : obsN n fa fn fx tf h.get? = (He.valD fn, true)) : SaysN fa fn fx tf h (frN h.get? n) := by
  have e2 := bad2 (congrArg (fun z : AlM => z.2) e)
  have key : ∀ p ∈ tf, PySem.W.codeHdIn (frN h.get? n) (cT (frN h.get? n) p).1 (cT (frN h.get? n) p).2 = true ∧ ∃ o, h.get? (cT (frN h.get? n) p).2 = some o ∧ emptyTab o = true := fun p hp => by
    obtain ⟨h3, h4⟩ := bad2 (List.all_eq_true.mp e2.2 p hp)
    refine ⟨h3, ?_⟩
    split at h4
    · rename_i o q
      exact ⟨o, q, h4⟩
    · cases h4
  refine ⟨⟨congrArg (fun z : AlM => z.1) e, fun f hf => List.all_eq_true.mp e2.1 f hf⟩, fun p hp => (key p hp).1, fun p hp => ?_, fun p hp => ?_⟩
  · obtain ⟨_, o, q, z⟩ := key p hp
    exact frT_none q z
  · obtain ⟨_, o, q, z⟩ := key p hp
    rw [q, emptyTab_eq z]
def hookN (n : Nat) (fa : List Fa) (fn : List DefD) (fx : List Fx) (tf : List Defn) : PySem.W.Hook where
  α := AlM
  obs := fun s => obsN n fa fn fx tf s.heap.get?
  val := fun _ => (He.valD fn, true)
  says := fun _ h => ∃ K : PySem.W.Frag, K.In h ∧ SaysN fa fn fx tf h K
  of := fun _ _ e => ⟨_, frT_in, saysN_of e⟩
  keeps := fun _ _ _ ⟨K, hK, c⟩ k => ⟨K, PySem.W.Frag.In.keeps hK k, ⟨c.m, c.hd, c.out, fun p hp => k _ _ (c.emp p hp)⟩⟩
theorem obsN_eq {n : Nat} {fa : List Fa} {fn : List DefD} {fx : List Fx} {tf : List Defn} {g : Addr → Option Obj} {s : Shared} (h : ∀ a, g a = s.heap.get? a) : obsN n fa fn fx tf g = (hookN n fa fn fx tf).obs s := by
  have e : g = s.heap.get? := funext h
  rw [e]
  rfl
end Mi
end T_HdT
section T_G11a
set_option Elab.async false
set_option linter.all false
set_option maxRecDepth 100000
set_option maxHeartbeats 0
namespace Mi
open PySem PySem.Spec PyProof.Rows L2 He
def csA : List Str := ["InvalidWord", "InvalidText"]
def cf_line : List Str := ["InvalidText"]
def cf_value : List Str := ["InvalidWord"]
/-- _law_draw: 0 _law_pot_here, 1 _law_many, 2 _law_digit -/
def b_Ldraw : SM := (sSeq (sIf (bOf (e2 mGt (e2 mIx (eVar 0) (eC (.int 0))) (eC (.int 0)))) (sSeq (sAsg (gTp [(gIx (eVar 0) (eC (.int 0))), (gNm 2)]) (eN mDivmod (aCons (e2 mIx (eVar 0) (eC (.int 0))) (aCons (eVar 1) aNil)))) (sRet (eVar 2))) sNil) (sSeq (sAsg (gIx (eVar 0) (eC (.int 1))) (e2 mMod (eN mInt (aCons (e2 mAdd (e2 mMul (e2 mIx (eVar 0) (eC (.int 1))) (eC (.int 48271))) (eC (.int 12043))) aNil)) (eC (.int 2147483587)))) (sRet (e2 mMod (eN mInt (aCons (e2 mFdiv (e2 mMod (eN mInt (aCons (e2 mMul (e2 mIx (eVar 0) (eC (.int 1))) (e2 mIx (eVar 0) (eC (.int 1)))) aNil)) (eC (.int 2147483549))) (eC (.int 13))) aNil)) (eVar 1)))))
def m_Ldraw : List Dv → M Dv := fnOf 2 3 b_Ldraw
/-- _law_labels: 0 _law_pot_here, 1 _law_found, 2 _law_turn, 3 _law_size, 4 _law_spell, 5 _law_at -/
def b_Llabels : SM := (sSeq (sSet 1 (eN mNewL aNil)) (sSeq (sFor (iRange1 (aCons (e2 mAdd (eC (.int 1)) (eN m_Ldraw (aCons (eVar 0) (aCons (eC (.int 3)) aNil)))) aNil)) (gNm 2) (sSeq (sSet 3 (e2 mIx (eN mLst (aCons (eC (.int 1)) (aCons (eC (.int 1)) (aCons (eC (.int 2)) (aCons (eC (.int 8)) aNil))))) (eN m_Ldraw (aCons (eVar 0) (aCons (eC (.int 4)) aNil))))) (sSeq (sSet 4 (eJoin (eC (.str "")) (eLc (iRange1 (aCons (eVar 3) aNil)) (gNm 5) bYes (e2 mIx (eC (.str "abcdefghijklmnopqrstuvwxyz")) (eN m_Ldraw (aCons (eVar 0) (aCons (eC (.int 26)) aNil)))) [5]))) (sExpr (eMth "list" mAppend (eVar 1) (aCons (eIf (bOf (e2 mNotIn (eVar 4) (eVar 1))) (eVar 4) (e2 mIx (eN mLst (aCons (eC (.str "xxx")) (aCons (eC (.str "yyy")) (aCons (eC (.str "zzz")) aNil)))) (eVar 2))) aNil)))))) (sRet (eVar 1))))
def m_Llabels : List Dv → M Dv := fnOf 1 6 b_Llabels
/-- _law_pick: 0 _law_pot_here, 1 _law_some -/
def b_Lpick : SM := (sRet (e2 mIx (eVar 1) (eN m_Ldraw (aCons (eVar 0) (aCons (eN mLen (aCons (eVar 1) aNil)) aNil)))))
def m_Lpick : List Dv → M Dv := fnOf 2 2 b_Lpick
/-- _law_word: 0 _law_pot_here, 1 _law_labels_here, 2 _law_turn -/
def b_Lword : SM := (sRet (eN mTuple (aCons (eLc (iRange1 (aCons (eN m_Ldraw (aCons (eVar 0) (aCons (eC (.int 7)) aNil))) aNil)) (gNm 2) bYes (eN mTup (aCons (eN m_Lpick (aCons (eVar 0) (aCons (eVar 1) aNil))) (aCons (e2 mIx (eN mLst (aCons (eC (.int 1)) (aCons (eC (.int 1)) (aCons (e1 mNeg (eC (.int 1))) aNil)))) (eN m_Ldraw (aCons (eVar 0) (aCons (eC (.int 3)) aNil)))) aNil))) [2]) aNil)))
def m_Lword : List Dv → M Dv := fnOf 2 3 b_Lword
/-- is_integer: 0 value -/
def b_is_integer : SM := (sRet (eAnd (e1 (mIsi "int") (eVar 0)) (eNot (e1 (mIsi "bool") (eVar 0)))))
def m_is_integer : List Dv → M Dv := fnOf 1 1 b_is_integer
/-- is_count: 0 value -/
def b_is_count : SM := (sRet (eAnd (eN m_is_integer (aCons (eVar 0) aNil)) (e2 mGe (eVar 0) (eC (.int 0)))))
def m_is_count : List Dv → M Dv := fnOf 1 1 b_is_count
/-- is_name: 0 value, 1 sign -/
def b_is_name : SM := (sSeq (sIf (bOr (bNot (bOf (e1 (mIsi "str") (eVar 0)))) (bNot (bOf (eChain mLe mLe (eC (.int 1)) (eN mLen (aCons (eVar 0) aNil)) (eC (.int (8))))))) (sRet (eC (.bl false))) sNil) (sRet (eN mAll (aCons (eLcE (eVar 0) (gNm 1) bYes (e2 mIn (eVar 1) (eC (.str "abcdefghijklmnopqrstuvwxyz"))) [1]) aNil))))
def m_is_name : List Dv → M Dv := fnOf 1 2 b_is_name
/-- is_step: 0 value -/
def b_is_step : SM := (sSeq (sIf (bOr (bNot (bOf (e1 (mIsi "tuple") (eVar 0)))) (bOf (e2 mNe (eN mLen (aCons (eVar 0) aNil)) (eC (.int 2))))) (sRet (eC (.bl false))) sNil) (sRet (eAnd (eN m_is_name (aCons (e2 mIx (eVar 0) (eC (.int 0))) aNil)) (eAnd (eN m_is_integer (aCons (e2 mIx (eVar 0) (eC (.int 1))) aNil)) (e2 mIn (e2 mIx (eVar 0) (eC (.int 1))) (eN mTup (aCons (eC (.int (1))) (aCons (eC (.int (-1))) aNil))))))))
def m_is_step : List Dv → M Dv := fnOf 1 1 b_is_step
/-- _law_kinds_right: 0 _law_labels_here, 1 _law_told, 2 _law_due, 3 _law_label -/
def b_Lkinds_right : SM := (sSeq (sSet 1 (eN mNewL (aCons (eN m_is_integer (aCons (eC (.int 5)) aNil)) (aCons (eN m_is_integer (aCons (e1 mNeg (e2 mPow (eC (.int 10)) (eC (.int 25)))) aNil)) (aCons (eN m_is_integer (aCons (eC (.bl true)) aNil)) (aCons (eN m_is_integer (aCons (eC (.str "1")) aNil)) (aCons (eN m_is_integer (aCons (eC .non) aNil)) (aCons (eN m_is_count (aCons (eC (.int 0)) aNil)) aNil)))))))) (sSeq (sSet 1 (e2 mAdd (eVar 1) (eN mLst (aCons (eN m_is_count (aCons (e1 mNeg (eC (.int 1))) aNil)) (aCons (eN m_is_count (aCons (eC (.bl false)) aNil)) (aCons (eN m_is_count (aCons (eN mLst aNil) aNil)) (aCons (eN m_is_name (aCons (eC (.str "a")) aNil)) (aCons (eN m_is_name (aCons (eC (.str "abcdefgh")) aNil)) (aCons (eN m_is_name (aCons (eC (.str "abcdefghi")) aNil)) aNil))))))))) (sSeq (sSet 1 (e2 mAddS (eVar 1) (eN mLst (aCons (eN m_is_name (aCons (eC (.str "")) aNil)) (aCons (eN m_is_name (aCons (eC (.str "aB")) aNil)) (aCons (eN m_is_name (aCons (eC (.str "a1")) aNil)) (aCons (eN m_is_name (aCons (eN mLst (aCons (eC (.str "a")) aNil)) aNil)) (aCons (eK m_is_name [0] (aCons (eC .non) aNil)) aNil)))))))) (sSeq (sExpr (eMth "list" mAppend (eVar 1) (aCons (eK m_is_count [0] (aCons (e2 mPow (eC (.int 10)) (eC (.int 25))) aNil)) aNil))) (sSeq (sIf (bOr (bOf (e2 mIsNot (eK m_is_integer [0] (aCons (eC (.bl true)) aNil)) (eC (.bl false)))) (bOf (e2 mIsNot (eK m_is_step [0] (aCons (eN mTup (aCons (eC (.str "a")) (aCons (e1 mNeg (eC (.int 1))) aNil))) aNil)) (eC (.bl true))))) (sRet (eC (.bl false))) sNil) (sSeq (sSet 2 (eN mLst (aCons (eC (.bl true)) (aCons (eC (.bl true)) (aCons (eC (.bl false)) (aCons (eC (.bl false)) (aCons (eC (.bl false)) (aCons (eC (.bl true)) (aCons (eC (.bl false)) (aCons (eC (.bl false)) (aCons (eC (.bl false)) (aCons (eC (.bl true)) (aCons (eC (.bl true)) (aCons (eC (.bl false)) (aCons (eC (.bl false)) (aCons (eC (.bl false)) (aCons (eC (.bl false)) (aCons (eC (.bl false)) aNil)))))))))))))))))) (sRet (eAnd (e2 mEq (eVar 1) (e2 mAdd (eVar 2) (eN mLst (aCons (eC (.bl false)) (aCons (eC (.bl true)) aNil))))) (eN mAll (aCons (eLcE (eVar 0) (gNm 3) bYes (e2 mIs (eN m_is_name (aCons (eVar 3) aNil)) (eC (.bl true))) [3]) aNil))))))))))
def m_Lkinds_right : List Dv → M Dv := fnOf 1 4 b_Lkinds_right
/-- _law_key: 0 _law_spell, 1 _law_label, 2 _law_way -/
def b_Lkey : SM := (sRet (eN mTup (aCons (eN mLen (aCons (eVar 0) aNil)) (aCons (eLcE (eVar 0) (gTp [(gNm 1), (gNm 2)]) bYes (eN mTup (aCons (eVar 1) (aCons (eN mInt (aCons (e2 mLt (eVar 2) (eC (.int 0))) aNil)) aNil))) [1, 2]) aNil))))
def m_Lkey : List Dv → M Dv := fnOf 1 3 b_Lkey
/-- is_word: 0 value, 1 step -/
def b_is_word : SM := (sRet (eAnd (e1 (mIsi "tuple") (eVar 0)) (eN mAll (aCons (eLcE (eVar 0) (gNm 1) bYes (eN m_is_step (aCons (eVar 1) aNil)) [1]) aNil))))
def m_is_word : List Dv → M Dv := fnOf 1 2 b_is_word
/-- want_word: 0 value -/
def b_want_word : SM := (sIf (bNot (bOf (eN m_is_word (aCons (eVar 0) aNil)))) (sRaiseG "InvalidWord" ["value"] (aCons (eVar 0) aNil)) sNil)
def m_want_word : List Dv → M Dv := fnOf 1 1 b_want_word
/-- step_key: 0 step, 1 label, 2 way -/
def b_step_key : SM := (sSeq (sAsg (gTp [(gNm 1), (gNm 2)]) (eVar 0)) (sRet (eN mTup (aCons (eVar 1) (aCons (eIf (bOf (e2 mEq (eVar 2) (eC (.int (1))))) (eC (.int 0)) (eC (.int 1))) aNil)))))
def m_step_key : List Dv → M Dv := fnOf 1 3 b_step_key
/-- word_key: 0 word, 1 step -/
def b_word_key : SM := (sRet (eN mTup (aCons (eN mLen (aCons (eVar 0) aNil)) (aCons (eN mTuple (aCons (eLcE (eVar 0) (gNm 1) bYes (eN m_step_key (aCons (eVar 1) aNil)) [1]) aNil)) aNil))))
def m_word_key : List Dv → M Dv := fnOf 1 2 b_word_key
/-- in_order: 0 words, 1 word -/
def b_in_order : SM := (sSeq (sForE (eVar 0) (gNm 1) (sExpr (eN m_want_word (aCons (eVar 1) aNil)))) (sRet (e1 (mSortKS m_word_key) (eVar 0))))
def m_in_order : List Dv → M Dv := fnOf 1 2 b_in_order
/-- _law_odd_step: 0 _law_pot_here, 1 _law_label, 2 _law_odd -/
def b_Lodd_step : SM := (sSeq (sSet 2 (eN mLst (aCons (eN mTup (aCons (eVar 1) (aCons (eC (.int 0)) aNil))) (aCons (eN mTup (aCons (eVar 1) (aCons (eC (.int 2)) aNil))) (aCons (eN mTup (aCons (eVar 1) (aCons (eC (.bl true)) aNil))) (aCons (eN mTup (aCons (eVar 1) (aCons (e1 mNeg (eC (.int 2))) aNil))) (aCons (eN mTup (aCons (eVar 1) (aCons (eC .non) aNil))) (aCons (eN mTup (aCons (eVar 1) (aCons (eC (.str "1")) aNil))) (aCons (eN mTup (aCons (eVar 1) aNil)) (aCons (eN mTup (aCons (eVar 1) (aCons (eC (.int 1)) (aCons (eC (.int 1)) aNil)))) aNil)))))))))) (sSeq (sSet 2 (e2 mAdd (eVar 2) (eN mLst (aCons (eN mLst (aCons (eVar 1) (aCons (eC (.int 1)) aNil))) (aCons (eVar 1) (aCons (eC .non) (aCons (eC (.int 1)) (aCons (eN mTup (aCons (eC (.str "")) (aCons (eC (.int 1)) aNil))) (aCons (eN mTup (aCons (e2 mAdd (eVar 1) (eC (.str "A"))) (aCons (eC (.int 1)) aNil))) (aCons (eN mTup (aCons (e2 mAdd (eC (.str "~")) (eVar 1)) (aCons (eC (.int 1)) aNil))) (aCons (eN mTup (aCons (eSl (e2 mMulS (eVar 1) (eC (.int 9))) oNone (oSome (eC (.int 9)))) (aCons (e1 mNeg (eC (.int 1))) aNil))) aNil))))))))))) (sRet (eN m_Lpick (aCons (eVar 0) (aCons (e2 mAdd (eVar 2) (eN mLst (aCons (eN mTup (aCons (eC .non) (aCons (eC (.int 1)) aNil))) (aCons (eN mTup (aCons (eC (.int 1)) (aCons (eVar 1) aNil))) (aCons (e1 (mDisp1 1) (eVar 1)) (aCons (eN mTup (aCons (e2 mAdd (eVar 1) (eC (.str " "))) (aCons (eC (.int 1)) aNil))) (aCons (eN mTup (aCons (eVar 1) (aCons (e2 mPow (eC (.int 10)) (eC (.int 20))) aNil))) aNil))))))) aNil))))))
def m_Lodd_step : List Dv → M Dv := fnOf 2 3 b_Lodd_step
/-- _law_refused: 0 _law_call, 1 _law_told, 2 e -/
def b_Lrefused (th : M Dv) : SM := (sSeq (sSet 1 (eN mLst (aCons (eC (.str "other")) aNil))) (sSeq (sTry 2 ["InvalidWord"] ["InvalidWord"] (sExpr (eAct th)) (fun x => (sSet 1 (eN mLst (aCons (eC (.str "refused")) (aCons (eXf x "InvalidWord" "value") aNil)))))) (sRet (eVar 1))))
def m_Lrefused : M Dv → M Dv := lamFn 3 b_Lrefused
/-- inverse_step: 0 step, 1 label, 2 way -/
def b_inverse_step : SM := (sSeq (sAsg (gTp [(gNm 1), (gNm 2)]) (eVar 0)) (sRet (eN mTup (aCons (eVar 1) (aCons (e1 mNeg (eVar 2)) aNil)))))
def m_inverse_step : List Dv → M Dv := fnOf 1 3 b_inverse_step
/-- inverse_of: 0 word, 1 step -/
def b_inverse_of : SM := (sSeq (sExpr (eN m_want_word (aCons (eVar 0) aNil))) (sRet (eN mTuple (aCons (eLcE (e1 mRev (eVar 0)) (gNm 1) bYes (eN m_inverse_step (aCons (eVar 1) aNil)) [1]) aNil))))
def m_inverse_of : List Dv → M Dv := fnOf 1 2 b_inverse_of
/-- step_text: 0 step, 1 label, 2 way -/
def b_step_text : SM := (sSeq (sAsg (gTp [(gNm 1), (gNm 2)]) (eVar 0)) (sRet (eIf (bOf (e2 mEq (eVar 2) (eC (.int (1))))) (eVar 1) (e2 mAdd (eC (.str "~")) (eVar 1)))))
def m_step_text : List Dv → M Dv := fnOf 1 3 b_step_text
/-- word_text: 0 word, 1 step -/
def b_word_text : SM := (sSeq (sExpr (eN m_want_word (aCons (eVar 0) aNil))) (sRet (eIf (bOf (e2 mNe (eVar 0) (eN mTup aNil))) (eJoin (eC (.str " ")) (eLcE (eVar 0) (gNm 1) bYes (eN m_step_text (aCons (eVar 1) aNil)) [1])) (eC (.str "1")))))
def m_word_text : List Dv → M Dv := fnOf 1 2 b_word_text
/-- _law_odd_right: 0 _law_pot_here, 1 _law_labels_here, 2 _law_spell, 3 _law_odd, 4 _law_at, 5 _law_worse, 6 _law_thing, 7 _law_told, 8 _law_step -/
def b_Lodd_right : SM := (sSeq (sPar [3, 4] (aCons (eN m_Lodd_step (aCons (eVar 0) (aCons (eN m_Lpick (aCons (eVar 0) (aCons (eVar 1) aNil))) aNil))) (aCons (eN m_Ldraw (aCons (eVar 0) (aCons (e2 mAdd (eN mLen (aCons (eVar 2) aNil)) (eC (.int 1))) aNil))) aNil))) (sSeq (sSet 5 (e2 mAdd (e2 mAdd (eSl (eVar 2) oNone (oSome (eVar 4))) (eN mTup (aCons (eVar 3) aNil))) (eSl (eVar 2) (oSome (eVar 4)) oNone))) (sSeq (sIf (bOr (bOf (e2 mIsNot (eN m_is_step (aCons (eVar 3) aNil)) (eC (.bl false)))) (bOr (bOf (e2 mIsNot (eN m_is_word (aCons (eVar 5) aNil)) (eC (.bl false)))) (bOf (e2 mIsNot (eN m_is_word (aCons (eN mList (aCons (eVar 2) aNil)) aNil)) (eC (.bl false)))))) (sRet (eC (.bl false))) sNil) (sSeq (sForE (eN mLst (aCons (eVar 5) (aCons (eN mList (aCons (eVar 2) aNil)) (aCons (eC .non) (aCons (eC (.bl true)) (aCons (eC (.str "1")) (aCons (eN mLst (aCons (eN mTup (aCons (eC (.str "a")) (aCons (eC (.int 1)) aNil))) aNil)) (aCons mDct0 aNil)))))))) (gNm 6) (sSeq (sSet 7 (eN mNewL (aCons (eLam m_Lrefused (eN m_inverse_of (aCons (eVar 6) aNil))) aNil))) (sSeq (sExpr (eMth "list" mAppend (eVar 7) (aCons (eLam m_Lrefused (eN m_word_text (aCons (eVar 6) aNil))) aNil))) (sSeq (sExpr (eMth "list" mAppend (eVar 7) (aCons (eLam m_Lrefused (eN m_in_order (aCons (eN mLst (aCons (eVar 2) (aCons (eVar 6) (aCons (eC .non) aNil)))) aNil))) aNil))) (sIf (bOf (e2 mNe (eN mRepr (aCons (eVar 7) aNil)) (eN mRepr (aCons (e2 mMul (eN mLst (aCons (eN mLst (aCons (eC (.str "refused")) (aCons (eVar 6) aNil))) aNil)) (eC (.int 3))) aNil)))) (sRet (eC (.bl false))) sNil))))) (sRet (eAnd (e2 mIs (eN m_is_word (aCons (eVar 2) aNil)) (eC (.bl true))) (eN mAll (aCons (eLcE (eVar 2) (gNm 8) bYes (e2 mIs (eN m_is_step (aCons (eVar 8) aNil)) (eC (.bl true))) [8]) aNil))))))))
def m_Lodd_right : List Dv → M Dv := fnOf 3 9 b_Lodd_right
/-- _law_text: 0 _law_spell, 1 _law_label, 2 _law_way -/
def b_Ltext : SM := (sRet (eIf (bOf (e2 mNe (eVar 0) (eN mTup aNil))) (eJoin (eC (.str " ")) (eLcE (eVar 0) (gTp [(gNm 1), (gNm 2)]) bYes (e2 mAdd (e2 mIx (eN mLst (aCons (eC (.str "")) (aCons (eC (.str "~")) aNil))) (eN mInt (aCons (e2 mLt (eVar 2) (eC (.int 0))) aNil))) (eVar 1)) [1, 2])) (eC (.str "1"))))
def m_Ltext : List Dv → M Dv := fnOf 1 3 b_Ltext
/-- _law_step_in: 0 _law_note, 1 _law_label, 2 _law_sign -/
def b_Lstep_in : SM := (sSeq (sSet 1 (eIf (bOf (e2 mEq (eSl (eVar 0) oNone (oSome (eC (.int 1)))) (eC (.str "~")))) (eSl (eVar 0) (oSome (eC (.int 1))) oNone) (eVar 0))) (sSeq (sIf (bOr (bNot (bOf (eChain mLe mLe (eC (.int 1)) (eN mLen (aCons (eVar 1) aNil)) (eC (.int 8))))) (bNot (bOf (eN mAll (aCons (eLcE (eVar 1) (gNm 2) bYes (e2 mIn (eVar 2) (eC (.str "abcdefghijklmnopqrstuvwxyz"))) [2]) aNil))))) (sRet (eC .non)) sNil) (sRet (eN mTup (aCons (eVar 1) (aCons (eIf (bOf (e2 mEq (eVar 1) (eVar 0))) (eC (.int 1)) (e1 mNeg (eC (.int 1)))) aNil))))))
def m_Lstep_in : List Dv → M Dv := fnOf 1 3 b_Lstep_in
/-- _law_read: 0 _law_note, 1 _law_found, 2 _law_part -/
def b_Lread : SM := (sSeq (sIf (bOf (e2 mEq (eVar 0) (eC (.str "1")))) (sRet (eN mTup aNil)) sNil) (sSeq (sSet 1 (eLcE (eSplit (eVar 0) (eC (.str " "))) (gNm 2) bYes (eN m_Lstep_in (aCons (eVar 2) aNil)) [2])) (sRet (eIf (bOf (e2 mIn (eC .non) (eVar 1))) (eC .non) (eN mTuple (aCons (eVar 1) aNil))))))
def m_Lread : List Dv → M Dv := fnOf 1 3 b_Lread
/-- step_in: 0 text, 1 label -/
def b_step_in : SM := (sSeq (sSet 1 (eIf (bOf (e2 mEq (eSl (eVar 0) oNone (oSome (eC (.int 1)))) (eC (.str "~")))) (eSl (eVar 0) (oSome (eC (.int 1))) oNone) (eVar 0))) (sSeq (sIf (bNot (bOf (eN m_is_name (aCons (eVar 1) aNil)))) (sRet (eC .non)) sNil) (sRet (eN mTup (aCons (eVar 1) (aCons (eIf (bOf (e2 mEq (eVar 1) (eVar 0))) (eC (.int (1))) (eC (.int (-1)))) aNil))))))
def m_step_in : List Dv → M Dv := fnOf 1 2 b_step_in
/-- read_word: 0 text, 1 steps, 2 part, 3 step -/
def b_read_word : SM := (sSeq (sIf (bNot (bOf (e1 (mIsi "str") (eVar 0)))) (sRaiseG "InvalidText" ["line"] (aCons (eC .non) aNil)) sNil) (sSeq (sIf (bOf (e2 mEq (eVar 0) (eC (.str "1")))) (sRet (eN mTup aNil)) sNil) (sSeq (sSet 1 (eLcE (eSplit (eVar 0) (eC (.str " "))) (gNm 2) bYes (eN m_step_in (aCons (eVar 2) aNil)) [2])) (sSeq (sIf (bOf (eN mAny (aCons (eLcE (eVar 1) (gNm 3) bYes (e2 mIs (eVar 3) (eC .non)) [3]) aNil))) (sRaiseG "InvalidText" ["line"] (aCons (eC (.int 1)) aNil)) sNil) (sRet (eN mTuple (aCons (eVar 1) aNil)))))))
def m_read_word : List Dv → M Dv := fnOf 1 4 b_read_word
/-- _law_told_text: 0 _law_thing, 1 _law_told, 2 e -/
def b_Ltold_text : SM := (sSeq (sSet 1 (eN mLst (aCons (eC (.str "other")) aNil))) (sSeq (sTry 2 ["InvalidText"] ["InvalidText"] (sSet 1 (eN mLst (aCons (eC (.str "read")) (aCons (eN m_read_word (aCons (eVar 0) aNil)) aNil)))) (fun x => (sSet 1 (eIf (bAnd (bOf (eXi x "InvalidText" true)) (bNot (bOf (eXi x "InvalidText" false)))) (eN mLst (aCons (eC (.str "refused")) (aCons (eXf x "InvalidText" "line") aNil))) (eVar 1))))) (sRet (eVar 1))))
def m_Ltold_text : List Dv → M Dv := fnOf 1 3 b_Ltold_text
/-- _law_texts_right: 0 _law_pot_here, 1 _law_spell, 2 _law_note, 3 _law_turn, 4 _law_at, 5 _law_sign, 6 _law_odd, 7 _law_found, 8 _law_due, 9 _law_thing -/
def b_Ltexts_right : SM := (sSeq (sSet 2 (eN m_Ltext (aCons (eVar 1) aNil))) (sSeq (sIf (bOr (bOf (e2 mNe (eN m_word_text (aCons (eVar 1) aNil)) (eVar 2))) (bOf (e2 mNe (eN mRepr (aCons (eN m_Ltold_text (aCons (eVar 2) aNil)) aNil)) (eN mRepr (aCons (eN mLst (aCons (eC (.str "read")) (aCons (eVar 1) aNil))) aNil))))) (sRet (eC (.bl false))) sNil) (sSeq (sFor (iRange1 (aCons (eC (.int 3)) aNil)) (gNm 3) (sSeq (sPar [4, 5] (aCons (eN m_Ldraw (aCons (eVar 0) (aCons (e2 mAdd (eN mLen (aCons (eVar 2) aNil)) (eC (.int 1))) aNil))) (aCons (eN m_Lpick (aCons (eVar 0) (aCons (eC (.str " ~a1z0|A*\n")) aNil))) aNil))) (sSeq (sSet 6 (e2 mIx (eN mLst (aCons (e2 mAdd (e2 mAdd (eSl (eVar 2) oNone (oSome (eVar 4))) (eVar 5)) (eSl (eVar 2) (oSome (eVar 4)) oNone)) (aCons (e2 mAdd (eSl (eVar 2) oNone (oSome (eVar 4))) (eSl (eVar 2) (oSome (e2 mAdd (eVar 4) (eC (.int 1)))) oNone)) (aCons (e2 mAdd (e2 mAdd (eSl (eVar 2) oNone (oSome (eVar 4))) (eVar 5)) (eSl (eVar 2) (oSome (e2 mAdd (eVar 4) (eC (.int 1)))) oNone)) aNil)))) (eVar 3))) (sSeq (sSet 7 (eN m_Lread (aCons (eVar 6) aNil))) (sSeq (sSet 8 (eIf (bOf (e2 mIs (eVar 7) (eC .non))) (eN mLst (aCons (eC (.str "refused")) (aCons (eC (.int 1)) aNil))) (eN mLst (aCons (eC (.str "read")) (aCons (eVar 7) aNil))))) (sIf (bOf (e2 mNe (eN mRepr (aCons (eN m_Ltold_text (aCons (eVar 6) aNil)) aNil)) (eN mRepr (aCons (eVar 8) aNil)))) (sRet (eC (.bl false))) sNil)))))) (sRet (e2 mEq (eN mRepr (aCons (eLcE (eN mLst (aCons (eC .non) (aCons (eC (.int 1)) (aCons (eC (.bl true)) (aCons (eN mLst aNil) (aCons (eN mTup (aCons (eC (.str "a")) aNil)) (aCons mDct0 aNil))))))) (gNm 9) bYes (eN m_Ltold_text (aCons (eVar 9) aNil)) [9]) aNil)) (eN mRepr (aCons (e2 mMul (eN mLst (aCons (eN mLst (aCons (eC (.str "refused")) (aCons (eC .non) aNil))) aNil)) (eC (.int 6))) aNil)))))))
def m_Ltexts_right : List Dv → M Dv := fnOf 2 10 b_Ltexts_right
/-- _law_right: 0 _law_pot_here, 1 _law_labels_here, 2 _law_some, 3 _law_kept, 4 _law_due, 5 _law_spell, 6 _law_turned, 7 _law_turn, 8 _law_label, 9 _law_way -/
def b_Lright : SM := (sSeq (sSet 1 (eN m_Llabels (aCons (eVar 0) aNil))) (sSeq (sSet 2 (eLc (iRange1 (aCons (eC (.int 5)) aNil)) (gNm 7) bYes (eN m_Lword (aCons (eVar 0) (aCons (eVar 1) aNil))) [7])) (sSeq (sPar [3, 4] (aCons (eN mRepr (aCons (eVar 2) aNil)) (aCons (e1 (mSortK m_Lkey) (eVar 2)) aNil))) (sSeq (sIf (bOr (bOf (e2 mNe (eN mRepr (aCons (eN m_in_order (aCons (eVar 2) aNil)) aNil)) (eN mRepr (aCons (eVar 4) aNil)))) (bOr (bOf (e2 mNe (eN mRepr (aCons (eK m_in_order [0] (aCons (eN mTuple (aCons (eVar 2) aNil)) aNil)) aNil)) (eN mRepr (aCons (eVar 4) aNil)))) (bOf (e2 mNe (eN m_in_order (aCons (eN mLst aNil) aNil)) (eN mLst aNil))))) (sRet (eC (.bl false))) sNil) (sSeq (sExpr (eMth "list" mClear (eN m_in_order (aCons (eVar 2) aNil)) aNil)) (sSeq (sForE (eVar 2) (gNm 5) (sSeq (sSet 6 (eN mTuple (aCons (eLcE (e1 mRev (eVar 5)) (gTp [(gNm 8), (gNm 9)]) bYes (eN mTup (aCons (eVar 8) (aCons (e2 mSub (eC (.int 0)) (eVar 9)) aNil))) [8, 9]) aNil))) (sSeq (sIf (bOf (e2 mNe (eN mRepr (aCons (eN mLst (aCons (eN m_inverse_of (aCons (eVar 5) aNil)) (aCons (eK m_inverse_of [0] (aCons (eVar 6) aNil)) aNil))) aNil)) (eN mRepr (aCons (eN mLst (aCons (eVar 6) (aCons (eVar 5) aNil))) aNil)))) (sRet (eC (.bl false))) sNil) (sSeq (sIf (bOr (bOf (e2 mIsNot (eK m_is_word [0] (aCons (eVar 5) aNil)) (eC (.bl true)))) (bOf (e2 mNe (eN mRepr (aCons (eK m_read_word [0] (aCons (eK m_word_text [0] (aCons (eVar 5) aNil)) aNil)) aNil)) (eN mRepr (aCons (eVar 5) aNil))))) (sRet (eC (.bl false))) sNil) (sSeq (sIf (bOr (bOf (e2 mNe (eN m_inverse_of (aCons (e2 mAdd (eVar 5) (e2 mIx (eVar 2) (eC (.int 0)))) aNil)) (e2 mAdd (eN m_inverse_of (aCons (e2 mIx (eVar 2) (eC (.int 0))) aNil)) (eN m_inverse_of (aCons (eVar 5) aNil))))) (bNot (bOf (eN m_Ltexts_right (aCons (eVar 0) (aCons (eVar 5) aNil)))))) (sRet (eC (.bl false))) sNil) (sIf (bNot (bOf (eN m_Lodd_right (aCons (eVar 0) (aCons (eVar 1) (aCons (eVar 5) aNil)))))) (sRet (eC (.bl false))) sNil)))))) (sRet (eAnd (e2 mEq (eN mRepr (aCons (eVar 2) aNil)) (eVar 3)) (eN m_Lkinds_right (aCons (eVar 1) aNil))))))))))
def m_Lright : List Dv → M Dv := fnOf 1 10 b_Lright
/-- _law_pot: 0 _law_script, 1 _law_k, 2 _law_cell -/
def b_Lpot : SM := (sSeq (sSet 2 (e2 mAdd (e2 mMul (eC (.int 31)) (eVar 1)) (eC (.int 5)))) (sSeq (sIf (bOf (e2 mLt (eVar 1) (eN mLen (aCons (eVar 0) aNil)))) (sSet 2 (eN mAbs (aCons (e2 mIx (eVar 0) (eVar 1)) aNil))) sNil) (sRet (eN mNewL (aCons (eN mMax (aCons (eC (.int 0)) (aCons (e2 mSub (eVar 2) (e2 mPow (eC (.int 10)) (eC (.int 18)))) aNil))) (aCons (e2 mAdd (e2 mMod (e2 mMul (eN mInt (aCons (e2 mAdd (e2 mMod (eN mInt (aCons (eVar 2) aNil)) (eC (.int 2147483563))) (eC (.int 11))) aNil)) (e2 mPow (e2 mAdd (e2 mMul (eC (.int 2)) (eVar 1)) (eC (.int 3))) (eC (.int 3)))) (eC (.int 2147483543))) (eC (.int 1))) aNil))))))
def m_Lpot : List Dv → M Dv := fnOf 2 3 b_Lpot
/-- law: 0 _law_script, 1 _law_k -/
def b_law : SM := (sRet (eN mAll (aCons (eLc (iRange1 (aCons (eN mMax (aCons (eC (.int 1)) (aCons (eN mMin (aCons (eN mLen (aCons (eVar 0) aNil)) (aCons (eC (.int 6)) aNil))) aNil))) aNil)) (gNm 1) bYes (eN m_Lright (aCons (eN m_Lpot (aCons (eVar 0) (aCons (eVar 1) aNil))) aNil)) [1]) aNil)))
def m_law : List Dv → M Dv := fnOf 1 2 b_law
/-! ### the text -/
def top (i : Nat) : Stmt := PySem.Challenge.pw_walkasks_k11_whole_steps_and_words.main.body.getD i (.Pass ⟨0, 0, 0, 0⟩)
theorem bb_abs : bootBuiltins "abs" = some (.builtin "abs") := by decide +kernel
theorem bb_all : bootBuiltins "all" = some (.builtin "all") := by decide +kernel
theorem bb_any : bootBuiltins "any" = some (.builtin "any") := by decide +kernel
theorem bb_divmod : bootBuiltins "divmod" = some (.builtin "divmod") := by decide +kernel
theorem bb_int : bootBuiltins "int" = some (.type "int") := by decide +kernel
theorem bb_len : bootBuiltins "len" = some (.builtin "len") := by decide +kernel
theorem bb_list : bootBuiltins "list" = some (.type "list") := by decide +kernel
theorem bb_max : bootBuiltins "max" = some (.builtin "max") := by decide +kernel
theorem bb_min : bootBuiltins "min" = some (.builtin "min") := by decide +kernel
theorem bb_tuple : bootBuiltins "tuple" = some (.type "tuple") := by decide +kernel
/-! ### what is known of the module -/
def tfs : List Defn := [("_law_odd_right", none)]
def TT (K : PySem.W.Frag) : List (Addr × Str) := tfs.map fun d => ((cT K d).2, (d.1 ++ ".<locals>.") ++ "<lambda>")
theorem tm_Lodd_right (K : PySem.W.Frag) : ((cT K ("_law_odd_right", none)).2, (("_law_odd_right" : Str) ++ ".<locals>.") ++ "<lambda>") ∈ TT K := List.mem_map.mpr ⟨("_law_odd_right", none), .head _, rfl⟩
theorem to_Lodd_right (K : PySem.W.Frag) : ∀ p ∈ TT K, p.1 = (cT K ("_law_odd_right", none)).2 → p.2 = (("_law_odd_right" : Str) ++ ".<locals>.") ++ "<lambda>" := fun p hp _ => by rw [List.mem_singleton.mp hp]
structure Md (K : PySem.W.Frag) (mg : Str → Option Value) : Prop where
  n_abs : mg "abs" = none
  n_all : mg "all" = none
  n_any : mg "any" = none
  n_bool : mg "bool" = none
  n_divmod : mg "divmod" = none
  n_int : mg "int" = none
  n_isinstance : mg "isinstance" = none
  n_len : mg "len" = none
  n_list : mg "list" = none
  n_max : mg "max" = none
  n_min : mg "min" = none
  n_range : mg "range" = none
  n_repr : mg "repr" = none
  n_sorted : mg "sorted" = none
  n_str : mg "str" = none
  n_tuple : mg "tuple" = none
  i_AGAINST : ∃ t, mg "AGAINST" = some (.int (-1) t)
  i_ALONG : ∃ t, mg "ALONG" = some (.int (1) t)
  i_LONGEST_NAME : ∃ t, mg "LONGEST_NAME" = some (.int (8) t)
  s_AGAINST_MARK : ∃ t, mg "AGAINST_MARK" = some (.str "~" t)
  s_EMPTY_TEXT : ∃ t, mg "EMPTY_TEXT" = some (.str "1" t)
  s_LETTERS : ∃ t, mg "LETTERS" = some (.str "abcdefghijklmnopqrstuvwxyz" t)
  g_InvalidText : mg "InvalidText" = some (.ref (ga K "InvalidText"))
  g_InvalidWord : mg "InvalidWord" = some (.ref (ga K "InvalidWord"))
  g_StateError : mg "StateError" = some (.ref (ga K "StateError"))
  g_WalkError : mg "WalkError" = some (.ref (ga K "WalkError"))
  sm : SmD K
  oex_InvalidText : OexG K bVE (ga K "InvalidText")
  oex_InvalidWord : OexG K bVE (ga K "InvalidWord")
  noats_line : ∀ c ∈ cf_line, PySem.W.findIn K (.ref (ga K c)) "line" = some none
  xfs_line : ∀ c ∈ cf_line, XfC K (ga K c)
  noats_value : ∀ c ∈ cf_value, PySem.W.findIn K (.ref (ga K c)) "value" = some none
  xfs_value : ∀ c ∈ cf_value, XfC K (ga K c)
  init_InvalidText : PySem.W.findIn K (.ref (ga K "InvalidText")) "__init__" = some (some (.ref (ma K (ga K "InvalidText") "__init__"))) ∧ PySem.W.typeIn K (.ref (ma K (ga K "InvalidText") "__init__")) = some (.type "function")
  init_InvalidWord : PySem.W.findIn K (.ref (ga K "InvalidWord")) "__init__" = some (some (.ref (ma K (ga K "InvalidWord") "__init__"))) ∧ PySem.W.typeIn K (.ref (ma K (ga K "InvalidWord") "__init__")) = some (.type "function")
  rd_WalkError : PySem.W.readsIn K (ga K "WalkError") (.type "type") = true ∧ PySem.W.specialIn K (.ref (ga K "WalkError")) "__getattribute__" = some (some (.builtin "type.__getattribute__")) ∧ PySem.W.findCls K (.ref (ga K "WalkError")) (.type "type") "__init__" = some (.val (.builtin bVE.ini))
  noat_InvalidText_line : PySem.W.findIn K (.ref (ga K "InvalidText")) "line" = some none
  noat_InvalidWord_value : PySem.W.findIn K (.ref (ga K "InvalidWord")) "value" = some none
  xf_InvalidText : XfC K (ga K "InvalidText")
  exc_InvalidText : ExcC K (ga K "InvalidText")
  xf_InvalidWord : XfC K (ga K "InvalidWord")
  exc_InvalidWord : ExcC K (ga K "InvalidWord")
  exm_InvalidText_InvalidText : PySem.W.exmOne K (.ref (ga K "InvalidText")) (.ref (ga K "InvalidText")) = some true
  exm_InvalidWord_InvalidWord : PySem.W.exmOne K (.ref (ga K "InvalidWord")) (.ref (ga K "InvalidWord")) = some true
  kit_InvalidText_StateError : PySem.W.kitOne K (.ref (ga K "InvalidText")) (.ref (ga K "StateError")) = some false
  kit_InvalidText_WalkError : PySem.W.kitOne K (.ref (ga K "InvalidText")) (.ref (ga K "WalkError")) = some true
section
variable {P : Program} {w : World} {K : PySem.W.Frag} {mg : Str → Option Value} {base : Heap}
theorem hno_InvalidText (M : Md K mg) : ∀ f ∈ (["line"] : List Str), PySem.W.findIn K (.ref (ga K "InvalidText")) f = some none := fun f h => by rw [List.mem_singleton.mp h]; exact M.noats_line _ (by decide +kernel)
abbrev FnX_InvalidText (K : PySem.W.Frag) (fd : FuncData) : Prop := FnP K "__init__" "InvalidText.__init__" (clsDef (top 3) 0) (ma K (ga K "InvalidText") "__init__") fd
theorem scx_InvalidText : FnScope ["self", "line"] ["self", "line"] (defScope (clsDef (top 3) 0)) := ⟨rfl, rfl, rfl, by decide +kernel, rfl, by decide +kernel, by decide +kernel⟩
theorem bdx_InvalidText {fd : FuncData} (F : FnX_InvalidText K fd) : L2.Binds K fd ["self", "line"] [] := F.bindsN fun _ _ _ _ _ _ us hl => match us, hl with | [_, _], _ => rfl
def Oe_InvalidText (P : Program) (w : World) (K : PySem.W.Frag) (mg : Str → Option Value) (base : Heap) : Prop := ∃ fd, FnX_InvalidText K fd ∧ FnOk P w K mg base (L2.CX P w) 2 (ma K (ga K "InvalidText") "__init__") fd ["self", "line"] (spG K bVE ["line"])
theorem oe_InvalidText (M : Md K mg) (F : ∃ fd, FnX_InvalidText K fd) : Oe_InvalidText P w K mg base := by
  obtain ⟨fd, F⟩ := F
  refine ⟨fd, F, ok_gx1 (txt := "this is not a text that is allowed here") F scx_InvalidText fun cdv A outer s H E => ?_⟩
  exact (pss_cons (ps_expr (pg_init (b := bVE) rfl M.g_WalkError M.rd_WalkError.1 M.rd_WalkError.2.1 M.rd_WalkError.2.2 (by decide +kernel) (pa_cons (pv 0) (pa_cons pe_str pa_nil)))) (pss_one (ps_gst (pv 0) (pv 1))))
theorem hno_InvalidWord (M : Md K mg) : ∀ f ∈ (["value"] : List Str), PySem.W.findIn K (.ref (ga K "InvalidWord")) f = some none := fun f h => by rw [List.mem_singleton.mp h]; exact M.noats_value _ (by decide +kernel)
abbrev FnX_InvalidWord (K : PySem.W.Frag) (fd : FuncData) : Prop := FnP K "__init__" "InvalidWord.__init__" (clsDef (top 2) 0) (ma K (ga K "InvalidWord") "__init__") fd
theorem scx_InvalidWord : FnScope ["self", "value"] ["self", "value"] (defScope (clsDef (top 2) 0)) := ⟨rfl, rfl, rfl, by decide +kernel, rfl, by decide +kernel, by decide +kernel⟩
theorem bdx_InvalidWord {fd : FuncData} (F : FnX_InvalidWord K fd) : L2.Binds K fd ["self", "value"] [] := F.bindsN fun _ _ _ _ _ _ us hl => match us, hl with | [_, _], _ => rfl
def Oe_InvalidWord (P : Program) (w : World) (K : PySem.W.Frag) (mg : Str → Option Value) (base : Heap) : Prop := ∃ fd, FnX_InvalidWord K fd ∧ FnOk P w K mg base (L2.CX P w) 2 (ma K (ga K "InvalidWord") "__init__") fd ["self", "value"] (spG K bVE ["value"])
theorem oe_InvalidWord (M : Md K mg) (F : ∃ fd, FnX_InvalidWord K fd) : Oe_InvalidWord P w K mg base := by
  obtain ⟨fd, F⟩ := F
  refine ⟨fd, F, ok_gx1 (txt := "this is not a word") F scx_InvalidWord fun cdv A outer s H E => ?_⟩
  exact (pss_cons (ps_expr (pg_init (b := bVE) rfl M.g_WalkError M.rd_WalkError.1 M.rd_WalkError.2.1 M.rd_WalkError.2.2 (by decide +kernel) (pa_cons (pv 0) (pa_cons pe_str pa_nil)))) (pss_one (ps_gst (pv 0) (pv 1))))
/-! _law_draw -/
abbrev Fd_Ldraw (K : PySem.W.Frag) (fd : FuncData) : Prop := FnP K "_law_draw" "_law_draw" (top 29) (ga K "_law_draw") fd
theorem nd_Ldraw : (["_law_pot_here", "_law_many", "_law_digit"] : List Str).Nodup := by decide +kernel
theorem sc_Ldraw : FnScope ["_law_pot_here", "_law_many", "_law_digit"] ["_law_pot_here", "_law_many"] (defScope (top 29)) := ⟨rfl, rfl, rfl, nd_Ldraw, rfl, by decide +kernel, by decide +kernel⟩
theorem bd_Ldraw {fd : FuncData} (F : Fd_Ldraw K fd) : L2.Binds K fd ["_law_pot_here", "_law_many"] [] := F.bindsN fun _ _ _ _ _ _ us hl => match us, hl with | [_, _], _ => rfl
def Ok_Ldraw (P : Program) (w : World) (K : PySem.W.Frag) (mg : Str → Option Value) (base : Heap) : Prop := ∃ fd, Fd_Ldraw K fd ∧ FnG P w K mg base 1 (ga K "_law_draw") fd ["_law_pot_here", "_law_many"] (spM ⟨K, mg, TT K, none, none⟩ 2 m_Ldraw) ∧ mg "_law_draw" = some (.ref (ga K "_law_draw"))
theorem ok_Ldraw (M : Md K mg) (F : ∃ fd, Fd_Ldraw K fd) (g : mg "_law_draw" = some (.ref (ga K "_law_draw")))    : Ok_Ldraw P w K mg base := by
  obtain ⟨fd, F⟩ := F
  refine ⟨fd, F, ok_defG F sc_Ldraw (fun cdv A outer s H E hgd hr => ?_), g⟩
  exact (rs_cons (rs_if (rt_cmp op_gt d_cmp (re_ix rfl (re_var (pv 0)) re_int (fun _ _ => rfl)) re_int (nomark _)) (rs_cons (rs_asg (re_B call_divmod d_divmod rfl M.n_divmod bb_divmod (ra_cons (re_ix rfl (re_var (pv 0)) re_int (fun _ _ => rfl)) (ra_cons (re_var (pv 1)) ra_nil))) (rg_tup rfl rfl (rgs_cons (rg_ix (W1 := W0) (re_var (pv 0)) re_int (pg_sub (re_var (pv 0)) re_int set_list)) (rgs_cons (rg_name nd_Ldraw rfl (by first | exact .inl rfl | exact .inr rfl)) rgs_nil)) rfl)) (rs_one (rs_ret (re_var (pv 2))))) rs_nil) (rs_cons (rs_asg (re_op op_mod d_mod (re_Ty call_int1 d_int rfl M.n_int bb_int (ra_cons (re_op (o_add rfl) d_add (re_op o_mul d_mul (re_ix rfl (re_var (pv 0)) re_int (fun _ _ => rfl)) re_int) re_int) ra_nil)) re_int) (rg_ix (W1 := W0) (re_var (pv 0)) re_int (pg_sub (re_var (pv 0)) re_int set_list))) (rs_one (rs_ret (re_op op_mod d_mod (re_Ty call_int1 d_int rfl M.n_int bb_int (ra_cons (re_op op_fdiv d_fdiv (re_op op_mod d_mod (re_Ty call_int1 d_int rfl M.n_int bb_int (ra_cons (re_op o_mul d_mul (re_ix rfl (re_var (pv 0)) re_int (fun _ _ => rfl)) (re_ix rfl (re_var (pv 0)) re_int (fun _ _ => rfl))) ra_nil)) re_int) re_int) ra_nil)) (re_var (pv 1)))))))
/-! _law_labels -/
abbrev Fd_Llabels (K : PySem.W.Frag) (fd : FuncData) : Prop := FnP K "_law_labels" "_law_labels" (top 31) (ga K "_law_labels") fd
theorem nd_Llabels : (["_law_pot_here", "_law_found", "_law_turn", "_law_size", "_law_spell", "_law_at"] : List Str).Nodup := by decide +kernel
theorem sc_Llabels : FnScope ["_law_pot_here", "_law_found", "_law_turn", "_law_size", "_law_spell", "_law_at"] ["_law_pot_here"] (defScope (top 31)) := ⟨rfl, rfl, rfl, nd_Llabels, rfl, by decide +kernel, by decide +kernel⟩
theorem bd_Llabels {fd : FuncData} (F : Fd_Llabels K fd) : L2.Binds K fd ["_law_pot_here"] [] := F.bindsN fun _ _ _ _ _ _ us hl => match us, hl with | [_], _ => rfl
def Ok_Llabels (P : Program) (w : World) (K : PySem.W.Frag) (mg : Str → Option Value) (base : Heap) : Prop := ∃ fd, Fd_Llabels K fd ∧ FnG P w K mg base 2 (ga K "_law_labels") fd ["_law_pot_here"] (spM ⟨K, mg, TT K, none, none⟩ 1 m_Llabels) ∧ mg "_law_labels" = some (.ref (ga K "_law_labels"))
theorem ok_Llabels (M : Md K mg) (F : ∃ fd, Fd_Llabels K fd) (g : mg "_law_labels" = some (.ref (ga K "_law_labels"))) (c_Ldraw : Ok_Ldraw P w K mg base)   : Ok_Llabels P w K mg base := by
  obtain ⟨fd, F⟩ := F
  obtain ⟨fd_Ldraw, F_Ldraw, G_Ldraw, g_Ldraw⟩ := c_Ldraw
  refine ⟨fd, F, ok_defG F sc_Llabels (fun cdv A outer s H E hgd hr => ?_), g⟩
  exact (rs_cons (rs_set nd_Llabels rfl (by first | exact .inl rfl | exact .inr rfl) (re_lstS ra_nil)) (rs_cons (rs_for (passes_of rfl) rfl (ri_range1 rfl M.n_range (ra_cons (re_op (o_add rfl) d_add re_int (re_callG (takes_of rfl rfl rfl rfl) G_Ldraw fnOf_ar hgd (hr.mono (by decide)) rfl g_Ldraw F_Ldraw.kp (bd_Ldraw F_Ldraw) (ra_cons (re_var (pv 0)) (ra_cons re_int ra_nil)))) ra_nil)) (rg_name nd_Llabels rfl (by first | exact .inl rfl | exact .inr rfl)) (rs_cons (rs_set nd_Llabels rfl (by first | exact .inl rfl | exact .inr rfl) (re_ix rfl (re_lst (ra_cons re_int (ra_cons re_int (ra_cons re_int (ra_cons re_int ra_nil))))) (re_callG (takes_of rfl rfl rfl rfl) G_Ldraw fnOf_ar hgd (hr.mono (by decide)) rfl g_Ldraw F_Ldraw.kp (bd_Ldraw F_Ldraw) (ra_cons (re_var (pv 0)) (ra_cons re_int ra_nil))) (fun _ _ => rfl))) (rs_cons (rs_set nd_Llabels rfl (by first | exact .inl rfl | exact .inr rfl) (re_join rfl re_str (re_lc (own := [("_law_at", 5)]) rfl nd_Llabels (ri_range1 rfl M.n_range (ra_cons (re_var (pv 3)) ra_nil)) (blkOk_by (by kernel_rfl)) (fun _ _ _ _ _ => (rg_name nd_Llabels rfl (by first | exact .inl rfl | exact .inr rfl))) (fun _ _ _ _ _ => ts_nil) (fun _ _ _ _ _ => (re_ix rfl re_str (re_callG takes0 G_Ldraw fnOf_ar hgd (hr.mono (by decide)) rfl g_Ldraw F_Ldraw.kp (bd_Ldraw F_Ldraw) (ra_cons (re_var (pv 0)) (ra_cons re_int ra_nil))) (fun _ _ => rfl))) (by decide)))) (rs_one (rs_expr (re_bm rfl (.inl rfl) d_append (pe_bm PySem.F.plainAttrs_list PySem.F.slot_list_append PySem.F.type_list_append mt_append (re_var (pv 1)) (ra_cons (re_if (rt_cmp (o_notin rfl (u65_of hr)) d_in (re_var (pv 4)) (re_var (pv 1)) (by with_unfolding_all rfl)) (re_var (pv 4)) (re_ix rfl (re_lst (ra_cons re_str (ra_cons re_str (ra_cons re_str ra_nil)))) (re_var (pv 2)) (fun _ _ => rfl))) ra_nil)))))))) (rs_one (rs_ret (re_var (pv 1))))))
/-! _law_pick -/
abbrev Fd_Lpick (K : PySem.W.Frag) (fd : FuncData) : Prop := FnP K "_law_pick" "_law_pick" (top 30) (ga K "_law_pick") fd
theorem nd_Lpick : (["_law_pot_here", "_law_some"] : List Str).Nodup := by decide +kernel
theorem sc_Lpick : FnScope ["_law_pot_here", "_law_some"] ["_law_pot_here", "_law_some"] (defScope (top 30)) := ⟨rfl, rfl, rfl, nd_Lpick, rfl, by decide +kernel, by decide +kernel⟩
theorem bd_Lpick {fd : FuncData} (F : Fd_Lpick K fd) : L2.Binds K fd ["_law_pot_here", "_law_some"] [] := F.bindsN fun _ _ _ _ _ _ us hl => match us, hl with | [_, _], _ => rfl
def Ok_Lpick (P : Program) (w : World) (K : PySem.W.Frag) (mg : Str → Option Value) (base : Heap) : Prop := ∃ fd, Fd_Lpick K fd ∧ FnG P w K mg base 2 (ga K "_law_pick") fd ["_law_pot_here", "_law_some"] (spM ⟨K, mg, TT K, none, none⟩ 2 m_Lpick) ∧ mg "_law_pick" = some (.ref (ga K "_law_pick"))
theorem ok_Lpick (M : Md K mg) (F : ∃ fd, Fd_Lpick K fd) (g : mg "_law_pick" = some (.ref (ga K "_law_pick"))) (c_Ldraw : Ok_Ldraw P w K mg base)   : Ok_Lpick P w K mg base := by
  obtain ⟨fd, F⟩ := F
  obtain ⟨fd_Ldraw, F_Ldraw, G_Ldraw, g_Ldraw⟩ := c_Ldraw
  refine ⟨fd, F, ok_defG F sc_Lpick (fun cdv A outer s H E hgd hr => ?_), g⟩
  exact (rs_one (rs_ret (re_ix rfl (re_var (pv 1)) (re_callG (takes_of rfl rfl rfl rfl) G_Ldraw fnOf_ar hgd (hr.mono (by decide)) rfl g_Ldraw F_Ldraw.kp (bd_Ldraw F_Ldraw) (ra_cons (re_var (pv 0)) (ra_cons (re_B call_len d_len rfl M.n_len bb_len (ra_cons (re_var (pv 1)) ra_nil)) ra_nil))) (fun _ _ => rfl))))
/-! _law_word -/
abbrev Fd_Lword (K : PySem.W.Frag) (fd : FuncData) : Prop := FnP K "_law_word" "_law_word" (top 32) (ga K "_law_word") fd
theorem nd_Lword : (["_law_pot_here", "_law_labels_here", "_law_turn"] : List Str).Nodup := by decide +kernel
theorem sc_Lword : FnScope ["_law_pot_here", "_law_labels_here", "_law_turn"] ["_law_pot_here", "_law_labels_here"] (defScope (top 32)) := ⟨rfl, rfl, rfl, nd_Lword, rfl, by decide +kernel, by decide +kernel⟩
theorem bd_Lword {fd : FuncData} (F : Fd_Lword K fd) : L2.Binds K fd ["_law_pot_here", "_law_labels_here"] [] := F.bindsN fun _ _ _ _ _ _ us hl => match us, hl with | [_, _], _ => rfl
def Ok_Lword (P : Program) (w : World) (K : PySem.W.Frag) (mg : Str → Option Value) (base : Heap) : Prop := ∃ fd, Fd_Lword K fd ∧ FnG P w K mg base 3 (ga K "_law_word") fd ["_law_pot_here", "_law_labels_here"] (spM ⟨K, mg, TT K, none, none⟩ 2 m_Lword) ∧ mg "_law_word" = some (.ref (ga K "_law_word"))
theorem ok_Lword (M : Md K mg) (F : ∃ fd, Fd_Lword K fd) (g : mg "_law_word" = some (.ref (ga K "_law_word"))) (c_Ldraw : Ok_Ldraw P w K mg base) (c_Lpick : Ok_Lpick P w K mg base)   : Ok_Lword P w K mg base := by
  obtain ⟨fd, F⟩ := F
  obtain ⟨fd_Ldraw, F_Ldraw, G_Ldraw, g_Ldraw⟩ := c_Ldraw
  obtain ⟨fd_Lpick, F_Lpick, G_Lpick, g_Lpick⟩ := c_Lpick
  refine ⟨fd, F, ok_defG F sc_Lword (fun cdv A outer s H E hgd hr => ?_), g⟩
  exact (rs_one (rs_ret (re_Ty call_tuple_of d_tuple rfl M.n_tuple bb_tuple (ra_cons (re_lc (own := [("_law_turn", 2)]) rfl nd_Lword (ri_range1 rfl M.n_range (ra_cons (re_callG (takes_of rfl rfl rfl rfl) G_Ldraw fnOf_ar hgd (hr.mono (by decide)) rfl g_Ldraw F_Ldraw.kp (bd_Ldraw F_Ldraw) (ra_cons (re_var (pv 0)) (ra_cons re_int ra_nil))) ra_nil)) (blkOk_by (by kernel_rfl)) (fun _ _ _ _ _ => (rg_name nd_Lword rfl (by first | exact .inl rfl | exact .inr rfl))) (fun _ _ _ _ _ => ts_nil) (fun _ _ _ _ _ => (re_tup (ra_cons (re_callG takes0 G_Lpick fnOf_ar hgd (hr.mono (by decide)) rfl g_Lpick F_Lpick.kp (bd_Lpick F_Lpick) (ra_cons (re_var (pv 0)) (ra_cons (re_var (pv 1)) ra_nil))) (ra_cons (re_ix rfl (re_lst (ra_cons re_int (ra_cons re_int (ra_cons (re_un un_neg d_neg re_int) ra_nil)))) (re_callG takes0 G_Ldraw fnOf_ar hgd (hr.mono (by decide)) rfl g_Ldraw F_Ldraw.kp (bd_Ldraw F_Ldraw) (ra_cons (re_var (pv 0)) (ra_cons re_int ra_nil))) (fun _ _ => rfl)) ra_nil)))) (by decide)) ra_nil))))
/-! is_integer -/
abbrev Fd_is_integer (K : PySem.W.Frag) (fd : FuncData) : Prop := FnP K "is_integer" "is_integer" (top 12) (ga K "is_integer") fd
theorem nd_is_integer : (["value"] : List Str).Nodup := by decide +kernel
theorem sc_is_integer : FnScope ["value"] ["value"] (defScope (top 12)) := ⟨rfl, rfl, rfl, nd_is_integer, rfl, by decide +kernel, by decide +kernel⟩
theorem bd_is_integer {fd : FuncData} (F : Fd_is_integer K fd) : L2.Binds K fd ["value"] [] := F.bindsN fun _ _ _ _ _ _ us hl => match us, hl with | [_], _ => rfl
def Ok_is_integer (P : Program) (w : World) (K : PySem.W.Frag) (mg : Str → Option Value) (base : Heap) : Prop := ∃ fd, Fd_is_integer K fd ∧ FnG P w K mg base 1 (ga K "is_integer") fd ["value"] (spM ⟨K, mg, TT K, none, none⟩ 1 m_is_integer) ∧ mg "is_integer" = some (.ref (ga K "is_integer"))
theorem ok_is_integer (M : Md K mg) (F : ∃ fd, Fd_is_integer K fd) (g : mg "is_integer" = some (.ref (ga K "is_integer")))    : Ok_is_integer P w K mg base := by
  obtain ⟨fd, F⟩ := F
  refine ⟨fd, F, ok_defG F sc_is_integer (fun cdv A outer s H E hgd hr => ?_), g⟩
  exact (rs_one (rs_ret (re_and (re_isi rfl rfl M.n_isinstance rfl M.n_int (by decide +kernel) (by decide) (re_var (pv 0))) (re_one (re_not (re_isi rfl rfl M.n_isinstance rfl M.n_bool (by decide +kernel) (by decide) (re_var (pv 0))))))))
/-! is_count -/
abbrev Fd_is_count (K : PySem.W.Frag) (fd : FuncData) : Prop := FnP K "is_count" "is_count" (top 13) (ga K "is_count") fd
theorem nd_is_count : (["value"] : List Str).Nodup := by decide +kernel
theorem sc_is_count : FnScope ["value"] ["value"] (defScope (top 13)) := ⟨rfl, rfl, rfl, nd_is_count, rfl, by decide +kernel, by decide +kernel⟩
theorem bd_is_count {fd : FuncData} (F : Fd_is_count K fd) : L2.Binds K fd ["value"] [] := F.bindsN fun _ _ _ _ _ _ us hl => match us, hl with | [_], _ => rfl
def Ok_is_count (P : Program) (w : World) (K : PySem.W.Frag) (mg : Str → Option Value) (base : Heap) : Prop := ∃ fd, Fd_is_count K fd ∧ FnG P w K mg base 2 (ga K "is_count") fd ["value"] (spM ⟨K, mg, TT K, none, none⟩ 1 m_is_count) ∧ mg "is_count" = some (.ref (ga K "is_count"))
theorem ok_is_count (M : Md K mg) (F : ∃ fd, Fd_is_count K fd) (g : mg "is_count" = some (.ref (ga K "is_count"))) (c_is_integer : Ok_is_integer P w K mg base)   : Ok_is_count P w K mg base := by
  obtain ⟨fd, F⟩ := F
  obtain ⟨fd_is_integer, F_is_integer, G_is_integer, g_is_integer⟩ := c_is_integer
  refine ⟨fd, F, ok_defG F sc_is_count (fun cdv A outer s H E hgd hr => ?_), g⟩
  exact (rs_one (rs_ret (re_and (re_callG (takes_of rfl rfl rfl rfl) G_is_integer fnOf_ar hgd (hr.mono (by decide)) rfl g_is_integer F_is_integer.kp (bd_is_integer F_is_integer) (ra_cons (re_var (pv 0)) ra_nil)) (re_one (re_cmp op_ge d_cmp (re_var (pv 0)) re_int (nomark _))))))
/-! is_name -/
abbrev Fd_is_name (K : PySem.W.Frag) (fd : FuncData) : Prop := FnP K "is_name" "is_name" (top 14) (ga K "is_name") fd
theorem nd_is_name : (["value", "sign"] : List Str).Nodup := by decide +kernel
theorem sc_is_name : FnScope ["value", "sign"] ["value"] (defScope (top 14)) := ⟨rfl, rfl, rfl, nd_is_name, rfl, by decide +kernel, by decide +kernel⟩
theorem bd_is_name {fd : FuncData} (F : Fd_is_name K fd) : L2.Binds K fd ["value"] [] := F.bindsN fun _ _ _ _ _ _ us hl => match us, hl with | [_], _ => rfl
def Ok_is_name (P : Program) (w : World) (K : PySem.W.Frag) (mg : Str → Option Value) (base : Heap) : Prop := ∃ fd, Fd_is_name K fd ∧ FnG P w K mg base 1 (ga K "is_name") fd ["value"] (spM ⟨K, mg, TT K, none, none⟩ 1 m_is_name) ∧ mg "is_name" = some (.ref (ga K "is_name"))
theorem ok_is_name (M : Md K mg) (F : ∃ fd, Fd_is_name K fd) (g : mg "is_name" = some (.ref (ga K "is_name")))    : Ok_is_name P w K mg base := by
  obtain ⟨fd, F⟩ := F
  refine ⟨fd, F, ok_defG F sc_is_name (fun cdv A outer s H E hgd hr => ?_), g⟩
  exact (rs_cons (rs_if (PW.pt (rw_or (rt_not (rt_of (re_isi rfl rfl M.n_isinstance rfl M.n_str (by decide +kernel) (by decide) (re_var (pv 0))))) (rw_or1 (rt_not (rt_chain op_le op_le d_cmp d_cmp re_int (re_B call_len d_len rfl M.n_len bb_len (ra_cons (re_var (pv 0)) ra_nil)) (re_globI rfl M.i_LONGEST_NAME)))))) (rs_one (rs_ret re_bl)) rs_nil) (rs_one (rs_ret (re_B (cr_all rfl) d_allB rfl M.n_all bb_all (ra_cons (re_lcE (own := [("sign", 1)]) rfl rfl nd_is_name (re_var (pv 0)) (blkOk_by (by kernel_rfl)) (fun _ _ _ _ _ => (rg_name nd_is_name rfl (by first | exact .inl rfl | exact .inr rfl))) (fun _ _ _ _ _ => ts_nil) (fun _ _ _ _ _ => (re_cmp (o_in rfl (u65_of hr)) d_in (re_var (pv 1)) (re_globS rfl M.s_LETTERS) (by with_unfolding_all rfl))) (by decide)) ra_nil)))))
/-! is_step -/
abbrev Fd_is_step (K : PySem.W.Frag) (fd : FuncData) : Prop := FnP K "is_step" "is_step" (top 15) (ga K "is_step") fd
theorem nd_is_step : (["value"] : List Str).Nodup := by decide +kernel
theorem sc_is_step : FnScope ["value"] ["value"] (defScope (top 15)) := ⟨rfl, rfl, rfl, nd_is_step, rfl, by decide +kernel, by decide +kernel⟩
theorem bd_is_step {fd : FuncData} (F : Fd_is_step K fd) : L2.Binds K fd ["value"] [] := F.bindsN fun _ _ _ _ _ _ us hl => match us, hl with | [_], _ => rfl
def Ok_is_step (P : Program) (w : World) (K : PySem.W.Frag) (mg : Str → Option Value) (base : Heap) : Prop := ∃ fd, Fd_is_step K fd ∧ FnG P w K mg base 2 (ga K "is_step") fd ["value"] (spM ⟨K, mg, TT K, none, none⟩ 1 m_is_step) ∧ mg "is_step" = some (.ref (ga K "is_step"))
theorem ok_is_step (M : Md K mg) (F : ∃ fd, Fd_is_step K fd) (g : mg "is_step" = some (.ref (ga K "is_step"))) (c_is_name : Ok_is_name P w K mg base) (c_is_integer : Ok_is_integer P w K mg base)   : Ok_is_step P w K mg base := by
  obtain ⟨fd, F⟩ := F
  obtain ⟨fd_is_name, F_is_name, G_is_name, g_is_name⟩ := c_is_name
  obtain ⟨fd_is_integer, F_is_integer, G_is_integer, g_is_integer⟩ := c_is_integer
  refine ⟨fd, F, ok_defG F sc_is_step (fun cdv A outer s H E hgd hr => ?_), g⟩
  exact (rs_cons (rs_if (PW.pt (rw_or (rt_not (rt_of (re_isi rfl rfl M.n_isinstance rfl M.n_tuple (by decide +kernel) (by decide) (re_var (pv 0))))) (rw_or1 (rt_cmp (o_ne rfl (u64_of hr)) d_eqv (re_B call_len d_len rfl M.n_len bb_len (ra_cons (re_var (pv 0)) ra_nil)) re_int (nomark _))))) (rs_one (rs_ret re_bl)) rs_nil) (rs_one (rs_ret (re_and (re_callG (takes_of rfl rfl rfl rfl) G_is_name fnOf_ar hgd (hr.mono (by decide)) rfl g_is_name F_is_name.kp (bd_is_name F_is_name) (ra_cons (re_ix rfl (re_var (pv 0)) re_int (fun _ _ => rfl)) ra_nil)) (re_and (re_callG (takes_of rfl rfl rfl rfl) G_is_integer fnOf_ar hgd (hr.mono (by decide)) rfl g_is_integer F_is_integer.kp (bd_is_integer F_is_integer) (ra_cons (re_ix rfl (re_var (pv 0)) re_int (fun _ _ => rfl)) ra_nil)) (re_one (re_cmp (o_in rfl (u65_of hr)) d_in (re_ix rfl (re_var (pv 0)) re_int (fun _ _ => rfl)) (re_tup (ra_cons (re_globI rfl M.i_ALONG) (ra_cons (re_globI rfl M.i_AGAINST) ra_nil))) (by with_unfolding_all rfl))))))))
/-! _law_kinds_right -/
abbrev Fd_Lkinds_right (K : PySem.W.Frag) (fd : FuncData) : Prop := FnP K "_law_kinds_right" "_law_kinds_right" (top 41) (ga K "_law_kinds_right") fd
theorem nd_Lkinds_right : (["_law_labels_here", "_law_told", "_law_due", "_law_label"] : List Str).Nodup := by decide +kernel
theorem sc_Lkinds_right : FnScope ["_law_labels_here", "_law_told", "_law_due", "_law_label"] ["_law_labels_here"] (defScope (top 41)) := ⟨rfl, rfl, rfl, nd_Lkinds_right, rfl, by decide +kernel, by decide +kernel⟩
theorem bd_Lkinds_right {fd : FuncData} (F : Fd_Lkinds_right K fd) : L2.Binds K fd ["_law_labels_here"] [] := F.bindsN fun _ _ _ _ _ _ us hl => match us, hl with | [_], _ => rfl
def Ok_Lkinds_right (P : Program) (w : World) (K : PySem.W.Frag) (mg : Str → Option Value) (base : Heap) : Prop := ∃ fd, Fd_Lkinds_right K fd ∧ FnG P w K mg base 3 (ga K "_law_kinds_right") fd ["_law_labels_here"] (spM ⟨K, mg, TT K, none, none⟩ 1 m_Lkinds_right) ∧ mg "_law_kinds_right" = some (.ref (ga K "_law_kinds_right"))
theorem ok_Lkinds_right (M : Md K mg) (F : ∃ fd, Fd_Lkinds_right K fd) (g : mg "_law_kinds_right" = some (.ref (ga K "_law_kinds_right"))) (c_is_integer : Ok_is_integer P w K mg base) (c_is_count : Ok_is_count P w K mg base) (c_is_name : Ok_is_name P w K mg base) (c_is_step : Ok_is_step P w K mg base)   : Ok_Lkinds_right P w K mg base := by
  obtain ⟨fd, F⟩ := F
  obtain ⟨fd_is_integer, F_is_integer, G_is_integer, g_is_integer⟩ := c_is_integer
  obtain ⟨fd_is_count, F_is_count, G_is_count, g_is_count⟩ := c_is_count
  obtain ⟨fd_is_name, F_is_name, G_is_name, g_is_name⟩ := c_is_name
  obtain ⟨fd_is_step, F_is_step, G_is_step, g_is_step⟩ := c_is_step
  refine ⟨fd, F, ok_defG F sc_Lkinds_right (fun cdv A outer s H E hgd hr => ?_), g⟩
  exact (rs_cons (rs_set nd_Lkinds_right rfl (by first | exact .inl rfl | exact .inr rfl) (re_lstS (ra_cons (re_callG (takes_of rfl rfl rfl rfl) G_is_integer fnOf_ar hgd (hr.mono (by decide)) rfl g_is_integer F_is_integer.kp (bd_is_integer F_is_integer) (ra_cons re_int ra_nil)) (ra_cons (re_callG (takes_of rfl rfl rfl rfl) G_is_integer fnOf_ar hgd (hr.mono (by decide)) rfl g_is_integer F_is_integer.kp (bd_is_integer F_is_integer) (ra_cons (re_un un_neg d_neg (re_op op_pow d_pow re_int re_int)) ra_nil)) (ra_cons (re_callG (takes_of rfl rfl rfl rfl) G_is_integer fnOf_ar hgd (hr.mono (by decide)) rfl g_is_integer F_is_integer.kp (bd_is_integer F_is_integer) (ra_cons re_bl ra_nil)) (ra_cons (re_callG (takes_of rfl rfl rfl rfl) G_is_integer fnOf_ar hgd (hr.mono (by decide)) rfl g_is_integer F_is_integer.kp (bd_is_integer F_is_integer) (ra_cons re_str ra_nil)) (ra_cons (re_callG (takes_of rfl rfl rfl rfl) G_is_integer fnOf_ar hgd (hr.mono (by decide)) rfl g_is_integer F_is_integer.kp (bd_is_integer F_is_integer) (ra_cons re_non ra_nil)) (ra_cons (re_callG (takes_of rfl rfl rfl rfl) G_is_count fnOf_ar hgd (hr.mono (by decide)) rfl g_is_count F_is_count.kp (bd_is_count F_is_count) (ra_cons re_int ra_nil)) ra_nil)))))))) (rs_cons (rs_set nd_Lkinds_right rfl (by first | exact .inl rfl | exact .inr rfl) (re_op (o_add rfl) d_add (re_var (pv 1)) (re_lst (ra_cons (re_callG (takes_of rfl rfl rfl rfl) G_is_count fnOf_ar hgd (hr.mono (by decide)) rfl g_is_count F_is_count.kp (bd_is_count F_is_count) (ra_cons (re_un un_neg d_neg re_int) ra_nil)) (ra_cons (re_callG (takes_of rfl rfl rfl rfl) G_is_count fnOf_ar hgd (hr.mono (by decide)) rfl g_is_count F_is_count.kp (bd_is_count F_is_count) (ra_cons re_bl ra_nil)) (ra_cons (re_callG (takes_of rfl rfl rfl rfl) G_is_count fnOf_ar hgd (hr.mono (by decide)) rfl g_is_count F_is_count.kp (bd_is_count F_is_count) (ra_cons (re_lst ra_nil) ra_nil)) (ra_cons (re_callG (takes_of rfl rfl rfl rfl) G_is_name fnOf_ar hgd (hr.mono (by decide)) rfl g_is_name F_is_name.kp (bd_is_name F_is_name) (ra_cons re_str ra_nil)) (ra_cons (re_callG (takes_of rfl rfl rfl rfl) G_is_name fnOf_ar hgd (hr.mono (by decide)) rfl g_is_name F_is_name.kp (bd_is_name F_is_name) (ra_cons re_str ra_nil)) (ra_cons (re_callG (takes_of rfl rfl rfl rfl) G_is_name fnOf_ar hgd (hr.mono (by decide)) rfl g_is_name F_is_name.kp (bd_is_name F_is_name) (ra_cons re_str ra_nil)) ra_nil))))))))) (rs_cons (rs_set nd_Lkinds_right rfl (by first | exact .inl rfl | exact .inr rfl) (re_op (o_add rfl) d_addS (re_var (pv 1)) (re_lst (ra_cons (re_callG (takes_of rfl rfl rfl rfl) G_is_name fnOf_ar hgd (hr.mono (by decide)) rfl g_is_name F_is_name.kp (bd_is_name F_is_name) (ra_cons re_str ra_nil)) (ra_cons (re_callG (takes_of rfl rfl rfl rfl) G_is_name fnOf_ar hgd (hr.mono (by decide)) rfl g_is_name F_is_name.kp (bd_is_name F_is_name) (ra_cons re_str ra_nil)) (ra_cons (re_callG (takes_of rfl rfl rfl rfl) G_is_name fnOf_ar hgd (hr.mono (by decide)) rfl g_is_name F_is_name.kp (bd_is_name F_is_name) (ra_cons re_str ra_nil)) (ra_cons (re_callG (takes_of rfl rfl rfl rfl) G_is_name fnOf_ar hgd (hr.mono (by decide)) rfl g_is_name F_is_name.kp (bd_is_name F_is_name) (ra_cons (re_lst (ra_cons re_str ra_nil)) ra_nil)) (ra_cons (re_callKw (js := [0]) (takes_of rfl rfl rfl rfl) G_is_name fnOf_ar hgd (hr.mono (by decide)) rfl g_is_name F_is_name.kp (kwN (ks := ["value"]) F_is_name fun _ _ _ _ _ _ ws hl => match ws, hl with | [_], _ => rfl) rfl (by decide) (rk_cons re_non rk_nil)) ra_nil)))))))) (rs_cons (rs_expr (re_bm rfl (.inl rfl) d_append (pe_bm PySem.F.plainAttrs_list PySem.F.slot_list_append PySem.F.type_list_append mt_append (re_var (pv 1)) (ra_cons (re_callKw (js := [0]) (takes_of rfl rfl rfl rfl) G_is_count fnOf_ar hgd (hr.mono (by decide)) rfl g_is_count F_is_count.kp (kwN (ks := ["value"]) F_is_count fun _ _ _ _ _ _ ws hl => match ws, hl with | [_], _ => rfl) rfl (by decide) (rk_cons (re_op op_pow d_pow re_int re_int) rk_nil)) ra_nil)))) (rs_cons (rs_if (PW.pt (rw_or (rt_cmp o_isnot d_isnot (re_callKw (js := [0]) (takes_of rfl rfl rfl rfl) G_is_integer fnOf_ar hgd (hr.mono (by decide)) rfl g_is_integer F_is_integer.kp (kwN (ks := ["value"]) F_is_integer fun _ _ _ _ _ _ ws hl => match ws, hl with | [_], _ => rfl) rfl (by decide) (rk_cons re_bl rk_nil)) re_bl (nomark _)) (rw_or1 (rt_cmp o_isnot d_isnot (re_callKw (js := [0]) (takes_of rfl rfl rfl rfl) G_is_step fnOf_ar hgd (hr.mono (by decide)) rfl g_is_step F_is_step.kp (kwN (ks := ["value"]) F_is_step fun _ _ _ _ _ _ ws hl => match ws, hl with | [_], _ => rfl) rfl (by decide) (rk_cons (re_tup (ra_cons re_str (ra_cons (re_un un_neg d_neg re_int) ra_nil))) rk_nil)) re_bl (nomark _))))) (rs_one (rs_ret re_bl)) rs_nil) (rs_cons (rs_set nd_Lkinds_right rfl (by first | exact .inl rfl | exact .inr rfl) (re_lst (ra_cons re_bl (ra_cons re_bl (ra_cons re_bl (ra_cons re_bl (ra_cons re_bl (ra_cons re_bl (ra_cons re_bl (ra_cons re_bl (ra_cons re_bl (ra_cons re_bl (ra_cons re_bl (ra_cons re_bl (ra_cons re_bl (ra_cons re_bl (ra_cons re_bl (ra_cons re_bl ra_nil)))))))))))))))))) (rs_one (rs_ret (re_and (re_cmp (o_eq rfl (u64_of hr)) d_eqv (re_var (pv 1)) (re_op (o_add rfl) d_add (re_var (pv 2)) (re_lst (ra_cons re_bl (ra_cons re_bl ra_nil)))) (nomark _)) (re_one (re_B (cr_all rfl) d_allB rfl M.n_all bb_all (ra_cons (re_lcE (own := [("_law_label", 3)]) rfl rfl nd_Lkinds_right (re_var (pv 0)) (blkOk_by (by kernel_rfl)) (fun _ _ _ _ _ => (rg_name nd_Lkinds_right rfl (by first | exact .inl rfl | exact .inr rfl))) (fun _ _ _ _ _ => ts_nil) (fun _ _ _ _ _ => (re_cmp o_is d_is (re_callG takes0 G_is_name fnOf_ar hgd (hr.mono (by decide)) rfl g_is_name F_is_name.kp (bd_is_name F_is_name) (ra_cons (re_var (pv 3)) ra_nil)) re_bl (nomark _))) (by decide)) ra_nil))))))))))))
/-! _law_key -/
abbrev Fd_Lkey (K : PySem.W.Frag) (fd : FuncData) : Prop := FnP K "_law_key" "_law_key" (top 42) (ga K "_law_key") fd
theorem nd_Lkey : (["_law_spell", "_law_label", "_law_way"] : List Str).Nodup := by decide +kernel
theorem sc_Lkey : FnScope ["_law_spell", "_law_label", "_law_way"] ["_law_spell"] (defScope (top 42)) := ⟨rfl, rfl, rfl, nd_Lkey, rfl, by decide +kernel, by decide +kernel⟩
theorem bd_Lkey {fd : FuncData} (F : Fd_Lkey K fd) : L2.Binds K fd ["_law_spell"] [] := F.bindsN fun _ _ _ _ _ _ us hl => match us, hl with | [_], _ => rfl
def Ok_Lkey (P : Program) (w : World) (K : PySem.W.Frag) (mg : Str → Option Value) (base : Heap) : Prop := ∃ fd, Fd_Lkey K fd ∧ FnG P w K mg base 1 (ga K "_law_key") fd ["_law_spell"] (spM ⟨K, mg, TT K, none, none⟩ 1 m_Lkey) ∧ mg "_law_key" = some (.ref (ga K "_law_key"))
theorem ok_Lkey (M : Md K mg) (F : ∃ fd, Fd_Lkey K fd) (g : mg "_law_key" = some (.ref (ga K "_law_key")))    : Ok_Lkey P w K mg base := by
  obtain ⟨fd, F⟩ := F
  refine ⟨fd, F, ok_defG F sc_Lkey (fun cdv A outer s H E hgd hr => ?_), g⟩
  exact (rs_one (rs_ret (re_tup (ra_cons (re_B call_len d_len rfl M.n_len bb_len (ra_cons (re_var (pv 0)) ra_nil)) (ra_cons (re_lcE (own := [("_law_label", 1), ("_law_way", 2)]) rfl rfl nd_Lkey (re_var (pv 0)) (blkOk_by (by kernel_rfl)) (fun _ _ _ _ _ => (rg_tup rfl rfl (rgs_cons (rg_name nd_Lkey rfl (by first | exact .inl rfl | exact .inr rfl)) (rgs_cons (rg_name nd_Lkey rfl (by first | exact .inl rfl | exact .inr rfl)) rgs_nil)) rfl)) (fun _ _ _ _ _ => ts_nil) (fun _ _ _ _ _ => (re_tup (ra_cons (re_var (pv 1)) (ra_cons (re_Ty call_int1 d_int rfl M.n_int bb_int (ra_cons (re_cmp op_lt d_cmp (re_var (pv 2)) re_int (nomark _)) ra_nil)) ra_nil)))) (by decide)) ra_nil)))))
/-! is_word -/
abbrev Fd_is_word (K : PySem.W.Frag) (fd : FuncData) : Prop := FnP K "is_word" "is_word" (top 16) (ga K "is_word") fd
theorem nd_is_word : (["value", "step"] : List Str).Nodup := by decide +kernel
theorem sc_is_word : FnScope ["value", "step"] ["value"] (defScope (top 16)) := ⟨rfl, rfl, rfl, nd_is_word, rfl, by decide +kernel, by decide +kernel⟩
theorem bd_is_word {fd : FuncData} (F : Fd_is_word K fd) : L2.Binds K fd ["value"] [] := F.bindsN fun _ _ _ _ _ _ us hl => match us, hl with | [_], _ => rfl
def Ok_is_word (P : Program) (w : World) (K : PySem.W.Frag) (mg : Str → Option Value) (base : Heap) : Prop := ∃ fd, Fd_is_word K fd ∧ FnG P w K mg base 3 (ga K "is_word") fd ["value"] (spM ⟨K, mg, TT K, none, none⟩ 1 m_is_word) ∧ mg "is_word" = some (.ref (ga K "is_word"))
theorem ok_is_word (M : Md K mg) (F : ∃ fd, Fd_is_word K fd) (g : mg "is_word" = some (.ref (ga K "is_word"))) (c_is_step : Ok_is_step P w K mg base)   : Ok_is_word P w K mg base := by
  obtain ⟨fd, F⟩ := F
  obtain ⟨fd_is_step, F_is_step, G_is_step, g_is_step⟩ := c_is_step
  refine ⟨fd, F, ok_defG F sc_is_word (fun cdv A outer s H E hgd hr => ?_), g⟩
  exact (rs_one (rs_ret (re_and (re_isi rfl rfl M.n_isinstance rfl M.n_tuple (by decide +kernel) (by decide) (re_var (pv 0))) (re_one (re_B (cr_all rfl) d_allB rfl M.n_all bb_all (ra_cons (re_lcE (own := [("step", 1)]) rfl rfl nd_is_word (re_var (pv 0)) (blkOk_by (by kernel_rfl)) (fun _ _ _ _ _ => (rg_name nd_is_word rfl (by first | exact .inl rfl | exact .inr rfl))) (fun _ _ _ _ _ => ts_nil) (fun _ _ _ _ _ => (re_callG takes0 G_is_step fnOf_ar hgd (hr.mono (by decide)) rfl g_is_step F_is_step.kp (bd_is_step F_is_step) (ra_cons (re_var (pv 1)) ra_nil))) (by decide)) ra_nil))))))
/-! want_word -/
abbrev Fd_want_word (K : PySem.W.Frag) (fd : FuncData) : Prop := FnP K "want_word" "want_word" (top 17) (ga K "want_word") fd
theorem nd_want_word : (["value"] : List Str).Nodup := by decide +kernel
theorem sc_want_word : FnScope ["value"] ["value"] (defScope (top 17)) := ⟨rfl, rfl, rfl, nd_want_word, rfl, by decide +kernel, by decide +kernel⟩
theorem bd_want_word {fd : FuncData} (F : Fd_want_word K fd) : L2.Binds K fd ["value"] [] := F.bindsN fun _ _ _ _ _ _ us hl => match us, hl with | [_], _ => rfl
def Ok_want_word (P : Program) (w : World) (K : PySem.W.Frag) (mg : Str → Option Value) (base : Heap) : Prop := ∃ fd, Fd_want_word K fd ∧ FnG P w K mg base 4 (ga K "want_word") fd ["value"] (spM ⟨K, mg, TT K, none, none⟩ 1 m_want_word) ∧ mg "want_word" = some (.ref (ga K "want_word"))
theorem ok_want_word (M : Md K mg) (F : ∃ fd, Fd_want_word K fd) (g : mg "want_word" = some (.ref (ga K "want_word"))) (c_is_word : Ok_is_word P w K mg base) (x_InvalidWord : Oe_InvalidWord P w K mg base)  : Ok_want_word P w K mg base := by
  obtain ⟨fd, F⟩ := F
  obtain ⟨fd_is_word, F_is_word, G_is_word, g_is_word⟩ := c_is_word
  obtain ⟨fdx_InvalidWord, FX_InvalidWord, X_InvalidWord⟩ := x_InvalidWord
  refine ⟨fd, F, ok_defG F sc_want_word (fun cdv A outer s H E hgd hr => ?_), g⟩
  exact (rs_one (rs_if (rt_not (rt_of (re_callG (takes_of rfl rfl rfl rfl) G_is_word fnOf_ar hgd (hr.mono (by decide)) rfl g_is_word F_is_word.kp (bd_is_word F_is_word) (ra_cons (re_var (pv 0)) ra_nil)))) (rs_one (rs_raiseG rfl rfl rfl (takes_of rfl rfl rfl rfl) M.oex_InvalidWord (hno_InvalidWord M) M.init_InvalidWord.1 M.init_InvalidWord.2 X_InvalidWord (hr.mono (by decide)) (bdx_InvalidWord FX_InvalidWord) (by decide) rfl M.g_InvalidWord (ra_cons (re_var (pv 0)) ra_nil))) rs_nil))
/-! step_key -/
abbrev Fd_step_key (K : PySem.W.Frag) (fd : FuncData) : Prop := FnP K "step_key" "step_key" (top 20) (ga K "step_key") fd
theorem nd_step_key : (["step", "label", "way"] : List Str).Nodup := by decide +kernel
theorem sc_step_key : FnScope ["step", "label", "way"] ["step"] (defScope (top 20)) := ⟨rfl, rfl, rfl, nd_step_key, rfl, by decide +kernel, by decide +kernel⟩
theorem bd_step_key {fd : FuncData} (F : Fd_step_key K fd) : L2.Binds K fd ["step"] [] := F.bindsN fun _ _ _ _ _ _ us hl => match us, hl with | [_], _ => rfl
def Ok_step_key (P : Program) (w : World) (K : PySem.W.Frag) (mg : Str → Option Value) (base : Heap) : Prop := ∃ fd, Fd_step_key K fd ∧ FnG P w K mg base 1 (ga K "step_key") fd ["step"] (spM ⟨K, mg, TT K, none, none⟩ 1 m_step_key) ∧ mg "step_key" = some (.ref (ga K "step_key"))
theorem ok_step_key (M : Md K mg) (F : ∃ fd, Fd_step_key K fd) (g : mg "step_key" = some (.ref (ga K "step_key")))    : Ok_step_key P w K mg base := by
  obtain ⟨fd, F⟩ := F
  refine ⟨fd, F, ok_defG F sc_step_key (fun cdv A outer s H E hgd hr => ?_), g⟩
  exact (rs_cons (rs_asg (re_var (pv 0)) (rg_tup rfl rfl (rgs_cons (rg_name nd_step_key rfl (by first | exact .inl rfl | exact .inr rfl)) (rgs_cons (rg_name nd_step_key rfl (by first | exact .inl rfl | exact .inr rfl)) rgs_nil)) rfl)) (rs_one (rs_ret (re_tup (ra_cons (re_var (pv 1)) (ra_cons (re_if (rt_cmp (o_eq rfl (u64_of hr)) d_eqv (re_var (pv 2)) (re_globI rfl M.i_ALONG) (nomark _)) re_int re_int) ra_nil))))))
/-! word_key -/
abbrev Fd_word_key (K : PySem.W.Frag) (fd : FuncData) : Prop := FnP K "word_key" "word_key" (top 21) (ga K "word_key") fd
theorem nd_word_key : (["word", "step"] : List Str).Nodup := by decide +kernel
theorem sc_word_key : FnScope ["word", "step"] ["word"] (defScope (top 21)) := ⟨rfl, rfl, rfl, nd_word_key, rfl, by decide +kernel, by decide +kernel⟩
theorem bd_word_key {fd : FuncData} (F : Fd_word_key K fd) : L2.Binds K fd ["word"] [] := F.bindsN fun _ _ _ _ _ _ us hl => match us, hl with | [_], _ => rfl
def Ok_word_key (P : Program) (w : World) (K : PySem.W.Frag) (mg : Str → Option Value) (base : Heap) : Prop := ∃ fd, Fd_word_key K fd ∧ FnG P w K mg base 2 (ga K "word_key") fd ["word"] (spM ⟨K, mg, TT K, none, none⟩ 1 m_word_key) ∧ mg "word_key" = some (.ref (ga K "word_key"))
theorem ok_word_key (M : Md K mg) (F : ∃ fd, Fd_word_key K fd) (g : mg "word_key" = some (.ref (ga K "word_key"))) (c_step_key : Ok_step_key P w K mg base)   : Ok_word_key P w K mg base := by
  obtain ⟨fd, F⟩ := F
  obtain ⟨fd_step_key, F_step_key, G_step_key, g_step_key⟩ := c_step_key
  refine ⟨fd, F, ok_defG F sc_word_key (fun cdv A outer s H E hgd hr => ?_), g⟩
  exact (rs_one (rs_ret (re_tup (ra_cons (re_B call_len d_len rfl M.n_len bb_len (ra_cons (re_var (pv 0)) ra_nil)) (ra_cons (re_Ty call_tuple_of d_tuple rfl M.n_tuple bb_tuple (ra_cons (re_lcE (own := [("step", 1)]) rfl rfl nd_word_key (re_var (pv 0)) (blkOk_by (by kernel_rfl)) (fun _ _ _ _ _ => (rg_name nd_word_key rfl (by first | exact .inl rfl | exact .inr rfl))) (fun _ _ _ _ _ => ts_nil) (fun _ _ _ _ _ => (re_callG takes0 G_step_key fnOf_ar hgd (hr.mono (by decide)) rfl g_step_key F_step_key.kp (bd_step_key F_step_key) (ra_cons (re_var (pv 1)) ra_nil))) (by decide)) ra_nil)) ra_nil)))))
/-! in_order -/
abbrev Fd_in_order (K : PySem.W.Frag) (fd : FuncData) : Prop := FnP K "in_order" "in_order" (top 22) (ga K "in_order") fd
theorem nd_in_order : (["words", "word"] : List Str).Nodup := by decide +kernel
theorem sc_in_order : FnScope ["words", "word"] ["words"] (defScope (top 22)) := ⟨rfl, rfl, rfl, nd_in_order, rfl, by decide +kernel, by decide +kernel⟩
theorem bd_in_order {fd : FuncData} (F : Fd_in_order K fd) : L2.Binds K fd ["words"] [] := F.bindsN fun _ _ _ _ _ _ us hl => match us, hl with | [_], _ => rfl
def Ok_in_order (P : Program) (w : World) (K : PySem.W.Frag) (mg : Str → Option Value) (base : Heap) : Prop := ∃ fd, Fd_in_order K fd ∧ FnG P w K mg base 5 (ga K "in_order") fd ["words"] (spM ⟨K, mg, TT K, none, none⟩ 1 m_in_order) ∧ mg "in_order" = some (.ref (ga K "in_order"))
theorem ok_in_order (M : Md K mg) (F : ∃ fd, Fd_in_order K fd) (g : mg "in_order" = some (.ref (ga K "in_order"))) (c_want_word : Ok_want_word P w K mg base) (c_word_key : Ok_word_key P w K mg base)   : Ok_in_order P w K mg base := by
  obtain ⟨fd, F⟩ := F
  obtain ⟨fd_want_word, F_want_word, G_want_word, g_want_word⟩ := c_want_word
  obtain ⟨fd_word_key, F_word_key, G_word_key, g_word_key⟩ := c_word_key
  refine ⟨fd, F, ok_defG F sc_in_order (fun cdv A outer s H E hgd hr => ?_), g⟩
  exact (rs_cons (rs_forL rfl (passes_of rfl) rfl (re_var (pv 0)) (rg_name nd_in_order rfl (by first | exact .inl rfl | exact .inr rfl)) (rs_one (rs_expr (re_callG (takes_of rfl rfl rfl rfl) G_want_word fnOf_ar hgd (hr.mono (by decide)) rfl g_want_word F_want_word.kp (bd_want_word F_want_word) (ra_cons (re_var (pv 1)) ra_nil))))) (rs_one (rs_ret (re_sortKS rfl G_word_key hgd (hr.mono (by decide)) (bd_word_key F_word_key) (u64_of hr) rfl M.n_sorted rfl g_word_key (re_var (pv 0))))))
/-! _law_odd_step -/
abbrev Fd_Lodd_step (K : PySem.W.Frag) (fd : FuncData) : Prop := FnP K "_law_odd_step" "_law_odd_step" (top 38) (ga K "_law_odd_step") fd
theorem nd_Lodd_step : (["_law_pot_here", "_law_label", "_law_odd"] : List Str).Nodup := by decide +kernel
theorem sc_Lodd_step : FnScope ["_law_pot_here", "_law_label", "_law_odd"] ["_law_pot_here", "_law_label"] (defScope (top 38)) := ⟨rfl, rfl, rfl, nd_Lodd_step, rfl, by decide +kernel, by decide +kernel⟩
theorem bd_Lodd_step {fd : FuncData} (F : Fd_Lodd_step K fd) : L2.Binds K fd ["_law_pot_here", "_law_label"] [] := F.bindsN fun _ _ _ _ _ _ us hl => match us, hl with | [_, _], _ => rfl
def Ok_Lodd_step (P : Program) (w : World) (K : PySem.W.Frag) (mg : Str → Option Value) (base : Heap) : Prop := ∃ fd, Fd_Lodd_step K fd ∧ FnG P w K mg base 3 (ga K "_law_odd_step") fd ["_law_pot_here", "_law_label"] (spM ⟨K, mg, TT K, none, none⟩ 2 m_Lodd_step) ∧ mg "_law_odd_step" = some (.ref (ga K "_law_odd_step"))
theorem ok_Lodd_step (M : Md K mg) (F : ∃ fd, Fd_Lodd_step K fd) (g : mg "_law_odd_step" = some (.ref (ga K "_law_odd_step"))) (c_Lpick : Ok_Lpick P w K mg base)   : Ok_Lodd_step P w K mg base := by
  obtain ⟨fd, F⟩ := F
  obtain ⟨fd_Lpick, F_Lpick, G_Lpick, g_Lpick⟩ := c_Lpick
  refine ⟨fd, F, ok_defG F sc_Lodd_step (fun cdv A outer s H E hgd hr => ?_), g⟩
  exact (rs_cons (rs_set nd_Lodd_step rfl (by first | exact .inl rfl | exact .inr rfl) (re_lst (ra_cons (re_tup (ra_cons (re_var (pv 1)) (ra_cons re_int ra_nil))) (ra_cons (re_tup (ra_cons (re_var (pv 1)) (ra_cons re_int ra_nil))) (ra_cons (re_tup (ra_cons (re_var (pv 1)) (ra_cons re_bl ra_nil))) (ra_cons (re_tup (ra_cons (re_var (pv 1)) (ra_cons (re_un un_neg d_neg re_int) ra_nil))) (ra_cons (re_tup (ra_cons (re_var (pv 1)) (ra_cons re_non ra_nil))) (ra_cons (re_tup (ra_cons (re_var (pv 1)) (ra_cons re_str ra_nil))) (ra_cons (re_tup (ra_cons (re_var (pv 1)) ra_nil)) (ra_cons (re_tup (ra_cons (re_var (pv 1)) (ra_cons re_int (ra_cons re_int ra_nil)))) ra_nil)))))))))) (rs_cons (rs_set nd_Lodd_step rfl (by first | exact .inl rfl | exact .inr rfl) (re_op (o_add rfl) d_add (re_var (pv 2)) (re_lst (ra_cons (re_lst (ra_cons (re_var (pv 1)) (ra_cons re_int ra_nil))) (ra_cons (re_var (pv 1)) (ra_cons re_non (ra_cons re_int (ra_cons (re_tup (ra_cons re_str (ra_cons re_int ra_nil))) (ra_cons (re_tup (ra_cons (re_op (o_add rfl) d_add (re_var (pv 1)) re_str) (ra_cons re_int ra_nil))) (ra_cons (re_tup (ra_cons (re_op (o_add rfl) d_add re_str (re_var (pv 1))) (ra_cons re_int ra_nil))) (ra_cons (re_tup (ra_cons (re_sl rfl (re_op op_mulS d_mulS (re_var (pv 1)) re_int) ro_none (ro_some re_int)) (ra_cons (re_un un_neg d_neg re_int) ra_nil))) ra_nil))))))))))) (rs_one (rs_ret (re_callG (takes_of rfl rfl rfl rfl) G_Lpick fnOf_ar hgd (hr.mono (by decide)) rfl g_Lpick F_Lpick.kp (bd_Lpick F_Lpick) (ra_cons (re_var (pv 0)) (ra_cons (re_op (o_add rfl) d_add (re_var (pv 2)) (re_lst (ra_cons (re_tup (ra_cons re_non (ra_cons re_int ra_nil))) (ra_cons (re_tup (ra_cons re_int (ra_cons (re_var (pv 1)) ra_nil))) (ra_cons (re_dispV (pv 1)) (ra_cons (re_tup (ra_cons (re_op (o_add rfl) d_add (re_var (pv 1)) re_str) (ra_cons re_int ra_nil))) (ra_cons (re_tup (ra_cons (re_var (pv 1)) (ra_cons (re_op op_pow d_pow re_int re_int) ra_nil))) ra_nil))))))) ra_nil)))))))
/-! _law_refused -/
abbrev Fd_Lrefused (K : PySem.W.Frag) (fd : FuncData) : Prop := FnP K "_law_refused" "_law_refused" (top 39) (ga K "_law_refused") fd
theorem nd_Lrefused : (["_law_call", "_law_told", "e"] : List Str).Nodup := by decide +kernel
theorem sc_Lrefused : FnScope ["_law_call", "_law_told", "e"] ["_law_call"] (defScope (top 39)) := ⟨rfl, rfl, rfl, nd_Lrefused, rfl, by decide +kernel, by decide +kernel⟩
theorem bd_Lrefused {fd : FuncData} (F : Fd_Lrefused K fd) : L2.Binds K fd ["_law_call"] [] := F.bindsN fun _ _ _ _ _ _ us hl => match us, hl with | [_], _ => rfl
def Ok_Lrefused (P : Program) (w : World) (K : PySem.W.Frag) (mg : Str → Option Value) (base : Heap) : Prop := ∃ fd, Fd_Lrefused K fd ∧ mg "_law_refused" = some (.ref (ga K "_law_refused"))
theorem lb_Lrefused (M : Md K mg)  {A0 A : Around} {outer : List Env} {cdv : Value} {s : Shared} {H : Hp} {f c : Addr} {q : Str} {σ : L2.St} {δ : En} {th : Mi.M Dv} (hgd : A0.guards = some []) (hr : Room 0 (A.deeper (envOfC "_law_refused" (defScope (top 39)) s.heap.objs.size (ga K "_law_refused") cdv)))
    (act : ∀ (W : WX) (pn : List (Addr × Obj)) (xe : Value → Shared → Prop) (p1 p2 : Pos), Takes ((cxOf C8.CX0 P w K mg base ["_law_call", "_law_told", "e"] "_law_refused" (defScope (top 39)) (ga K "_law_refused") cdv A outer s H C8.E0).tr pn xe) W → PE ((cxOf C8.CX0 P w K mg base ["_law_call", "_law_told", "e"] "_law_refused" (defScope (top 39)) (ga K "_law_refused") cdv A outer s H C8.E0).tr pn xe) (.Call (.Name "_law_call" p1) [] [] p2) (tE ((⟨K, mg, TT K, none, none⟩ : Gx).lx f c q σ δ) W (eAct th))) :
    PSs (cxOf C8.CX0 P w K mg base ["_law_call", "_law_told", "e"] "_law_refused" (defScope (top 39)) (ga K "_law_refused") cdv A outer s H C8.E0) (defBody (top 39)) (tS ((⟨K, mg, TT K, none, none⟩ : Gx).lx f c q σ δ) W0 (b_Lrefused th)) := by
  exact (rs_cons (rs_set nd_Lrefused rfl (by first | exact .inl rfl | exact .inr rfl) (re_lst (ra_cons re_str ra_nil))) (rs_cons (rs_try rfl rfl rfl rfl nd_Lrefused rfl rfl ⟨rfl, by decide, .inl M.g_InvalidWord⟩ takes0 (fun y C hy hm => by dsimp only at hm; rcases List.mem_cons.mp hy with e_ | hy; (subst e_; rw [M.g_InvalidWord] at hm; cases hm; exact M.exm_InvalidWord_InvalidWord); exact (nomatch hy)) (fun W pn xe tk po => (rs_one (rs_expr (act _ _ _ _ _ tk)))) (fun a oe cls d pn hz hf => ss_of fun x dd C hm1 hm2 hC hd => (rs_one (rs_set nd_Lrefused rfl (by first | exact .inl rfl | exact .inr rfl) (re_lst (ra_cons re_str (ra_cons (re_xf rfl hC hd (fun e_ => by have hm3 : mg x.cls = some (.ref C) := hm2; rw [e_, M.g_InvalidWord] at hm3; cases hm3; exact ⟨M.xf_InvalidWord, M.noat_InvalidWord_value⟩) hz hf (pv 2)) ra_nil))))))) (rs_one (rs_ret (re_var (pv 1))))))
theorem ok_Lrefused (M : Md K mg) (F : ∃ fd, Fd_Lrefused K fd) (g : mg "_law_refused" = some (.ref (ga K "_law_refused"))) : Ok_Lrefused P w K mg base := by
  obtain ⟨fd, F⟩ := F
  exact ⟨fd, F, g⟩
/-! inverse_step -/
abbrev Fd_inverse_step (K : PySem.W.Frag) (fd : FuncData) : Prop := FnP K "inverse_step" "inverse_step" (top 18) (ga K "inverse_step") fd
theorem nd_inverse_step : (["step", "label", "way"] : List Str).Nodup := by decide +kernel
theorem sc_inverse_step : FnScope ["step", "label", "way"] ["step"] (defScope (top 18)) := ⟨rfl, rfl, rfl, nd_inverse_step, rfl, by decide +kernel, by decide +kernel⟩
theorem bd_inverse_step {fd : FuncData} (F : Fd_inverse_step K fd) : L2.Binds K fd ["step"] [] := F.bindsN fun _ _ _ _ _ _ us hl => match us, hl with | [_], _ => rfl
def Ok_inverse_step (P : Program) (w : World) (K : PySem.W.Frag) (mg : Str → Option Value) (base : Heap) : Prop := ∃ fd, Fd_inverse_step K fd ∧ FnG P w K mg base 1 (ga K "inverse_step") fd ["step"] (spM ⟨K, mg, TT K, none, none⟩ 1 m_inverse_step) ∧ mg "inverse_step" = some (.ref (ga K "inverse_step"))
theorem ok_inverse_step (M : Md K mg) (F : ∃ fd, Fd_inverse_step K fd) (g : mg "inverse_step" = some (.ref (ga K "inverse_step")))    : Ok_inverse_step P w K mg base := by
  obtain ⟨fd, F⟩ := F
  refine ⟨fd, F, ok_defG F sc_inverse_step (fun cdv A outer s H E hgd hr => ?_), g⟩
  exact (rs_cons (rs_asg (re_var (pv 0)) (rg_tup rfl rfl (rgs_cons (rg_name nd_inverse_step rfl (by first | exact .inl rfl | exact .inr rfl)) (rgs_cons (rg_name nd_inverse_step rfl (by first | exact .inl rfl | exact .inr rfl)) rgs_nil)) rfl)) (rs_one (rs_ret (re_tup (ra_cons (re_var (pv 1)) (ra_cons (re_un un_neg d_neg (re_var (pv 2))) ra_nil))))))
/-! inverse_of -/
abbrev Fd_inverse_of (K : PySem.W.Frag) (fd : FuncData) : Prop := FnP K "inverse_of" "inverse_of" (top 19) (ga K "inverse_of") fd
theorem nd_inverse_of : (["word", "step"] : List Str).Nodup := by decide +kernel
theorem sc_inverse_of : FnScope ["word", "step"] ["word"] (defScope (top 19)) := ⟨rfl, rfl, rfl, nd_inverse_of, rfl, by decide +kernel, by decide +kernel⟩
theorem bd_inverse_of {fd : FuncData} (F : Fd_inverse_of K fd) : L2.Binds K fd ["word"] [] := F.bindsN fun _ _ _ _ _ _ us hl => match us, hl with | [_], _ => rfl
def Ok_inverse_of (P : Program) (w : World) (K : PySem.W.Frag) (mg : Str → Option Value) (base : Heap) : Prop := ∃ fd, Fd_inverse_of K fd ∧ FnG P w K mg base 5 (ga K "inverse_of") fd ["word"] (spM ⟨K, mg, TT K, none, none⟩ 1 m_inverse_of) ∧ mg "inverse_of" = some (.ref (ga K "inverse_of"))
theorem ok_inverse_of (M : Md K mg) (F : ∃ fd, Fd_inverse_of K fd) (g : mg "inverse_of" = some (.ref (ga K "inverse_of"))) (c_want_word : Ok_want_word P w K mg base) (c_inverse_step : Ok_inverse_step P w K mg base)   : Ok_inverse_of P w K mg base := by
  obtain ⟨fd, F⟩ := F
  obtain ⟨fd_want_word, F_want_word, G_want_word, g_want_word⟩ := c_want_word
  obtain ⟨fd_inverse_step, F_inverse_step, G_inverse_step, g_inverse_step⟩ := c_inverse_step
  refine ⟨fd, F, ok_defG F sc_inverse_of (fun cdv A outer s H E hgd hr => ?_), g⟩
  exact (rs_cons (rs_expr (re_callG (takes_of rfl rfl rfl rfl) G_want_word fnOf_ar hgd (hr.mono (by decide)) rfl g_want_word F_want_word.kp (bd_want_word F_want_word) (ra_cons (re_var (pv 0)) ra_nil))) (rs_one (rs_ret (re_Ty call_tuple_of d_tuple rfl M.n_tuple bb_tuple (ra_cons (re_lcE (own := [("step", 1)]) rfl rfl nd_inverse_of (re_rev rfl (re_var (pv 0))) (blkOk_by (by kernel_rfl)) (fun _ _ _ _ _ => (rg_name nd_inverse_of rfl (by first | exact .inl rfl | exact .inr rfl))) (fun _ _ _ _ _ => ts_nil) (fun _ _ _ _ _ => (re_callG takes0 G_inverse_step fnOf_ar hgd (hr.mono (by decide)) rfl g_inverse_step F_inverse_step.kp (bd_inverse_step F_inverse_step) (ra_cons (re_var (pv 1)) ra_nil))) (by decide)) ra_nil)))))
/-! step_text -/
abbrev Fd_step_text (K : PySem.W.Frag) (fd : FuncData) : Prop := FnP K "step_text" "step_text" (top 23) (ga K "step_text") fd
theorem nd_step_text : (["step", "label", "way"] : List Str).Nodup := by decide +kernel
theorem sc_step_text : FnScope ["step", "label", "way"] ["step"] (defScope (top 23)) := ⟨rfl, rfl, rfl, nd_step_text, rfl, by decide +kernel, by decide +kernel⟩
theorem bd_step_text {fd : FuncData} (F : Fd_step_text K fd) : L2.Binds K fd ["step"] [] := F.bindsN fun _ _ _ _ _ _ us hl => match us, hl with | [_], _ => rfl
def Ok_step_text (P : Program) (w : World) (K : PySem.W.Frag) (mg : Str → Option Value) (base : Heap) : Prop := ∃ fd, Fd_step_text K fd ∧ FnG P w K mg base 1 (ga K "step_text") fd ["step"] (spM ⟨K, mg, TT K, none, none⟩ 1 m_step_text) ∧ mg "step_text" = some (.ref (ga K "step_text"))
theorem ok_step_text (M : Md K mg) (F : ∃ fd, Fd_step_text K fd) (g : mg "step_text" = some (.ref (ga K "step_text")))    : Ok_step_text P w K mg base := by
  obtain ⟨fd, F⟩ := F
  refine ⟨fd, F, ok_defG F sc_step_text (fun cdv A outer s H E hgd hr => ?_), g⟩
  exact (rs_cons (rs_asg (re_var (pv 0)) (rg_tup rfl rfl (rgs_cons (rg_name nd_step_text rfl (by first | exact .inl rfl | exact .inr rfl)) (rgs_cons (rg_name nd_step_text rfl (by first | exact .inl rfl | exact .inr rfl)) rgs_nil)) rfl)) (rs_one (rs_ret (re_if (rt_cmp (o_eq rfl (u64_of hr)) d_eqv (re_var (pv 2)) (re_globI rfl M.i_ALONG) (nomark _)) (re_var (pv 1)) (re_op (o_add rfl) d_add (re_globS rfl M.s_AGAINST_MARK) (re_var (pv 1)))))))
/-! word_text -/
abbrev Fd_word_text (K : PySem.W.Frag) (fd : FuncData) : Prop := FnP K "word_text" "word_text" (top 24) (ga K "word_text") fd
theorem nd_word_text : (["word", "step"] : List Str).Nodup := by decide +kernel
theorem sc_word_text : FnScope ["word", "step"] ["word"] (defScope (top 24)) := ⟨rfl, rfl, rfl, nd_word_text, rfl, by decide +kernel, by decide +kernel⟩
theorem bd_word_text {fd : FuncData} (F : Fd_word_text K fd) : L2.Binds K fd ["word"] [] := F.bindsN fun _ _ _ _ _ _ us hl => match us, hl with | [_], _ => rfl
def Ok_word_text (P : Program) (w : World) (K : PySem.W.Frag) (mg : Str → Option Value) (base : Heap) : Prop := ∃ fd, Fd_word_text K fd ∧ FnG P w K mg base 5 (ga K "word_text") fd ["word"] (spM ⟨K, mg, TT K, none, none⟩ 1 m_word_text) ∧ mg "word_text" = some (.ref (ga K "word_text"))
theorem ok_word_text (M : Md K mg) (F : ∃ fd, Fd_word_text K fd) (g : mg "word_text" = some (.ref (ga K "word_text"))) (c_want_word : Ok_want_word P w K mg base) (c_step_text : Ok_step_text P w K mg base)   : Ok_word_text P w K mg base := by
  obtain ⟨fd, F⟩ := F
  obtain ⟨fd_want_word, F_want_word, G_want_word, g_want_word⟩ := c_want_word
  obtain ⟨fd_step_text, F_step_text, G_step_text, g_step_text⟩ := c_step_text
  refine ⟨fd, F, ok_defG F sc_word_text (fun cdv A outer s H E hgd hr => ?_), g⟩
  exact (rs_cons (rs_expr (re_callG (takes_of rfl rfl rfl rfl) G_want_word fnOf_ar hgd (hr.mono (by decide)) rfl g_want_word F_want_word.kp (bd_want_word F_want_word) (ra_cons (re_var (pv 0)) ra_nil))) (rs_one (rs_ret (re_if (rt_cmp (o_ne rfl (u64_of hr)) d_eqv (re_var (pv 0)) (re_tup ra_nil) (nomark _)) (re_join rfl re_str (re_lcE (own := [("step", 1)]) rfl rfl nd_word_text (re_var (pv 0)) (blkOk_by (by kernel_rfl)) (fun _ _ _ _ _ => (rg_name nd_word_text rfl (by first | exact .inl rfl | exact .inr rfl))) (fun _ _ _ _ _ => ts_nil) (fun _ _ _ _ _ => (re_callG takes0 G_step_text fnOf_ar hgd (hr.mono (by decide)) rfl g_step_text F_step_text.kp (bd_step_text F_step_text) (ra_cons (re_var (pv 1)) ra_nil))) (by decide))) (re_globS rfl M.s_EMPTY_TEXT)))))
/-! _law_odd_right -/
abbrev Fd_Lodd_right (K : PySem.W.Frag) (fd : FuncData) : Prop := FnP K "_law_odd_right" "_law_odd_right" (top 40) (ga K "_law_odd_right") fd
theorem nd_Lodd_right : (["_law_pot_here", "_law_labels_here", "_law_spell", "_law_odd", "_law_at", "_law_worse", "_law_thing", "_law_told", "_law_step"] : List Str).Nodup := by decide +kernel
theorem sc_Lodd_right : FnScope ["_law_pot_here", "_law_labels_here", "_law_spell", "_law_odd", "_law_at", "_law_worse", "_law_thing", "_law_told", "_law_step"] ["_law_pot_here", "_law_labels_here", "_law_spell"] (defScope (top 40)) := ⟨rfl, rfl, rfl, nd_Lodd_right, rfl, by decide +kernel, by decide +kernel⟩
theorem bd_Lodd_right {fd : FuncData} (F : Fd_Lodd_right K fd) : L2.Binds K fd ["_law_pot_here", "_law_labels_here", "_law_spell"] [] := F.bindsN fun _ _ _ _ _ _ us hl => match us, hl with | [_, _, _], _ => rfl
def Ok_Lodd_right (P : Program) (w : World) (K : PySem.W.Frag) (mg : Str → Option Value) (base : Heap) : Prop := ∃ fd, Fd_Lodd_right K fd ∧ FnG P w K mg base 8 (ga K "_law_odd_right") fd ["_law_pot_here", "_law_labels_here", "_law_spell"] (spM ⟨K, mg, TT K, none, none⟩ 3 m_Lodd_right) ∧ mg "_law_odd_right" = some (.ref (ga K "_law_odd_right"))
theorem ok_Lodd_right (M : Md K mg) (F : ∃ fd, Fd_Lodd_right K fd) (g : mg "_law_odd_right" = some (.ref (ga K "_law_odd_right"))) (c_Lodd_step : Ok_Lodd_step P w K mg base) (c_Lpick : Ok_Lpick P w K mg base) (c_Ldraw : Ok_Ldraw P w K mg base) (c_is_step : Ok_is_step P w K mg base) (c_is_word : Ok_is_word P w K mg base) (c_inverse_of : Ok_inverse_of P w K mg base) (c_word_text : Ok_word_text P w K mg base) (c_in_order : Ok_in_order P w K mg base)  (c_Lrefused : Ok_Lrefused P w K mg base) (tb : LamX.TabB base mg (cT K ("_law_odd_right", none)).1 (cT K ("_law_odd_right", none)).2) : Ok_Lodd_right P w K mg base := by
  obtain ⟨fd, F⟩ := F
  obtain ⟨fd_Lodd_step, F_Lodd_step, G_Lodd_step, g_Lodd_step⟩ := c_Lodd_step
  obtain ⟨fd_Lpick, F_Lpick, G_Lpick, g_Lpick⟩ := c_Lpick
  obtain ⟨fd_Ldraw, F_Ldraw, G_Ldraw, g_Ldraw⟩ := c_Ldraw
  obtain ⟨fd_is_step, F_is_step, G_is_step, g_is_step⟩ := c_is_step
  obtain ⟨fd_is_word, F_is_word, G_is_word, g_is_word⟩ := c_is_word
  obtain ⟨fd_inverse_of, F_inverse_of, G_inverse_of, g_inverse_of⟩ := c_inverse_of
  obtain ⟨fd_word_text, F_word_text, G_word_text, g_word_text⟩ := c_word_text
  obtain ⟨fd_in_order, F_in_order, G_in_order, g_in_order⟩ := c_in_order
  obtain ⟨fd_Lrefused, F_Lrefused, g_Lrefused⟩ := c_Lrefused
  refine ⟨fd, F, ok_defT F sc_Lodd_right (fun cdv A outer s H E hcd hgd hr => ?_), g⟩
  exact (rs_cons (rs_par rfl nd_Lodd_right rfl rfl (by decide) rfl rfl (ra_cons (re_callG (takes_of rfl rfl rfl rfl) G_Lodd_step fnOf_ar hgd (hr.mono (by decide)) rfl g_Lodd_step F_Lodd_step.kp (bd_Lodd_step F_Lodd_step) (ra_cons (re_var (pv 0)) (ra_cons (re_callG (takes_of rfl rfl rfl rfl) G_Lpick fnOf_ar hgd (hr.mono (by decide)) rfl g_Lpick F_Lpick.kp (bd_Lpick F_Lpick) (ra_cons (re_var (pv 0)) (ra_cons (re_var (pv 1)) ra_nil))) ra_nil))) (ra_cons (re_callG (takes_of rfl rfl rfl rfl) G_Ldraw fnOf_ar hgd (hr.mono (by decide)) rfl g_Ldraw F_Ldraw.kp (bd_Ldraw F_Ldraw) (ra_cons (re_var (pv 0)) (ra_cons (re_op (o_add rfl) d_add (re_B call_len d_len rfl M.n_len bb_len (ra_cons (re_var (pv 2)) ra_nil)) re_int) ra_nil))) ra_nil)) rfl) (rs_cons (rs_set nd_Lodd_right rfl (by first | exact .inl rfl | exact .inr rfl) (re_op (o_add rfl) d_add (re_op (o_add rfl) d_add (re_sl rfl (re_var (pv 2)) ro_none (ro_some (re_var (pv 4)))) (re_tup (ra_cons (re_var (pv 3)) ra_nil))) (re_sl rfl (re_var (pv 2)) (ro_some (re_var (pv 4))) ro_none))) (rs_cons (rs_if (PW.pt (rw_or (rt_cmp o_isnot d_isnot (re_callG (takes_of rfl rfl rfl rfl) G_is_step fnOf_ar hgd (hr.mono (by decide)) rfl g_is_step F_is_step.kp (bd_is_step F_is_step) (ra_cons (re_var (pv 3)) ra_nil)) re_bl (nomark _)) (rw_or (rt_cmp o_isnot d_isnot (re_callG (takes_of rfl rfl rfl rfl) G_is_word fnOf_ar hgd (hr.mono (by decide)) rfl g_is_word F_is_word.kp (bd_is_word F_is_word) (ra_cons (re_var (pv 5)) ra_nil)) re_bl (nomark _)) (rw_or1 (rt_cmp o_isnot d_isnot (re_callG (takes_of rfl rfl rfl rfl) G_is_word fnOf_ar hgd (hr.mono (by decide)) rfl g_is_word F_is_word.kp (bd_is_word F_is_word) (ra_cons (re_Ty call_list_of d_list rfl M.n_list bb_list (ra_cons (re_var (pv 2)) ra_nil)) ra_nil)) re_bl (nomark _)))))) (rs_one (rs_ret re_bl)) rs_nil) (rs_cons (rs_forL rfl (passes_of rfl) rfl (re_lst (ra_cons (re_var (pv 5)) (ra_cons (re_Ty call_list_of d_list rfl M.n_list bb_list (ra_cons (re_var (pv 2)) ra_nil)) (ra_cons re_non (ra_cons re_bl (ra_cons re_str (ra_cons (re_lst (ra_cons (re_tup (ra_cons re_str (ra_cons re_int ra_nil))) ra_nil)) (ra_cons re_dct0 ra_nil)))))))) (rg_name nd_Lodd_right rfl (by first | exact .inl rfl | exact .inr rfl)) (rs_cons (rs_set nd_Lodd_right rfl (by first | exact .inl rfl | exact .inr rfl) (re_lstS (ra_cons (re_lam (k := 5) (c := (cT K ("_law_odd_right", none)).1) (P := (cT K ("_law_odd_right", none)).2) ⟨rfl, rfl⟩ F_Lrefused rfl g_Lrefused F_Lrefused.kp (bd_Lrefused F_Lrefused) sc_Lrefused rfl (by first | exact Or.inl rfl | exact Or.inr (Or.inl rfl)) rfl (fun cdv s H f c q σ δ th hr act => lb_Lrefused M  hgd (hr.mono (by decide)) act) tb hcd.eq (tm_Lodd_right K) (to_Lodd_right K) (hr.mono (by decide)) (LamX.lamS_by (by kernel_rfl)) rfl (fun _ _ _ _ _ => rfl) hgd (fun A outer s H E f_ c_ hgd hr => (re_callG (takes_of rfl rfl rfl rfl) G_inverse_of fnOf_ar hgd (hr.mono (by decide)) rfl g_inverse_of F_inverse_of.kp (bd_inverse_of F_inverse_of) (ra_cons (re_var (pv 6)) ra_nil)))) ra_nil))) (rs_cons (rs_expr (re_bm rfl (.inl rfl) d_append (pe_bm PySem.F.plainAttrs_list PySem.F.slot_list_append PySem.F.type_list_append mt_append (re_var (pv 7)) (ra_cons (re_lam (k := 5) (c := (cT K ("_law_odd_right", none)).1) (P := (cT K ("_law_odd_right", none)).2) ⟨rfl, rfl⟩ F_Lrefused rfl g_Lrefused F_Lrefused.kp (bd_Lrefused F_Lrefused) sc_Lrefused rfl (by first | exact Or.inl rfl | exact Or.inr (Or.inl rfl)) rfl (fun cdv s H f c q σ δ th hr act => lb_Lrefused M  hgd (hr.mono (by decide)) act) tb hcd.eq (tm_Lodd_right K) (to_Lodd_right K) (hr.mono (by decide)) (LamX.lamS_by (by kernel_rfl)) rfl (fun _ _ _ _ _ => rfl) hgd (fun A outer s H E f_ c_ hgd hr => (re_callG (takes_of rfl rfl rfl rfl) G_word_text fnOf_ar hgd (hr.mono (by decide)) rfl g_word_text F_word_text.kp (bd_word_text F_word_text) (ra_cons (re_var (pv 6)) ra_nil)))) ra_nil)))) (rs_cons (rs_expr (re_bm rfl (.inl rfl) d_append (pe_bm PySem.F.plainAttrs_list PySem.F.slot_list_append PySem.F.type_list_append mt_append (re_var (pv 7)) (ra_cons (re_lam (k := 5) (c := (cT K ("_law_odd_right", none)).1) (P := (cT K ("_law_odd_right", none)).2) ⟨rfl, rfl⟩ F_Lrefused rfl g_Lrefused F_Lrefused.kp (bd_Lrefused F_Lrefused) sc_Lrefused rfl (by first | exact Or.inl rfl | exact Or.inr (Or.inl rfl)) rfl (fun cdv s H f c q σ δ th hr act => lb_Lrefused M  hgd (hr.mono (by decide)) act) tb hcd.eq (tm_Lodd_right K) (to_Lodd_right K) (hr.mono (by decide)) (LamX.lamS_by (by kernel_rfl)) rfl (fun _ _ _ _ _ => rfl) hgd (fun A outer s H E f_ c_ hgd hr => (re_callG (takes_of rfl rfl rfl rfl) G_in_order fnOf_ar hgd (hr.mono (by decide)) rfl g_in_order F_in_order.kp (bd_in_order F_in_order) (ra_cons (re_lst (ra_cons (re_var (pv 2)) (ra_cons (re_var (pv 6)) (ra_cons re_non ra_nil)))) ra_nil)))) ra_nil)))) (rs_one (rs_if (rt_cmp (o_ne rfl (u64_of hr)) d_eqv (re_repr rfl M.sm hgd (u64_of hr) rfl M.n_repr (ra_cons (re_var (pv 7)) ra_nil)) (re_repr rfl M.sm hgd (u64_of hr) rfl M.n_repr (ra_cons (re_op o_mul d_mul (re_lst (ra_cons (re_lst (ra_cons re_str (ra_cons (re_var (pv 6)) ra_nil))) ra_nil)) re_int) ra_nil)) (nomark _)) (rs_one (rs_ret re_bl)) rs_nil)))))) (rs_one (rs_ret (re_and (re_cmp o_is d_is (re_callG (takes_of rfl rfl rfl rfl) G_is_word fnOf_ar hgd (hr.mono (by decide)) rfl g_is_word F_is_word.kp (bd_is_word F_is_word) (ra_cons (re_var (pv 2)) ra_nil)) re_bl (nomark _)) (re_one (re_B (cr_all rfl) d_allB rfl M.n_all bb_all (ra_cons (re_lcE (own := [("_law_step", 8)]) rfl rfl nd_Lodd_right (re_var (pv 2)) (blkOk_by (by kernel_rfl)) (fun _ _ _ _ _ => (rg_name nd_Lodd_right rfl (by first | exact .inl rfl | exact .inr rfl))) (fun _ _ _ _ _ => ts_nil) (fun _ _ _ _ _ => (re_cmp o_is d_is (re_callG takes0 G_is_step fnOf_ar hgd (hr.mono (by decide)) rfl g_is_step F_is_step.kp (bd_is_step F_is_step) (ra_cons (re_var (pv 8)) ra_nil)) re_bl (nomark _))) (by decide)) ra_nil))))))))))
/-! _law_text -/
abbrev Fd_Ltext (K : PySem.W.Frag) (fd : FuncData) : Prop := FnP K "_law_text" "_law_text" (top 33) (ga K "_law_text") fd
theorem nd_Ltext : (["_law_spell", "_law_label", "_law_way"] : List Str).Nodup := by decide +kernel
theorem sc_Ltext : FnScope ["_law_spell", "_law_label", "_law_way"] ["_law_spell"] (defScope (top 33)) := ⟨rfl, rfl, rfl, nd_Ltext, rfl, by decide +kernel, by decide +kernel⟩
theorem bd_Ltext {fd : FuncData} (F : Fd_Ltext K fd) : L2.Binds K fd ["_law_spell"] [] := F.bindsN fun _ _ _ _ _ _ us hl => match us, hl with | [_], _ => rfl
def Ok_Ltext (P : Program) (w : World) (K : PySem.W.Frag) (mg : Str → Option Value) (base : Heap) : Prop := ∃ fd, Fd_Ltext K fd ∧ FnG P w K mg base 1 (ga K "_law_text") fd ["_law_spell"] (spM ⟨K, mg, TT K, none, none⟩ 1 m_Ltext) ∧ mg "_law_text" = some (.ref (ga K "_law_text"))
theorem ok_Ltext (M : Md K mg) (F : ∃ fd, Fd_Ltext K fd) (g : mg "_law_text" = some (.ref (ga K "_law_text")))    : Ok_Ltext P w K mg base := by
  obtain ⟨fd, F⟩ := F
  refine ⟨fd, F, ok_defG F sc_Ltext (fun cdv A outer s H E hgd hr => ?_), g⟩
  exact (rs_one (rs_ret (re_if (rt_cmp (o_ne rfl (u64_of hr)) d_eqv (re_var (pv 0)) (re_tup ra_nil) (nomark _)) (re_join rfl re_str (re_lcE (own := [("_law_label", 1), ("_law_way", 2)]) rfl rfl nd_Ltext (re_var (pv 0)) (blkOk_by (by kernel_rfl)) (fun _ _ _ _ _ => (rg_tup rfl rfl (rgs_cons (rg_name nd_Ltext rfl (by first | exact .inl rfl | exact .inr rfl)) (rgs_cons (rg_name nd_Ltext rfl (by first | exact .inl rfl | exact .inr rfl)) rgs_nil)) rfl)) (fun _ _ _ _ _ => ts_nil) (fun _ _ _ _ _ => (re_op (o_add rfl) d_add (re_ix rfl (re_lst (ra_cons re_str (ra_cons re_str ra_nil))) (re_Ty call_int1 d_int rfl M.n_int bb_int (ra_cons (re_cmp op_lt d_cmp (re_var (pv 2)) re_int (nomark _)) ra_nil)) (fun _ _ => rfl)) (re_var (pv 1)))) (by decide))) re_str)))
/-! _law_step_in -/
abbrev Fd_Lstep_in (K : PySem.W.Frag) (fd : FuncData) : Prop := FnP K "_law_step_in" "_law_step_in" (top 34) (ga K "_law_step_in") fd
theorem nd_Lstep_in : (["_law_note", "_law_label", "_law_sign"] : List Str).Nodup := by decide +kernel
theorem sc_Lstep_in : FnScope ["_law_note", "_law_label", "_law_sign"] ["_law_note"] (defScope (top 34)) := ⟨rfl, rfl, rfl, nd_Lstep_in, rfl, by decide +kernel, by decide +kernel⟩
theorem bd_Lstep_in {fd : FuncData} (F : Fd_Lstep_in K fd) : L2.Binds K fd ["_law_note"] [] := F.bindsN fun _ _ _ _ _ _ us hl => match us, hl with | [_], _ => rfl
def Ok_Lstep_in (P : Program) (w : World) (K : PySem.W.Frag) (mg : Str → Option Value) (base : Heap) : Prop := ∃ fd, Fd_Lstep_in K fd ∧ FnG P w K mg base 1 (ga K "_law_step_in") fd ["_law_note"] (spM ⟨K, mg, TT K, none, none⟩ 1 m_Lstep_in) ∧ mg "_law_step_in" = some (.ref (ga K "_law_step_in"))
theorem ok_Lstep_in (M : Md K mg) (F : ∃ fd, Fd_Lstep_in K fd) (g : mg "_law_step_in" = some (.ref (ga K "_law_step_in")))    : Ok_Lstep_in P w K mg base := by
  obtain ⟨fd, F⟩ := F
  refine ⟨fd, F, ok_defG F sc_Lstep_in (fun cdv A outer s H E hgd hr => ?_), g⟩
  exact (rs_cons (rs_set nd_Lstep_in rfl (by first | exact .inl rfl | exact .inr rfl) (re_if (rt_cmp (o_eq rfl (u64_of hr)) d_eqv (re_sl rfl (re_var (pv 0)) ro_none (ro_some re_int)) re_str (nomark _)) (re_sl rfl (re_var (pv 0)) (ro_some re_int) ro_none) (re_var (pv 0)))) (rs_cons (rs_if (PW.pt (rw_or (rt_not (rt_chain op_le op_le d_cmp d_cmp re_int (re_B call_len d_len rfl M.n_len bb_len (ra_cons (re_var (pv 1)) ra_nil)) re_int)) (rw_or1 (rt_not (rt_of (re_B (cr_all rfl) d_allB rfl M.n_all bb_all (ra_cons (re_lcE (own := [("_law_sign", 2)]) rfl rfl nd_Lstep_in (re_var (pv 1)) (blkOk_by (by kernel_rfl)) (fun _ _ _ _ _ => (rg_name nd_Lstep_in rfl (by first | exact .inl rfl | exact .inr rfl))) (fun _ _ _ _ _ => ts_nil) (fun _ _ _ _ _ => (re_cmp (o_in rfl (u65_of hr)) d_in (re_var (pv 2)) re_str (by with_unfolding_all rfl))) (by decide)) ra_nil))))))) (rs_one (rs_ret re_non)) rs_nil) (rs_one (rs_ret (re_tup (ra_cons (re_var (pv 1)) (ra_cons (re_if (rt_cmp (o_eq rfl (u64_of hr)) d_eqv (re_var (pv 1)) (re_var (pv 0)) (nomark _)) re_int (re_un un_neg d_neg re_int)) ra_nil)))))))
/-! _law_read -/
abbrev Fd_Lread (K : PySem.W.Frag) (fd : FuncData) : Prop := FnP K "_law_read" "_law_read" (top 35) (ga K "_law_read") fd
theorem nd_Lread : (["_law_note", "_law_found", "_law_part"] : List Str).Nodup := by decide +kernel
theorem sc_Lread : FnScope ["_law_note", "_law_found", "_law_part"] ["_law_note"] (defScope (top 35)) := ⟨rfl, rfl, rfl, nd_Lread, rfl, by decide +kernel, by decide +kernel⟩
theorem bd_Lread {fd : FuncData} (F : Fd_Lread K fd) : L2.Binds K fd ["_law_note"] [] := F.bindsN fun _ _ _ _ _ _ us hl => match us, hl with | [_], _ => rfl
def Ok_Lread (P : Program) (w : World) (K : PySem.W.Frag) (mg : Str → Option Value) (base : Heap) : Prop := ∃ fd, Fd_Lread K fd ∧ FnG P w K mg base 2 (ga K "_law_read") fd ["_law_note"] (spM ⟨K, mg, TT K, none, none⟩ 1 m_Lread) ∧ mg "_law_read" = some (.ref (ga K "_law_read"))
theorem ok_Lread (M : Md K mg) (F : ∃ fd, Fd_Lread K fd) (g : mg "_law_read" = some (.ref (ga K "_law_read"))) (c_Lstep_in : Ok_Lstep_in P w K mg base)   : Ok_Lread P w K mg base := by
  obtain ⟨fd, F⟩ := F
  obtain ⟨fd_Lstep_in, F_Lstep_in, G_Lstep_in, g_Lstep_in⟩ := c_Lstep_in
  refine ⟨fd, F, ok_defG F sc_Lread (fun cdv A outer s H E hgd hr => ?_), g⟩
  exact (rs_cons (rs_if (rt_cmp (o_eq rfl (u64_of hr)) d_eqv (re_var (pv 0)) re_str (nomark _)) (rs_one (rs_ret (re_tup ra_nil))) rs_nil) (rs_cons (rs_setLcE (own := [("_law_part", 2)]) rfl rfl nd_Lread rfl rfl rfl (re_split (re_var (pv 0)) re_str) (blkOk_by (by kernel_rfl)) (fun _ _ _ _ _ => (rg_name nd_Lread rfl (by first | exact .inl rfl | exact .inr rfl))) (fun _ _ _ _ _ => ts_nil) (fun _ _ _ _ _ => (re_callG takes0 G_Lstep_in fnOf_ar hgd (hr.mono (by decide)) rfl g_Lstep_in F_Lstep_in.kp (bd_Lstep_in F_Lstep_in) (ra_cons (re_var (pv 2)) ra_nil))) (by decide)) (rs_one (rs_ret (re_if (rt_cmp (o_in rfl (u65_of hr)) d_in re_non (re_var (pv 1)) (by with_unfolding_all rfl)) re_non (re_Ty call_tuple_of d_tuple rfl M.n_tuple bb_tuple (ra_cons (re_var (pv 1)) ra_nil)))))))
/-! step_in -/
abbrev Fd_step_in (K : PySem.W.Frag) (fd : FuncData) : Prop := FnP K "step_in" "step_in" (top 25) (ga K "step_in") fd
theorem nd_step_in : (["text", "label"] : List Str).Nodup := by decide +kernel
theorem sc_step_in : FnScope ["text", "label"] ["text"] (defScope (top 25)) := ⟨rfl, rfl, rfl, nd_step_in, rfl, by decide +kernel, by decide +kernel⟩
theorem bd_step_in {fd : FuncData} (F : Fd_step_in K fd) : L2.Binds K fd ["text"] [] := F.bindsN fun _ _ _ _ _ _ us hl => match us, hl with | [_], _ => rfl
def Ok_step_in (P : Program) (w : World) (K : PySem.W.Frag) (mg : Str → Option Value) (base : Heap) : Prop := ∃ fd, Fd_step_in K fd ∧ FnG P w K mg base 2 (ga K "step_in") fd ["text"] (spM ⟨K, mg, TT K, none, none⟩ 1 m_step_in) ∧ mg "step_in" = some (.ref (ga K "step_in"))
theorem ok_step_in (M : Md K mg) (F : ∃ fd, Fd_step_in K fd) (g : mg "step_in" = some (.ref (ga K "step_in"))) (c_is_name : Ok_is_name P w K mg base)   : Ok_step_in P w K mg base := by
  obtain ⟨fd, F⟩ := F
  obtain ⟨fd_is_name, F_is_name, G_is_name, g_is_name⟩ := c_is_name
  refine ⟨fd, F, ok_defG F sc_step_in (fun cdv A outer s H E hgd hr => ?_), g⟩
  exact (rs_cons (rs_set nd_step_in rfl (by first | exact .inl rfl | exact .inr rfl) (re_if (rt_cmp (o_eq rfl (u64_of hr)) d_eqv (re_sl rfl (re_var (pv 0)) ro_none (ro_some re_int)) (re_globS rfl M.s_AGAINST_MARK) (nomark _)) (re_sl rfl (re_var (pv 0)) (ro_some re_int) ro_none) (re_var (pv 0)))) (rs_cons (rs_if (rt_not (rt_of (re_callG (takes_of rfl rfl rfl rfl) G_is_name fnOf_ar hgd (hr.mono (by decide)) rfl g_is_name F_is_name.kp (bd_is_name F_is_name) (ra_cons (re_var (pv 1)) ra_nil)))) (rs_one (rs_ret re_non)) rs_nil) (rs_one (rs_ret (re_tup (ra_cons (re_var (pv 1)) (ra_cons (re_if (rt_cmp (o_eq rfl (u64_of hr)) d_eqv (re_var (pv 1)) (re_var (pv 0)) (nomark _)) (re_globI rfl M.i_ALONG) (re_globI rfl M.i_AGAINST)) ra_nil)))))))
/-! read_word -/
abbrev Fd_read_word (K : PySem.W.Frag) (fd : FuncData) : Prop := FnP K "read_word" "read_word" (top 26) (ga K "read_word") fd
theorem nd_read_word : (["text", "steps", "part", "step"] : List Str).Nodup := by decide +kernel
theorem sc_read_word : FnScope ["text", "steps", "part", "step"] ["text"] (defScope (top 26)) := ⟨rfl, rfl, rfl, nd_read_word, rfl, by decide +kernel, by decide +kernel⟩
theorem bd_read_word {fd : FuncData} (F : Fd_read_word K fd) : L2.Binds K fd ["text"] [] := F.bindsN fun _ _ _ _ _ _ us hl => match us, hl with | [_], _ => rfl
def Ok_read_word (P : Program) (w : World) (K : PySem.W.Frag) (mg : Str → Option Value) (base : Heap) : Prop := ∃ fd, Fd_read_word K fd ∧ FnG P w K mg base 4 (ga K "read_word") fd ["text"] (spM ⟨K, mg, TT K, none, none⟩ 1 m_read_word) ∧ mg "read_word" = some (.ref (ga K "read_word"))
theorem ok_read_word (M : Md K mg) (F : ∃ fd, Fd_read_word K fd) (g : mg "read_word" = some (.ref (ga K "read_word"))) (c_step_in : Ok_step_in P w K mg base) (x_InvalidText : Oe_InvalidText P w K mg base)  : Ok_read_word P w K mg base := by
  obtain ⟨fd, F⟩ := F
  obtain ⟨fd_step_in, F_step_in, G_step_in, g_step_in⟩ := c_step_in
  obtain ⟨fdx_InvalidText, FX_InvalidText, X_InvalidText⟩ := x_InvalidText
  refine ⟨fd, F, ok_defG F sc_read_word (fun cdv A outer s H E hgd hr => ?_), g⟩
  exact (rs_cons (rs_if (rt_not (rt_of (re_isi rfl rfl M.n_isinstance rfl M.n_str (by decide +kernel) (by decide) (re_var (pv 0))))) (rs_one (rs_raiseG rfl rfl rfl (takes_of rfl rfl rfl rfl) M.oex_InvalidText (hno_InvalidText M) M.init_InvalidText.1 M.init_InvalidText.2 X_InvalidText (hr.mono (by decide)) (bdx_InvalidText FX_InvalidText) (by decide) rfl M.g_InvalidText (ra_cons re_non ra_nil))) rs_nil) (rs_cons (rs_if (rt_cmp (o_eq rfl (u64_of hr)) d_eqv (re_var (pv 0)) (re_globS rfl M.s_EMPTY_TEXT) (nomark _)) (rs_one (rs_ret (re_tup ra_nil))) rs_nil) (rs_cons (rs_setLcE (own := [("part", 2)]) rfl rfl nd_read_word rfl rfl rfl (re_split (re_var (pv 0)) re_str) (blkOk_by (by kernel_rfl)) (fun _ _ _ _ _ => (rg_name nd_read_word rfl (by first | exact .inl rfl | exact .inr rfl))) (fun _ _ _ _ _ => ts_nil) (fun _ _ _ _ _ => (re_callG takes0 G_step_in fnOf_ar hgd (hr.mono (by decide)) rfl g_step_in F_step_in.kp (bd_step_in F_step_in) (ra_cons (re_var (pv 2)) ra_nil))) (by decide)) (rs_cons (rs_if (rt_of (re_B (cr_any rfl) d_allB rfl M.n_any bb_any (ra_cons (re_lcE (own := [("step", 3)]) rfl rfl nd_read_word (re_var (pv 1)) (blkOk_by (by kernel_rfl)) (fun _ _ _ _ _ => (rg_name nd_read_word rfl (by first | exact .inl rfl | exact .inr rfl))) (fun _ _ _ _ _ => ts_nil) (fun _ _ _ _ _ => (re_cmp o_is d_is (re_var (pv 3)) re_non (nomark _))) (by decide)) ra_nil))) (rs_one (rs_raiseG rfl rfl rfl (takes_of rfl rfl rfl rfl) M.oex_InvalidText (hno_InvalidText M) M.init_InvalidText.1 M.init_InvalidText.2 X_InvalidText (hr.mono (by decide)) (bdx_InvalidText FX_InvalidText) (by decide) rfl M.g_InvalidText (ra_cons re_int ra_nil))) rs_nil) (rs_one (rs_ret (re_Ty call_tuple_of d_tuple rfl M.n_tuple bb_tuple (ra_cons (re_var (pv 1)) ra_nil))))))))
/-! _law_told_text -/
abbrev Fd_Ltold_text (K : PySem.W.Frag) (fd : FuncData) : Prop := FnP K "_law_told_text" "_law_told_text" (top 36) (ga K "_law_told_text") fd
theorem nd_Ltold_text : (["_law_thing", "_law_told", "e"] : List Str).Nodup := by decide +kernel
theorem sc_Ltold_text : FnScope ["_law_thing", "_law_told", "e"] ["_law_thing"] (defScope (top 36)) := ⟨rfl, rfl, rfl, nd_Ltold_text, rfl, by decide +kernel, by decide +kernel⟩
theorem bd_Ltold_text {fd : FuncData} (F : Fd_Ltold_text K fd) : L2.Binds K fd ["_law_thing"] [] := F.bindsN fun _ _ _ _ _ _ us hl => match us, hl with | [_], _ => rfl
def Ok_Ltold_text (P : Program) (w : World) (K : PySem.W.Frag) (mg : Str → Option Value) (base : Heap) : Prop := ∃ fd, Fd_Ltold_text K fd ∧ FnG P w K mg base 5 (ga K "_law_told_text") fd ["_law_thing"] (spM ⟨K, mg, TT K, none, none⟩ 1 m_Ltold_text) ∧ mg "_law_told_text" = some (.ref (ga K "_law_told_text"))
theorem ok_Ltold_text (M : Md K mg) (F : ∃ fd, Fd_Ltold_text K fd) (g : mg "_law_told_text" = some (.ref (ga K "_law_told_text"))) (c_read_word : Ok_read_word P w K mg base)   : Ok_Ltold_text P w K mg base := by
  obtain ⟨fd, F⟩ := F
  obtain ⟨fd_read_word, F_read_word, G_read_word, g_read_word⟩ := c_read_word
  refine ⟨fd, F, ok_defG F sc_Ltold_text (fun cdv A outer s H E hgd hr => ?_), g⟩
  exact (rs_cons (rs_set nd_Ltold_text rfl (by first | exact .inl rfl | exact .inr rfl) (re_lst (ra_cons re_str ra_nil))) (rs_cons (rs_try rfl rfl rfl rfl nd_Ltold_text rfl rfl ⟨rfl, by decide, .inl M.g_InvalidText⟩ (takes_of rfl rfl rfl rfl) (fun y C hy hm => by dsimp only at hm; rcases List.mem_cons.mp hy with e_ | hy; (subst e_; rw [M.g_InvalidText] at hm; cases hm; exact M.exm_InvalidText_InvalidText); exact (nomatch hy)) (fun W pn xe tk po => (rs_one (rs_set nd_Ltold_text rfl (by first | exact .inl rfl | exact .inr rfl) (re_lst (ra_cons re_str (ra_cons (re_callG tk G_read_word fnOf_ar hgd (hr.mono (by decide)) rfl g_read_word F_read_word.kp (bd_read_word F_read_word) (ra_cons (re_var (pv 0)) ra_nil)) ra_nil)))))) (fun a oe cls d pn hz hf => ss_of fun x dd C hm1 hm2 hC hd => (rs_one (rs_set nd_Ltold_text rfl (by first | exact .inl rfl | exact .inr rfl) (re_if (PW.pt (rw_and (rt_of (re_xi (b := true) rfl hC hd (fun e_ => by have hm3 : mg x.cls = some (.ref C) := hm2; rw [e_, M.g_InvalidText] at hm3; cases hm3; exact ⟨M.exc_InvalidText, M.kit_InvalidText_WalkError⟩) (.own _) hz hf (pv 2) (pe_glob rfl M.g_WalkError rfl) rfl M.n_isinstance)) (rw_and1 (rt_not (rt_of (re_xi (b := false) rfl hC hd (fun e_ => by have hm3 : mg x.cls = some (.ref C) := hm2; rw [e_, M.g_InvalidText] at hm3; cases hm3; exact ⟨M.exc_InvalidText, M.kit_InvalidText_StateError⟩) (.own _) hz hf (pv 2) (pe_glob rfl M.g_StateError rfl) rfl M.n_isinstance)))))) (re_lst (ra_cons re_str (ra_cons (re_xf rfl hC hd (fun e_ => by have hm3 : mg x.cls = some (.ref C) := hm2; rw [e_, M.g_InvalidText] at hm3; cases hm3; exact ⟨M.xf_InvalidText, M.noat_InvalidText_line⟩) hz hf (pv 2)) ra_nil))) (re_var (pv 1))))))) (rs_one (rs_ret (re_var (pv 1))))))
/-! _law_texts_right -/
abbrev Fd_Ltexts_right (K : PySem.W.Frag) (fd : FuncData) : Prop := FnP K "_law_texts_right" "_law_texts_right" (top 37) (ga K "_law_texts_right") fd
theorem nd_Ltexts_right : (["_law_pot_here", "_law_spell", "_law_note", "_law_turn", "_law_at", "_law_sign", "_law_odd", "_law_found", "_law_due", "_law_thing"] : List Str).Nodup := by decide +kernel
theorem sc_Ltexts_right : FnScope ["_law_pot_here", "_law_spell", "_law_note", "_law_turn", "_law_at", "_law_sign", "_law_odd", "_law_found", "_law_due", "_law_thing"] ["_law_pot_here", "_law_spell"] (defScope (top 37)) := ⟨rfl, rfl, rfl, nd_Ltexts_right, rfl, by decide +kernel, by decide +kernel⟩
theorem bd_Ltexts_right {fd : FuncData} (F : Fd_Ltexts_right K fd) : L2.Binds K fd ["_law_pot_here", "_law_spell"] [] := F.bindsN fun _ _ _ _ _ _ us hl => match us, hl with | [_, _], _ => rfl
def Ok_Ltexts_right (P : Program) (w : World) (K : PySem.W.Frag) (mg : Str → Option Value) (base : Heap) : Prop := ∃ fd, Fd_Ltexts_right K fd ∧ FnG P w K mg base 6 (ga K "_law_texts_right") fd ["_law_pot_here", "_law_spell"] (spM ⟨K, mg, TT K, none, none⟩ 2 m_Ltexts_right) ∧ mg "_law_texts_right" = some (.ref (ga K "_law_texts_right"))
theorem ok_Ltexts_right (M : Md K mg) (F : ∃ fd, Fd_Ltexts_right K fd) (g : mg "_law_texts_right" = some (.ref (ga K "_law_texts_right"))) (c_Ltext : Ok_Ltext P w K mg base) (c_word_text : Ok_word_text P w K mg base) (c_Ltold_text : Ok_Ltold_text P w K mg base) (c_Ldraw : Ok_Ldraw P w K mg base) (c_Lpick : Ok_Lpick P w K mg base) (c_Lread : Ok_Lread P w K mg base)   : Ok_Ltexts_right P w K mg base := by
  obtain ⟨fd, F⟩ := F
  obtain ⟨fd_Ltext, F_Ltext, G_Ltext, g_Ltext⟩ := c_Ltext
  obtain ⟨fd_word_text, F_word_text, G_word_text, g_word_text⟩ := c_word_text
  obtain ⟨fd_Ltold_text, F_Ltold_text, G_Ltold_text, g_Ltold_text⟩ := c_Ltold_text
  obtain ⟨fd_Ldraw, F_Ldraw, G_Ldraw, g_Ldraw⟩ := c_Ldraw
  obtain ⟨fd_Lpick, F_Lpick, G_Lpick, g_Lpick⟩ := c_Lpick
  obtain ⟨fd_Lread, F_Lread, G_Lread, g_Lread⟩ := c_Lread
  refine ⟨fd, F, ok_defG F sc_Ltexts_right (fun cdv A outer s H E hgd hr => ?_), g⟩
  exact (rs_cons (rs_set nd_Ltexts_right rfl (by first | exact .inl rfl | exact .inr rfl) (re_callG (takes_of rfl rfl rfl rfl) G_Ltext fnOf_ar hgd (hr.mono (by decide)) rfl g_Ltext F_Ltext.kp (bd_Ltext F_Ltext) (ra_cons (re_var (pv 1)) ra_nil))) (rs_cons (rs_if (PW.pt (rw_or (rt_cmp (o_ne rfl (u64_of hr)) d_eqv (re_callG (takes_of rfl rfl rfl rfl) G_word_text fnOf_ar hgd (hr.mono (by decide)) rfl g_word_text F_word_text.kp (bd_word_text F_word_text) (ra_cons (re_var (pv 1)) ra_nil)) (re_var (pv 2)) (nomark _)) (rw_or1 (rt_cmp (o_ne rfl (u64_of hr)) d_eqv (re_repr rfl M.sm hgd (u64_of hr) rfl M.n_repr (ra_cons (re_callG (takes_of rfl rfl rfl rfl) G_Ltold_text fnOf_ar hgd (hr.mono (by decide)) rfl g_Ltold_text F_Ltold_text.kp (bd_Ltold_text F_Ltold_text) (ra_cons (re_var (pv 2)) ra_nil)) ra_nil)) (re_repr rfl M.sm hgd (u64_of hr) rfl M.n_repr (ra_cons (re_lst (ra_cons re_str (ra_cons (re_var (pv 1)) ra_nil))) ra_nil)) (nomark _))))) (rs_one (rs_ret re_bl)) rs_nil) (rs_cons (rs_for (passes_of rfl) rfl (ri_range1 rfl M.n_range (ra_cons re_int ra_nil)) (rg_name nd_Ltexts_right rfl (by first | exact .inl rfl | exact .inr rfl)) (rs_cons (rs_par rfl nd_Ltexts_right rfl rfl (by decide) rfl rfl (ra_cons (re_callG (takes_of rfl rfl rfl rfl) G_Ldraw fnOf_ar hgd (hr.mono (by decide)) rfl g_Ldraw F_Ldraw.kp (bd_Ldraw F_Ldraw) (ra_cons (re_var (pv 0)) (ra_cons (re_op (o_add rfl) d_add (re_B call_len d_len rfl M.n_len bb_len (ra_cons (re_var (pv 2)) ra_nil)) re_int) ra_nil))) (ra_cons (re_callG (takes_of rfl rfl rfl rfl) G_Lpick fnOf_ar hgd (hr.mono (by decide)) rfl g_Lpick F_Lpick.kp (bd_Lpick F_Lpick) (ra_cons (re_var (pv 0)) (ra_cons re_str ra_nil))) ra_nil)) rfl) (rs_cons (rs_set nd_Ltexts_right rfl (by first | exact .inl rfl | exact .inr rfl) (re_ix rfl (re_lst (ra_cons (re_op (o_add rfl) d_add (re_op (o_add rfl) d_add (re_sl rfl (re_var (pv 2)) ro_none (ro_some (re_var (pv 4)))) (re_var (pv 5))) (re_sl rfl (re_var (pv 2)) (ro_some (re_var (pv 4))) ro_none)) (ra_cons (re_op (o_add rfl) d_add (re_sl rfl (re_var (pv 2)) ro_none (ro_some (re_var (pv 4)))) (re_sl rfl (re_var (pv 2)) (ro_some (re_op (o_add rfl) d_add (re_var (pv 4)) re_int)) ro_none)) (ra_cons (re_op (o_add rfl) d_add (re_op (o_add rfl) d_add (re_sl rfl (re_var (pv 2)) ro_none (ro_some (re_var (pv 4)))) (re_var (pv 5))) (re_sl rfl (re_var (pv 2)) (ro_some (re_op (o_add rfl) d_add (re_var (pv 4)) re_int)) ro_none)) ra_nil)))) (re_var (pv 3)) (fun _ _ => rfl))) (rs_cons (rs_set nd_Ltexts_right rfl (by first | exact .inl rfl | exact .inr rfl) (re_callG (takes_of rfl rfl rfl rfl) G_Lread fnOf_ar hgd (hr.mono (by decide)) rfl g_Lread F_Lread.kp (bd_Lread F_Lread) (ra_cons (re_var (pv 6)) ra_nil))) (rs_cons (rs_set nd_Ltexts_right rfl (by first | exact .inl rfl | exact .inr rfl) (re_if (rt_cmp o_is d_is (re_var (pv 7)) re_non (nomark _)) (re_lst (ra_cons re_str (ra_cons re_int ra_nil))) (re_lst (ra_cons re_str (ra_cons (re_var (pv 7)) ra_nil))))) (rs_one (rs_if (rt_cmp (o_ne rfl (u64_of hr)) d_eqv (re_repr rfl M.sm hgd (u64_of hr) rfl M.n_repr (ra_cons (re_callG (takes_of rfl rfl rfl rfl) G_Ltold_text fnOf_ar hgd (hr.mono (by decide)) rfl g_Ltold_text F_Ltold_text.kp (bd_Ltold_text F_Ltold_text) (ra_cons (re_var (pv 6)) ra_nil)) ra_nil)) (re_repr rfl M.sm hgd (u64_of hr) rfl M.n_repr (ra_cons (re_var (pv 8)) ra_nil)) (nomark _)) (rs_one (rs_ret re_bl)) rs_nil))))))) (rs_one (rs_ret (re_cmp (o_eq rfl (u64_of hr)) d_eqv (re_repr rfl M.sm hgd (u64_of hr) rfl M.n_repr (ra_cons (re_lcE (own := [("_law_thing", 9)]) rfl rfl nd_Ltexts_right (re_lst (ra_cons re_non (ra_cons re_int (ra_cons re_bl (ra_cons (re_lst ra_nil) (ra_cons (re_tup (ra_cons re_str ra_nil)) (ra_cons re_dct0 ra_nil))))))) (blkOk_by (by kernel_rfl)) (fun _ _ _ _ _ => (rg_name nd_Ltexts_right rfl (by first | exact .inl rfl | exact .inr rfl))) (fun _ _ _ _ _ => ts_nil) (fun _ _ _ _ _ => (re_callG takes0 G_Ltold_text fnOf_ar hgd (hr.mono (by decide)) rfl g_Ltold_text F_Ltold_text.kp (bd_Ltold_text F_Ltold_text) (ra_cons (re_var (pv 9)) ra_nil))) (by decide)) ra_nil)) (re_repr rfl M.sm hgd (u64_of hr) rfl M.n_repr (ra_cons (re_op o_mul d_mul (re_lst (ra_cons (re_lst (ra_cons re_str (ra_cons re_non ra_nil))) ra_nil)) re_int) ra_nil)) (nomark _)))))))
/-! _law_right -/
abbrev Fd_Lright (K : PySem.W.Frag) (fd : FuncData) : Prop := FnP K "_law_right" "_law_right" (top 43) (ga K "_law_right") fd
theorem nd_Lright : (["_law_pot_here", "_law_labels_here", "_law_some", "_law_kept", "_law_due", "_law_spell", "_law_turned", "_law_turn", "_law_label", "_law_way"] : List Str).Nodup := by decide +kernel
theorem sc_Lright : FnScope ["_law_pot_here", "_law_labels_here", "_law_some", "_law_kept", "_law_due", "_law_spell", "_law_turned", "_law_turn", "_law_label", "_law_way"] ["_law_pot_here"] (defScope (top 43)) := ⟨rfl, rfl, rfl, nd_Lright, rfl, by decide +kernel, by decide +kernel⟩
theorem bd_Lright {fd : FuncData} (F : Fd_Lright K fd) : L2.Binds K fd ["_law_pot_here"] [] := F.bindsN fun _ _ _ _ _ _ us hl => match us, hl with | [_], _ => rfl
def Ok_Lright (P : Program) (w : World) (K : PySem.W.Frag) (mg : Str → Option Value) (base : Heap) : Prop := ∃ fd, Fd_Lright K fd ∧ FnG P w K mg base 9 (ga K "_law_right") fd ["_law_pot_here"] (spM ⟨K, mg, TT K, none, none⟩ 1 m_Lright) ∧ mg "_law_right" = some (.ref (ga K "_law_right"))
theorem ok_Lright (M : Md K mg) (F : ∃ fd, Fd_Lright K fd) (g : mg "_law_right" = some (.ref (ga K "_law_right"))) (c_Llabels : Ok_Llabels P w K mg base) (c_Lword : Ok_Lword P w K mg base) (c_Lkey : Ok_Lkey P w K mg base) (c_in_order : Ok_in_order P w K mg base) (c_inverse_of : Ok_inverse_of P w K mg base) (c_is_word : Ok_is_word P w K mg base) (c_read_word : Ok_read_word P w K mg base) (c_word_text : Ok_word_text P w K mg base) (c_Ltexts_right : Ok_Ltexts_right P w K mg base) (c_Lodd_right : Ok_Lodd_right P w K mg base) (c_Lkinds_right : Ok_Lkinds_right P w K mg base)   : Ok_Lright P w K mg base := by
  obtain ⟨fd, F⟩ := F
  obtain ⟨fd_Llabels, F_Llabels, G_Llabels, g_Llabels⟩ := c_Llabels
  obtain ⟨fd_Lword, F_Lword, G_Lword, g_Lword⟩ := c_Lword
  obtain ⟨fd_Lkey, F_Lkey, G_Lkey, g_Lkey⟩ := c_Lkey
  obtain ⟨fd_in_order, F_in_order, G_in_order, g_in_order⟩ := c_in_order
  obtain ⟨fd_inverse_of, F_inverse_of, G_inverse_of, g_inverse_of⟩ := c_inverse_of
  obtain ⟨fd_is_word, F_is_word, G_is_word, g_is_word⟩ := c_is_word
  obtain ⟨fd_read_word, F_read_word, G_read_word, g_read_word⟩ := c_read_word
  obtain ⟨fd_word_text, F_word_text, G_word_text, g_word_text⟩ := c_word_text
  obtain ⟨fd_Ltexts_right, F_Ltexts_right, G_Ltexts_right, g_Ltexts_right⟩ := c_Ltexts_right
  obtain ⟨fd_Lodd_right, F_Lodd_right, G_Lodd_right, g_Lodd_right⟩ := c_Lodd_right
  obtain ⟨fd_Lkinds_right, F_Lkinds_right, G_Lkinds_right, g_Lkinds_right⟩ := c_Lkinds_right
  refine ⟨fd, F, ok_defG F sc_Lright (fun cdv A outer s H E hgd hr => ?_), g⟩
  exact (rs_cons (rs_set nd_Lright rfl (by first | exact .inl rfl | exact .inr rfl) (re_callG (takes_of rfl rfl rfl rfl) G_Llabels fnOf_ar hgd (hr.mono (by decide)) rfl g_Llabels F_Llabels.kp (bd_Llabels F_Llabels) (ra_cons (re_var (pv 0)) ra_nil))) (rs_cons (rs_setLc (own := [("_law_turn", 7)]) rfl nd_Lright rfl rfl rfl (ri_range1 rfl M.n_range (ra_cons re_int ra_nil)) (blkOk_by (by kernel_rfl)) (fun _ _ _ _ _ => (rg_name nd_Lright rfl (by first | exact .inl rfl | exact .inr rfl))) (fun _ _ _ _ _ => ts_nil) (fun _ _ _ _ _ => (re_callG takes0 G_Lword fnOf_ar hgd (hr.mono (by decide)) rfl g_Lword F_Lword.kp (bd_Lword F_Lword) (ra_cons (re_var (pv 0)) (ra_cons (re_var (pv 1)) ra_nil)))) (by decide)) (rs_cons (rs_par rfl nd_Lright rfl rfl (by decide) rfl rfl (ra_cons (re_repr rfl M.sm hgd (u64_of hr) rfl M.n_repr (ra_cons (re_var (pv 2)) ra_nil)) (ra_cons (re_sortK rfl G_Lkey hgd (hr.mono (by decide)) (bd_Lkey F_Lkey) (u64_of hr) rfl M.n_sorted rfl g_Lkey (re_var (pv 2))) ra_nil)) rfl) (rs_cons (rs_if (PW.pt (rw_or (rt_cmp (o_ne rfl (u64_of hr)) d_eqv (re_repr rfl M.sm hgd (u64_of hr) rfl M.n_repr (ra_cons (re_callG (takes_of rfl rfl rfl rfl) G_in_order fnOf_ar hgd (hr.mono (by decide)) rfl g_in_order F_in_order.kp (bd_in_order F_in_order) (ra_cons (re_var (pv 2)) ra_nil)) ra_nil)) (re_repr rfl M.sm hgd (u64_of hr) rfl M.n_repr (ra_cons (re_var (pv 4)) ra_nil)) (nomark _)) (rw_or (rt_cmp (o_ne rfl (u64_of hr)) d_eqv (re_repr rfl M.sm hgd (u64_of hr) rfl M.n_repr (ra_cons (re_callKw (js := [0]) (takes_of rfl rfl rfl rfl) G_in_order fnOf_ar hgd (hr.mono (by decide)) rfl g_in_order F_in_order.kp (kwN (ks := ["words"]) F_in_order fun _ _ _ _ _ _ ws hl => match ws, hl with | [_], _ => rfl) rfl (by decide) (rk_cons (re_Ty call_tuple_of d_tuple rfl M.n_tuple bb_tuple (ra_cons (re_var (pv 2)) ra_nil)) rk_nil)) ra_nil)) (re_repr rfl M.sm hgd (u64_of hr) rfl M.n_repr (ra_cons (re_var (pv 4)) ra_nil)) (nomark _)) (rw_or1 (rt_cmp (o_ne rfl (u64_of hr)) d_eqv (re_callG (takes_of rfl rfl rfl rfl) G_in_order fnOf_ar hgd (hr.mono (by decide)) rfl g_in_order F_in_order.kp (bd_in_order F_in_order) (ra_cons (re_lst ra_nil) ra_nil)) (re_lst ra_nil) (nomark _)))))) (rs_one (rs_ret re_bl)) rs_nil) (rs_cons (rs_expr (re_bm0 rfl (.inl rfl) d_clear (pe_bm0 PySem.F.plainAttrs_list PySem.F.slot_list_clear PySem.F.type_list_clear mt_clear (re_callG (takes_of rfl rfl rfl rfl) G_in_order fnOf_ar hgd (hr.mono (by decide)) rfl g_in_order F_in_order.kp (bd_in_order F_in_order) (ra_cons (re_var (pv 2)) ra_nil))))) (rs_cons (rs_forL rfl (passes_of rfl) rfl (re_var (pv 2)) (rg_name nd_Lright rfl (by first | exact .inl rfl | exact .inr rfl)) (rs_cons (rs_set nd_Lright rfl (by first | exact .inl rfl | exact .inr rfl) (re_Ty call_tuple_of d_tuple rfl M.n_tuple bb_tuple (ra_cons (re_lcE (own := [("_law_label", 8), ("_law_way", 9)]) rfl rfl nd_Lright (re_rev rfl (re_var (pv 5))) (blkOk_by (by kernel_rfl)) (fun _ _ _ _ _ => (rg_tup rfl rfl (rgs_cons (rg_name nd_Lright rfl (by first | exact .inl rfl | exact .inr rfl)) (rgs_cons (rg_name nd_Lright rfl (by first | exact .inl rfl | exact .inr rfl)) rgs_nil)) rfl)) (fun _ _ _ _ _ => ts_nil) (fun _ _ _ _ _ => (re_tup (ra_cons (re_var (pv 8)) (ra_cons (re_op op_sub d_sub re_int (re_var (pv 9))) ra_nil)))) (by decide)) ra_nil))) (rs_cons (rs_if (rt_cmp (o_ne rfl (u64_of hr)) d_eqv (re_repr rfl M.sm hgd (u64_of hr) rfl M.n_repr (ra_cons (re_lst (ra_cons (re_callG (takes_of rfl rfl rfl rfl) G_inverse_of fnOf_ar hgd (hr.mono (by decide)) rfl g_inverse_of F_inverse_of.kp (bd_inverse_of F_inverse_of) (ra_cons (re_var (pv 5)) ra_nil)) (ra_cons (re_callKw (js := [0]) (takes_of rfl rfl rfl rfl) G_inverse_of fnOf_ar hgd (hr.mono (by decide)) rfl g_inverse_of F_inverse_of.kp (kwN (ks := ["word"]) F_inverse_of fun _ _ _ _ _ _ ws hl => match ws, hl with | [_], _ => rfl) rfl (by decide) (rk_cons (re_var (pv 6)) rk_nil)) ra_nil))) ra_nil)) (re_repr rfl M.sm hgd (u64_of hr) rfl M.n_repr (ra_cons (re_lst (ra_cons (re_var (pv 6)) (ra_cons (re_var (pv 5)) ra_nil))) ra_nil)) (nomark _)) (rs_one (rs_ret re_bl)) rs_nil) (rs_cons (rs_if (PW.pt (rw_or (rt_cmp o_isnot d_isnot (re_callKw (js := [0]) (takes_of rfl rfl rfl rfl) G_is_word fnOf_ar hgd (hr.mono (by decide)) rfl g_is_word F_is_word.kp (kwN (ks := ["value"]) F_is_word fun _ _ _ _ _ _ ws hl => match ws, hl with | [_], _ => rfl) rfl (by decide) (rk_cons (re_var (pv 5)) rk_nil)) re_bl (nomark _)) (rw_or1 (rt_cmp (o_ne rfl (u64_of hr)) d_eqv (re_repr rfl M.sm hgd (u64_of hr) rfl M.n_repr (ra_cons (re_callKw (js := [0]) (takes_of rfl rfl rfl rfl) G_read_word fnOf_ar hgd (hr.mono (by decide)) rfl g_read_word F_read_word.kp (kwN (ks := ["text"]) F_read_word fun _ _ _ _ _ _ ws hl => match ws, hl with | [_], _ => rfl) rfl (by decide) (rk_cons (re_callKw (js := [0]) (takes_of rfl rfl rfl rfl) G_word_text fnOf_ar hgd (hr.mono (by decide)) rfl g_word_text F_word_text.kp (kwN (ks := ["word"]) F_word_text fun _ _ _ _ _ _ ws hl => match ws, hl with | [_], _ => rfl) rfl (by decide) (rk_cons (re_var (pv 5)) rk_nil)) rk_nil)) ra_nil)) (re_repr rfl M.sm hgd (u64_of hr) rfl M.n_repr (ra_cons (re_var (pv 5)) ra_nil)) (nomark _))))) (rs_one (rs_ret re_bl)) rs_nil) (rs_cons (rs_if (PW.pt (rw_or (rt_cmp (o_ne rfl (u64_of hr)) d_eqv (re_callG (takes_of rfl rfl rfl rfl) G_inverse_of fnOf_ar hgd (hr.mono (by decide)) rfl g_inverse_of F_inverse_of.kp (bd_inverse_of F_inverse_of) (ra_cons (re_op (o_add rfl) d_add (re_var (pv 5)) (re_ix rfl (re_var (pv 2)) re_int (fun _ _ => rfl))) ra_nil)) (re_op (o_add rfl) d_add (re_callG (takes_of rfl rfl rfl rfl) G_inverse_of fnOf_ar hgd (hr.mono (by decide)) rfl g_inverse_of F_inverse_of.kp (bd_inverse_of F_inverse_of) (ra_cons (re_ix rfl (re_var (pv 2)) re_int (fun _ _ => rfl)) ra_nil)) (re_callG (takes_of rfl rfl rfl rfl) G_inverse_of fnOf_ar hgd (hr.mono (by decide)) rfl g_inverse_of F_inverse_of.kp (bd_inverse_of F_inverse_of) (ra_cons (re_var (pv 5)) ra_nil))) (nomark _)) (rw_or1 (rt_not (rt_of (re_callG (takes_of rfl rfl rfl rfl) G_Ltexts_right fnOf_ar hgd (hr.mono (by decide)) rfl g_Ltexts_right F_Ltexts_right.kp (bd_Ltexts_right F_Ltexts_right) (ra_cons (re_var (pv 0)) (ra_cons (re_var (pv 5)) ra_nil)))))))) (rs_one (rs_ret re_bl)) rs_nil) (rs_one (rs_if (rt_not (rt_of (re_callG (takes_of rfl rfl rfl rfl) G_Lodd_right fnOf_ar hgd (hr.mono (by decide)) rfl g_Lodd_right F_Lodd_right.kp (bd_Lodd_right F_Lodd_right) (ra_cons (re_var (pv 0)) (ra_cons (re_var (pv 1)) (ra_cons (re_var (pv 5)) ra_nil)))))) (rs_one (rs_ret re_bl)) rs_nil))))))) (rs_one (rs_ret (re_and (re_cmp (o_eq rfl (u64_of hr)) d_eqv (re_repr rfl M.sm hgd (u64_of hr) rfl M.n_repr (ra_cons (re_var (pv 2)) ra_nil)) (re_var (pv 3)) (nomark _)) (re_one (re_callG (takes_of rfl rfl rfl rfl) G_Lkinds_right fnOf_ar hgd (hr.mono (by decide)) rfl g_Lkinds_right F_Lkinds_right.kp (bd_Lkinds_right F_Lkinds_right) (ra_cons (re_var (pv 1)) ra_nil))))))))))))
/-! _law_pot -/
abbrev Fd_Lpot (K : PySem.W.Frag) (fd : FuncData) : Prop := FnP K "_law_pot" "_law_pot" (top 28) (ga K "_law_pot") fd
theorem nd_Lpot : (["_law_script", "_law_k", "_law_cell"] : List Str).Nodup := by decide +kernel
theorem sc_Lpot : FnScope ["_law_script", "_law_k", "_law_cell"] ["_law_script", "_law_k"] (defScope (top 28)) := ⟨rfl, rfl, rfl, nd_Lpot, rfl, by decide +kernel, by decide +kernel⟩
theorem bd_Lpot {fd : FuncData} (F : Fd_Lpot K fd) : L2.Binds K fd ["_law_script", "_law_k"] [] := F.bindsN fun _ _ _ _ _ _ us hl => match us, hl with | [_, _], _ => rfl
def Ok_Lpot (P : Program) (w : World) (K : PySem.W.Frag) (mg : Str → Option Value) (base : Heap) : Prop := ∃ fd, Fd_Lpot K fd ∧ FnG P w K mg base 1 (ga K "_law_pot") fd ["_law_script", "_law_k"] (spM ⟨K, mg, TT K, none, none⟩ 2 m_Lpot) ∧ mg "_law_pot" = some (.ref (ga K "_law_pot"))
theorem ok_Lpot (M : Md K mg) (F : ∃ fd, Fd_Lpot K fd) (g : mg "_law_pot" = some (.ref (ga K "_law_pot")))    : Ok_Lpot P w K mg base := by
  obtain ⟨fd, F⟩ := F
  refine ⟨fd, F, ok_defG F sc_Lpot (fun cdv A outer s H E hgd hr => ?_), g⟩
  exact (rs_cons (rs_set nd_Lpot rfl (by first | exact .inl rfl | exact .inr rfl) (re_op (o_add rfl) d_add (re_op o_mul d_mul re_int (re_var (pv 1))) re_int)) (rs_cons (rs_if (rt_cmp op_lt d_cmp (re_var (pv 1)) (re_B call_len d_len rfl M.n_len bb_len (ra_cons (re_var (pv 0)) ra_nil)) (nomark _)) (rs_one (rs_set nd_Lpot rfl (by first | exact .inl rfl | exact .inr rfl) (re_B call_abs d_abs rfl M.n_abs bb_abs (ra_cons (re_ix rfl (re_var (pv 0)) (re_var (pv 1)) (fun _ _ => rfl)) ra_nil)))) rs_nil) (rs_one (rs_ret (re_lstS (ra_cons (re_B (call_max2 rfl) d_max rfl M.n_max bb_max (ra_cons re_int (ra_cons (re_op op_sub d_sub (re_var (pv 2)) (re_op op_pow d_pow re_int re_int)) ra_nil))) (ra_cons (re_op (o_add rfl) d_add (re_op op_mod d_mod (re_op o_mul d_mul (re_Ty call_int1 d_int rfl M.n_int bb_int (ra_cons (re_op (o_add rfl) d_add (re_op op_mod d_mod (re_Ty call_int1 d_int rfl M.n_int bb_int (ra_cons (re_var (pv 2)) ra_nil)) re_int) re_int) ra_nil)) (re_op op_pow d_pow (re_op (o_add rfl) d_add (re_op o_mul d_mul re_int (re_var (pv 1))) re_int) re_int)) re_int) re_int) ra_nil)))))))
/-! law -/
abbrev Fd_law (K : PySem.W.Frag) (fd : FuncData) : Prop := FnP K "law" "law" (top 44) (ga K "law") fd
theorem nd_law : (["_law_script", "_law_k"] : List Str).Nodup := by decide +kernel
theorem sc_law : FnScope ["_law_script", "_law_k"] ["_law_script"] (defScope (top 44)) := ⟨rfl, rfl, rfl, nd_law, rfl, by decide +kernel, by decide +kernel⟩
theorem bd_law {fd : FuncData} (F : Fd_law K fd) : L2.Binds K fd ["_law_script"] [] := F.bindsN fun _ _ _ _ _ _ us hl => match us, hl with | [_], _ => rfl
def Ok_law (P : Program) (w : World) (K : PySem.W.Frag) (mg : Str → Option Value) (base : Heap) : Prop := ∃ fd, Fd_law K fd ∧ FnG P w K mg base 10 (ga K "law") fd ["_law_script"] (spM ⟨K, mg, TT K, none, none⟩ 1 m_law) ∧ mg "law" = some (.ref (ga K "law"))
theorem ok_law (M : Md K mg) (F : ∃ fd, Fd_law K fd) (g : mg "law" = some (.ref (ga K "law"))) (c_Lright : Ok_Lright P w K mg base) (c_Lpot : Ok_Lpot P w K mg base)   : Ok_law P w K mg base := by
  obtain ⟨fd, F⟩ := F
  obtain ⟨fd_Lright, F_Lright, G_Lright, g_Lright⟩ := c_Lright
  obtain ⟨fd_Lpot, F_Lpot, G_Lpot, g_Lpot⟩ := c_Lpot
  refine ⟨fd, F, ok_defG F sc_law (fun cdv A outer s H E hgd hr => ?_), g⟩
  exact (rs_one (rs_ret (re_B (cr_all rfl) d_allB rfl M.n_all bb_all (ra_cons (re_lc (own := [("_law_k", 1)]) rfl nd_law (ri_range1 rfl M.n_range (ra_cons (re_B (call_max2 rfl) d_max rfl M.n_max bb_max (ra_cons re_int (ra_cons (re_B (call_min2 rfl) d_min rfl M.n_min bb_min (ra_cons (re_B call_len d_len rfl M.n_len bb_len (ra_cons (re_var (pv 0)) ra_nil)) (ra_cons re_int ra_nil))) ra_nil))) ra_nil)) (blkOk_by (by kernel_rfl)) (fun _ _ _ _ _ => (rg_name nd_law rfl (by first | exact .inl rfl | exact .inr rfl))) (fun _ _ _ _ _ => ts_nil) (fun _ _ _ _ _ => (re_callG takes0 G_Lright fnOf_ar hgd (hr.mono (by decide)) rfl g_Lright F_Lright.kp (bd_Lright F_Lright) (ra_cons (re_callG takes0 G_Lpot fnOf_ar hgd (hr.mono (by decide)) rfl g_Lpot F_Lpot.kp (bd_Lpot F_Lpot) (ra_cons (re_var (pv 0)) (ra_cons (re_var (pv 1)) ra_nil))) ra_nil))) (by decide)) ra_nil))))
end
end Mi
end T_G11a
section T_Pl
set_option Elab.async false
set_option linter.all false
set_option maxRecDepth 100000
set_option maxHeartbeats 1000000
/-! Pl: reasoning over mirrors: what a word gives. -/
namespace Mi
open PySem L2
/-- it ends well, and Q holds -/
def Wp {α : Type} (r : Res α) (Q : α → Sto → Prop) : Prop := match r with
  | .ok a S => Q a S
  | _ => False
/-- a statement: goes on (N) or returns (R) -/
def WpS (r : SR) (N : En → Sto → Prop) (R : Dv → Sto → Prop) : Prop := match r with
  | .nx δ S => N δ S
  | .rt d S => R d S
  | _ => False
theorem Wp.mono {α : Type} {r : Res α} {Q Q' : α → Sto → Prop} (h : Wp r Q) (k : ∀ a S, Q a S → Q' a S) : Wp r Q' := by
  cases r with
  | ok a S => exact k a S h
  | ex x S => exact h
  | bad => exact h
theorem WpS.mono {r : SR} {N N' : En → Sto → Prop} {R R' : Dv → Sto → Prop} (h : WpS r N R) (k : ∀ a S, N a S → N' a S) (l : ∀ a S, R a S → R' a S) : WpS r N' R' := by
  cases r with
  | nx δ S => exact k δ S h
  | rt d S => exact l d S h
  | bk δ S => exact h
  | ct δ S => exact h
  | ex x δ S => exact h
  | bad => exact h
theorem Wp.ex {α : Type} {r : Res α} {Q : α → Sto → Prop} (h : Wp r Q) : ∃ a S, r = .ok a S ∧ Q a S := by
  cases r with
  | ok a S => exact ⟨a, S, rfl, h⟩
  | ex x S => exact h.elim
  | bad => exact h.elim
theorem Wp.of_eq {α : Type} {r : Res α} {Q : α → Sto → Prop} {a : α} {S : Sto} (e : r = .ok a S) (h : Q a S) : Wp r Q := by
  rw [e]
  exact h
section
variable {α β : Type} {Q : α → Sto → Prop} {S : Sto} {δ : En} {N : En → Sto → Prop} {R : Dv → Sto → Prop} {P : Dv → Sto → Prop} {PB : Bool → Sto → Prop} {PA : List Dv → Sto → Prop}
@[simp] theorem wp_ok {a : α} : Wp (.ok a S) Q = Q a S := rfl
@[simp] theorem wp_pure {a : α} : Wp (M.pure a S) Q = Q a S := rfl
theorem wp_bind {m : M β} {k : β → M α} : Wp (M.bind m k S) Q = Wp (m S) fun b S1 => Wp (k b S1) Q := by
  unfold M.bind
  cases m S <;> rfl
@[simp] theorem wp_var {i : Nat} {d : Dv} (h : δ[i]? = some (some d)) : Wp (eVar i δ S) P = P d S := by
  unfold eVar
  rw [h]
  rfl
@[simp] theorem wp_c {d : Dv} : Wp (eC d δ S) P = P d S := rfl
@[simp] theorem wp_e1 {f : Dv → M Dv} {a : EX} : Wp (e1 f a δ S) P = Wp (a δ S) fun x S1 => Wp (f x S1) P := wp_bind
@[simp] theorem wp_e2 {f : Dv → Dv → M Dv} {a b : EX} : Wp (e2 f a b δ S) P = Wp (a δ S) fun x S1 => Wp (b δ S1) fun y S2 => Wp (f x y S2) P := by
  unfold e2
  rw [wp_bind]
  congr
  funext x S1
  rw [wp_bind]
@[simp] theorem wp_nil : Wp (aNil δ S) PA = PA [] S := rfl
@[simp] theorem wp_cons {a : EX} {r : EA} : Wp (aCons a r δ S) PA = Wp (a δ S) fun x S1 => Wp (r δ S1) fun xs S2 => PA (x :: xs) S2 := by
  unfold aCons
  rw [wp_bind]
  congr
  funext x S1
  rw [wp_bind]
  rfl
@[simp] theorem wp_eN {f : List Dv → M Dv} {a : EA} : Wp (eN f a δ S) P = Wp (a δ S) fun x S1 => Wp (f x S1) P := wp_bind
@[simp] theorem wp_eK {f : List Dv → M Dv} {js : List Nat} {a : EA} : Wp (eK f js a δ S) P = Wp (a δ S) fun ds S1 => Wp ((if ds.length = js.length then f (pick js ds) else mBad) S1) P := wp_bind
@[simp] theorem wp_if {c : EB} {a b : EX} : Wp (eIf c a b δ S) P = Wp (c δ S) fun t S1 => if t = true then Wp (a δ S1) P else Wp (b δ S1) P := by
  unfold eIf
  rw [wp_bind]
  congr
  funext t S1
  cases t <;> rfl
/-- a value is a truth -/
def IsB (d : Dv) (K : Bool → Prop) : Prop := match d with
  | .bl b => K b
  | _ => False
@[simp] theorem isB_bl {b : Bool} {K : Bool → Prop} : IsB (.bl b) K = K b := rfl
@[simp] theorem wp_bOf {a : EX} : Wp (bOf a δ S) PB = Wp (a δ S) fun x S1 => IsB x fun b => PB b S1 := by
  unfold bOf
  rw [wp_bind]
  congr
  funext x S1
  cases x <;> rfl
@[simp] theorem wp_bAnd {a b : EB} : Wp (bAnd a b δ S) PB = Wp (a δ S) fun x S1 => if x = true then Wp (b δ S1) PB else PB false S1 := by
  unfold bAnd
  rw [wp_bind]
  congr
  funext x S1
  cases x <;> rfl
@[simp] theorem wp_bOr {a b : EB} : Wp (bOr a b δ S) PB = Wp (a δ S) fun x S1 => if x = true then PB true S1 else Wp (b δ S1) PB := by
  unfold bOr
  rw [wp_bind]
  congr
  funext x S1
  cases x <;> rfl
@[simp] theorem wp_bNot {a : EB} : Wp (bNot a δ S) PB = Wp (a δ S) fun x S1 => PB (!x) S1 := by
  unfold bNot
  rw [wp_bind]
  rfl
@[simp] theorem wp_eNot {a : EX} : Wp (eNot a δ S) P = Wp (a δ S) fun x S1 => IsB x fun b => P (.bl (!b)) S1 := by
  unfold eNot
  rw [wp_bind]
  congr
  funext x S1
  cases x <;> rfl
@[simp] theorem wp_eAnd {a b : EX} : Wp (eAnd a b δ S) P = Wp (a δ S) fun x S1 => IsB x fun t => if t = true then Wp (b δ S1) P else P (.bl false) S1 := by
  unfold eAnd
  rw [wp_bind]
  congr
  funext x S1
  cases x with
  | bl t => cases t <;> rfl
  | _ => rfl
@[simp] theorem wp_eOr {a b : EX} : Wp (eOr a b δ S) P = Wp (a δ S) fun x S1 => IsB x fun t => if t = true then P (.bl true) S1 else Wp (b δ S1) P := by
  unfold eOr
  rw [wp_bind]
  congr
  funext x S1
  cases x with
  | bl t => cases t <;> rfl
  | _ => rfl
@[simp] theorem wp_chain {f g : Dv → Dv → M Dv} {a b c : EX} : Wp (eChain f g a b c δ S) P = Wp (a δ S) fun x S1 => Wp (b δ S1) fun y S2 => Wp (f x y S2) fun z S3 => IsB z fun t => if t = true then Wp (c δ S3) fun w S4 => Wp (g y w S4) P else P (.bl false) S3 := by
  unfold eChain
  rw [wp_bind]
  congr
  funext x S1
  rw [wp_bind]
  congr
  funext y S2
  rw [wp_bind]
  congr
  funext z S3
  cases z with
  | bl t =>
    cases t
    · rfl
    · show Wp (M.bind _ _ _) P = _
      rw [wp_bind]
      rfl
  | _ => rfl
/-! statements -/
theorem wps_on {r : Res α} {k : α → Sto → SR} : WpS (onOk r δ k) N R = Wp r fun a S1 => WpS (k a S1) N R := by
  cases r <;> rfl
@[simp] theorem wps_nil : WpS (sNil δ S) N R = N δ S := rfl
@[simp] theorem wps_seq {a b : SM} : WpS (sSeq a b δ S) N R = WpS (a δ S) (fun δ' S' => WpS (b δ' S') N R) R := by
  unfold sSeq
  cases a δ S <;> rfl
@[simp] theorem wps_if {c : EB} {a b : SM} : WpS (sIf c a b δ S) N R = Wp (c δ S) fun t S' => if t = true then WpS (a δ S') N R else WpS (b δ S') N R := by
  unfold sIf
  rw [wps_on]
  congr
  funext t S'
  cases t <;> rfl
@[simp] theorem wps_set {i : Nat} {e : EX} : WpS (sSet i e δ S) N R = Wp (e δ S) fun d S' => N (δ.set i (some d)) S' := wps_on
@[simp] theorem wps_ret {e : EX} : WpS (sRet e δ S) N R = Wp (e δ S) R := wps_on
@[simp] theorem wps_expr {e : EX} : WpS (sExpr e δ S) N R = Wp (e δ S) fun _ S' => N δ S' := wps_on
def OnS {α : Type} (o : Option α) (K : α → Prop) : Prop := match o with
  | some a => K a
  | none => False
@[simp] theorem onS_some {a : α} {K : α → Prop} : OnS (some a) K = K a := rfl
@[simp] theorem wps_par {is : List Nat} {a : EA} : WpS (sPar is a δ S) N R = Wp (a δ S) fun ds S' => OnS (setAll δ is ds) fun δ' => N δ' S' := by
  unfold sPar
  rw [wps_on]
  congr
  funext ds S'
  cases setAll δ is ds <;> rfl
@[simp] theorem wps_asg {g : TGm} {e : EX} : WpS (sAsg g e δ S) N R = Wp (e δ S) fun d S' => OnS (g d δ S') fun z => N z.1 z.2 := by
  unfold sAsg
  rw [wps_on]
  congr
  funext d S'
  cases g d δ S' with
  | none => rfl
  | some z => rfl
@[simp] theorem wps_aug {i : Nat} {f : Dv → Dv → M Dv} {e : EX} : WpS (sAug i f e δ S) N R = Wp (eVar i δ S) fun x S1 => Wp (e δ S1) fun y S2 => Wp (f x y S2) fun z S3 => N (δ.set i (some z)) S3 := by
  unfold sAug
  rw [wps_on]
  congr
  funext x S1
  rw [wps_on]
  congr
  funext y S2
  rw [wps_on]
  rfl
theorem wp_fn {k n : Nat} {b : SM} {ds : List Dv} (h : ds.length = k) : Wp (fnOf k n b ds S) P = WpS (b (ds.map some ++ List.replicate (n - k) none) S) (fun _ S' => P .non S') P := by
  unfold fnOf
  rw [if_pos h]
  cases b (ds.map some ++ List.replicate (n - k) none) S <;> rfl
/-! loops -/
theorem wps_for {it : EA} {g : TGm} {body : SM} : WpS (sFor it g body δ S) N R = Wp (it δ S) fun ds S' => WpS (forGo g body ds δ S') N R := wps_on
/-- a loop's invariant: at the rest of the items -/
theorem wps_forGo {g : TGm} {body : SM} (J : List Dv → En → Sto → Prop) (hN : ∀ δ S, J [] δ S → N δ S) (step : ∀ d r δ S, J (d :: r) δ S → OnS (g d δ S) fun z => WpS (body z.1 z.2) (J r) R) : ∀ (ds : List Dv) (δ : En) (S : Sto), J ds δ S → WpS (forGo g body ds δ S) N R
  | [], δ, S, h => hN δ S h
  | d :: r, δ, S, h => by
    have z := step d r δ S h
    unfold forGo
    cases e : g d δ S with
    | none => rw [e] at z; exact z.elim
    | some q =>
      obtain ⟨δ1, S1⟩ := q
      rw [e] at z
      have z : WpS (body δ1 S1) (J r) R := z
      dsimp only
      cases e2 : body δ1 S1 with
      | nx δ' S' => rw [e2] at z; exact wps_forGo J hN step r δ' S' z
      | rt d S' => rw [e2] at z; exact z
      | bk δ' S' => rw [e2] at z; exact z.elim
      | ct δ' S' => rw [e2] at z; exact z.elim
      | ex x δ' S' => rw [e2] at z; exact z.elim
      | bad => rw [e2] at z; exact z.elim
/-- a walk over a list of the store that stays as it is -/
theorem wps_forL {n : Nat} {g : TGm} {body : SM} (J : List Dv → En → Sto → Prop) (ds : List Dv) (hS : ∀ r δ S, J r δ S → S[n]? = some (.lst ds)) (hN : ∀ δ S, J [] δ S → N δ S) (step : ∀ d r δ S, J (d :: r) δ S → OnS (g d δ S) fun z => WpS (body z.1 z.2) (J r) R) :
    ∀ (f i : Nat) (δ : En) (S : Sto), ds.length < i + f → i ≤ ds.length → J (ds.drop i) δ S → WpS (forLGo n g body f i δ S) N R
  | 0, i, δ, S, hf, hl, h => by omega
  | f + 1, i, δ, S, hf, hl, h => by
    unfold forLGo nxL
    rw [hS _ _ _ h]
    by_cases hi : i < ds.length
    · have e0 : ds.drop i = ds[i] :: ds.drop (i + 1) := List.drop_eq_getElem_cons hi
      rw [e0] at h
      have z := step _ _ δ S h
      dsimp only
      rw [List.getElem?_eq_getElem hi]
      dsimp only
      cases e : g ds[i] δ S with
      | none => rw [e] at z; exact z.elim
      | some q =>
        obtain ⟨δ1, S1⟩ := q
        rw [e] at z
        have z : WpS (body δ1 S1) (J (ds.drop (i + 1))) R := z
        dsimp only
        cases e2 : body δ1 S1 with
        | nx δ' S' => rw [e2] at z; exact wps_forL J ds hS hN step f (i + 1) δ' S' (by omega) (by omega) z
        | rt d S' => rw [e2] at z; exact z
        | bk δ' S' => rw [e2] at z; exact z.elim
        | ct δ' S' => rw [e2] at z; exact z.elim
        | ex x δ' S' => rw [e2] at z; exact z.elim
        | bad => rw [e2] at z; exact z.elim
    · have e : ds.drop i = [] := List.drop_eq_nil_of_le (by omega)
      rw [e] at h
      dsimp only
      rw [List.getElem?_eq_none (by omega)]
      exact hN δ S h
@[simp] theorem wps_forE {e : EX} {g : TGm} {body : SM} : WpS (sForE e g body δ S) N R = Wp (e δ S) fun d S' => WpS (forE g body d δ S') N R := wps_on
/-- while: by an invariant with a measure -/
theorem wps_while {c : EB} {body : SM} (J : Nat → En → Sto → Prop) (step : ∀ m δ S, J m δ S → Wp (c δ S) fun t S1 => if t = true then 0 < m ∧ WpS (body δ S1) (J (m - 1)) R else N δ S1) : ∀ (n m : Nat) (δ : En) (S : Sto), m < n → J m δ S → WpS (sWhile n c body δ S) N R
  | 0, m, _, _, h, _ => by omega
  | n + 1, m, δ, S, h, j => by
    unfold sWhile whGo
    rw [wps_on]
    refine (step m δ S j).mono fun t S1 q => ?_
    cases t with
    | false => exact q
    | true =>
      obtain ⟨hm, z⟩ := q
      rw [if_pos rfl]
      cases e2 : body δ S1 with
      | nx δ' S' => rw [e2] at z; exact wps_while J step n (m - 1) δ' S' (by omega) z
      | rt d S' => rw [e2] at z; exact z
      | bk δ' S' => rw [e2] at z; exact z.elim
      | ct δ' S' => rw [e2] at z; exact z.elim
      | ex x δ' S' => rw [e2] at z; exact z.elim
      | bad => rw [e2] at z; exact z.elim
/-! comprehensions -/
/-- the turns, by an invariant of what was made -/
theorem wp_lcGo {g : TGm} {t : EB} {e : EX} (J : List Dv → List Dv → Sto → Prop) (step : ∀ d r acc S, J (d :: r) acc S → OnS (g d δ S) fun z => Wp (t z.1 z.2) fun b S2 => if b = true then Wp (e z.1 S2) fun y S3 => J r (acc ++ [y]) S3 else J r acc S2) :
    ∀ (ds acc : List Dv) (S : Sto), J ds acc S → Wp (lcGo g t e δ ds acc S) fun ys S' => J [] ys S'
  | [], acc, S, h => h
  | d :: r, acc, S, h => by
    have z := step d r acc S h
    unfold lcGo
    cases e1 : g d δ S with
    | none => rw [e1] at z; exact z.elim
    | some q =>
      obtain ⟨δ1, S1⟩ := q
      rw [e1] at z
      have z : Wp (t δ1 S1) fun b S2 => if b = true then Wp (e δ1 S2) fun y S3 => J r (acc ++ [y]) S3 else J r acc S2 := z
      dsimp only
      cases e2 : t δ1 S1 with
      | bad => rw [e2] at z; exact z.elim
      | ex x S2 => rw [e2] at z; exact z.elim
      | ok b S2 =>
        rw [e2] at z
        cases b with
        | false => exact wp_lcGo J step r acc S2 z
        | true =>
          have z : Wp (e δ1 S2) fun y S3 => J r (acc ++ [y]) S3 := z
          dsimp only
          cases e3 : e δ1 S2 with
          | bad => rw [e3] at z; exact z.elim
          | ex x S3 => rw [e3] at z; exact z.elim
          | ok y S3 =>
            rw [e3] at z
            exact wp_lcGo J step r (acc ++ [y]) S3 z
/-- pure turns -/
theorem lcGo_pure {ι : Type} {g : TGm} {t : EB} {e : EX} {p : ι → Bool} {f : ι → Dv} (enc : ι → Dv) : ∀ (xs : List ι) (acc : List Dv), (∀ x ∈ xs, OnS (g (enc x) δ S) fun z => z.2 = S ∧ t z.1 S = .ok (p x) S ∧ (p x = true → e z.1 S = .ok (f x) S)) → lcGo g t e δ (xs.map enc) acc S = .ok (acc ++ (xs.filter p).map f) S
  | [], acc, _ => by simp [lcGo]
  | x :: r, acc, h => by
    have z := h x (by simp)
    have ih := fun acc => lcGo_pure enc r acc fun x hx => h x (List.mem_cons_of_mem _ hx)
    rw [List.map_cons]
    unfold lcGo
    cases e1 : g (enc x) δ S with
    | none => rw [e1] at z; exact z.elim
    | some q =>
      obtain ⟨δ1, S1⟩ := q
      rw [e1] at z
      obtain ⟨rfl, z2, z3⟩ := z
      dsimp only
      have z2 : t δ1 S1 = .ok (p x) S1 := z2
      rw [z2]
      cases hp : p x with
      | false =>
        dsimp only
        rw [ih acc, List.filter_cons_of_neg (by simp [hp])]
      | true =>
        have z3 : e δ1 S1 = .ok (f x) S1 := z3 hp
        dsimp only
        rw [z3]
        dsimp only
        rw [ih (acc ++ [f x]), List.filter_cons_of_pos hp]
        simp
theorem lcEnd_filter {ι : Type} {g : TGm} {t : EB} {e : EX} {p : ι → Bool} {f : ι → Dv} (enc : ι → Dv) (xs : List ι) (hl : xs.length ≤ lim) (h : ∀ x ∈ xs, OnS (g (enc x) δ S) fun z => z.2 = S ∧ t z.1 S = .ok (p x) S ∧ (p x = true → e z.1 S = .ok (f x) S)) : lcEnd g t e δ (xs.map enc) S = .ok (.lst ((xs.filter p).map f)) S := by
  unfold lcEnd
  rw [if_pos (by simpa using hl), lcGo_pure enc xs [] h]
  rfl
theorem lcEnd_map {ι : Type} {g : TGm} {e : EX} {f : ι → Dv} (enc : ι → Dv) (xs : List ι) (hl : xs.length ≤ lim) (h : ∀ x ∈ xs, OnS (g (enc x) δ S) fun z => z.2 = S ∧ e z.1 S = .ok (f x) S) : lcEnd g bYes e δ (xs.map enc) S = .ok (.lst (xs.map f)) S := by
  have := lcEnd_filter (t := bYes) (δ := δ) (S := S) (p := fun _ => true) (f := f) (g := g) (e := e) enc xs hl fun x hx => by
    have z := h x hx
    cases e1 : g (enc x) δ S with
    | none => rw [e1] at z; exact z.elim
    | some q => rw [e1] at z; exact ⟨z.1, rfl, fun _ => z.2⟩
  rw [this, List.filter_eq_self.mpr (fun _ _ => rfl)]
theorem Wp.eq {r : Res α} {x : α} (h : Wp r fun a S' => a = x ∧ S' = S) : r = .ok x S := by
  obtain ⟨a, S', e, rfl, rfl⟩ := h.ex
  exact e
/-- a def's call -/
theorem fn_eq {k n : Nat} {b : SM} {ds : List Dv} {d : Dv} {S' : Sto} (h : ds.length = k) (hb : WpS (b (ds.map some ++ List.replicate (n - k) none) S) (fun _ S1 => d = .non ∧ S1 = S') (fun x S1 => x = d ∧ S1 = S')) : fnOf k n b ds S = .ok d S' := by
  apply Wp.eq
  rw [wp_fn h]
  exact hb.mono (fun _ _ z => ⟨z.1.symm, z.2⟩) (fun _ _ z => z)
@[simp] theorem wp_lc {it : EA} {g : TGm} {t : EB} {e : EX} {vs : List Nat} : Wp (eLc it g t e vs δ S) P = Wp (it δ S) fun ds S' => Wp (lcEnd g t e (wipeD δ vs) ds S') P := wp_bind
@[simp] theorem wp_lcE {a : EX} {g : TGm} {t : EB} {e : EX} {vs : List Nat} : Wp (eLcE a g t e vs δ S) P = Wp (a δ S) fun d S' => Wp (lcE g t e (wipeD δ vs) d S') P := wp_bind
theorem wp_lcEnd {g : TGm} {t : EB} {e : EX} {ds : List Dv} (h : ds.length ≤ lim) : Wp (lcEnd g t e δ ds S) P = Wp (lcGo g t e δ ds [] S) fun ys S' => P (.lst ys) S' := by
  unfold lcEnd
  rw [if_pos h]
  cases lcGo g t e δ ds [] S <;> rfl
@[simp] theorem lcE_tup {g : TGm} {t : EB} {e : EX} {ds : List Dv} : lcE g t e δ (.tup ds) S = lcEnd g t e δ ds S := rfl
@[simp] theorem lcE_lst {g : TGm} {t : EB} {e : EX} {ds : List Dv} : lcE g t e δ (.lst ds) S = lcEnd g t e δ ds S := rfl
@[simp] theorem lcE_str {g : TGm} {t : EB} {e : EX} {x : Str} : lcE g t e δ (.str x) S = lcEnd g t e δ (x.cps.toList.map fun c => .str ⟨#[c]⟩) S := rfl
/-! ranges -/
@[simp] theorem wp_range1 {a : EA} : Wp (iRange1 a δ S) PA = Wp (a δ S) fun ds S1 => Wp (mRange1 ds S1) PA := wp_bind
@[simp] theorem wp_range2 {a : EA} : Wp (iRange2 a δ S) PA = Wp (a δ S) fun ds S1 => Wp (mRange2 ds S1) PA := wp_bind
@[simp] theorem wp_iOf {a : EX} : Wp (iOf a δ S) PA = Wp (a δ S) fun d S1 => Wp (mItems d S1) PA := wp_bind
@[simp] theorem wp_iEnum {a : EA} : Wp (iEnum a δ S) PA = Wp (a δ S) fun ds S1 => Wp (mEnum ds S1) PA := wp_bind
/-! slices, methods -/
@[simp] theorem wp_sl {a : EX} {lo hi : EO} : Wp (eSl a lo hi δ S) P = Wp (a δ S) fun x S1 => Wp (lo δ S1) fun l S2 => Wp (hi δ S2) fun h S3 => Wp (mSl l h x S3) P := by
  unfold eSl
  rw [wp_bind]
  congr
  funext x S1
  rw [wp_bind]
  congr
  funext l S2
  rw [wp_bind]
@[simp] theorem wp_oNone {Q : Option Int → Sto → Prop} : Wp (oNone δ S) Q = Q none S := rfl
def IsI (d : Dv) (K : Int → Prop) : Prop := match d with
  | .int i => K i
  | _ => False
@[simp] theorem isI_int {i : Int} {K : Int → Prop} : IsI (.int i) K = K i := rfl
@[simp] theorem wp_oSome {a : EX} {Q : Option Int → Sto → Prop} : Wp (oSome a δ S) Q = Wp (a δ S) fun x S1 => IsI x fun i => Q (some i) S1 := by
  unfold oSome
  rw [wp_bind]
  congr
  funext x S1
  cases x <;> rfl
@[simp] theorem wp_mth {T : String} {f : Dv → List Dv → M Dv} {o : EX} {a : EA} : Wp (eMth T f o a δ S) P = Wp (o δ S) fun x S1 => kind S1 x = some T ∧ Wp (a δ S1) fun ds S2 => Wp (f x ds S2) P := by
  unfold eMth
  rw [wp_bind]
  congr
  funext x S1
  by_cases h : kind S1 x = some T
  · rw [if_pos h, wp_bind]
    simp [h]
  · rw [if_neg h]
    simp [h, Wp]
theorem lim_eq : lim = 100000 := rfl
def IsS (d : Dv) (K : Str → Prop) : Prop := match d with
  | .str i => K i
  | _ => False
@[simp] theorem isS_str {i : Str} {K : Str → Prop} : IsS (.str i) K = K i := rfl
theorem wp_join {o a : EX} : Wp (eJoin o a δ S) P = Wp (o δ S) fun d S1 => IsS d fun x => Wp (a δ S1) fun l S2 => Wp (mJoin (.str x) [l] S2) P := by
  unfold eJoin
  rw [wp_bind]
  congr
  funext d S1
  cases d with
  | str x =>
    show Wp (M.bind _ _ _) P = _
    rw [wp_bind]
    rfl
  | _ => rfl
theorem strsOf_map : ∀ xs : List Str, strsOf (xs.map Dv.str) = some xs
  | [] => rfl
  | x :: xs => by
    show (strsOf (xs.map Dv.str)).map _ = _
    rw [strsOf_map xs]
    rfl
theorem mJoin_lst {x : Str} {ys : List Str} (h : (ys.map fun y : Str => y.length).sum + ys.length * x.length ≤ lim) : mJoin (.str x) [.lst (ys.map Dv.str)] S = .ok (.str (Str.join x ys)) S := by
  show (match strsOf (ys.map Dv.str) with | some ys => if (ys.map fun y : Str => y.length).sum + ys.length * x.length ≤ lim then Res.ok (Dv.str (Str.join x ys)) S else .bad | none => .bad) = _
  rw [strsOf_map]
  dsimp only
  rw [if_pos h]
theorem fn_wp {k n : Nat} {b : SM} {ds : List Dv} (h : ds.length = k) (hb : WpS (b (ds.map some ++ List.replicate (n - k) none) S) (fun _ S' => P .non S') P) : Wp (fnOf k n b ds S) P := by
  rw [wp_fn h]
  exact hb
/-- a loop by the number of the turn -/
theorem wps_forIx {g : TGm} {body : SM} (J : Nat → En → Sto → Prop) (ds : List Dv) (h0 : J 0 δ S) (hN : ∀ δ S, J ds.length δ S → N δ S) (step : ∀ k (hk : k < ds.length) δ S, J k δ S → OnS (g ds[k] δ S) fun z => WpS (body z.1 z.2) (J (k + 1)) R) : WpS (forGo g body ds δ S) N R := by
  refine wps_forGo (fun r δ S => ∃ k, k ≤ ds.length ∧ r = ds.drop k ∧ J k δ S) (fun δ S ⟨k, h1, h2, h3⟩ => ?hn) (fun d r δ S ⟨k, h1, h2, h3⟩ => ?hs) ds δ S ⟨0, Nat.zero_le _, rfl, h0⟩
  case hn =>
    have e : k = ds.length := by
      have := congrArg List.length h2
      simp at this
      omega
    subst e
    exact hN δ S h3
  case hs =>
    by_cases hk : k < ds.length
    · rw [List.drop_eq_getElem_cons hk] at h2
      have e1 := (List.cons.inj h2).1
      have e2 := (List.cons.inj h2).2
      subst e1 e2
      have z := step k hk δ S h3
      cases e : g ds[k] δ S with
      | none => rw [e] at z; exact z
      | some q =>
        rw [e] at z
        exact WpS.mono z (fun δ' S' j => ⟨k + 1, hk, rfl, j⟩) fun _ _ q => q
    · rw [List.drop_eq_nil_of_le (by omega)] at h2
      cases h2
/-- .. over a list of the store that stays -/
theorem wps_forLIx {n : Nat} {g : TGm} {body : SM} (J : Nat → En → Sto → Prop) (ds : List Dv) (hl : ds.length < lim) (hS : ∀ k δ S, J k δ S → S[n]? = some (.lst ds)) (h0 : J 0 δ S) (hN : ∀ δ S, J ds.length δ S → N δ S) (step : ∀ k (hk : k < ds.length) δ S, J k δ S → OnS (g ds[k] δ S) fun z => WpS (body z.1 z.2) (J (k + 1)) R) :
    WpS (forE g body (.loc n) δ S) N R := by
  show WpS (forLGo n g body lim 0 δ S) N R
  refine wps_forL (fun r δ S => ∃ k, k ≤ ds.length ∧ r = ds.drop k ∧ J k δ S) ds (fun r δ S ⟨k, _, _, h⟩ => hS k δ S h) (fun δ S ⟨k, h1, h2, h3⟩ => ?hn) (fun d r δ S ⟨k, h1, h2, h3⟩ => ?hs) lim 0 δ S (by omega) (Nat.zero_le _) ⟨0, Nat.zero_le _, rfl, h0⟩
  case hn =>
    have e : k = ds.length := by
      have := congrArg List.length h2
      simp at this
      omega
    subst e
    exact hN δ S h3
  case hs =>
    by_cases hk : k < ds.length
    · rw [List.drop_eq_getElem_cons hk] at h2
      have e1 := (List.cons.inj h2).1
      have e2 := (List.cons.inj h2).2
      subst e1 e2
      have z := step k hk δ S h3
      cases e : g ds[k] δ S with
      | none => rw [e] at z; exact z
      | some q =>
        rw [e] at z
        exact WpS.mono z (fun δ' S' j => ⟨k + 1, hk, rfl, j⟩) fun _ _ q => q
    · rw [List.drop_eq_nil_of_le (by omega)] at h2
      cases h2
/-- a comprehension by the number of the turn -/
theorem wp_lcIx {g : TGm} {t : EB} {e : EX} (J : Nat → List Dv → Sto → Prop) (ds : List Dv) (hl : ds.length ≤ lim) (h0 : J 0 [] S) (hP : ∀ ys S, J ds.length ys S → P (.lst ys) S) (step : ∀ k (hk : k < ds.length) acc S, J k acc S → OnS (g ds[k] δ S) fun z => Wp (t z.1 z.2) fun b S2 => if b = true then Wp (e z.1 S2) fun y S3 => J (k + 1) (acc ++ [y]) S3 else J (k + 1) acc S2) :
    Wp (lcEnd g t e δ ds S) P := by
  rw [wp_lcEnd hl]
  refine (wp_lcGo (fun r acc S => ∃ k, k ≤ ds.length ∧ r = ds.drop k ∧ J k acc S) (fun d r acc S ⟨k, h1, h2, h3⟩ => ?_) ds [] S ⟨0, Nat.zero_le _, rfl, h0⟩).mono fun ys S' ⟨k, h1, h2, h3⟩ => ?_
  · by_cases hk : k < ds.length
    · rw [List.drop_eq_getElem_cons hk] at h2
      have e1 := (List.cons.inj h2).1
      have e2 := (List.cons.inj h2).2
      subst e1 e2
      have z := step k hk acc S h3
      cases e : g ds[k] δ S with
      | none => rw [e] at z; exact z
      | some q =>
        rw [e] at z
        refine Wp.mono z fun b S2 z2 => ?_
        cases b with
        | false => exact ⟨k + 1, hk, rfl, z2⟩
        | true => exact Wp.mono z2 fun y S3 z3 => ⟨k + 1, hk, rfl, z3⟩
    · rw [List.drop_eq_nil_of_le (by omega)] at h2
      cases h2
  · have e : k = ds.length := by
      have := congrArg List.length h2
      simp at this
      omega
    subst e
    exact hP ys S' h3
@[simp] theorem get_last {o : Ob} : (S ++ [o])[S.length]? = some o := by simp
@[simp] theorem set_last {o o' : Ob} : (S ++ [o]).set S.length o' = S ++ [o'] := by simp
theorem mRange1_nat {n : Nat} (h : n ≤ lim) : mRange1 [.int (n : Int)] S = .ok ((List.range n).map fun i => .int (i : Nat)) S := by
  show (if -(lim : Int) ≤ (n : Int) ∧ (n : Int) ≤ lim then M.pure _ else mBad) S = _
  rw [if_pos ⟨by omega, by omega⟩]
  rfl
theorem mRange2_nat {a n : Nat} (h : a + n ≤ lim) {j : Int} (hj : j = ((a + n : Nat) : Int)) : mRange2 [.int (a : Int), .int j] S = .ok ((List.range n).map fun i => .int ((a : Int) + (i : Nat))) S := by
  subst hj
  show (if -(lim : Int) ≤ (a : Int) ∧ (a : Int) ≤ lim ∧ -(lim : Int) ≤ ((a + n : Nat) : Int) ∧ ((a + n : Nat) : Int) ≤ lim then M.pure _ else mBad) S = _
  rw [if_pos ⟨by omega, by omega, by omega, by omega⟩]
  have e : (((a + n : Nat) : Int) - (a : Int)).toNat = n := by omega
  rw [e]
  rfl
theorem blsOf_map : ∀ bs : List Bool, blsOf (bs.map Dv.bl) = some bs
  | [] => rfl
  | b :: bs => by
    show (blsOf (bs.map Dv.bl)).map (b :: ·) = _
    rw [blsOf_map bs]
    rfl
theorem mAll_lst {bs : List Bool} : mAll [.lst (bs.map Dv.bl)] S = .ok (.bl (bs.all id)) S := by
  show (match blsOf (bs.map Dv.bl) with | some bs => Res.ok (Dv.bl (bs.all id)) S | none => .bad) = _
  rw [blsOf_map]
theorem mAll_map {ι : Type} {xs : List ι} {p : ι → Bool} : mAll [.lst (xs.map fun x => Dv.bl (p x))] S = .ok (.bl (xs.all p)) S := by
  have := mAll_lst (S := S) (bs := xs.map p)
  simpa [List.map_map, Function.comp_def] using this
end
end Mi
end T_Pl
section T_P11a
set_option Elab.async false
set_option linter.all false
set_option maxRecDepth 100000
set_option maxHeartbeats 1000000
/-! P11a: words, draws, reprs: my lemmas of k35, over k11's mirrors. -/
namespace Mi
open PySem L2
section
variable {δ : En} {S : Sto} {N : En → Sto → Prop} {R : Dv → Sto → Prop} {P : Dv → Sto → Prop}
theorem set_then {i : Nat} {e : EX} {b : SM} (Q : Dv → Sto → Prop) (h : Wp (e δ S) Q) (k : ∀ d S', Q d S' → WpS (b (δ.set i (some d)) S') N R) : WpS (sSeq (sSet i e) b δ S) N R := by
  rw [wps_seq, wps_set]
  exact h.mono k
theorem expr_then {e : EX} {b : SM} (Q : Sto → Prop) (h : Wp (e δ S) fun _ S' => Q S') (k : ∀ S', Q S' → WpS (b δ S') N R) : WpS (sSeq (sExpr e) b δ S) N R := by
  rw [wps_seq, wps_expr]
  exact h.mono fun _ S' q => k S' q
theorem seq_then {a b : SM} (Q : En → Sto → Prop) (h : WpS (a δ S) Q R) (k : ∀ δ S', Q δ S' → WpS (b δ S') N R) : WpS (sSeq a b δ S) N R := by
  rw [wps_seq]
  exact h.mono k fun _ _ q => q
end
abbrev Wst := Str × Int
def sD (s : Wst) : Dv := .tup [.str s.1, .int s.2]
def wD (w : List Wst) : Dv := .tup (w.map sD)
def inv1 (s : Wst) : Wst := (s.1, -s.2)
def inv (w : List Wst) : List Wst := w.reverse.map inv1
theorem istep_ok (s : Wst) (S : Sto) : m_inverse_step [sD s] S = .ok (sD (inv1 s)) S := rfl
def isLt (c : Nat) : Bool := decide (97 ≤ c) && decide (c ≤ 122)
def GoodL (x : Str) : Prop := 1 ≤ x.length ∧ x.length ≤ 8 ∧ ∀ c ∈ x.cps.toList, isLt c = true
def GoodS (s : Wst) : Prop := GoodL s.1 ∧ (s.2 = 1 ∨ s.2 = -1)
def GoodW (w : List Wst) : Prop := ∀ s ∈ w, GoodS s
theorem letter_in : ∀ c, isLt c = true → (!(Builtin.Str.occurrences "abcdefghijklmnopqrstuvwxyz" ⟨#[c]⟩ 0 (Str.length "abcdefghijklmnopqrstuvwxyz") 1).isEmpty) = true := by
  intro c h
  obtain ⟨h1, h2⟩ := Bool.and_eq_true_iff.mp h
  have h1 := of_decide_eq_true h1
  have h2 := of_decide_eq_true h2
  have key : ∀ k : Fin 26, (!(Builtin.Str.occurrences "abcdefghijklmnopqrstuvwxyz" ⟨#[97 + k.val]⟩ 0 (Str.length "abcdefghijklmnopqrstuvwxyz") 1).isEmpty) = true := by decide +kernel
  have z := key ⟨c - 97, by omega⟩
  have e : 97 + (c - 97) = c := by omega
  simpa [e] using z
theorem isint_int (i : Int) (S : Sto) : m_is_integer [.int i] S = .ok (.bl true) S := rfl
theorem isname_ok {x : Str} (h : GoodL x) (S : Sto) : m_is_name [.str x] S = .ok (.bl true) S := by
  refine fn_eq rfl ?_
  obtain ⟨h1, h2, h3⟩ := h
  have key : lcEnd (gNm 1) bYes (e2 mIn (eVar 1) (eC (.str "abcdefghijklmnopqrstuvwxyz"))) [some (.str x), none] (x.cps.toList.map fun c => .str ⟨#[c]⟩) S = .ok (.lst (x.cps.toList.map fun _ => .bl true)) S := by
    refine lcEnd_map (fun c => Dv.str ⟨#[c]⟩) _ (by have : x.cps.size = x.length := rfl; show _ ≤ 100000; simp; omega) fun c hc => ⟨rfl, ?_⟩
    show Res.ok (Dv.bl (id _)) S = _
    rw [show id (!(Builtin.Str.occurrences "abcdefghijklmnopqrstuvwxyz" ⟨#[c]⟩ 0 (Str.length "abcdefghijklmnopqrstuvwxyz") 1).isEmpty) = true from letter_in c (h3 c hc)]
  have hl : x.length ≤ lim := by show x.length ≤ 100000; omega
  simp [b_is_name, mIsi, kind, subK, mLen, hl, mLe, mCmp, M.pure, wipeD] at key ⊢
  rw [key]
  refine ⟨by omega, by omega, ?_⟩
  rw [wp_ok, mAll_map (p := fun _ => true)]
  simp
theorem isstep_ok {s : Wst} (h : GoodS s) (S : Sto) : m_is_step [sD s] S = .ok (.bl true) S := by
  refine fn_eq rfl ?_
  have e1 := isname_ok h.1 S
  have e2 := isint_int s.2 S
  simp [b_is_step, sD, mIsi, kind, subK, mLen, mNe, mEqv, deep, noDict, PyData.eqv, mIx, atI, ixN, e1, e2, mTup, lim_eq, M.pure, mIn, mInB, optAll, noDictA]
  rcases h.2 with e | e <;> simp [e]
theorem isword_ok {w : List Wst} (h : GoodW w) (hl : w.length ≤ lim) (S : Sto) : m_is_word [wD w] S = .ok (.bl true) S := by
  refine fn_eq rfl ?_
  have key : lcEnd (gNm 1) bYes (eN m_is_step (aCons (eVar 1) aNil)) [some (wD w), none] (w.map sD) S = .ok (.lst (w.map fun _ => .bl true)) S :=
    lcEnd_map sD _ hl fun s hs => by
      refine ⟨rfl, ?_⟩
      apply Wp.eq
      simp [isstep_ok (h s hs)]
  simp [b_is_word, wD, mIsi, kind, subK, wipeD, M.pure] at key ⊢
  rw [key, wp_ok, mAll_map (p := fun _ => true)]
  simp
theorem want_ok {w : List Wst} (h : GoodW w) (hl : w.length ≤ lim) (S : Sto) : m_want_word [wD w] S = .ok .non S := by
  refine fn_eq rfl ?_
  simp [b_want_word, isword_ok h hl]
theorem GoodW.inv {w : List Wst} (h : GoodW w) : GoodW (inv w) := by
  intro s hs
  obtain ⟨t, ht, rfl⟩ := List.mem_map.mp hs
  have z := h t (List.mem_reverse.mp ht)
  refine ⟨z.1, ?_⟩
  rcases z.2 with e | e
  · exact .inr (by simp [inv1, e])
  · exact .inl (by simp [inv1, e])
theorem GoodW.drop {w : List Wst} (h : GoodW w) (n : Nat) : GoodW (w.drop n) := fun s hs => h s (List.mem_of_mem_drop hs)
theorem GoodW.take {w : List Wst} (h : GoodW w) (n : Nat) : GoodW (w.take n) := fun s hs => h s (List.mem_of_mem_take hs)
theorem GoodW.app {w v : List Wst} (h : GoodW w) (k : GoodW v) : GoodW (w ++ v) := fun s hs => (List.mem_append.mp hs).elim (h s) (k s)
theorem inv_len (w : List Wst) : (inv w).length = w.length := by simp [inv]
theorem inverse_ok {w : List Wst} (hg : GoodW w) (h : w.length ≤ lim) (S : Sto) : m_inverse_of [wD w] S = .ok (wD (inv w)) S := by
  refine fn_eq rfl ?_
  have key : lcEnd (gNm 1) bYes (eN m_inverse_step (aCons (eVar 1) aNil)) [some (wD w), none] ((w.map sD).reverse) S = .ok (.lst ((inv w).map sD)) S := by
    rw [← List.map_reverse]
    refine (lcEnd_map (f := fun s => sD (inv1 s)) sD _ (by simpa using h) fun s _ => by exact ⟨rfl, rfl⟩).trans ?_
    simp [inv]
  have hw := want_ok hg h S
  simp [b_inverse_of, wD, mRev, wipeD] at key hw ⊢
  rw [hw, wp_ok, key]
  simp [mTuple, asC, asL]
def sP (s : Wst) : PyData := .tuple [.str s.1, .int s.2]
def wP (w : List Wst) : PyData := .tuple (w.map sP)
theorem optAll_map {α β : Type} {f : α → Option β} {g : α → β} : ∀ {xs : List α}, (∀ x ∈ xs, f x = some (g x)) → optAll (xs.map f) = some (xs.map g)
  | [], _ => rfl
  | x :: xs, h => by
    rw [List.map_cons, h x (by simp)]
    show (optAll (xs.map f)).map _ = _
    rw [optAll_map fun y hy => h y (List.mem_cons_of_mem _ hy)]
    rfl
theorem deep_s (s : Wst) (S : Sto) (k : Nat) : deep S (k + 2) (sD s) = some (sP s) := rfl
theorem deep_w (w : List Wst) (S : Sto) (k : Nat) : deep S (k + 3) (wD w) = some (wP w) := by
  show (optAll ((w.map sD).map (deep S (k + 2)))).map PyData.tuple = _
  rw [List.map_map, show w.map (deep S (k + 2) ∘ sD) = w.map (fun s => deep S (k + 2) (sD s)) from rfl, optAll_map (g := sP) fun s _ => deep_s s S k]
  rfl
theorem noDict_all {α : Type} {f : α → PyData} {xs : List α} (h : ∀ x ∈ xs, noDict (f x) = true) : noDictA (xs.map f) = true := by
  induction xs with
  | nil => rfl
  | cons x xs ih =>
    rw [List.map_cons]
    show (noDict (f x) && noDictA (xs.map f)) = true
    rw [h x (by simp), ih fun y hy => h y (List.mem_cons_of_mem _ hy)]
    rfl
theorem noDict_w (w : List Wst) : noDict (wP w) = true := noDict_all (f := sP) fun _ _ => rfl
theorem eqv_s (s t : Wst) : PyData.eqv (sP s) (sP t) = decide (s = t) := by
  show (s.1 == t.1 && (s.2 == t.2 && true)) = _
  rw [Bool.eq_iff_iff]
  simp [Prod.ext_iff]
theorem eqv_all {α : Type} [DecidableEq α] {f : α → PyData} (h : ∀ x y, PyData.eqv (f x) (f y) = decide (x = y)) : ∀ xs ys : List α, PyData.eqvAll (xs.map f) (ys.map f) = decide (xs = ys)
  | [], [] => rfl
  | [], _ :: _ => rfl
  | _ :: _, [] => rfl
  | x :: xs, y :: ys => by
    show (PyData.eqv (f x) (f y) && PyData.eqvAll (xs.map f) (ys.map f)) = _
    rw [h, eqv_all h xs ys, Bool.eq_iff_iff]
    simp
theorem eqv_w (a b : List Wst) : PyData.eqv (wP a) (wP b) = decide (a = b) := eqv_all eqv_s a b
theorem mEq_w (a b : List Wst) (S : Sto) : mEq (wD a) (wD b) S = .ok (.bl (decide (a = b))) S := by
  unfold mEq mEqv
  rw [deep_w a S 9, deep_w b S 9]
  simp [noDict_w, eqv_w]
theorem mNe_w (a b : List Wst) (S : Sto) : mNe (wD a) (wD b) S = .ok (.bl (!decide (a = b))) S := by
  unfold mNe mEqv
  rw [deep_w a S 9, deep_w b S 9]
  simp [noDict_w, eqv_w]
def cutW {α : Type} (w : List α) (lo hi : Option Int) : List α := List.take (HT.sIx w.length w.length hi - HT.sIx w.length 0 lo) (List.drop (HT.sIx w.length 0 lo) w)
theorem cutD_map {α : Type} (f : α → Dv) (w : List α) (lo hi : Option Int) : cutD (w.map f) lo hi = (cutW w lo hi).map f := by
  unfold cutD cutW
  rw [List.length_map, ← List.map_drop, ← List.map_take]
theorem mSl_w (w : List Wst) (lo hi : Option Int) (S : Sto) : mSl lo hi (wD w) S = .ok (wD (cutW w lo hi)) S := by
  show Res.ok (Dv.tup (cutD (w.map sD) lo hi)) S = _
  rw [cutD_map]
  rfl
theorem sIx_nat (n d k : Nat) : HT.sIx n d (some (k : Int)) = min k n := by
  unfold HT.sIx
  simp
  omega
theorem sIx_none (n d : Nat) : HT.sIx n d none = d := rfl
theorem cut_fromto {α : Type} (w : List α) (a b : Nat) : cutW w (some (a : Int)) (some (b : Int)) = (w.drop a).take (b - a) := by
  unfold cutW
  rw [sIx_nat, sIx_nat]
  by_cases ha : a ≤ w.length
  · rw [Nat.min_eq_left ha]
    by_cases hb : b ≤ w.length
    · rw [Nat.min_eq_left hb]
    · rw [Nat.min_eq_right (by omega), List.take_of_length_le (by simp), List.take_of_length_le (by simp; omega)]
  · have e1 : min a w.length = w.length := by omega
    rw [e1, List.drop_length, List.drop_eq_nil_of_le (show w.length ≤ a by omega)]
    simp
theorem cut_from {α : Type} (w : List α) (a : Nat) : cutW w (some (a : Int)) none = w.drop a := by
  unfold cutW
  rw [sIx_nat, sIx_none]
  by_cases ha : a ≤ w.length
  · rw [Nat.min_eq_left ha, List.take_of_length_le (by simp)]
  · rw [Nat.min_eq_right (by omega), List.drop_length, List.drop_eq_nil_of_le (by omega)]
    simp
theorem cut_to {α : Type} (w : List α) (b : Nat) : cutW w none (some (b : Int)) = w.take b := by
  unfold cutW
  rw [sIx_nat, sIx_none]
  simp
theorem mMul_small {i j : Int} {S : Sto} (h : i.natAbs < 2 ^ 64) : mMul (.int i) (.int j) S = .ok (.int (i * j)) S := by
  show (if i.natAbs < 2 ^ 64 ∨ j.natAbs < 2 ^ 64 then Res.ok (Dv.int (i * j)) S else .bad) = _
  rw [if_pos (.inl h)]
theorem mSl_ft (w : List Wst) {i j : Int} {a b : Nat} (hi : i = a) (hj : j = b) (S : Sto) : mSl (some i) (some j) (wD w) S = .ok (wD ((w.drop a).take (b - a))) S := by
  rw [mSl_w, hi, hj, cut_fromto]
theorem mSl_f (w : List Wst) {i : Int} {a : Nat} (hi : i = a) (S : Sto) : mSl (some i) none (wD w) S = .ok (wD (w.drop a)) S := by
  rw [mSl_w, hi, cut_from]
theorem mSl_t (w : List Wst) {i : Int} {a : Nat} (hi : i = a) (S : Sto) : mSl none (some i) (wD w) S = .ok (wD (w.take a)) S := by
  rw [mSl_w, hi, cut_to]
theorem mAdd_int (i j : Int) (S : Sto) : mAdd (.int i) (.int j) S = .ok (.int (i + j)) S := rfl
theorem mAdd_w {a b : List Wst} (h : a.length + b.length ≤ lim) (S : Sto) : mAdd (wD a) (wD b) S = .ok (wD (a ++ b)) S := by
  show (if (a.map sD).length + (b.map sD).length ≤ lim then Res.ok (Dv.tup (a.map sD ++ b.map sD)) S else .bad) = _
  rw [if_pos (by simpa using h)]
  simp [wD]
theorem mLen_w (w : List Wst) (S : Sto) : mLen [wD w] S = .ok (.int w.length) S := by simp [mLen, wD]
theorem mEq_int (i j : Int) (S : Sto) : mEq (.int i) (.int j) S = .ok (.bl (decide (i = j))) S := by
  show Res.ok (Dv.bl (id (i == j))) S = _
  by_cases h : i = j <;> simp [h]
theorem mNe_int (i j : Int) (S : Sto) : mNe (.int i) (.int j) S = .ok (.bl (!decide (i = j))) S := by
  show Res.ok (Dv.bl (not (i == j))) S = _
  by_cases h : i = j <;> simp [h]
def Pt (S : Sto) (p : Nat) : Prop := ∃ a b : Int, S[p]? = some (.lst [.int a, .int b]) ∧ 0 ≤ a ∧ 0 ≤ b
structure Fr (p : Nat) (S S' : Sto) : Prop where
  len : S.length ≤ S'.length
  get : ∀ i, i < S.length → i ≠ p → S'[i]? = S[i]?
  pt : Pt S' p
theorem Pt.lt {S : Sto} {p : Nat} (h : Pt S p) : p < S.length := by
  obtain ⟨a, b, e, _⟩ := h
  exact (List.getElem?_eq_some_iff.mp e).1
theorem Fr.refl {p : Nat} {S : Sto} (h : Pt S p) : Fr p S S := ⟨Nat.le_refl _, fun _ _ _ => rfl, h⟩
theorem Fr.trans {p : Nat} {S S1 S2 : Sto} (a : Fr p S S1) (b : Fr p S1 S2) : Fr p S S2 :=
  ⟨Nat.le_trans a.len b.len, fun i h n => (b.get i (Nat.lt_of_lt_of_le h a.len) n).trans (a.get i h n), b.pt⟩
theorem Fr.new {p : Nat} {S S1 : Sto} {T : List Ob} (a : Fr p S S1) : Fr p S (S1 ++ T) := by
  refine a.trans ⟨by simp, fun i h n => List.getElem?_append_left h, ?_⟩
  obtain ⟨x, y, e, h⟩ := a.pt
  exact ⟨x, y, by rw [List.getElem?_append_left (List.getElem?_eq_some_iff.mp e).1]; exact e, h⟩
theorem Fr.set {p : Nat} {S : Sto} {a b : Int} (h : Pt S p) (ha : 0 ≤ a) (hb : 0 ≤ b) : Fr p S (S.set p (.lst [.int a, .int b])) :=
  ⟨by simp, fun i _ n => List.getElem?_set_ne (Ne.symm n), ⟨a, b, List.getElem?_set_self h.lt, ha, hb⟩⟩
theorem mIx_lst {xs : List Dv} {k : Nat} (h : k < xs.length) (S : Sto) : mIx (.lst xs) (.int k) S = .ok xs[k] S := by
  have e : atI xs (k : Int) = some xs[k] := by
    unfold atI ixN
    simp [h]
  show (match atI xs (k : Int) with | some v => Res.ok v S | none => .bad) = _
  rw [e]
theorem mIx_loc {xs : List Dv} {n k : Nat} {S : Sto} (hn : S[n]? = some (.lst xs)) (h : k < xs.length) : mIx (.loc n) (.int k) S = .ok xs[k] S := by
  have e : atI xs (k : Int) = some xs[k] := by
    unfold atI ixN
    simp [h]
  show (match (match S[n]? with | some (.lst ds) => some ds | _ => none) with | some xs => (match atI xs (k : Int) with | some v => Res.ok v S | none => .bad) | none => .bad) = _
  rw [hn]
  dsimp only
  rw [e]
theorem mIx_str {x : Str} {k : Nat} (h : k < x.length) (hl : x.length ≤ lim) (S : Sto) : mIx (.str x) (.int k) S = .ok (.str ⟨#[x.cps[k]'h]⟩) S := by
  have e : atI x.cps.toList (k : Int) = some (x.cps[k]'h) := by
    have h0 : k < x.cps.size := h
    unfold atI ixN
    simp [h0]
    rfl
  show (if x.length ≤ lim then (match atI x.cps.toList (k : Int) with | some c => Res.ok (Dv.str ⟨#[c]⟩) S | none => .bad) else .bad) = _
  rw [if_pos hl, e]
theorem pot_0 {S : Sto} {p : Nat} {a b : Int} (e : S[p]? = some (.lst [.int a, .int b])) : mIx (.loc p) (.int 0) S = .ok (.int a) S := mIx_loc (k := 0) e (by simp)
theorem pot_1 {S : Sto} {p : Nat} {a b : Int} (e : S[p]? = some (.lst [.int a, .int b])) : mIx (.loc p) (.int 1) S = .ok (.int b) S := mIx_loc (k := 1) e (by simp)
theorem gIx_0 {S : Sto} {p : Nat} {a b : Int} {d : Dv} {δ : En} (hδ : δ[0]? = some (some (.loc p))) (e : S[p]? = some (.lst [.int a, .int b])) : gIx (eVar 0) (eC (.int 0)) d δ S = some (δ, S.set p (.lst [d, .int b])) := by
  simp [gIx, eVar, hδ, M.pure, eC, e, ixN]
theorem gIx_1 {S : Sto} {p : Nat} {a b : Int} {d : Dv} {δ : En} (hδ : δ[0]? = some (some (.loc p))) (e : S[p]? = some (.lst [.int a, .int b])) : gIx (eVar 0) (eC (.int 1)) d δ S = some (δ, S.set p (.lst [.int a, d])) := by
  simp [gIx, eVar, hδ, M.pure, eC, e, ixN]

theorem draw_ok {S : Sto} {p m : Nat} (h : Pt S p) (h1 : 0 < m) (h2 : m < 1000) : Wp (m_Ldraw [.loc p, .int m] S) fun d S' => ∃ k : Nat, d = .int k ∧ k < m ∧ Fr p S S' := by
  have hp := h
  obtain ⟨a, b, e, ha, hb⟩ := h
  refine fn_wp rfl ?_
  have hm : (0 : Int) < m := by omega
  have hm2 : (m : Int) < 1073741824 := by omega
  have i0 := pot_0 e
  have i1 := pot_1 e
  by_cases hz : 0 < a
  · have q : a / (m : Int) ≥ 0 := Int.ediv_nonneg ha (by omega)
    have q1 : a % (m : Int) ≥ 0 := Int.emod_nonneg _ (by omega)
    have q2 : a % (m : Int) < m := Int.emod_lt_of_pos _ hm
    have dm : mDivmod [.int a, .int m] S = .ok (.tup [.int (a / m), .int (a % m)]) S := by
      show (if (0 : Int) < m ∧ (m : Int) < 1073741824 then M.pure _ else mBad) S = _
      rw [if_pos ⟨hm, hm2⟩]
      rfl
    have g0 := gIx_0 (d := .int (a / m)) (δ := [some (.loc p), some (.int m), none]) rfl e
    simp [b_Ldraw, i0, mGt, mCmp, M.pure, hz, dm, gTp, gAll, g0, gNm]
    exact ⟨(a % (m : Int)).toNat, by omega, by omega, Fr.set hp q hb⟩
  · have a0 : ¬ 0 < a := hz
    have hb2 : 0 ≤ (b * 48271 + 12043) % 2147483587 := Int.emod_nonneg _ (by decide)
    have hb3 : (b * 48271 + 12043) % 2147483587 < 2147483587 := Int.emod_lt_of_pos _ (by decide)
    have mm : ∀ S1, mMul (.int b) (.int 48271) S1 = .ok (.int (b * 48271)) S1 := fun S1 => by
      show (if b.natAbs < 2 ^ 64 ∨ (48271 : Int).natAbs < 2 ^ 64 then Res.ok (Dv.int (b * 48271)) S1 else .bad) = _
      rw [if_pos (.inr (by decide))]
    generalize hc : (b * 48271 + 12043) % 2147483587 = c at hb2 hb3
    have mc : ∀ S1, mMul (.int c) (.int c) S1 = .ok (.int (c * c)) S1 := fun S1 => mMul_small (by omega)
    have q1 : (c * c % 2147483549 / 13) % (m : Int) ≥ 0 := Int.emod_nonneg _ (by omega)
    have q2 : (c * c % 2147483549 / 13) % (m : Int) < m := Int.emod_lt_of_pos _ hm
    have e' : (S.set p (.lst [.int a, .int c]))[p]? = some (.lst [.int a, .int c]) := List.getElem?_set_self hp.lt
    have j1 := pot_1 e'
    have g1 := gIx_1 (d := .int c) (δ := [some (.loc p), some (.int m), none]) rfl e
    simp [b_Ldraw, i0, i1, mGt, mCmp, M.pure, a0, mm, mAdd_int, mInt, mMod, hc, g1, j1, mc, mFdiv, h1]
    exact ⟨((c * c % 2147483549 / 13) % (m : Int)).toNat, by omega, by omega, Fr.set hp ha hb2⟩
theorem pick_ok {S : Sto} {p n : Nat} {d : Dv} {R : Dv → Prop} (h : Pt S p) (h1 : 0 < n) (h2 : n < 1000) (hl : mLen [d] S = .ok (.int n) S) (hx : ∀ S' (k : Nat), Fr p S S' → k < n → ∃ v, mIx d (.int k) S' = .ok v S' ∧ R v) : Wp (m_Lpick [.loc p, d] S) fun v S' => R v ∧ Fr p S S' := by
  refine fn_wp rfl ?_
  simp [b_Lpick, hl]
  refine (draw_ok h h1 h2).mono fun dd S' ⟨k, e1, e2, f⟩ => ?_
  subst e1
  obtain ⟨v, e3, r⟩ := hx S' k f e2
  rw [e3]
  exact ⟨r, f⟩
def lettersS : Str := "abcdefghijklmnopqrstuvwxyz"
theorem letters_at : ∀ k : Fin 26, isLt ((lettersS.cps[k.val]?).getD 0) = true := by decide +kernel
theorem letters_len : lettersS.length = 26 := by decide +kernel
def OneL (x : Str) : Prop := ∃ c, x = ⟨#[c]⟩ ∧ isLt c = true
def LtsL (x : Str) : Prop := ∀ c ∈ x.cps.toList, isLt c = true
theorem lts_app {x y : Str} (hx : LtsL x) (hy : LtsL y) : LtsL (x ++ y) := fun c hc => by
  have e : (x ++ y).cps = x.cps ++ y.cps := rfl
  rw [e, Array.toList_append] at hc
  exact (List.mem_append.mp hc).elim (hx c) (hy c)
theorem len_app (x y : Str) : (x ++ y).length = x.length + y.length := by
  show (x.cps ++ y.cps).size = _
  simp
  rfl
theorem one_len {x : Str} (h : OneL x) : x.length = 1 ∧ LtsL x := by
  obtain ⟨c, rfl, hc⟩ := h
  exact ⟨rfl, fun d hd => by simp at hd; rw [hd]; exact hc⟩
theorem lts_emp : LtsL (Str.ofString "") := fun c hc => by
  have e : (Str.ofString "").cps.toList = [] := by decide +kernel
  rw [e] at hc
  cases hc
theorem join_ones : ∀ {xs : List Str}, (∀ x ∈ xs, OneL x) → (Str.join "" xs).length = xs.length ∧ LtsL (Str.join "" xs)
  | [], _ => ⟨rfl, fun c hc => by simp [Str.join, Str.empty] at hc⟩
  | [x], h => one_len (h x (by simp))
  | x :: y :: r, h => by
    obtain ⟨a1, a2⟩ := one_len (h x (by simp))
    obtain ⟨b1, b2⟩ := join_ones (xs := y :: r) fun z hz => h z (List.mem_cons_of_mem _ hz)
    have e : Str.join "" (x :: y :: r) = x ++ "" ++ Str.join "" (y :: r) := rfl
    rw [e]
    refine ⟨?_, lts_app (lts_app a2 lts_emp) b2⟩
    rw [len_app, len_app, a1, b1]
    have : (Str.ofString "").length = 0 := by decide +kernel
    rw [this]
    simp
    omega
theorem deep_strs (xs : List Str) (S : Sto) (k : Nat) : optAll ((xs.map Dv.str).map (deep S (k + 1))) = some (xs.map PyData.str) := by
  rw [List.map_map]
  exact optAll_map (f := fun x => deep S (k + 1) (Dv.str x)) fun x _ => rfl
theorem any_str (x : Str) (xs : List Str) : ((xs.map PyData.str).any fun z => PyData.eqv z (.str x)) = decide (x ∈ xs) := by
  rw [Bool.eq_iff_iff, decide_eq_true_eq, List.any_eq_true]
  constructor
  · rintro ⟨z, hz, h⟩
    obtain ⟨y, hy, rfl⟩ := List.mem_map.mp hz
    have e : y = x := eq_of_beq (show (y == x) = true from h)
    rw [← e]; exact hy
  · intro h
    exact ⟨.str x, List.mem_map.mpr ⟨x, h, rfl⟩, beq_self_eq_true x⟩
theorem mNotIn_loc {S : Sto} {n : Nat} {x : Str} {xs : List Str} (h : S[n]? = some (.lst (xs.map Dv.str))) : mNotIn (.str x) (.loc n) S = .ok (.bl (!decide (x ∈ xs))) S := by
  have e : deep S dpt (.loc n) = some (.list (xs.map PyData.str)) := by
    show (match S[n]? with | some (.lst xs) => (optAll (xs.map (deep S 11))).map PyData.list | _ => none) = _
    rw [h]
    dsimp only
    rw [deep_strs xs S 10]
    rfl
  show (match deep S dpt (.str x), deep S dpt (.loc n) with
    | some p, some (.list ps) => if noDict p && noDictA ps then Res.ok (Dv.bl (not (ps.any fun z => PyData.eqv z p))) S else .bad
    | some p, some (.tuple ps) => if noDict p && noDictA ps then Res.ok (Dv.bl (not (ps.any fun z => PyData.eqv z p))) S else .bad
    | _, _ => .bad) = _
  rw [e]
  show (if noDict (.str x) && noDictA (xs.map PyData.str) then Res.ok (Dv.bl (not ((xs.map PyData.str).any fun z => PyData.eqv z (.str x)))) S else .bad) = _
  rw [noDict_all (f := PyData.str) (fun _ _ => rfl), any_str]
  rfl
theorem mAdd_str {x y : Str} (h : x.length + y.length ≤ lim) (S : Sto) : mAdd (.str x) (.str y) S = .ok (.str (x ++ y)) S := by
  show (if x.length + y.length ≤ lim then Res.ok (Dv.str (x ++ y)) S else .bad) = _
  rw [if_pos h]
theorem mSl_str {x : Str} (h : x.length ≤ lim) (lo hi : Option Int) (S : Sto) : mSl lo hi (.str x) S = .ok (.str (cutS x lo hi)) S := by
  show (if x.length ≤ lim then Res.ok (Dv.str (cutS x lo hi)) S else .bad) = _
  rw [if_pos h]
theorem Fr.keep {p n : Nat} {S S' : Sto} {o : Ob} (f : Fr p S S') (h : S[n]? = some o) (hn : n ≠ p) : S'[n]? = some o := by
  rw [f.get n (List.getElem?_eq_some_iff.mp h).1 hn]
  exact h
theorem Fr.put {p n : Nat} {S S' : Sto} {o : Ob} (f : Fr p S S') (hn : n ≠ p) (h : S.length ≤ n) : Fr p S (S'.set n o) := by
  refine ⟨by simpa using f.len, fun i hi hp => ?_, ?_⟩
  · rw [List.getElem?_set_ne (by omega)]
    exact f.get i hi hp
  · obtain ⟨a, b, e, q⟩ := f.pt
    exact ⟨a, b, by rw [List.getElem?_set_ne hn]; exact e, q⟩
theorem mNewL_ok (ds : List Dv) (S : Sto) (h : ds.length ≤ lim) : mNewL ds S = .ok (.loc S.length) (S ++ [.lst ds]) := by
  show (if ds.length ≤ lim then Res.ok (Dv.loc S.length) (S ++ [Ob.lst ds]) else .bad) = _
  rw [if_pos h]
theorem mLst_ok (ds : List Dv) (S : Sto) (h : ds.length ≤ lim) : mLst ds S = .ok (.lst ds) S := by
  show (if ds.length ≤ lim then M.pure (Dv.lst ds) else mBad) S = _
  rw [if_pos h]
  rfl
theorem mTup_ok (ds : List Dv) (S : Sto) (h : ds.length ≤ lim) : mTup ds S = .ok (.tup ds) S := by
  show (if ds.length ≤ lim then M.pure (Dv.tup ds) else mBad) S = _
  rw [if_pos h]
  rfl
theorem mAppend_ok {S : Sto} {n : Nat} {xs : List Dv} {d : Dv} (h : S[n]? = some (.lst xs)) (hl : xs.length < lim) : mAppend (.loc n) [d] S = .ok .non (S.set n (.lst (xs ++ [d]))) := by
  show (match S[n]? with | some (.lst xs) => if xs.length < lim then Res.ok Dv.non (S.set n (.lst (xs ++ [d]))) else .bad | _ => .bad) = _
  rw [h]
  dsimp only
  rw [if_pos hl]
theorem kind_loc {S : Sto} {n : Nat} {xs : List Dv} (h : S[n]? = some (.lst xs)) : kind S (.loc n) = some "list" := by
  show (match S[n]? with | some (.lst _) => some "list" | some (.dK _) => some "dict" | some (.dT _) => some "dict" | some (.ins _ _) => none | none => none) = _
  rw [h]
theorem mLen_con (xs : List Dv) (S : Sto) : mLen [.con xs] S = .ok (.int xs.length) S := rfl
theorem mIx_con {xs : List Dv} {k : Nat} (h : k < xs.length) (S : Sto) : mIx (.con xs) (.int k) S = .ok xs[k] S := by
  have e : atI xs (k : Int) = some xs[k] := by
    unfold atI ixN
    simp [h]
  show (match atI xs (k : Int) with | some v => Res.ok v S | none => .bad) = _
  rw [e]
structure Sh (p : PyData) (n : Nat) : Prop where
  s : p.showable = true
  l : p.leavesShort 400 = true
  b : p.bulk ≤ n
theorem mRepr_ok {S : Sto} {d : Dv} {p : PyData} {n : Nat} (h : deep S dpt d = some p) (q : Sh p n) (hn : n ≤ 30000) : mRepr [d] S = .ok (.str p.shown) S := by
  show (match deep S dpt d with
    | some p => if p.showable && p.leavesShort 400 && decide (p.bulk ≤ 30000) then Res.ok (Dv.str p.shown) S else .bad
    | none => .bad) = _
  rw [h]
  dsimp only
  rw [q.s, q.l, decide_eq_true (Nat.le_trans q.b hn)]
  rfl
theorem sh_int {i : Int} (h0 : 0 ≤ i) (h1 : i < 1000) : Sh (.int i) 0 := by
  refine ⟨?_, ?_, Nat.le_refl _⟩
  · show decide (i.natAbs.log2 < 1920) = true
    rw [decide_eq_true_iff]
    by_cases hz : i.natAbs = 0
    · rw [hz]; decide
    · rw [Nat.log2_lt hz]
      exact Nat.lt_of_lt_of_le (show i.natAbs < 2 ^ 10 by omega) (Nat.pow_le_pow_right (by omega) (by omega))
  · show decide ((PyData.shown (.int i)).length ≤ 400) = true
    rw [decide_eq_true_iff]
    have := PyProof.Rows.toString_length_le (v := i) (k := 3) h0 (by decide) (by omega)
    exact Nat.le_trans this (by omega)
theorem sh_m1 : Sh (.int (-1)) 0 := ⟨by decide, by decide, Nat.le_refl _⟩
theorem sh_str {x : Str} (h : GoodL x) : Sh (.str x) 8 := by
  refine ⟨rfl, ?_, h.2.1⟩
  show (x.cps.toList.all fun c => decide (c < 16 ^ 8)) = true
  rw [List.all_eq_true]
  intro c hc
  have := h.2.2 c hc
  rw [decide_eq_true_iff]
  unfold isLt at this
  simp at this
  omega
theorem sh_all {α : Type} {f : α → PyData} {n : Nat} : ∀ {xs : List α}, (∀ x ∈ xs, Sh (f x) n) → PyData.showableAll (xs.map f) = true ∧ PyData.leavesShortAll 400 (xs.map f) = true ∧ PyData.bulkAll (xs.map f) ≤ xs.length * (n + 1)
  | [], _ => ⟨rfl, rfl, Nat.zero_le _⟩
  | x :: xs, h => by
    obtain ⟨a, b, c⟩ := sh_all (f := f) fun y hy => h y (List.mem_cons_of_mem _ hy)
    have z := h x (by simp)
    refine ⟨?_, ?_, ?_⟩
    · show ((f x).showable && PyData.showableAll (xs.map f)) = true
      rw [z.s, a]; rfl
    · show ((f x).leavesShort 400 && PyData.leavesShortAll 400 (xs.map f)) = true
      rw [z.l, b]; rfl
    · show (f x).bulk + 1 + PyData.bulkAll (xs.map f) ≤ (xs.length + 1) * (n + 1)
      have := z.b
      rw [Nat.add_mul]
      omega
theorem sh_tup {α : Type} {f : α → PyData} {n : Nat} {xs : List α} (h : ∀ x ∈ xs, Sh (f x) n) : Sh (.tuple (xs.map f)) (xs.length * (n + 1)) := ⟨(sh_all h).1, (sh_all h).2.1, (sh_all h).2.2⟩
theorem sh_lst {α : Type} {f : α → PyData} {n : Nat} {xs : List α} (h : ∀ x ∈ xs, Sh (f x) n) : Sh (.list (xs.map f)) (xs.length * (n + 1)) := ⟨(sh_all h).1, (sh_all h).2.1, (sh_all h).2.2⟩
theorem Sh.up {p : PyData} {n m : Nat} (h : Sh p n) (k : n ≤ m) : Sh p m := ⟨h.s, h.l, Nat.le_trans h.b k⟩
theorem sh_two {p q : PyData} {n : Nat} (h : Sh p n) (k : Sh q n) : Sh (.tuple [p, q]) (2 * (n + 1)) := by
  have := sh_tup (f := id) (xs := [p, q]) (n := n) (fun x hx => by
    rcases List.mem_cons.mp hx with rfl | hx
    · exact h
    · rw [List.mem_singleton.mp hx]; exact k)
  simpa using this
theorem sh_s {s : Wst} (h : GoodS s) : Sh (sP s) 18 := by
  refine sh_two (n := 8) (sh_str h.1) ?_
  rcases h.2 with e | e
  · rw [e]; exact (sh_int (by decide) (by decide)).up (by decide)
  · rw [e]; exact sh_m1.up (by decide)
theorem sh_w {w : List Wst} (h : GoodW w) : Sh (wP w) (w.length * 19) := sh_tup (f := sP) (n := 18) fun s hs => sh_s (h s hs)
theorem repr_w {w : List Wst} (h : GoodW w) (hl : w.length < 100) (S : Sto) : mRepr [wD w] S = .ok (.str (wP w).shown) S := mRepr_ok (deep_w w S 9) (sh_w h) (by omega)
theorem inv1_inv1 (s : Wst) : inv1 (inv1 s) = s := by simp [inv1]
theorem inv_inv (w : List Wst) : inv (inv w) = w := by
  unfold inv
  rw [← List.map_reverse, List.reverse_reverse, List.map_map]
  conv => rhs; rw [← List.map_id w]
  congr 1
  funext s
  exact inv1_inv1 s
theorem inv_app (a b : List Wst) : inv (a ++ b) = inv b ++ inv a := by simp [inv]

end Mi
end T_P11a
section T_P11b
set_option Elab.async false
set_option linter.all false
set_option maxRecDepth 100000
set_option maxHeartbeats 1000000
/-! P11b: k11: labels, words. -/
namespace Mi
open PySem L2
theorem one_of {k : Nat} (h : k < 26) : OneL ⟨#[lettersS.cps[k]'(by show k < lettersS.cps.size; have : lettersS.cps.size = 26 := letters_len; omega)]⟩ := by
  have z := letters_at ⟨k, h⟩
  refine ⟨_, rfl, ?_⟩
  have hk : k < lettersS.cps.size := by have : lettersS.cps.size = 26 := letters_len; omega
  simpa [hk] using z
theorem draw3 {S : Sto} {p : Nat} (h : Pt S p) {δ : En} (d0 : δ[0]? = some (some (.loc p))) (m : Nat) (h1 : 0 < m) (h2 : m < 1000) {j : Int} (hj : j = (m : Int)) : Wp (eN m_Ldraw (aCons (eVar 0) (aCons (eC (.int j)) aNil)) δ S) fun d S' => ∃ k : Nat, d = .int k ∧ k < m ∧ Fr p S S' := by
  subst hj
  rw [wp_eN, wp_cons, wp_var d0, wp_cons, wp_c, wp_nil]
  exact draw_ok h h1 h2
/-- a spelling of s signs -/
theorem spelt_ok {S : Sto} {p s : Nat} (h : Pt S p) (h1 : 1 ≤ s) (h2 : s ≤ 8) {δ : En} (d0 : δ[0]? = some (some (.loc p))) (d3 : δ[3]? = some (some (.int (s : Int)))) (hl : δ.length = 6) :
    Wp (eJoin (eC (.str "")) (eLc (iRange1 (aCons (eVar 3) aNil)) (gNm 5) bYes (e2 mIx (eC (.str "abcdefghijklmnopqrstuvwxyz")) (eN m_Ldraw (aCons (eVar 0) (aCons (eC (.int 26)) aNil)))) [5]) δ S) fun v S' => ∃ x, v = .str x ∧ GoodL x ∧ Fr p S S' := by
  rw [wp_join, wp_c, isS_str, wp_lc, wp_range1, wp_cons, wp_var d3, wp_nil, mRange1_nat (by rw [lim_eq]; omega), wp_ok]
  refine wp_lcIx (fun i acc S' => ∃ xs : List Str, acc = xs.map Dv.str ∧ xs.length = i ∧ (∀ x ∈ xs, OneL x) ∧ Fr p S S') _ (by simp [lim_eq]; omega) ⟨[], rfl, rfl, fun _ z => (nomatch z), Fr.refl h⟩ ?_ ?_
  · rintro _ S' ⟨xs, rfl, hx, ho, f⟩
    obtain ⟨j1, j2⟩ := join_ones ho
    have hs : xs.length = s := by simpa using hx
    have sum : (xs.map fun y : Str => y.length).sum = xs.length := by
      clear hx hs j1 j2
      induction xs with
      | nil => rfl
      | cons x xs ih =>
        have := (one_len (ho x (by simp))).1
        simp [this, ih fun y hy => ho y (List.mem_cons_of_mem _ hy)]
        omega
    rw [mJoin_lst (by
      have e0 : (Str.length (Str.ofString "")) = 0 := by decide +kernel
      rw [sum, e0, lim_eq]
      omega), wp_ok]
    exact ⟨_, rfl, ⟨by omega, by omega, j2⟩, f⟩
  · rintro k hk acc S' ⟨xs, rfl, hx, ho, f⟩
    unfold gNm
    rw [onS_some]
    dsimp only
    rw [show ∀ δ, bYes δ S' = .ok true S' from fun _ => rfl, wp_ok, if_pos rfl, wp_e2, wp_c]
    refine (draw3 f.pt (by
      rw [List.getElem?_set_ne (by decide)]
      show (List.set δ 5 none)[0]? = _
      rw [List.getElem?_set_ne (by decide)]
      exact d0) 26 (by decide) (by decide) rfl).mono ?_
    rintro _ S2 ⟨j, rfl, hj, f2⟩
    have hj2 : j < lettersS.length := by rw [letters_len]; exact hj
    rw [show mIx (.str "abcdefghijklmnopqrstuvwxyz") (.int (j : Int)) S2 = _ from mIx_str (x := lettersS) hj2 (by rw [letters_len, lim_eq]; omega) S2, wp_ok]
    exact ⟨xs ++ [⟨#[lettersS.cps[j]'hj2]⟩], by simp, by simp [hx], fun y hy => (List.mem_append.mp hy).elim (ho y) fun hy => by rw [List.mem_singleton.mp hy]; exact one_of hj, f.trans f2⟩
theorem good_x : GoodL "xxx" ∧ GoodL "yyy" ∧ GoodL "zzz" := by
  refine ⟨⟨by decide +kernel, by decide +kernel, ?_⟩, ⟨by decide +kernel, by decide +kernel, ?_⟩, ⟨by decide +kernel, by decide +kernel, ?_⟩⟩ <;> decide +kernel
theorem size_ok {S : Sto} {p : Nat} (h : Pt S p) {δ : En} (d0 : δ[0]? = some (some (.loc p))) : Wp (e2 mIx (eN mLst (aCons (eC (.int 1)) (aCons (eC (.int 1)) (aCons (eC (.int 2)) (aCons (eC (.int 8)) aNil))))) (eN m_Ldraw (aCons (eVar 0) (aCons (eC (.int 4)) aNil))) δ S) fun v S' => ∃ s : Nat, v = .int (s : Int) ∧ 1 ≤ s ∧ s ≤ 8 ∧ Fr p S S' := by
  rw [wp_e2, wp_eN, wp_cons, wp_c, wp_cons, wp_c, wp_cons, wp_c, wp_cons, wp_c, wp_nil, mLst_ok _ _ (by simp [lim_eq]), wp_ok]
  refine (draw3 h d0 4 (by decide) (by decide) rfl).mono ?_
  rintro _ S2 ⟨j, rfl, hj, f⟩
  rw [mIx_lst (k := j) (by simpa using hj), wp_ok]
  match j, hj with
  | 0, _ => exact ⟨1, rfl, by decide, by decide, f⟩
  | 1, _ => exact ⟨1, rfl, by decide, by decide, f⟩
  | 2, _ => exact ⟨2, rfl, by decide, by decide, f⟩
  | 3, _ => exact ⟨8, rfl, by decide, by decide, f⟩
theorem spare_ok {k : Nat} (hk : k < 3) (S : Sto) : ∃ x, mIx (.lst [.str "xxx", .str "yyy", .str "zzz"]) (.int (k : Int)) S = .ok (.str x) S ∧ GoodL x := by
  rw [mIx_lst (k := k) (by simpa using hk)]
  match k, hk with
  | 0, _ => exact ⟨_, rfl, good_x.1⟩
  | 1, _ => exact ⟨_, rfl, good_x.2.1⟩
  | 2, _ => exact ⟨_, rfl, good_x.2.2⟩
theorem labels_ok {S : Sto} {p : Nat} (h : Pt S p) : Wp (m_Llabels [.loc p] S) fun d S' => ∃ ls : List Str, d = .loc S.length ∧ S'[S.length]? = some (.lst (ls.map Dv.str)) ∧ 1 ≤ ls.length ∧ ls.length ≤ 3 ∧ (∀ l ∈ ls, GoodL l) ∧ Fr p S S' := by
  refine fn_wp rfl ?_
  unfold b_Llabels
  refine set_then (fun d S' => d = .loc S.length ∧ S' = S ++ [.lst []]) (by
    rw [wp_eN, wp_nil, mNewL_ok _ _ (by simp [lim_eq]), wp_ok]
    exact ⟨rfl, rfl⟩) ?_
  rintro _ S1 ⟨rfl, rfl⟩
  have hp := h.lt
  have f1 : Fr p S (S ++ [.lst []]) := (Fr.refl h).new
  rw [wps_seq, wps_for, wp_range1, wp_cons, wp_e2, wp_c]
  refine (draw3 f1.pt rfl 3 (by decide) (by decide) rfl).mono ?_
  rintro _ S2 ⟨c, rfl, hc, f2⟩
  rw [mAdd_int, wp_ok, wp_nil, show ((1 : Int) + (c : Int)) = ((1 + c : Nat) : Int) by omega, mRange1_nat (by rw [lim_eq]; omega), wp_ok]
  refine wps_forIx (fun i δ S' => ∃ x2 x3 x4 x5, ∃ ls : List Str, δ = [some (.loc p), some (.loc S.length), x2, x3, x4, x5] ∧ S'[S.length]? = some (.lst (ls.map Dv.str)) ∧ ls.length = i ∧ (∀ l ∈ ls, GoodL l) ∧ Fr p S S') _
    ⟨none, none, none, none, [], rfl, f2.keep (by simp) (by omega), rfl, fun _ z => (nomatch z), f1.trans f2⟩ ?_ ?_
  · rintro δ S' ⟨x2, x3, x4, x5, ls, rfl, h1, h2, h3, f⟩
    rw [wps_ret, wp_var rfl]
    have h2 : ls.length = 1 + c := by simpa using h2
    exact ⟨ls, rfl, h1, by omega, by omega, h3, f⟩
  · rintro k hk δ S' ⟨x2, x3, x4, x5, ls, rfl, h1, h2, h3, f⟩
    have hk' : k < 1 + c := by simpa using hk
    rw [List.getElem_map, List.getElem_range]
    unfold gNm
    rw [onS_some]
    dsimp only
    refine set_then _ (size_ok f.pt rfl) ?_
    rintro _ S3 ⟨s, rfl, s1, s2, f3⟩
    refine set_then _ (spelt_ok (s := s) f3.pt s1 s2 rfl rfl rfl) ?_
    rintro _ S4 ⟨x, rfl, gx, f4⟩
    have h4 : S4[S.length]? = some (.lst (ls.map Dv.str)) := f4.keep (f3.keep h1 (by omega)) (by omega)
    rw [wps_expr, wp_mth, wp_var rfl]
    refine ⟨kind_loc h4, ?_⟩
    rw [wp_cons, wp_if, wp_bOf, wp_e2, wp_var rfl, wp_var rfl, mNotIn_loc h4, wp_ok, isB_bl]
    have fin : ∀ y : Str, ∃ S5, mAppend (.loc S.length) [.str y] S4 = .ok .non S5 ∧ S5[S.length]? = some (.lst ((ls ++ [y]).map Dv.str)) ∧ Fr p S S5 := fun y => by
      have hlen : S.length < S4.length := (List.getElem?_eq_some_iff.mp h4).1
      exact ⟨_, mAppend_ok h4 (by simp [lim_eq]; omega), by rw [List.getElem?_set_self hlen]; simp, ((f.trans f3).trans f4).put (by omega) (Nat.le_refl _)⟩
    have more : ∀ y : Str, GoodL y → ∀ l ∈ ls ++ [y], GoodL l := fun y gy l hl => (List.mem_append.mp hl).elim (h3 l) fun hl => by rw [List.mem_singleton.mp hl]; exact gy
    by_cases hx : x ∈ ls
    · rw [decide_eq_true hx, Bool.not_true, if_neg Bool.false_ne_true, wp_e2, wp_eN, wp_cons, wp_c, wp_cons, wp_c, wp_cons, wp_c, wp_nil, mLst_ok _ _ (by simp [lim_eq]), wp_ok, wp_var rfl]
      obtain ⟨y, e, gy⟩ := spare_ok (k := k) (by omega) S4
      obtain ⟨S5, e5, a5, f5⟩ := fin y
      rw [e, wp_ok, wp_nil, e5, wp_ok]
      exact ⟨_, _, _, _, ls ++ [y], rfl, a5, by simp [h2], more y gy, f5⟩
    · rw [decide_eq_false hx, Bool.not_false, if_pos rfl, wp_var rfl]
      obtain ⟨S5, e5, a5, f5⟩ := fin x
      rw [wp_nil, e5, wp_ok]
      exact ⟨_, _, _, _, ls ++ [x], rfl, a5, by simp [h2], more x gx, f5⟩
/-- the labels in the store -/
structure Lb (S : Sto) (p n : Nat) (ls : List Str) : Prop where
  pt : Pt S p
  at_ : S[n]? = some (.lst (ls.map Dv.str))
  ne : n ≠ p
  pos : 1 ≤ ls.length
  few : ls.length ≤ 3
  good : ∀ l ∈ ls, GoodL l
theorem Lb.keep {S S' : Sto} {p n : Nat} {ls : List Str} (l : Lb S p n ls) (f : Fr p S S') : Lb S' p n ls := ⟨f.pt, f.keep l.at_ l.ne, l.ne, l.pos, l.few, l.good⟩
theorem mLen_loc {S : Sto} {n : Nat} {xs : List Dv} (h : S[n]? = some (.lst xs)) : mLen [.loc n] S = .ok (.int xs.length) S := by
  show (match (match S[n]? with | some (.lst ds) => some ds | _ => none) with | some xs => Res.ok (Dv.int xs.length) S | none => .bad) = _
  rw [h]
theorem pick_label {S : Sto} {p n : Nat} {ls : List Str} (l : Lb S p n ls) : Wp (m_Lpick [.loc p, .loc n] S) fun v S' => (∃ x, v = .str x ∧ GoodL x) ∧ Fr p S S' := by
  refine pick_ok (n := ls.length) l.pt (by have := l.pos; omega) (by have := l.few; omega) (by rw [mLen_loc l.at_]; simp) fun S' k f hk => ?_
  have h' := (l.keep f).at_
  refine ⟨.str ls[k], ?_, _, rfl, l.good _ (List.getElem_mem hk)⟩
  rw [mIx_loc h' (by simpa using hk)]
  simp
theorem word_ok {S : Sto} {p n : Nat} {ls : List Str} (l : Lb S p n ls) : Wp (m_Lword [.loc p, .loc n] S) fun v S' => ∃ w, v = wD w ∧ GoodW w ∧ w.length ≤ 6 ∧ Fr p S S' := by
  refine fn_wp rfl ?_
  unfold b_Lword
  rw [wps_ret, wp_eN, wp_cons, wp_lc, wp_range1, wp_cons]
  refine (draw3 l.pt rfl 7 (by decide) (by decide) rfl).mono ?_
  rintro _ S1 ⟨c, rfl, hc, f1⟩
  rw [wp_nil, mRange1_nat (by rw [lim_eq]; omega), wp_ok]
  refine wp_lcIx (fun i acc S' => ∃ w, acc = w.map sD ∧ w.length = i ∧ GoodW w ∧ Fr p S S') _ (by simp [lim_eq]; omega) ⟨[], rfl, rfl, fun _ z => (nomatch z), f1⟩ ?_ ?_
  · rintro _ S' ⟨w, rfl, hl, hg, f⟩
    have hl : w.length = c := by simpa using hl
    rw [wp_nil]
    show Wp (.ok (Dv.tup (w.map sD)) S') _
    rw [wp_ok]
    exact ⟨w, rfl, hg, by omega, f⟩
  · rintro k hk acc S' ⟨w, rfl, hl, hg, f⟩
    unfold gNm
    rw [onS_some]
    dsimp only
    rw [show ∀ δ, bYes δ S' = .ok true S' from fun _ => rfl, wp_ok, if_pos rfl, wp_eN, wp_cons, wp_eN, wp_cons, wp_var rfl, wp_cons, wp_var rfl, wp_nil]
    refine (pick_label (l.keep f)).mono ?_
    rintro _ S2 ⟨⟨x, rfl, gx⟩, f2⟩
    rw [wp_cons, wp_e2, wp_eN, wp_cons, wp_c, wp_cons, wp_c, wp_cons, wp_e1, wp_c, show mNeg (.int 1) S2 = .ok (.int (-1)) S2 from rfl, wp_ok, wp_nil, mLst_ok _ _ (by simp [lim_eq]), wp_ok]
    refine (draw3 f2.pt rfl 3 (by decide) (by decide) rfl).mono ?_
    rintro _ S3 ⟨j, rfl, hj, f3⟩
    rw [mIx_lst (k := j) (by simpa using hj), wp_ok, wp_nil]
    have hway : ∃ i : Int, ([Dv.int 1, .int 1, .int (-1)])[j]'(by simpa using hj) = .int i ∧ (i = 1 ∨ i = -1) := by
      match j, hj with
      | 0, _ => exact ⟨1, rfl, .inl rfl⟩
      | 1, _ => exact ⟨1, rfl, .inl rfl⟩
      | 2, _ => exact ⟨-1, rfl, .inr rfl⟩
    obtain ⟨i, e, hi⟩ := hway
    rw [e, mTup_ok _ _ (by simp [lim_eq]), wp_ok]
    exact ⟨w ++ [(x, i)], by simp [sD], by simp [hl], hg.app fun s hs => by rw [List.mem_singleton.mp hs]; exact ⟨gx, hi⟩, (f.trans f2).trans f3⟩
end Mi
end T_P11b
section T_P11c
set_option Elab.async false
set_option linter.all false
set_option maxRecDepth 100000
set_option maxHeartbeats 1000000
/-! P11c: k11: words in order. -/
namespace Mi
open PySem L2
open PySem.W (alike alikeAll dataLe sortLe keyToks keyToksAll)
def kN (s : Wst) : Int := if s.2 = 1 then 0 else 1
def kSD (s : Wst) : Dv := .tup [.str s.1, .int (kN s)]
def kSP (s : Wst) : PyData := .tuple [.str s.1, .int (kN s)]
theorem stepkey_ok (s : Wst) (S : Sto) : m_step_key [sD s] S = .ok (kSD s) S := by
  refine fn_eq rfl ?_
  unfold b_step_key
  rw [wps_seq, wps_asg, wp_var rfl, show gTp [gNm 1, gNm 2] (sD s) (List.map some [sD s] ++ List.replicate (3 - 1) none) S = some ([some (sD s), some (.str s.1), some (.int s.2)], S) from rfl, onS_some]
  dsimp only
  rw [wps_ret, wp_eN, wp_cons, wp_var rfl, wp_cons, wp_if, wp_bOf, wp_e2, wp_var rfl, wp_c, mEq_int, wp_ok, isB_bl]
  by_cases h : s.2 = 1
  · rw [decide_eq_true h, if_pos rfl, wp_c, wp_nil, mTup_ok _ _ (by simp [lim_eq]), wp_ok]
    exact ⟨by simp [kSD, kN, h], rfl⟩
  · rw [decide_eq_false h, if_neg Bool.false_ne_true, wp_c, wp_nil, mTup_ok _ _ (by simp [lim_eq]), wp_ok]
    exact ⟨by simp [kSD, kN, h], rfl⟩
theorem wordkey_ok {w : List Wst} (hl : w.length ≤ lim) (S : Sto) : m_word_key [wD w] S = .ok (.tup [.int w.length, .tup (w.map kSD)]) S := by
  refine fn_eq rfl ?_
  have key : lcEnd (gNm 1) bYes (eN m_step_key (aCons (eVar 1) aNil)) (wipeD [some (wD w), none] [1]) (w.map sD) S = .ok (.lst (w.map kSD)) S :=
    lcEnd_map sD _ hl fun s hs => ⟨rfl, Wp.eq (by rw [wp_eN, wp_cons, wp_var rfl, wp_nil, stepkey_ok, wp_ok]; exact ⟨rfl, rfl⟩)⟩
  unfold b_word_key
  rw [wps_ret, wp_eN, wp_cons, wp_eN, wp_cons, wp_var rfl, wp_nil, mLen_w, wp_ok, wp_cons, wp_eN, wp_cons, wp_lcE, wp_var rfl]
  refine Wp.of_eq (a := .lst (w.map kSD)) (S := S) key ?_
  rw [wp_nil]
  show Wp (.ok (Dv.tup (w.map kSD)) S) _
  rw [wp_ok, wp_nil, mTup_ok _ _ (by simp [lim_eq]), wp_ok]
  exact ⟨rfl, rfl⟩
theorem lawkey_ok {w : List Wst} (hg : GoodW w) (hl : w.length ≤ lim) (S : Sto) : m_Lkey [wD w] S = .ok (.tup [.int w.length, .lst (w.map kSD)]) S := by
  refine fn_eq rfl ?_
  have key : lcEnd (gTp [gNm 1, gNm 2]) bYes (eN mTup (aCons (eVar 1) (aCons (eN mInt (aCons (e2 mLt (eVar 2) (eC (.int 0))) aNil)) aNil))) (wipeD [some (wD w), none, none] [1, 2]) (w.map sD) S = .ok (.lst (w.map kSD)) S :=
    lcEnd_map sD _ hl fun s hs => ⟨rfl, Wp.eq (by
      rw [wp_eN, wp_cons, wp_var rfl, wp_cons, wp_eN, wp_cons, wp_e2, wp_var rfl, wp_c]
      show Wp (.ok (Dv.bl (decide (s.2 < 0))) S) _
      rw [wp_ok, wp_nil]
      show Wp (.ok (Dv.int (if decide (s.2 < 0) = true then 1 else 0)) S) _
      rw [wp_ok, wp_nil, mTup_ok _ _ (by simp [lim_eq]), wp_ok]
      refine ⟨?_, rfl⟩
      rcases (hg s hs).2 with e | e <;> simp [kSD, kN, e])⟩
  unfold b_Lkey
  rw [wps_ret, wp_eN, wp_cons, wp_eN, wp_cons, wp_var rfl, wp_nil, mLen_w, wp_ok, wp_cons, wp_lcE, wp_var rfl]
  refine Wp.of_eq (a := .lst (w.map kSD)) (S := S) key ?_
  rw [wp_nil, mTup_ok _ _ (by simp [lim_eq]), wp_ok]
  exact ⟨rfl, rfl⟩
/-! ### the keys as data -/
def k1 (w : List Wst) : PyData := .tuple [.int w.length, .tuple (w.map kSP)]
def k2 (w : List Wst) : PyData := .tuple [.int w.length, .list (w.map kSP)]
theorem deep_k (w : List Wst) (S : Sto) (k : Nat) : optAll ((w.map kSD).map (deep S (k + 2))) = some (w.map kSP) := by
  rw [List.map_map]
  exact optAll_map (g := kSP) fun s _ => rfl
theorem deep_k1 (w : List Wst) (S : Sto) : deep S dpt (.tup [.int w.length, .tup (w.map kSD)]) = some (k1 w) := by
  show (optAll [some (PyData.int w.length), (optAll ((w.map kSD).map (deep S 10))).map PyData.tuple]).map PyData.tuple = _
  rw [deep_k w S 8]
  rfl
theorem deep_k2 (w : List Wst) (S : Sto) : deep S dpt (.tup [.int w.length, .lst (w.map kSD)]) = some (k2 w) := by
  show (optAll [some (PyData.int w.length), (optAll ((w.map kSD).map (deep S 10))).map PyData.list]).map PyData.tuple = _
  rw [deep_k w S 8]
  rfl
theorem alike_k : ∀ xs ys : List Wst, alikeAll (xs.map kSP) (ys.map kSP) = true
  | [], _ => by simp [alikeAll]
  | _ :: _, [] => by simp [alikeAll]
  | x :: xs, y :: ys => by
    rw [List.map_cons, List.map_cons, alikeAll, alike_k xs ys]
    simp [kSP, alike, alikeAll]
theorem alike_k1 (v w : List Wst) : alike (k1 v) (k1 w) = true := by
  show alike (.tuple [.int v.length, .tuple (v.map kSP)]) (.tuple [.int w.length, .tuple (w.map kSP)]) = true
  simp [alike, alikeAll, alike_k]
theorem alike_k2 (v w : List Wst) : alike (k2 v) (k2 w) = true := by
  show alike (.tuple [.int v.length, .list (v.map kSP)]) (.tuple [.int w.length, .list (w.map kSP)]) = true
  simp [alike, alikeAll, alike_k]
theorem noDict_k (w : List Wst) : noDictA (w.map kSP) = true := noDict_all (f := kSP) fun _ _ => rfl
theorem sortB_of {f : List Wst → PyData} (h1 : ∀ w, noDict (f w) = true) (h2 : ∀ v w, alike (f v) (f w) = true) (h3 : ∀ w, tupB (f w) = true) (ws : List (List Wst)) : sortB (ws.map f) = true := by
  unfold sortB alikeB
  rw [noDict_all fun w _ => h1 w]
  simp [h2, h3]
def srtW (ws : List (List Wst)) : List (List Wst) := ws.mergeSort (dataLe false k1)
theorem le_k : dataLe false k2 = dataLe false k1 := rfl
theorem byK_of {f : List Wst → PyData} (hf : dataLe false f = dataLe false k1) (ws : List (List Wst)) : byK ((ws.map wD).zip (ws.map f)) = (srtW ws).map wD := by
  have e : (ws.map wD).zip (ws.map f) = ws.map fun w => (wD w, f w) := by
    rw [List.zip_map']
  unfold byK srtW
  rw [e, ← PySem.W.sort_maps (r := dataLe false f) (fun w => (wD w, f w)) (fun _ _ _ _ => rfl), List.map_map, hf]
  rfl
theorem keys_of {mf : List Dv → M Dv} {f : List Wst → Dv} : ∀ (ws : List (List Wst)) (acc : List Dv) (S : Sto), (∀ w ∈ ws, ∀ S, mf [wD w] S = .ok (f w) S) → keysGo mf (ws.map wD) acc S = .ok (acc ++ ws.map f) S
  | [], acc, S, _ => by simp [keysGo]
  | w :: ws, acc, S, h => by
    rw [List.map_cons]
    unfold keysGo
    rw [h w (by simp)]
    dsimp only
    rw [keys_of ws _ S fun v hv => h v (List.mem_cons_of_mem _ hv)]
    simp
theorem sorted1 (ws : List (List Wst)) (S : Sto) : sortedD S (ws.map wD) (ws.map fun w => .tup [.int w.length, .tup (w.map kSD)]) = some ((srtW ws).map wD) := by
  unfold sortedD
  rw [List.map_map, show ws.map (deep S dpt ∘ fun w => .tup [.int w.length, .tup (w.map kSD)]) = ws.map (fun w => deep S dpt (.tup [.int w.length, .tup (w.map kSD)])) from rfl, optAll_map (g := k1) fun w _ => deep_k1 w S]
  dsimp only
  rw [if_pos (sortB_of (f := k1) (fun w => by show (true && (noDictA (w.map kSP) && true)) = true; rw [noDict_k]; rfl) alike_k1 (fun _ => rfl) ws), byK_of rfl]
theorem sorted2 (ws : List (List Wst)) (S : Sto) : sortedD S (ws.map wD) (ws.map fun w => .tup [.int w.length, .lst (w.map kSD)]) = some ((srtW ws).map wD) := by
  unfold sortedD
  rw [List.map_map, show ws.map (deep S dpt ∘ fun w => .tup [.int w.length, .lst (w.map kSD)]) = ws.map (fun w => deep S dpt (.tup [.int w.length, .lst (w.map kSD)])) from rfl, optAll_map (g := k2) fun w _ => deep_k2 w S]
  dsimp only
  rw [if_pos (sortB_of (f := k2) (fun w => by show (true && (noDictA (w.map kSP) && true)) = true; rw [noDict_k]; rfl) alike_k2 (fun _ => rfl) ws), byK_of le_k]
theorem seqs {d : Dv} {ws : List (List Wst)} (hd : d = .lst (ws.map wD) ∨ d = .tup (ws.map wD)) (S : Sto) : seqOf S d = some (ws.map wD) := by
  rcases hd with rfl | rfl <;> rfl
theorem sortK_law {ws : List (List Wst)} (hg : ∀ w ∈ ws, GoodW w ∧ w.length ≤ lim) {d : Dv} (hd : d = .lst (ws.map wD) ∨ d = .tup (ws.map wD)) (S : Sto) : mSortK m_Lkey d S = .ok (.lst ((srtW ws).map wD)) S := by
  unfold mSortK
  rw [seqs hd]
  dsimp only
  rw [keys_of (f := fun w => .tup [.int w.length, .lst (w.map kSD)]) ws [] S fun w hw S => lawkey_ok (hg w hw).1 (hg w hw).2 S]
  dsimp only
  rw [List.nil_append, sorted2]
theorem sortK_prog {ws : List (List Wst)} (hg : ∀ w ∈ ws, GoodW w ∧ w.length ≤ lim) {d : Dv} (hd : d = .lst (ws.map wD) ∨ d = .tup (ws.map wD)) (S : Sto) : mSortKS m_word_key d S = .ok (.loc S.length) (S ++ [.lst ((srtW ws).map wD)]) := by
  unfold mSortKS
  rw [seqs hd]
  dsimp only
  rw [keys_of (f := fun w => .tup [.int w.length, .tup (w.map kSD)]) ws [] S fun w hw S => wordkey_ok (hg w hw).2 S]
  dsimp only
  rw [List.nil_append, sorted1]
theorem inorder_ok {ws : List (List Wst)} (hg : ∀ w ∈ ws, GoodW w ∧ w.length ≤ lim) {d : Dv} (hd : d = .lst (ws.map wD) ∨ d = .tup (ws.map wD)) (S : Sto) : m_in_order [d] S = .ok (.loc S.length) (S ++ [.lst ((srtW ws).map wD)]) := by
  refine fn_eq rfl ?_
  unfold b_in_order
  refine seq_then (fun δ S' => S' = S ∧ ∃ x, δ = [some d, x]) ?_ ?_
  · rw [wps_forE, wp_var rfl]
    have e : forE (gNm 1) (sExpr (eN m_want_word (aCons (eVar 1) aNil))) d (List.map some [d] ++ List.replicate (2 - 1) none) S = forGo (gNm 1) (sExpr (eN m_want_word (aCons (eVar 1) aNil))) (ws.map wD) [some d, none] S := by
      rcases hd with rfl | rfl <;> rfl
    rw [e]
    refine wps_forIx (fun k δ S' => S' = S ∧ ∃ x, δ = [some d, x]) _ ⟨rfl, _, rfl⟩ (fun δ S' z => z) ?_
    rintro k hk δ _ ⟨rfl, x, rfl⟩
    rw [List.getElem_map]
    have hk' : k < ws.length := by simpa using hk
    have z := hg ws[k] (List.getElem_mem hk')
    unfold gNm
    rw [onS_some]
    dsimp only
    rw [wps_expr, wp_eN, wp_cons, wp_var rfl, wp_nil, want_ok z.1 z.2, wp_ok]
    exact ⟨rfl, _, rfl⟩
  rintro _ _ ⟨rfl, x, rfl⟩
  rw [wps_ret, wp_e1, wp_var rfl, sortK_prog hg hd, wp_ok]
  exact ⟨rfl, rfl⟩
end Mi
end T_P11c
section T_P11d
set_option Elab.async false
set_option linter.all false
set_option maxRecDepth 100000
set_option maxHeartbeats 1000000
/-! P11d: k11: texts of words, and reading them. -/
namespace Mi
open PySem L2
theorem join_len (x : Str) : ∀ ys : List Str, ys ≠ [] → (Str.join x ys).length + x.length = (ys.map fun y : Str => y.length).sum + ys.length * x.length
  | [], h => absurd rfl h
  | [y], _ => by show y.length + x.length = _; simp
  | y :: z :: r, _ => by
    have ih := join_len x (z :: r) (by simp)
    show (y ++ x ++ Str.join x (z :: r)).length + x.length = _
    rw [len_app, len_app]
    simp only [List.map_cons, List.sum_cons, List.length_cons] at ih ⊢
    have e : (r.length + 1 + 1) * x.length = (r.length + 1) * x.length + x.length := Nat.succ_mul _ _
    omega
theorem sum_le {α : Type} {f : α → Str} {B : Nat} : ∀ {xs : List α}, (∀ x ∈ xs, (f x).length ≤ B) → ((xs.map f).map fun y : Str => y.length).sum ≤ xs.length * B
  | [], _ => Nat.zero_le _
  | x :: xs, h => by
    have ih := sum_le (f := f) (B := B) (xs := xs) fun y hy => h y (List.mem_cons_of_mem _ hy)
    have h1 := h x (by simp)
    simp only [List.map_cons, List.sum_cons, List.length_cons]
    have e : (xs.length + 1) * B = xs.length * B + B := Nat.succ_mul _ _
    omega
theorem mem_sum {y : Str} : ∀ {ys : List Str}, y ∈ ys → y.length ≤ (ys.map fun y : Str => y.length).sum
  | [], h => nomatch h
  | z :: r, h => by
    simp only [List.map_cons, List.sum_cons]
    rcases List.mem_cons.mp h with rfl | h
    · omega
    · have := mem_sum h
      omega
theorem wv_len : Str.length ("~" : Str) = 1 := by decide +kernel
theorem bl_len : Str.length (" " : Str) = 1 := by decide +kernel
theorem emp_app (x : Str) : ("" : Str) ++ x = x := TL.ext_tl (by rw [TL.tl_append]; rfl)
def txS (s : Wst) : Str := if s.2 = 1 then s.1 else ("~" : Str) ++ s.1
theorem txS_len {s : Wst} (h : GoodS s) : 1 ≤ (txS s).length ∧ (txS s).length ≤ 9 := by
  have h1 := h.1.1
  have h2 := h.1.2.1
  unfold txS
  split
  · omega
  · rw [len_app, wv_len]; omega
theorem steptext_ok {s : Wst} (h : GoodS s) (S : Sto) : m_step_text [sD s] S = .ok (.str (txS s)) S := by
  have h2 := h.1.2.1
  refine fn_eq rfl ?_
  unfold b_step_text
  rw [wps_seq, wps_asg, wp_var rfl, show gTp [gNm 1, gNm 2] (sD s) (List.map some [sD s] ++ List.replicate (3 - 1) none) S = some ([some (sD s), some (.str s.1), some (.int s.2)], S) from rfl, onS_some]
  dsimp only
  rw [wps_ret, wp_if, wp_bOf, wp_e2, wp_var rfl, wp_c, mEq_int, wp_ok, isB_bl]
  by_cases e : s.2 = 1
  · rw [decide_eq_true e, if_pos rfl, wp_var rfl]
    exact ⟨by simp [txS, e], rfl⟩
  · rw [decide_eq_false e, if_neg Bool.false_ne_true, wp_e2, wp_c, wp_var rfl, mAdd_str (by rw [wv_len, lim_eq]; omega), wp_ok]
    exact ⟨by simp [txS, e], rfl⟩
def txW (w : List Wst) : Str := if w = [] then ("1" : Str) else Str.join (" " : Str) (w.map txS)
theorem txW_len {w : List Wst} (h : GoodW w) : (txW w).length ≤ 10 * w.length + 1 := by
  unfold txW
  split
  · exact Nat.le_trans (show Str.length ("1" : Str) ≤ 1 by decide +kernel) (by omega)
  · rename_i hw
    have e := join_len (" " : Str) (w.map txS) (by simpa using hw)
    have e2 := sum_le (f := txS) (B := 9) fun s hs => (txS_len (h s hs)).2
    rw [bl_len, List.length_map] at e
    omega
theorem mJoin_tx {w : List Wst} (h : GoodW w) (hl : w.length ≤ 1000) (S : Sto) : mJoin (.str (" " : Str)) [.lst ((w.map txS).map Dv.str)] S = .ok (.str (Str.join (" " : Str) (w.map txS))) S := by
  have e2 := sum_le (f := txS) (B := 9) fun s hs => (txS_len (h s hs)).2
  exact mJoin_lst (by rw [bl_len, List.length_map, lim_eq]; omega)
theorem mNe_nil (w : List Wst) (S : Sto) : mNe (wD w) (.tup []) S = .ok (.bl (!decide (w = []))) S := mNe_w w [] S
theorem wordtext_ok {w : List Wst} (h : GoodW w) (hl : w.length ≤ 1000) (S : Sto) : m_word_text [wD w] S = .ok (.str (txW w)) S := by
  refine fn_eq rfl ?_
  have key : lcEnd (gNm 1) bYes (eN m_step_text (aCons (eVar 1) aNil)) (wipeD [some (wD w), none] [1]) (w.map sD) S = .ok (.lst ((w.map txS).map Dv.str)) S := by
    rw [List.map_map]
    exact lcEnd_map sD _ (by rw [lim_eq]; omega) fun s hs => ⟨rfl, Wp.eq (by rw [wp_eN, wp_cons, wp_var rfl, wp_nil, steptext_ok (h s hs), wp_ok]; exact ⟨rfl, rfl⟩)⟩
  unfold b_word_text
  rw [wps_seq, wps_expr, wp_eN, wp_cons, wp_var rfl, wp_nil, want_ok h (by rw [lim_eq]; omega), wp_ok, wps_ret, wp_if, wp_bOf, wp_e2, wp_var rfl, wp_eN, wp_nil, mTup_ok _ _ (by simp [lim_eq]), wp_ok, mNe_nil, wp_ok, isB_bl]
  by_cases e : w = []
  · rw [decide_eq_true e, Bool.not_true, if_neg Bool.false_ne_true, wp_c]
    exact ⟨by simp [txW, e], rfl⟩
  · rw [decide_eq_false e, Bool.not_false, if_pos rfl, wp_join, wp_c, isS_str, wp_lcE, wp_var rfl]
    refine Wp.of_eq (a := .lst ((w.map txS).map Dv.str)) (S := S) key ?_
    rw [mJoin_tx h hl, wp_ok]
    exact ⟨by simp [txW, e], rfl⟩
theorem lawtext_ok {w : List Wst} (h : GoodW w) (hl : w.length ≤ 1000) (S : Sto) : m_Ltext [wD w] S = .ok (.str (txW w)) S := by
  refine fn_eq rfl ?_
  have key : lcEnd (gTp [gNm 1, gNm 2]) bYes (e2 mAdd (e2 mIx (eN mLst (aCons (eC (.str "")) (aCons (eC (.str "~")) aNil))) (eN mInt (aCons (e2 mLt (eVar 2) (eC (.int 0))) aNil))) (eVar 1)) (wipeD [some (wD w), none, none] [1, 2]) (w.map sD) S = .ok (.lst ((w.map txS).map Dv.str)) S := by
    rw [List.map_map]
    refine lcEnd_map sD _ (by rw [lim_eq]; omega) fun s hs => ⟨rfl, Wp.eq ?_⟩
    have h2 := (h s hs).1.2.1
    rw [wp_e2, wp_e2, wp_eN, wp_cons, wp_c, wp_cons, wp_c, wp_nil, mLst_ok _ _ (by simp [lim_eq]), wp_ok, wp_eN, wp_cons, wp_e2, wp_var rfl, wp_c]
    rcases (h s hs).2 with e | e
    · rw [show mLt (.int s.2) (.int 0) S = .ok (.bl false) S by rw [e]; rfl, wp_ok, wp_nil, show mInt [.bl false] S = .ok (.int 0) S from rfl, wp_ok, show mIx (.lst [.str "", .str "~"]) (.int 0) S = .ok (.str "") S from rfl, wp_ok, wp_var rfl, mAdd_str (by rw [lim_eq]; exact Nat.le_trans (Nat.add_le_add_right (show Str.length ("" : Str) ≤ 0 by decide +kernel) _) (by omega)), wp_ok, emp_app]
      exact ⟨by simp [txS, e], rfl⟩
    · rw [show mLt (.int s.2) (.int 0) S = .ok (.bl true) S by rw [e]; rfl, wp_ok, wp_nil, show mInt [.bl true] S = .ok (.int 1) S from rfl, wp_ok, show mIx (.lst [.str "", .str "~"]) (.int 1) S = .ok (.str "~") S from rfl, wp_ok, wp_var rfl, mAdd_str (by rw [wv_len, lim_eq]; omega), wp_ok]
      exact ⟨by simp [txS, e], rfl⟩
  unfold b_Ltext
  rw [wps_ret, wp_if, wp_bOf, wp_e2, wp_var rfl, wp_eN, wp_nil, mTup_ok _ _ (by simp [lim_eq]), wp_ok, mNe_nil, wp_ok, isB_bl]
  by_cases e : w = []
  · rw [decide_eq_true e, Bool.not_true, if_neg Bool.false_ne_true, wp_c]
    exact ⟨by simp [txW, e], rfl⟩
  · rw [decide_eq_false e, Bool.not_false, if_pos rfl, wp_join, wp_c, isS_str, wp_lcE, wp_var rfl]
    refine Wp.of_eq (a := .lst ((w.map txS).map Dv.str)) (S := S) key ?_
    rw [mJoin_tx h hl, wp_ok]
    exact ⟨by simp [txW, e], rfl⟩
/-! ### names -/
def inAl (c : Nat) : Bool := decide (c ∈ lettersS.cps.toList)
theorem inAl_lt {c : Nat} (h : inAl c = true) : isLt c = true := by
  have key : ∀ c ∈ lettersS.cps.toList, isLt c = true := by decide +kernel
  exact key c (of_decide_eq_true h)
theorem lt_inAl {c : Nat} (h : isLt c = true) : inAl c = true := by
  have := letter_in c h
  rw [StrLaws.found_one] at this
  exact this
def isNm (x : Str) : Bool := decide (1 ≤ x.length) && (decide (x.length ≤ 8) && x.cps.toList.all inAl)
theorem isNm_good {x : Str} : isNm x = true ↔ GoodL x := by
  unfold isNm GoodL
  simp only [Bool.and_eq_true, decide_eq_true_eq, List.all_eq_true]
  exact ⟨fun ⟨a, b, c⟩ => ⟨a, b, fun z hz => inAl_lt (c z hz)⟩, fun ⟨a, b, c⟩ => ⟨a, b, fun z hz => lt_inAl (c z hz)⟩⟩
theorem mIn_al (c : Nat) (S : Sto) : mIn (.str ⟨#[c]⟩) (.str "abcdefghijklmnopqrstuvwxyz") S = .ok (.bl (inAl c)) S := by
  show Res.ok (Dv.bl (id (!(Builtin.Str.occurrences lettersS ⟨#[c]⟩ 0 (Str.length lettersS) 1).isEmpty))) S = _
  rw [StrLaws.found_one]
  rfl
theorem mLen_str {x : Str} (h : x.length ≤ lim) (S : Sto) : mLen [.str x] S = .ok (.int x.length) S := by
  show (if x.length ≤ lim then Res.ok (Dv.int x.length) S else .bad) = _
  rw [if_pos h]
theorem lets_ok {n : Nat} {δ : En} (hn : n < δ.length) {x : Str} (hl : x.length ≤ lim) (S : Sto) : lcE (gNm n) bYes (e2 mIn (eVar n) (eC (.str "abcdefghijklmnopqrstuvwxyz"))) δ (.str x) S = .ok (.lst (x.cps.toList.map fun c => .bl (inAl c))) S := by
  rw [lcE_str]
  refine lcEnd_map (fun c => Dv.str ⟨#[c]⟩) _ (by have : x.cps.size = x.length := rfl; simp; omega) fun c hc => ⟨rfl, Wp.eq ?_⟩
  rw [wp_e2, wp_var (d := .str ⟨#[c]⟩) (by simp [hn]), wp_c, mIn_al, wp_ok]
  exact ⟨rfl, rfl⟩
theorem mLe_int (i j : Int) (S : Sto) : mLe (.int i) (.int j) S = .ok (.bl (decide (i ≤ j))) S := rfl
theorem isname_eq {x : Str} (hl : x.length ≤ lim) (S : Sto) : m_is_name [.str x] S = .ok (.bl (isNm x)) S := by
  refine fn_eq rfl ?_
  unfold b_is_name
  rw [wps_seq, wps_if, wp_bOr, wp_bNot, wp_bOf, wp_e1, wp_var rfl, show mIsi "str" (.str x) S = .ok (.bl true) S from rfl, wp_ok, isB_bl, Bool.not_true, if_neg Bool.false_ne_true, wp_bNot, wp_bOf, wp_chain, wp_c, wp_eN, wp_cons, wp_var rfl, wp_nil, mLen_str hl, wp_ok, mLe_int, wp_ok, isB_bl]
  by_cases h1 : 1 ≤ x.length
  · rw [decide_eq_true (show (1 : Int) ≤ x.length by omega), if_pos rfl, wp_c, mLe_int, wp_ok, isB_bl]
    by_cases h2 : x.length ≤ 8
    · rw [decide_eq_true (show (x.length : Int) ≤ 8 by omega), Bool.not_true, if_neg Bool.false_ne_true, wps_nil, wps_ret, wp_eN, wp_cons, wp_lcE, wp_var rfl, lets_ok (by simp [wipeD]) hl, wp_ok, wp_nil, mAll_map, wp_ok]
      exact ⟨by simp [isNm, h1, h2], rfl⟩
    · rw [decide_eq_false (show ¬ (x.length : Int) ≤ 8 by omega), Bool.not_false, if_pos rfl, wps_ret, wp_c]
      exact ⟨by simp [isNm, h1, h2], rfl⟩
  · rw [decide_eq_false (show ¬ (1 : Int) ≤ x.length by omega), if_neg Bool.false_ne_true, isB_bl, Bool.not_false, if_pos rfl, wps_ret, wp_c]
    exact ⟨by simp [isNm, h1], rfl⟩
/-! ### one step read -/
theorem mEq_strs (x y : Str) (S : Sto) : mEq (.str x) (.str y) S = .ok (.bl (decide (x = y))) S := by
  show (if noDict (.str x) && noDict (.str y) then Res.ok (Dv.bl (id (PyData.eqv (.str x) (.str y)))) S else .bad) = _
  have e : PyData.eqv (.str x) (.str y) = decide (x = y) := by
    by_cases h : x = y <;> simp [PyData.eqv, h]
  rw [e]
  rfl
theorem mNe_strs (x y : Str) (S : Sto) : mNe (.str x) (.str y) S = .ok (.bl (!decide (x = y))) S := by
  show (if noDict (.str x) && noDict (.str y) then Res.ok (Dv.bl (not (PyData.eqv (.str x) (.str y)))) S else .bad) = _
  have e : PyData.eqv (.str x) (.str y) = decide (x = y) := by
    by_cases h : x = y <;> simp [PyData.eqv, h]
  rw [e]
  rfl
theorem cut_len (x : Str) (lo hi : Option Int) : (cutS x lo hi).length ≤ x.length := by
  show (List.toArray _).size ≤ x.cps.size
  rw [List.size_toArray, List.length_take, List.length_drop]
  simp only [Array.length_toList]
  omega
def lblOf (x : Str) : Str := if cutS x none (some 1) = ("~" : Str) then cutS x (some 1) none else x
theorem lbl_len (x : Str) : (lblOf x).length ≤ x.length := by
  unfold lblOf
  split
  · exact cut_len ..
  · omega
def stepIn (x : Str) : Option Wst := if isNm (lblOf x) = true then some (lblOf x, if lblOf x = x then 1 else -1) else none
def encS : Option Wst → Dv
  | none => .non
  | some s => sD s
theorem lbl_ok {x : Str} (hl : x.length ≤ lim) {δ : En} (h0 : δ[0]? = some (some (.str x))) (S : Sto) : eIf (bOf (e2 mEq (eSl (eVar 0) oNone (oSome (eC (.int 1)))) (eC (.str "~")))) (eSl (eVar 0) (oSome (eC (.int 1))) oNone) (eVar 0) δ S = .ok (.str (lblOf x)) S := by
  refine Wp.eq ?_
  rw [wp_if, wp_bOf, wp_e2, wp_sl, wp_var h0, wp_oNone, wp_oSome, wp_c, isI_int, mSl_str hl, wp_ok, wp_c, mEq_strs, wp_ok, isB_bl]
  by_cases e : cutS x none (some 1) = ("~" : Str)
  · rw [decide_eq_true e, if_pos rfl, wp_sl, wp_var h0, wp_oSome, wp_c, isI_int, wp_oNone, mSl_str hl, wp_ok]
    exact ⟨by rw [lblOf, if_pos e], rfl⟩
  · rw [decide_eq_false e, if_neg Bool.false_ne_true, wp_var h0]
    exact ⟨by rw [lblOf, if_neg e], rfl⟩
theorem stepin_ok {x : Str} (hl : x.length ≤ lim) (S : Sto) : m_step_in [.str x] S = .ok (encS (stepIn x)) S := by
  have hl2 : (lblOf x).length ≤ lim := Nat.le_trans (lbl_len x) hl
  refine fn_eq rfl ?_
  unfold b_step_in
  rw [wps_seq, wps_set, lbl_ok hl rfl, wp_ok]
  show WpS (sSeq _ _ [some (.str x), some (.str (lblOf x))] S) _ _
  rw [wps_seq, wps_if, wp_bNot, wp_bOf, wp_eN, wp_cons, wp_var rfl, wp_nil, isname_eq hl2, wp_ok, isB_bl]
  cases e : isNm (lblOf x) with
  | false =>
    rw [Bool.not_false, if_pos rfl, wps_ret, wp_c]
    exact ⟨by simp [stepIn, e, encS], rfl⟩
  | true =>
    rw [Bool.not_true, if_neg Bool.false_ne_true, wps_nil, wps_ret, wp_eN, wp_cons, wp_var rfl, wp_cons, wp_if, wp_bOf, wp_e2, wp_var rfl, wp_var rfl, mEq_strs, wp_ok, isB_bl]
    by_cases e2 : lblOf x = x
    · rw [decide_eq_true e2, if_pos rfl, wp_c, wp_nil, mTup_ok _ _ (by simp [lim_eq]), wp_ok]
      exact ⟨by simp only [stepIn, e, if_pos, encS, sD, if_pos e2], rfl⟩
    · rw [decide_eq_false e2, if_neg Bool.false_ne_true, wp_c, wp_nil, mTup_ok _ _ (by simp [lim_eq]), wp_ok]
      exact ⟨by simp only [stepIn, e, if_pos, encS, sD, if_neg e2], rfl⟩
theorem lstepin_ok {x : Str} (hl : x.length ≤ lim) (S : Sto) : m_Lstep_in [.str x] S = .ok (encS (stepIn x)) S := by
  have hl2 : (lblOf x).length ≤ lim := Nat.le_trans (lbl_len x) hl
  have no : isNm (lblOf x) = false → stepIn x = none := fun h => by rw [stepIn, h]; rfl
  refine fn_eq rfl ?_
  unfold b_Lstep_in
  rw [wps_seq, wps_set, lbl_ok hl rfl, wp_ok]
  show WpS (sSeq _ _ [some (.str x), some (.str (lblOf x)), none] S) _ _
  rw [wps_seq, wps_if, wp_bOr, wp_bNot, wp_bOf, wp_chain, wp_c, wp_eN, wp_cons, wp_var rfl, wp_nil, mLen_str hl2, wp_ok, mLe_int, wp_ok, isB_bl]
  by_cases h1 : 1 ≤ (lblOf x).length
  · rw [decide_eq_true (show (1 : Int) ≤ (lblOf x).length by omega), if_pos rfl, wp_c, mLe_int, wp_ok, isB_bl]
    by_cases h2 : (lblOf x).length ≤ 8
    · rw [decide_eq_true (show ((lblOf x).length : Int) ≤ 8 by omega), Bool.not_true, if_neg Bool.false_ne_true, wp_bNot, wp_bOf, wp_eN, wp_cons, wp_lcE, wp_var rfl, lets_ok (by simp [wipeD]) hl2, wp_ok, wp_nil, mAll_map, wp_ok, isB_bl]
      cases e : (lblOf x).cps.toList.all inAl with
      | false =>
        rw [Bool.not_false, if_pos rfl, wps_ret, wp_c]
        exact ⟨by rw [no (by simp [isNm, e])]; rfl, rfl⟩
      | true =>
        have e : isNm (lblOf x) = true := by rw [isNm, decide_eq_true h1, decide_eq_true h2, e]; rfl
        rw [Bool.not_true, if_neg Bool.false_ne_true, wps_nil, wps_ret, wp_eN, wp_cons, wp_var rfl, wp_cons, wp_if, wp_bOf, wp_e2, wp_var rfl, wp_var rfl, mEq_strs, wp_ok, isB_bl]
        by_cases e2 : lblOf x = x
        · rw [decide_eq_true e2, if_pos rfl, wp_c, wp_nil, mTup_ok _ _ (by simp [lim_eq]), wp_ok]
          exact ⟨by simp only [stepIn, e, if_pos, encS, sD, if_pos e2], rfl⟩
        · rw [decide_eq_false e2, if_neg Bool.false_ne_true, wp_e1, wp_c, show mNeg (.int 1) S = .ok (.int (-1)) S from rfl, wp_ok, wp_nil, mTup_ok _ _ (by simp [lim_eq]), wp_ok]
          exact ⟨by simp only [stepIn, e, if_pos, encS, sD, if_neg e2], rfl⟩
    · rw [decide_eq_false (show ¬ ((lblOf x).length : Int) ≤ 8 by omega), Bool.not_false, if_pos rfl, if_pos rfl, wps_ret, wp_c]
      exact ⟨by rw [no (by simp [isNm, h2])]; rfl, rfl⟩
  · rw [decide_eq_false (show ¬ (1 : Int) ≤ (lblOf x).length by omega), if_neg Bool.false_ne_true, isB_bl, Bool.not_false, if_pos rfl, if_pos rfl, wps_ret, wp_c]
    exact ⟨by rw [no (by simp [isNm, h1])]; rfl, rfl⟩
theorem stepIn_good {x : Str} {s : Wst} (h : stepIn x = some s) : GoodS s := by
  unfold stepIn at h
  split at h
  · rename_i e
    cases h
    refine ⟨isNm_good.mp e, ?_⟩
    show (if lblOf x = x then (1 : Int) else -1) = 1 ∨ (if lblOf x = x then (1 : Int) else -1) = -1
    split
    · exact .inl rfl
    · exact .inr rfl
  · cases h
end Mi
end T_P11d
section T_P11e
set_option Elab.async false
set_option linter.all false
set_option maxRecDepth 100000
set_option maxHeartbeats 1000000
/-! P11e: k11: whole texts read. -/
namespace Mi
open PySem L2
section
variable {δ : En} {S : Sto} {P : Dv → Sto → Prop}
theorem wp_split {o a : EX} : Wp (eSplit o a δ S) P = Wp (o δ S) fun d S1 => IsS d fun x => Wp (a δ S1) fun l S2 => Wp (mSplit (.str x) l S2) P := by
  unfold eSplit
  rw [wp_bind]
  congr
  funext d S1
  cases d with
  | str x =>
    show Wp (M.bind _ _ _) P = _
    rw [wp_bind]
    rfl
  | _ => rfl
theorem mAny_map {ι : Type} {xs : List ι} {p : ι → Bool} : mAny [.lst (xs.map fun x => Dv.bl (p x))] S = .ok (.bl (xs.any p)) S := by
  have e : xs.map (fun x => Dv.bl (p x)) = (xs.map p).map Dv.bl := by rw [List.map_map]; rfl
  rw [e]
  show (match blsOf ((xs.map p).map Dv.bl) with | some bs => Res.ok (Dv.bl (bs.any id)) S | none => .bad) = _
  rw [blsOf_map]
  dsimp only
  rw [List.any_map]
  rfl
theorem nx_of {r : SR} {δ1 : En} {S1 : Sto} (h : WpS r (fun δ' S' => δ' = δ1 ∧ S' = S1) (fun _ _ => False)) : r = .nx δ1 S1 := by
  cases r with
  | nx a b => obtain ⟨rfl, rfl⟩ := h; rfl
  | _ => exact h.elim
theorem seq_nx {a b : SM} {δ1 : En} {S1 : Sto} (h : a δ S = .nx δ1 S1) : sSeq a b δ S = b δ1 S1 := by
  unfold sSeq
  rw [h]
end
theorem parts_len (x : Str) : (∀ y ∈ Txt.split x (" " : Str), y.length ≤ x.length) ∧ (Txt.split x (" " : Str)).length ≤ x.length + 1 := by
  by_cases h : Txt.split x (" " : Str) = []
  · rw [h]
    exact ⟨fun _ z => (nomatch z), by simp⟩
  · have e := join_len (" " : Str) (Txt.split x (" " : Str)) h
    rw [StrLaws.join_split, bl_len] at e
    have hp : 0 < (Txt.split x (" " : Str)).length := List.length_pos_iff.mpr h
    refine ⟨fun y hy => ?_, by omega⟩
    have := mem_sum hy
    omega
theorem opt_cases : ∀ os : List (Option Wst), (os.any Option.isNone = true ∧ optAll os = none) ∨ (os.any Option.isNone = false ∧ ∃ ws, optAll os = some ws ∧ os = ws.map some)
  | [] => .inr ⟨rfl, [], rfl, rfl⟩
  | none :: r => .inl ⟨rfl, rfl⟩
  | some s :: r => by
    rcases opt_cases r with ⟨a, b⟩ | ⟨a, ws, b, c⟩
    · refine .inl ⟨by simpa using a, ?_⟩
      show (optAll r).map (s :: ·) = none
      rw [b]; rfl
    · refine .inr ⟨by simpa using a, s :: ws, ?_, by rw [c]; rfl⟩
      show (optAll r).map (s :: ·) = _
      rw [b]; rfl
def ossOf (x : Str) : List (Option Wst) := (Txt.split x (" " : Str)).map stepIn
def readW (x : Str) : Option (List Wst) := if x = ("1" : Str) then some [] else optAll (ossOf x)
theorem readW_good {x : Str} {w : List Wst} (h : readW x = some w) : GoodW w ∧ w.length ≤ x.length + 1 := by
  unfold readW at h
  split at h
  · cases h
    exact ⟨fun _ z => (nomatch z), by simp⟩
  · rcases opt_cases (ossOf x) with ⟨a, b⟩ | ⟨a, ws, b, c⟩
    · rw [b] at h; cases h
    · rw [b] at h
      cases h
      refine ⟨fun s hs => ?_, ?_⟩
      · have : some s ∈ ossOf x := by rw [c]; exact List.mem_map_of_mem hs
        obtain ⟨y, _, e⟩ := List.mem_map.mp this
        exact stepIn_good e
      · have e : (ossOf x).length = w.length := by rw [c]; simp
        have := (parts_len x).2
        unfold ossOf at e
        rw [List.length_map] at e
        omega
theorem steps_ok {f : List Dv → M Dv} {n : Nat} {δ : En} {x : Str} {S : Sto} (h0 : δ[0]? = some (some (.str x))) (hn : n < (wipeD δ [n]).length) (hx : x.length ≤ 5000) (hf : ∀ y : Str, y.length ≤ lim → f [.str y] S = .ok (encS (stepIn y)) S) :
    eLcE (eSplit (eVar 0) (eC (.str " "))) (gNm n) bYes (eN f (aCons (eVar n) aNil)) [n] δ S = .ok (.lst ((ossOf x).map encS)) S := by
  refine Wp.eq ?_
  have hs : mSplit (.str x) (.str " ") S = .ok (.lst ((Txt.split x " ").map Dv.str)) S := by
    show (if 1 ≤ Str.length (" " : Str) ∧ Array.all (Str.cps (" " : Str)) (· < 256) = true ∧ x.length + 2 ≤ lim then Res.ok (Dv.lst ((Txt.split x " ").map Dv.str)) S else .bad) = _
    rw [if_pos ⟨by rw [bl_len]; omega, by decide +kernel, by rw [lim_eq]; omega⟩]
  obtain ⟨p1, p2⟩ := parts_len x
  have key : lcEnd (gNm n) bYes (eN f (aCons (eVar n) aNil)) (wipeD δ [n]) ((Txt.split x " ").map Dv.str) S = .ok (.lst ((ossOf x).map encS)) S := by
    unfold ossOf
    rw [List.map_map]
    refine lcEnd_map Dv.str _ (by rw [lim_eq]; omega) fun y hy => ⟨rfl, Wp.eq ?_⟩
    have := p1 y hy
    rw [wp_eN, wp_cons, wp_var (d := .str y) (by simp [hn]), wp_nil, hf y (by rw [lim_eq]; omega), wp_ok]
    exact ⟨rfl, rfl⟩
  rw [wp_lcE, wp_split, wp_var h0, isS_str, wp_c, hs, wp_ok, lcE_lst, key, wp_ok]
  exact ⟨rfl, rfl⟩
def encP : Option Wst → PyData
  | none => .none
  | some s => sP s
theorem deep_enc (o : Option Wst) (S : Sto) (k : Nat) : deep S (k + 2) (encS o) = some (encP o) := by
  cases o <;> rfl
theorem mIn_enc (os : List (Option Wst)) (S : Sto) : mIn .non (.lst (os.map encS)) S = .ok (.bl (os.any Option.isNone)) S := by
  have hd : deep S dpt (.lst (os.map encS)) = some (.list (os.map encP)) := by
    show (optAll ((os.map encS).map (deep S 11))).map PyData.list = _
    rw [List.map_map, show os.map (deep S 11 ∘ encS) = os.map (fun o => deep S 11 (encS o)) from rfl, optAll_map (g := encP) fun o _ => deep_enc o S 9]
    rfl
  show (match some PyData.none, deep S dpt (.lst (os.map encS)) with
    | some p, some (.list ps) => if noDict p && noDictA ps then Res.ok (Dv.bl (id (ps.any fun z => PyData.eqv z p))) S else .bad
    | some p, some (.tuple ps) => if noDict p && noDictA ps then Res.ok (Dv.bl (id (ps.any fun z => PyData.eqv z p))) S else .bad
    | _, _ => .bad) = _
  rw [hd]
  dsimp only
  rw [noDict_all (f := encP) fun o _ => by cases o <;> rfl, if_pos (show (noDict PyData.none && true) = true from rfl), List.any_map]
  have : ((fun z => PyData.eqv z .none) ∘ encP) = Option.isNone := by
    funext o
    cases o with
    | none => rfl
    | some s => rfl
  rw [this]
  rfl
def encW : Option (List Wst) → Dv
  | none => .non
  | some w => wD w
theorem enc_some (ws : List Wst) : (ws.map some).map encS = ws.map sD := by rw [List.map_map]; rfl
theorem lread_ok {x : Str} (hx : x.length ≤ 5000) (S : Sto) : m_Lread [.str x] S = .ok (encW (readW x)) S := by
  refine fn_eq rfl ?_
  unfold b_Lread
  rw [wps_seq, wps_if, wp_bOf, wp_e2, wp_var rfl, wp_c, mEq_strs, wp_ok, isB_bl]
  by_cases e : x = ("1" : Str)
  · rw [decide_eq_true e, if_pos rfl, wps_ret, wp_eN, wp_nil, mTup_ok _ _ (by simp [lim_eq]), wp_ok]
    exact ⟨by rw [readW, if_pos e]; rfl, rfl⟩
  · rw [decide_eq_false e, if_neg Bool.false_ne_true, wps_nil, wps_seq, wps_set, steps_ok (x := x) rfl (by simp [wipeD]) hx (fun y hy => lstepin_ok hy S), wp_ok]
    show WpS (sRet _ [some (.str x), some (.lst ((ossOf x).map encS)), none] S) _ _
    rw [wps_ret, wp_if, wp_bOf, wp_e2, wp_c, wp_var rfl, mIn_enc, wp_ok, isB_bl, readW, if_neg e]
    rcases opt_cases (ossOf x) with ⟨a, b⟩ | ⟨a, ws, b, c⟩
    · rw [a, if_pos rfl, wp_c, b]
      exact ⟨rfl, rfl⟩
    · rw [a, if_neg Bool.false_ne_true, wp_eN, wp_cons, wp_var rfl, wp_nil, b, c, enc_some, show mTuple [.lst (ws.map sD)] S = .ok (.tup (ws.map sD)) S from rfl, wp_ok]
      exact ⟨rfl, rfl⟩
theorem mIs_enc (o : Option Wst) (S : Sto) : mIs (encS o) .non S = .ok (.bl o.isNone) S := by
  cases o <;> rfl
theorem readpre {x : Str} (hx : x.length ≤ 5000) (e : x ≠ ("1" : Str)) (S : Sto) : m_read_word [.str x] S = fnEnd (sSeq (sIf (bOf (eN mAny (aCons (eLcE (eVar 1) (gNm 3) bYes (e2 mIs (eVar 3) (eC .non)) [3]) aNil))) (sRaiseG "InvalidText" ["line"] (aCons (eC (.int 1)) aNil)) sNil) (sRet (eN mTuple (aCons (eVar 1) aNil))) [some (.str x), some (.lst ((ossOf x).map encS)), none, none] S) := by
  show fnEnd (b_read_word [some (.str x), none, none, none] S) = _
  unfold b_read_word
  rw [seq_nx (δ1 := [some (.str x), none, none, none]) (S1 := S) (by
    refine nx_of ?_
    rw [wps_if, wp_bNot, wp_bOf, wp_e1, wp_var rfl, show mIsi "str" (.str x) S = .ok (.bl true) S from rfl, wp_ok, isB_bl, Bool.not_true, if_neg Bool.false_ne_true, wps_nil]
    exact ⟨rfl, rfl⟩)]
  rw [seq_nx (δ1 := [some (.str x), none, none, none]) (S1 := S) (by
    refine nx_of ?_
    rw [wps_if, wp_bOf, wp_e2, wp_var rfl, wp_c, mEq_strs, wp_ok, isB_bl, decide_eq_false e, if_neg Bool.false_ne_true, wps_nil]
    exact ⟨rfl, rfl⟩)]
  rw [seq_nx (δ1 := [some (.str x), some (.lst ((ossOf x).map encS)), none, none]) (S1 := S) (by
    refine nx_of ?_
    rw [wps_set, steps_ok (x := x) rfl (by simp [wipeD]) hx (fun y hy => stepin_ok hy S), wp_ok]
    exact ⟨rfl, rfl⟩)]
theorem anyN_ok (os : List (Option Wst)) (hl : os.length ≤ lim) (d : Dv) (S : Sto) : bOf (eN mAny (aCons (eLcE (eVar 1) (gNm 3) bYes (e2 mIs (eVar 3) (eC .non)) [3]) aNil)) [some d, some (.lst (os.map encS)), none, none] S = .ok (os.any Option.isNone) S := by
  have key : lcEnd (gNm 3) bYes (e2 mIs (eVar 3) (eC .non)) (wipeD [some d, some (.lst (os.map encS)), none, none] [3]) (os.map encS) S = .ok (.lst (os.map fun o => .bl o.isNone)) S :=
    lcEnd_map encS _ hl fun o _ => ⟨rfl, Wp.eq (by rw [wp_e2, wp_var rfl, wp_c, mIs_enc, wp_ok]; exact ⟨rfl, rfl⟩)⟩
  refine Wp.eq ?_
  rw [wp_bOf, wp_eN, wp_cons, wp_lcE, wp_var rfl, lcE_lst, key, wp_ok, wp_nil, mAny_map, wp_ok, isB_bl]
  exact ⟨rfl, rfl⟩
theorem oss_len {x : Str} (hx : x.length ≤ 5000) : (ossOf x).length ≤ lim := by
  have := (parts_len x).2
  unfold ossOf
  rw [List.length_map, lim_eq]
  omega
theorem read_some {x : Str} (hx : x.length ≤ 5000) {w : List Wst} (h : readW x = some w) (S : Sto) : m_read_word [.str x] S = .ok (wD w) S := by
  by_cases e : x = ("1" : Str)
  · rw [readW, if_pos e] at h
    cases h
    subst e
    kernel_rfl
  · rw [readW, if_neg e] at h
    rw [readpre hx e]
    rcases opt_cases (ossOf x) with ⟨a, b⟩ | ⟨a, ws, b, c⟩
    · rw [b] at h; cases h
    · rw [b] at h
      cases h
      rw [seq_nx (δ1 := [some (.str x), some (.lst ((ossOf x).map encS)), none, none]) (S1 := S) (by
        refine nx_of ?_
        rw [wps_if, anyN_ok _ (oss_len hx), wp_ok, a, if_neg Bool.false_ne_true, wps_nil]
        exact ⟨rfl, rfl⟩), c, enc_some]
      rfl
theorem read_none {x : Str} (hx : x.length ≤ 5000) (h : readW x = none) (S : Sto) : m_read_word [.str x] S = .ex ⟨"InvalidText", [("line", .int 1)]⟩ S := by
  by_cases e : x = ("1" : Str)
  · rw [readW, if_pos e] at h
    cases h
  · rw [readW, if_neg e] at h
    rw [readpre hx e]
    rcases opt_cases (ossOf x) with ⟨a, b⟩ | ⟨a, ws, b, c⟩
    · unfold sSeq sIf
      rw [anyN_ok _ (oss_len hx), a]
      rfl
    · rw [b] at h; cases h
/-! ### told -/
theorem told_read {d v : Dv} {S : Sto} (h : m_read_word [d] S = .ok v S) : m_Ltold_text [d] S = .ok (.lst [.str "read", v]) S := by
  refine fn_eq rfl ?_
  unfold b_Ltold_text
  rw [wps_seq, wps_set, wp_eN, wp_cons, wp_c, wp_nil, mLst_ok _ _ (by simp [lim_eq]), wp_ok]
  show WpS (sSeq _ _ [some d, some (.lst [.str "other"]), none] S) _ _
  have e : sSet 1 (eN mLst (aCons (eC (.str "read")) (aCons (eN m_read_word (aCons (eVar 0) aNil)) aNil))) [some d, some (.lst [.str "other"]), none] S = .nx [some d, some (.lst [.str "read", v]), none] S := nx_of (by
    rw [wps_set, wp_eN, wp_cons, wp_c, wp_cons, wp_eN, wp_cons, wp_var rfl, wp_nil, h, wp_ok, wp_nil, mLst_ok _ _ (by simp [lim_eq]), wp_ok]
    exact ⟨rfl, rfl⟩)
  rw [seq_nx (δ1 := [some d, some (.lst [.str "read", v]), none]) (S1 := S) (by unfold sTry; rw [e])]
  rw [wps_ret, wp_var rfl]
  exact ⟨rfl, rfl⟩
theorem told_ref {d v : Dv} {S : Sto} (h : m_read_word [d] S = .ex ⟨"InvalidText", [("line", v)]⟩ S) : m_Ltold_text [d] S = .ok (.lst [.str "refused", v]) S := by
  refine fn_eq rfl ?_
  unfold b_Ltold_text
  rw [wps_seq, wps_set, wp_eN, wp_cons, wp_c, wp_nil, mLst_ok _ _ (by simp [lim_eq]), wp_ok]
  show WpS (sSeq _ _ [some d, some (.lst [.str "other"]), none] S) _ _
  have e0 : eN m_read_word (aCons (eVar 0) aNil) [some d, some (.lst [.str "other"]), none] S = .ex ⟨"InvalidText", [("line", v)]⟩ S := h
  have e : sSet 1 (eN mLst (aCons (eC (.str "read")) (aCons (eN m_read_word (aCons (eVar 0) aNil)) aNil))) [some d, some (.lst [.str "other"]), none] S = .ex ⟨"InvalidText", [("line", v)]⟩ [some d, some (.lst [.str "other"]), none] S := by
    have e1 : eN mLst (aCons (eC (.str "read")) (aCons (eN m_read_word (aCons (eVar 0) aNil)) aNil)) [some d, some (.lst [.str "other"]), none] S = .ex ⟨"InvalidText", [("line", v)]⟩ S := by
      unfold eN aCons M.bind at e0 ⊢
      dsimp only [eC, M.pure] at e0 ⊢
      rw [e0]
    unfold sSet
    rw [e1]
    rfl
  rw [seq_nx (δ1 := [some d, some (.lst [.str "refused", v]), none]) (S1 := S) (by unfold sTry; rw [e]; kernel_rfl)]
  rw [wps_ret, wp_var rfl]
  exact ⟨rfl, rfl⟩
def toldD (o : Option (List Wst)) : List Dv := match o with
  | some w => [.str "read", wD w]
  | none => [.str "refused", .int 1]
def toldP (o : Option (List Wst)) : PyData := match o with
  | some w => .list [.str "read", wP w]
  | none => .list [.str "refused", .int 1]
theorem told_ok {x : Str} (hx : x.length ≤ 5000) (S : Sto) : m_Ltold_text [.str x] S = .ok (.lst (toldD (readW x))) S := by
  cases h : readW x with
  | some w => exact told_read (read_some hx h S)
  | none => exact told_ref (read_none hx h S)
theorem sh_l2 {p q : PyData} {n : Nat} (h : Sh p n) (k : Sh q n) : Sh (.list [p, q]) (2 * (n + 1)) := sh_lst (f := id) (xs := [p, q]) fun z hz => by
  rcases List.mem_cons.mp hz with rfl | hz
  · exact h
  · rcases List.mem_cons.mp hz with rfl | hz
    · exact k
    · cases hz
theorem good_read : GoodL ("read" : Str) := ⟨by decide +kernel, by decide +kernel, by decide +kernel⟩
theorem good_refused : GoodL ("refused" : Str) := ⟨by decide +kernel, by decide +kernel, by decide +kernel⟩
theorem told_repr {x : Str} (hx : x.length ≤ 500) (S : Sto) : mRepr [.lst (toldD (readW x))] S = .ok (.str (toldP (readW x)).shown) S := by
  cases h : readW x with
  | some w =>
    obtain ⟨g, l⟩ := readW_good h
    refine mRepr_ok (p := .list [.str "read", wP w]) (n := 2 * (501 * 19 + 8 + 1)) ?_ (sh_l2 ((sh_str good_read).up (by omega)) ((sh_w g).up (by omega))) (by omega)
    show (optAll [some (PyData.str "read"), deep S 11 (wD w)]).map PyData.list = _
    rw [deep_w w S 8]
    rfl
  | none => exact mRepr_ok (p := .list [.str "refused", .int 1]) (n := 2 * (8 + 1)) rfl (sh_l2 ((sh_str good_refused).up (by omega)) ((sh_int (by omega) (by omega)).up (by omega))) (by omega)
/-! ### read back -/
theorem one_ne {s : Wst} (h : GoodS s) : txS s ≠ ("1" : Str) := fun e => by
  unfold txS at e
  split at e
  · have := h.1.2.2 49 (by rw [e]; decide +kernel)
    exact absurd this (by decide)
  · have e2 := congrArg Str.length e
    rw [len_app, wv_len, show Str.length ("1" : Str) = 1 by decide +kernel] at e2
    have := h.1.1
    omega
theorem blank_no {s : Wst} (h : GoodS s) : 32 ∉ TL.tl (txS s) := fun hc => by
  have no : 32 ∉ TL.tl s.1 := fun z => absurd (h.1.2.2 32 z) (by decide)
  unfold txS at hc
  split at hc
  · exact no hc
  · rw [TL.tl_append] at hc
    rcases List.mem_append.mp hc with z | z
    · exact absurd z (by decide +kernel)
    · exact no z
theorem tl_wv : TL.tl ("~" : Str) = [126] := by decide +kernel
theorem stepin_tx {s : Wst} (h : GoodS s) : stepIn (txS s) = some s := by
  obtain ⟨hg, hw⟩ := h
  have nm : isNm s.1 = true := isNm_good.mpr hg
  rcases hw with e | e
  · have ht : txS s = s.1 := by rw [txS, if_pos e]
    have hl : lblOf s.1 = s.1 := by
      unfold lblOf
      rw [if_neg]
      intro z
      have z2 := congrArg TL.tl z
      rw [tl_wv] at z2
      have m : 126 ∈ TL.tl (cutS s.1 none (some 1)) := by rw [z2]; simp
      have : 126 ∈ TL.tl s.1 := List.mem_of_mem_drop (List.mem_of_mem_take (by simpa [cutS, TL.tl] using m))
      exact absurd (hg.2.2 126 this) (by decide)
    rw [ht, stepIn, hl, if_pos nm, if_pos rfl]
    congr 1
    rw [← e]
  · have ht : txS s = ("~" : Str) ++ s.1 := by rw [txS, if_neg (by rw [e]; decide)]
    have hL : (("~" : Str) ++ s.1).length = s.1.length + 1 := by rw [len_app, wv_len]; omega
    have tt : TL.tl (("~" : Str) ++ s.1) = 126 :: TL.tl s.1 := by rw [TL.tl_append, tl_wv]; rfl
    have ls : (TL.tl s.1).length = s.1.length := (TL.len_tl s.1).symm
    have c1 : cutS (("~" : Str) ++ s.1) none (some 1) = ("~" : Str) := TL.ext_tl (by
      show TL.tl ⟨(List.take (HT.sIx (("~" : Str) ++ s.1).length (("~" : Str) ++ s.1).length (some 1) - HT.sIx (("~" : Str) ++ s.1).length 0 none) (List.drop (HT.sIx (("~" : Str) ++ s.1).length 0 none) (TL.tl (("~" : Str) ++ s.1)))).toArray⟩ = _
      rw [show (some (1 : Int)) = some ((1 : Nat) : Int) from rfl, sIx_nat, sIx_none, tt, hL, tl_wv, show min 1 (s.1.length + 1) - 0 = 1 by omega]
      rfl)
    have c2 : cutS (("~" : Str) ++ s.1) (some 1) none = s.1 := TL.ext_tl (by
      show TL.tl ⟨(List.take (HT.sIx (("~" : Str) ++ s.1).length (("~" : Str) ++ s.1).length none - HT.sIx (("~" : Str) ++ s.1).length 0 (some 1)) (List.drop (HT.sIx (("~" : Str) ++ s.1).length 0 (some 1)) (TL.tl (("~" : Str) ++ s.1)))).toArray⟩ = _
      rw [show (some (1 : Int)) = some ((1 : Nat) : Int) from rfl, sIx_nat, sIx_none, tt, hL, show min 1 (s.1.length + 1) = 1 by omega, List.drop_one, List.tail_cons, List.take_of_length_le (by omega)])
    have hl : lblOf (("~" : Str) ++ s.1) = s.1 := by rw [lblOf, if_pos c1, c2]
    rw [ht, stepIn, hl, if_pos nm, if_neg (fun z => by have := congrArg Str.length z; omega)]
    congr 1
    rw [← e]
theorem readback {w : List Wst} (h : GoodW w) : readW (txW w) = some w := by
  unfold txW
  by_cases e : w = []
  · rw [if_pos e, readW, if_pos rfl, e]
  · rw [if_neg e]
    have sp : Txt.split (Str.join (" " : Str) (w.map txS)) (" " : Str) = w.map txS := by
      have := TL.split_join (y := (" " : Str)) (s := 32) (S := []) (by decide +kernel) (by decide +kernel) (parts := w.map txS) (by simpa using e) fun p hp => by
        obtain ⟨s, hs, rfl⟩ := List.mem_map.mp hp
        exact blank_no (h s hs)
      rwa [TL.join_eq] at this
    have ne : Str.join (" " : Str) (w.map txS) ≠ ("1" : Str) := fun z => by
      rw [z, show Txt.split ("1" : Str) (" " : Str) = [("1" : Str)] by decide +kernel] at sp
      have hm : ("1" : Str) ∈ w.map txS := by rw [← sp]; exact List.mem_singleton.mpr rfl
      obtain ⟨s, hs, e3⟩ := List.mem_map.mp hm
      exact one_ne (h s hs) e3
    rw [readW, if_neg ne, ossOf, sp, List.map_map, show w.map (stepIn ∘ txS) = w.map (fun s => stepIn (txS s)) from rfl, optAll_map (f := fun s => stepIn (txS s)) (g := fun s => s) fun s hs => stepin_tx (h s hs), List.map_id']
end Mi
end T_P11e
section T_P11f
set_option Elab.async false
set_option linter.all false
set_option maxRecDepth 100000
set_option maxHeartbeats 1000000
/-! P11f: k11: the texts are right. -/
namespace Mi
open PySem L2
theorem mNe_same (x : Str) (S : Sto) : mNe (.str x) (.str x) S = .ok (.bl false) S := by rw [mNe_strs, decide_eq_true rfl]; rfl
theorem mEq_same (x : Str) (S : Sto) : mEq (.str x) (.str x) S = .ok (.bl true) S := by rw [mEq_strs, decide_eq_true rfl]
/-- one odd text -/
theorem text_end {x : Str} (hx : x.length ≤ 500) {a b : Dv} {c d e g h i j : Option Dv} {S : Sto} {R : Dv → Sto → Prop} {N : En → Sto → Prop}
    (k : ∀ g h, N [some a, some b, c, i, d, e, some (.str x), g, h, j] S) :
    WpS (sSeq (sSet 7 (eN m_Lread (aCons (eVar 6) aNil))) (sSeq (sSet 8 (eIf (bOf (e2 mIs (eVar 7) (eC .non))) (eN mLst (aCons (eC (.str "refused")) (aCons (eC (.int 1)) aNil))) (eN mLst (aCons (eC (.str "read")) (aCons (eVar 7) aNil))))) (sIf (bOf (e2 mNe (eN mRepr (aCons (eN m_Ltold_text (aCons (eVar 6) aNil)) aNil)) (eN mRepr (aCons (eVar 8) aNil)))) (sRet (eC (.bl false))) sNil)) [some a, some b, c, i, d, e, some (.str x), g, h, j] S) N R := by
  have l : x.length ≤ 5000 := by omega
  rw [wps_seq, wps_set, wp_eN, wp_cons, wp_var rfl, wp_nil, lread_ok l, wp_ok]
  show WpS (sSeq _ _ [some a, some b, c, i, d, e, some (.str x), some (encW (readW x)), h, j] S) _ _
  have e8 : eIf (bOf (e2 mIs (eVar 7) (eC .non))) (eN mLst (aCons (eC (.str "refused")) (aCons (eC (.int 1)) aNil))) (eN mLst (aCons (eC (.str "read")) (aCons (eVar 7) aNil))) [some a, some b, c, i, d, e, some (.str x), some (encW (readW x)), h, j] S = .ok (.lst (toldD (readW x))) S := by
    cases readW x <;> kernel_rfl
  rw [wps_seq, wps_set, e8, wp_ok]
  show WpS (sIf _ _ _ [some a, some b, c, i, d, e, some (.str x), some (encW (readW x)), some (.lst (toldD (readW x))), j] S) _ _
  rw [wps_if, wp_bOf, wp_e2, wp_eN, wp_cons, wp_eN, wp_cons, wp_var rfl, wp_nil, told_ok l, wp_ok, wp_nil, told_repr hx, wp_ok, wp_eN, wp_cons, wp_var rfl, wp_nil, told_repr hx, wp_ok, mNe_same, wp_ok, isB_bl, if_neg Bool.false_ne_true, wps_nil]
  exact k _ _
def oddS : Str := " ~a1z0|A*\n"
theorem oddS_len : oddS.length = 10 := by decide +kernel
theorem pick_odd {S : Sto} {p : Nat} (h : Pt S p) : Wp (m_Lpick [.loc p, .str " ~a1z0|A*\n"] S) fun v S' => (∃ x, v = .str x ∧ x.length = 1) ∧ Fr p S S' := by
  refine pick_ok (d := .str oddS) (n := 10) h (by omega) (by omega) (by rw [mLen_str (by rw [oddS_len, lim_eq]; omega), oddS_len]) fun S' k f hk => ?_
  exact ⟨_, mIx_str (x := oddS) (by rw [oddS_len]; exact hk) (by rw [oddS_len, lim_eq]; omega) S', _, rfl, rfl⟩
theorem cut3 {t y : Str} (ht : t.length ≤ 200) (hy : y.length = 1) {a b : Dv} {j7 j8 j9 : Option Dv} {at_ : Nat} {k : Nat} (hk : k < 3) {g : Option Dv} {S : Sto} :
    Wp (e2 mIx (eN mLst (aCons (e2 mAdd (e2 mAdd (eSl (eVar 2) oNone (oSome (eVar 4))) (eVar 5)) (eSl (eVar 2) (oSome (eVar 4)) oNone)) (aCons (e2 mAdd (eSl (eVar 2) oNone (oSome (eVar 4))) (eSl (eVar 2) (oSome (e2 mAdd (eVar 4) (eC (.int 1)))) oNone)) (aCons (e2 mAdd (e2 mAdd (eSl (eVar 2) oNone (oSome (eVar 4))) (eVar 5)) (eSl (eVar 2) (oSome (e2 mAdd (eVar 4) (eC (.int 1)))) oNone)) aNil)))) (eVar 3) [some a, some b, some (.str t), some (.int (k : Int)), some (.int (at_ : Int)), some (.str y), g, j7, j8, j9] S)
      fun v S' => S' = S ∧ ∃ x, v = .str x ∧ x.length ≤ 500 := by
  have hl : t.length ≤ lim := by rw [lim_eq]; omega
  have c1 := cut_len t none (some (at_ : Int))
  have c2 := cut_len t (some (at_ : Int)) none
  have c3 := cut_len t (some ((at_ : Int) + 1)) none
  have l1 : (cutS t none (some (at_ : Int)) ++ y).length = (cutS t none (some (at_ : Int))).length + y.length := len_app ..
  rw [wp_e2, wp_eN, wp_cons, wp_e2, wp_e2, wp_sl, wp_var rfl, wp_oNone, wp_oSome, wp_var rfl, isI_int, mSl_str hl, wp_ok, wp_var rfl, mAdd_str (by rw [lim_eq]; omega), wp_ok, wp_sl, wp_var rfl, wp_oSome, wp_var rfl, isI_int, wp_oNone, mSl_str hl, wp_ok, mAdd_str (by rw [lim_eq]; omega), wp_ok]
  rw [wp_cons, wp_e2, wp_sl, wp_var rfl, wp_oNone, wp_oSome, wp_var rfl, isI_int, mSl_str hl, wp_ok, wp_sl, wp_var rfl, wp_oSome, wp_e2, wp_var rfl, wp_c, mAdd_int, wp_ok, isI_int, wp_oNone, mSl_str hl, wp_ok, mAdd_str (by rw [lim_eq]; omega), wp_ok]
  rw [wp_cons, wp_e2, wp_e2, wp_sl, wp_var rfl, wp_oNone, wp_oSome, wp_var rfl, isI_int, mSl_str hl, wp_ok, wp_var rfl, mAdd_str (by rw [lim_eq]; omega), wp_ok, wp_sl, wp_var rfl, wp_oSome, wp_e2, wp_var rfl, wp_c, mAdd_int, wp_ok, isI_int, wp_oNone, mSl_str hl, wp_ok, mAdd_str (by rw [lim_eq]; omega), wp_ok, wp_nil, mLst_ok _ _ (by simp [lim_eq]), wp_ok, wp_var rfl]
  match k, hk with
  | 0, _ => exact ⟨rfl, _, rfl, by rw [len_app, len_app]; omega⟩
  | 1, _ => exact ⟨rfl, _, rfl, by rw [len_app]; omega⟩
  | 2, _ => exact ⟨rfl, _, rfl, by rw [len_app, len_app]; omega⟩
theorem draw_len {S : Sto} {p : Nat} (h : Pt S p) {δ : En} (d0 : δ[0]? = some (some (.loc p))) {j : Nat} {d : Dv} {n : Nat} (d2 : δ[j]? = some (some d)) (hl : ∀ S, mLen [d] S = .ok (.int n) S) (hn : n < 900) : Wp (eN m_Ldraw (aCons (eVar 0) (aCons (e2 mAdd (eN mLen (aCons (eVar j) aNil)) (eC (.int 1))) aNil)) δ S) fun v S' => ∃ k : Nat, v = .int k ∧ k < n + 1 ∧ Fr p S S' := by
  rw [wp_eN, wp_cons, wp_var d0, wp_cons, wp_e2, wp_eN, wp_cons, wp_var d2, wp_nil, hl, wp_ok, wp_c, mAdd_int, wp_ok, wp_nil, show (n : Int) + 1 = ((n + 1 : Nat) : Int) by omega]
  exact draw_ok h (by omega) (by omega)
theorem shN : Sh .none 8 := ⟨by decide, by decide, by decide⟩
def sixP : PyData := .list (List.replicate 6 (.list [.str "refused", .none]))
theorem six_repr (S : Sto) : mRepr [.lst (List.replicate 6 (.lst [.str "refused", .non]))] S = .ok (.str sixP.shown) S := by
  refine mRepr_ok (p := sixP) (n := 6 * (18 + 1)) rfl ?_ (by omega)
  exact sh_lst (f := id) (xs := List.replicate 6 (.list [.str "refused", .none])) fun z hz => by
    rw [List.eq_of_mem_replicate hz]
    exact sh_l2 (sh_str good_refused) shN
theorem texts_ok {S : Sto} {p : Nat} (h : Pt S p) {w : List Wst} (hg : GoodW w) (hw : w.length ≤ 15) : Wp (m_Ltexts_right [.loc p, wD w] S) fun v S' => v = .bl true ∧ Fr p S S' := by
  have tl_ := txW_len hg
  have rb := readback hg
  have t5 : (txW w).length ≤ 5000 := by omega
  refine fn_wp rfl ?_
  unfold b_Ltexts_right
  rw [wps_seq, wps_set, wp_eN, wp_cons, wp_var rfl, wp_nil, lawtext_ok hg (by omega), wp_ok]
  show WpS (sSeq _ _ [some (.loc p), some (wD w), some (.str (txW w)), none, none, none, none, none, none, none] S) _ _
  have r1 : mRepr [.lst [.str "read", wD w]] S = .ok (.str (toldP (some w)).shown) S := by
    have := told_repr (x := txW w) (by omega) S
    rw [rb] at this
    exact this
  have r2 : m_Ltold_text [.str (txW w)] S = .ok (.lst [.str "read", wD w]) S := by
    have := told_ok t5 S
    rw [rb] at this
    exact this
  rw [wps_seq, wps_if, wp_bOr, wp_bOf, wp_e2, wp_eN, wp_cons, wp_var rfl, wp_nil, wordtext_ok hg (by omega), wp_ok, wp_var rfl, mNe_same, wp_ok, isB_bl, if_neg Bool.false_ne_true, wp_bOf, wp_e2, wp_eN, wp_cons, wp_eN, wp_cons, wp_var rfl, wp_nil, r2, wp_ok, wp_nil, r1, wp_ok, wp_eN, wp_cons, wp_eN, wp_cons, wp_c, wp_cons, wp_var rfl, wp_nil, mLst_ok _ _ (by simp [lim_eq]), wp_ok, wp_nil, r1, wp_ok, mNe_same, wp_ok, isB_bl, if_neg Bool.false_ne_true, wps_nil]
  refine seq_then (fun δ S' => Fr p S S' ∧ ∃ x3 x4 x5 x6 x7 x8, δ = [some (.loc p), some (wD w), some (.str (txW w)), x3, x4, x5, x6, x7, x8, none]) ?_ ?_
  · rw [wps_for, wp_range1, wp_cons, wp_c, wp_nil, show (3 : Int) = ((3 : Nat) : Int) from rfl, mRange1_nat (by simp [lim_eq]), wp_ok]
    refine wps_forIx (fun k δ S' => Fr p S S' ∧ ∃ x3 x4 x5 x6 x7 x8, δ = [some (.loc p), some (wD w), some (.str (txW w)), x3, x4, x5, x6, x7, x8, none]) _ ⟨Fr.refl h, _, _, _, _, _, _, rfl⟩ (fun δ S' z => z) ?_
    rintro k hk δ S1 ⟨f1, x3, x4, x5, x6, x7, x8, rfl⟩
    rw [List.getElem_map, List.getElem_range]
    have hk3 : k < 3 := by simpa using hk
    unfold gNm
    rw [onS_some]
    show WpS (sSeq _ _ [some (.loc p), some (wD w), some (.str (txW w)), some (.int (k : Int)), x4, x5, x6, x7, x8, none] S1) _ _
    rw [wps_seq, wps_par, wp_cons]
    refine (draw_len (j := 2) (n := (txW w).length) f1.pt rfl rfl (fun S => mLen_str (by rw [lim_eq]; omega) S) (by omega)).mono ?_
    rintro _ S2 ⟨at_, rfl, _, f2⟩
    rw [wp_cons, wp_eN, wp_cons, wp_var rfl, wp_cons, wp_c, wp_nil]
    refine (pick_odd f2.pt).mono ?_
    rintro _ S3 ⟨⟨y, rfl, hy⟩, f3⟩
    rw [wp_nil]
    show WpS (sSeq _ _ [some (.loc p), some (wD w), some (.str (txW w)), some (.int (k : Int)), some (.int (at_ : Int)), some (.str y), x6, x7, x8, none] S3) _ _
    refine set_then _ (cut3 (by omega) hy hk3) ?_
    rintro _ _ ⟨rfl, x, rfl, hx⟩
    show WpS (sSeq _ _ [some (.loc p), some (wD w), some (.str (txW w)), some (.int (k : Int)), some (.int (at_ : Int)), some (.str y), some (.str x), x7, x8, none] _) _ _
    refine text_end hx fun g h => ⟨(f1.trans f2).trans f3, _, _, _, _, _, _, rfl⟩
  · rintro δ S1 ⟨f1, x3, x4, x5, x6, x7, x8, rfl⟩
    have e1 : eLcE (eN mLst (aCons (eC .non) (aCons (eC (.int 1)) (aCons (eC (.bl true)) (aCons (eN mLst aNil) (aCons (eN mTup (aCons (eC (.str "a")) aNil)) (aCons mDct0 aNil))))))) (gNm 9) bYes (eN m_Ltold_text (aCons (eVar 9) aNil)) [9] [some (.loc p), some (wD w), some (.str (txW w)), x3, x4, x5, x6, x7, x8, none] S1 = .ok (.lst (List.replicate 6 (.lst [.str "refused", .non]))) S1 := by kernel_rfl
    have e2_ : e2 mMul (eN mLst (aCons (eN mLst (aCons (eC (.str "refused")) (aCons (eC .non) aNil))) aNil)) (eC (.int 6)) [some (.loc p), some (wD w), some (.str (txW w)), x3, x4, x5, x6, x7, x8, none] S1 = .ok (.lst (List.replicate 6 (.lst [.str "refused", .non]))) S1 := by kernel_rfl
    rw [wps_ret, wp_e2, wp_eN, wp_cons, e1, wp_ok, wp_nil, six_repr, wp_ok, wp_eN, wp_cons, e2_, wp_ok, wp_nil, six_repr, wp_ok, mEq_same, wp_ok]
    exact ⟨rfl, f1⟩
end Mi
end T_P11f
section T_P11g
set_option Elab.async false
set_option linter.all false
set_option maxRecDepth 100000
set_option maxHeartbeats 1000000
/-! P11g: k11: what is no step, no word. -/
namespace Mi
open PySem L2
/-! ### refusals -/
theorem want_bad {d : Dv} {S : Sto} (h : m_is_word [d] S = .ok (.bl false) S) : m_want_word [d] S = .ex ⟨"InvalidWord", [("value", d)]⟩ S := by
  show fnEnd (b_want_word [some d] S) = _
  have e : bNot (bOf (eN m_is_word (aCons (eVar 0) aNil))) [some d] S = .ok true S := by
    apply Wp.eq
    rw [wp_bNot, wp_bOf, wp_eN, wp_cons, wp_var rfl, wp_nil, h, wp_ok, isB_bl]
    exact ⟨rfl, rfl⟩
  unfold b_want_word sIf
  rw [e]
  rfl
theorem wantx {d : Dv} {S : Sto} {δ : En} {i : Nat} (hd : δ[i]? = some (some d)) (h : m_is_word [d] S = .ok (.bl false) S) : sExpr (eN m_want_word (aCons (eVar i) aNil)) δ S = .ex ⟨"InvalidWord", [("value", d)]⟩ δ S := by
  have e : eN m_want_word (aCons (eVar i) aNil) δ S = m_want_word [d] S := by
    unfold eN aCons eVar aNil
    rw [hd]
    rfl
  unfold sExpr
  rw [e, want_bad h]
  rfl
theorem inverse_bad {d : Dv} {S : Sto} (h : m_is_word [d] S = .ok (.bl false) S) : m_inverse_of [d] S = .ex ⟨"InvalidWord", [("value", d)]⟩ S := by
  show fnEnd (b_inverse_of [some d, none] S) = _
  unfold b_inverse_of sSeq
  rw [wantx rfl h]
  rfl
theorem text_bad {d : Dv} {S : Sto} (h : m_is_word [d] S = .ok (.bl false) S) : m_word_text [d] S = .ex ⟨"InvalidWord", [("value", d)]⟩ S := by
  show fnEnd (b_word_text [some d, none] S) = _
  unfold b_word_text sSeq
  rw [wantx rfl h]
  rfl
theorem order_bad {w : List Wst} (hw : GoodW w) (hl : w.length ≤ lim) {d : Dv} {S : Sto} (h : m_is_word [d] S = .ok (.bl false) S) : m_in_order [.lst [wD w, d, .non]] S = .ex ⟨"InvalidWord", [("value", d)]⟩ S := by
  show fnEnd (b_in_order [some (.lst [wD w, d, .non]), none] S) = _
  have e1 : sExpr (eN m_want_word (aCons (eVar 1) aNil)) [some (.lst [wD w, d, .non]), some (wD w)] S = .nx [some (.lst [wD w, d, .non]), some (wD w)] S := nx_of (by
    rw [wps_expr, wp_eN, wp_cons, wp_var rfl, wp_nil, want_ok hw hl, wp_ok]
    exact ⟨rfl, rfl⟩)
  have e2 : sForE (eVar 0) (gNm 1) (sExpr (eN m_want_word (aCons (eVar 1) aNil))) [some (.lst [wD w, d, .non]), none] S = .ex ⟨"InvalidWord", [("value", d)]⟩ [some (.lst [wD w, d, .non]), some d] S := by
    show forGo (gNm 1) (sExpr (eN m_want_word (aCons (eVar 1) aNil))) [wD w, d, .non] [some (.lst [wD w, d, .non]), none] S = _
    unfold forGo
    dsimp only [gNm, List.set]
    rw [e1]
    unfold forGo
    dsimp only [gNm, List.set]
    rw [wantx rfl h]
  unfold b_in_order sSeq
  rw [e2]
  rfl
theorem lref_ok {th : M Dv} {d : Dv} {S S' : Sto} (h : th S = .ex ⟨"InvalidWord", [("value", d)]⟩ S') : m_Lrefused th S = .ok (.lst [.str "refused", d]) S' := by
  show lamEnd (b_Lrefused th [none, none, none] S) = _
  unfold b_Lrefused
  rw [seq_nx (δ1 := [none, some (.lst [.str "other"]), none]) (S1 := S) (by kernel_rfl)]
  have e : sExpr (eAct th) [none, some (.lst [.str "other"]), none] S = .ex ⟨"InvalidWord", [("value", d)]⟩ [none, some (.lst [.str "other"]), none] S' := by
    unfold sExpr eAct
    rw [h]
    rfl
  rw [seq_nx (δ1 := [none, some (.lst [.str "refused", d]), none]) (S1 := S') (by unfold sTry; rw [e]; kernel_rfl)]
  rfl
/-! ### words with something else in them -/
theorem isword_zs (zs : List (Dv × Bool)) (h : ∀ z ∈ zs, ∀ S, m_is_step [z.1] S = .ok (.bl z.2) S) (hl : zs.length ≤ lim) (S : Sto) : m_is_word [.tup (zs.map (·.1))] S = .ok (.bl (zs.all (·.2))) S := by
  refine fn_eq rfl ?_
  have key : lcEnd (gNm 1) bYes (eN m_is_step (aCons (eVar 1) aNil)) (wipeD [some (.tup (zs.map (·.1))), none] [1]) (zs.map (·.1)) S = .ok (.lst (zs.map fun z => .bl z.2)) S :=
    lcEnd_map (f := fun z : Dv × Bool => .bl z.2) (fun z : Dv × Bool => z.1) _ hl fun z hz => ⟨rfl, Wp.eq (by rw [wp_eN, wp_cons, wp_var rfl, wp_nil, h z hz, wp_ok]; exact ⟨rfl, rfl⟩)⟩
  unfold b_is_word
  rw [wps_ret, wp_eAnd, wp_e1, wp_var rfl, show mIsi "tuple" (.tup (zs.map (·.1))) S = .ok (.bl true) S from rfl, wp_ok, isB_bl, if_pos rfl, wp_eN, wp_cons, wp_lcE, wp_var rfl]
  refine Wp.of_eq (a := .lst (zs.map fun z : Dv × Bool => Dv.bl z.2)) (S := S) key ?_
  rw [wp_nil, mAll_map (p := fun z : Dv × Bool => z.2), wp_ok]
  exact ⟨rfl, rfl⟩
theorem isword_non {d : Dv} (h : ∀ S, mIsi "tuple" d S = .ok (.bl false) S) (S : Sto) : m_is_word [d] S = .ok (.bl false) S := by
  refine fn_eq rfl ?_
  unfold b_is_word
  rw [wps_ret, wp_eAnd, wp_e1, wp_var rfl, h, wp_ok, isB_bl, if_neg Bool.false_ne_true]
  exact ⟨rfl, rfl⟩
/-! ### steps that are none -/
theorem isname_non {d : Dv} (h : ∀ S, mIsi "str" d S = .ok (.bl false) S) (S : Sto) : m_is_name [d] S = .ok (.bl false) S := by
  refine fn_eq rfl ?_
  unfold b_is_name
  rw [wps_seq, wps_if, wp_bOr, wp_bNot, wp_bOf, wp_e1, wp_var rfl, h, wp_ok, isB_bl, Bool.not_false, if_pos rfl, if_pos rfl, wps_ret, wp_c]
  exact ⟨rfl, rfl⟩
theorem isstep_non {d : Dv} (h : ∀ S, mIsi "tuple" d S = .ok (.bl false) S) (S : Sto) : m_is_step [d] S = .ok (.bl false) S := by
  refine fn_eq rfl ?_
  unfold b_is_step
  rw [wps_seq, wps_if, wp_bOr, wp_bNot, wp_bOf, wp_e1, wp_var rfl, h, wp_ok, isB_bl, Bool.not_false, if_pos rfl, if_pos rfl, wps_ret, wp_c]
  exact ⟨rfl, rfl⟩
theorem isstep_len {xs : List Dv} (h : xs.length ≠ 2) (S : Sto) : m_is_step [.tup xs] S = .ok (.bl false) S := by
  refine fn_eq rfl ?_
  have hz : ((xs.length : Int) = 2) = False := by simp; omega
  unfold b_is_step
  rw [wps_seq, wps_if, wp_bOr, wp_bNot, wp_bOf, wp_e1, wp_var rfl, show mIsi "tuple" (.tup xs) S = .ok (.bl true) S from rfl, wp_ok, isB_bl, Bool.not_true, if_neg Bool.false_ne_true, wp_bOf, wp_e2, wp_eN, wp_cons, wp_var rfl, wp_nil, show mLen [.tup xs] S = .ok (.int xs.length) S from rfl, wp_ok, wp_c, mNe_int, wp_ok, isB_bl, if_pos (by simp; omega), wps_ret, wp_c]
  exact ⟨rfl, rfl⟩
theorem isstep_two {a b : Dv} {n t : Bool} (hn : ∀ S, m_is_name [a] S = .ok (.bl n) S) (ht : ∀ S, m_is_integer [b] S = .ok (.bl t) S) (hi : t = true → ∀ S, mIn b (.tup [.int 1, .int (-1)]) S = .ok (.bl false) S) (S : Sto) : m_is_step [.tup [a, b]] S = .ok (.bl false) S := by
  refine fn_eq rfl ?_
  unfold b_is_step
  rw [wps_seq, wps_if, wp_bOr, wp_bNot, wp_bOf, wp_e1, wp_var rfl, show mIsi "tuple" (.tup [a, b]) S = .ok (.bl true) S from rfl, wp_ok, isB_bl, Bool.not_true, if_neg Bool.false_ne_true, wp_bOf, wp_e2, wp_eN, wp_cons, wp_var rfl, wp_nil, show mLen [.tup [a, b]] S = .ok (.int 2) S from rfl, wp_ok, wp_c, mNe_int, wp_ok, isB_bl, if_neg (by decide), wps_nil, wps_ret, wp_eAnd, wp_eN, wp_cons, wp_e2, wp_var rfl, wp_c, show mIx (.tup [a, b]) (.int 0) S = .ok a S from rfl, wp_ok, wp_nil, hn, wp_ok, isB_bl]
  cases n with
  | false => rw [if_neg Bool.false_ne_true]; exact ⟨rfl, rfl⟩
  | true =>
    rw [if_pos rfl, wp_eAnd, wp_eN, wp_cons, wp_e2, wp_var rfl, wp_c, show mIx (.tup [a, b]) (.int 1) S = .ok b S from rfl, wp_ok, wp_nil, ht, wp_ok, isB_bl]
    cases t with
    | false => rw [if_neg Bool.false_ne_true]; exact ⟨rfl, rfl⟩
    | true =>
      rw [if_pos rfl, wp_e2, wp_e2, wp_var rfl, wp_c, show mIx (.tup [a, b]) (.int 1) S = .ok b S from rfl, wp_ok, wp_eN, wp_cons, wp_c, wp_cons, wp_c, wp_nil, mTup_ok _ _ (by simp [lim_eq]), wp_ok, hi rfl, wp_ok]
      exact ⟨rfl, rfl⟩
theorem isint_no {d : Dv} (h : (∀ S, mIsi "int" d S = .ok (.bl false) S) ∨ ((∀ S, mIsi "int" d S = .ok (.bl true) S) ∧ ∀ S, mIsi "bool" d S = .ok (.bl true) S)) (S : Sto) : m_is_integer [d] S = .ok (.bl false) S := by
  refine fn_eq rfl ?_
  unfold b_is_integer
  rcases h with h | ⟨h1, h2⟩
  · rw [wps_ret, wp_eAnd, wp_e1, wp_var rfl, h, wp_ok, isB_bl, if_neg Bool.false_ne_true]
    exact ⟨rfl, rfl⟩
  · rw [wps_ret, wp_eAnd, wp_e1, wp_var rfl, h1, wp_ok, isB_bl, if_pos rfl, wp_eNot, wp_e1, wp_var rfl, h2, wp_ok, isB_bl]
    exact ⟨rfl, rfl⟩
/-- way numbers that are none -/
theorem way_no {i : Int} (h1 : i ≠ 1) (h2 : i ≠ -1) (S : Sto) : mIn (.int i) (.tup [.int 1, .int (-1)]) S = .ok (.bl false) S := by
  show Res.ok (Dv.bl (id (((1 : Int) == i) || (((-1 : Int) == i) || false)))) S = _
  have e1 : ((1 : Int) == i) = false := by simp; omega
  have e2 : ((-1 : Int) == i) = false := by simp; omega
  rw [e1, e2]
  rfl
theorem isstep_way {a : Dv} {n : Bool} (hn : ∀ S, m_is_name [a] S = .ok (.bl n) S) {i : Int} (h1 : i ≠ 1) (h2 : i ≠ -1) (S : Sto) : m_is_step [.tup [a, .int i]] S = .ok (.bl false) S := isstep_two hn (isint_int i) (fun _ => way_no h1 h2) S
theorem isstep_kind {a b : Dv} {n : Bool} (hn : ∀ S, m_is_name [a] S = .ok (.bl n) S) (hb : (∀ S, mIsi "int" b S = .ok (.bl false) S) ∨ ((∀ S, mIsi "int" b S = .ok (.bl true) S) ∧ ∀ S, mIsi "bool" b S = .ok (.bl true) S)) (S : Sto) : m_is_step [.tup [a, b]] S = .ok (.bl false) S := isstep_two hn (isint_no hb) (fun e => nomatch e) S
theorem isstep_name {a b : Dv} (hn : ∀ S, m_is_name [a] S = .ok (.bl false) S) (S : Sto) : m_is_step [.tup [a, b]] S = .ok (.bl false) S := by
  refine fn_eq rfl ?_
  unfold b_is_step
  rw [wps_seq, wps_if, wp_bOr, wp_bNot, wp_bOf, wp_e1, wp_var rfl, show mIsi "tuple" (.tup [a, b]) S = .ok (.bl true) S from rfl, wp_ok, isB_bl, Bool.not_true, if_neg Bool.false_ne_true, wp_bOf, wp_e2, wp_eN, wp_cons, wp_var rfl, wp_nil, show mLen [.tup [a, b]] S = .ok (.int 2) S from rfl, wp_ok, wp_c, mNe_int, wp_ok, isB_bl, if_neg (by decide), wps_nil, wps_ret, wp_eAnd, wp_eN, wp_cons, wp_e2, wp_var rfl, wp_c, show mIx (.tup [a, b]) (.int 0) S = .ok a S from rfl, wp_ok, wp_nil, hn, wp_ok, isB_bl, if_neg Bool.false_ne_true]
  exact ⟨rfl, rfl⟩
end Mi
end T_P11g
section T_P11h
set_option Elab.async false
set_option linter.all false
set_option maxRecDepth 100000
set_option maxHeartbeats 1000000
/-! P11h: k11: the odd steps of the law. -/
namespace Mi
open PySem L2
/-- a value that is data, and no step -/
structure OddS (d : Dv) (P : PyData) : Prop where
  dp : ∀ S k, deep S (k + 2) d = some P
  sh : Sh P 60
  ns : ∀ S, m_is_step [d] S = .ok (.bl false) S
theorem sh_strg {x : Str} {n : Nat} (h : ∀ c ∈ x.cps.toList, c < 16 ^ 8) (hl : x.length ≤ n) : Sh (.str x) n := by
  refine ⟨rfl, ?_, hl⟩
  show (x.cps.toList.all fun c => decide (c < 16 ^ 8)) = true
  rw [List.all_eq_true]
  exact fun c hc => decide_eq_true (h c hc)
theorem lo_good {x : Str} (h : GoodL x) : ∀ c ∈ x.cps.toList, c < 16 ^ 8 := fun c hc => by
  have := h.2.2 c hc
  unfold isLt at this
  simp at this
  omega
theorem cps_app (x y : Str) : (x ++ y).cps.toList = x.cps.toList ++ y.cps.toList := by
  have e : (x ++ y).cps = x.cps ++ y.cps := rfl
  rw [e, Array.toList_append]
theorem lo_app {x y : Str} (hx : ∀ c ∈ x.cps.toList, c < 16 ^ 8) (hy : ∀ c ∈ y.cps.toList, c < 16 ^ 8) : ∀ c ∈ (x ++ y).cps.toList, c < 16 ^ 8 := fun c hc => by
  rw [cps_app] at hc
  exact (List.mem_append.mp hc).elim (hx c) (hy c)
theorem isname_no {y : Str} (hl : y.length ≤ lim) (h : isNm y = false) (S : Sto) : m_is_name [.str y] S = .ok (.bl false) S := by rw [isname_eq hl, h]
theorem isNm_bad {y : Str} {c : Nat} (hc : c ∈ y.cps.toList) (h : isLt c = false) : isNm y = false := by
  cases e : isNm y with
  | false => rfl
  | true =>
    have := (isNm_good.mp e).2.2 c hc
    rw [h] at this
    cases this
theorem isNm_long {y : Str} (h : 8 < y.length) : isNm y = false := by
  cases e : isNm y with
  | false => rfl
  | true =>
    have := (isNm_good.mp e).2.1
    omega
theorem repS_cps (x : Str) : ∀ n acc, ((List.replicate n x.cps).foldl (· ++ ·) acc).toList = acc.toList ++ (List.replicate n x.cps.toList).flatten
  | 0, acc => by simp
  | n + 1, acc => by
    rw [List.replicate_succ, List.foldl_cons, repS_cps x n, Array.toList_append, List.replicate_succ, List.flatten_cons, List.append_assoc]
theorem rep_len (x : Str) (n : Nat) : (repS x n).length = n * x.length := by
  have e : (repS x n).cps.toList = (List.replicate n x.cps.toList).flatten := by
    unfold repS
    rw [repS_cps]
    rfl
  have e2 : (repS x n).length = (repS x n).cps.toList.length := rfl
  have e3 : x.length = x.cps.toList.length := rfl
  rw [e2, e, e3]
  simp
def x9 (x : Str) : Str := cutS (repS x 9) none (some 9)
theorem x9_cps (x : Str) : (x9 x).cps.toList = (repS x 9).cps.toList.take (min 9 (repS x 9).length) := by
  show (List.take (HT.sIx (repS x 9).length (repS x 9).length (some 9) - HT.sIx (repS x 9).length 0 none) (List.drop (HT.sIx (repS x 9).length 0 none) (repS x 9).cps.toList)) = _
  rw [show (some (9 : Int)) = some ((9 : Nat) : Int) from rfl, sIx_nat, sIx_none]
  simp
theorem x9_len {x : Str} (h : GoodL x) : (x9 x).length = 9 := by
  have e : (x9 x).length = (x9 x).cps.toList.length := rfl
  have e2 := rep_len x 9
  have e3 : (repS x 9).cps.toList.length = (repS x 9).length := rfl
  have := h.1
  rw [e, x9_cps, List.length_take, e3]
  omega
theorem x9_lo {x : Str} (h : GoodL x) : ∀ c ∈ (x9 x).cps.toList, c < 16 ^ 8 := fun c hc => by
  rw [x9_cps] at hc
  have hc := List.mem_of_mem_take hc
  have e : (repS x 9).cps.toList = (List.replicate 9 x.cps.toList).flatten := by
    unfold repS
    rw [repS_cps]
    rfl
  rw [e] at hc
  obtain ⟨l, hl, hc⟩ := List.mem_flatten.mp hc
  rw [(List.mem_replicate.mp hl).2] at hc
  exact lo_good h c hc
theorem odd_two {a b : Dv} {p q : PyData} (ha : ∀ S k, deep S (k + 1) a = some p) (hb : ∀ S k, deep S (k + 1) b = some q) (sa : Sh p 20) (sb : Sh q 20) (h : ∀ S, m_is_step [.tup [a, b]] S = .ok (.bl false) S) : OddS (.tup [a, b]) (.tuple [p, q]) := by
  refine ⟨fun S k => ?_, (sh_two sa sb).up (by omega), h⟩
  show (optAll [deep S (k + 1) a, deep S (k + 1) b]).map PyData.tuple = _
  rw [ha, hb]
  rfl
theorem sh_big : Sh (.int (10 ^ 20)) 20 := ⟨by decide +kernel, by decide +kernel, by decide⟩
theorem sh_m2 : Sh (.int (-2)) 20 := ⟨by decide +kernel, by decide +kernel, by decide⟩
theorem sh_tr : Sh (.bool true) 20 := ⟨rfl, rfl, Nat.zero_le _⟩
theorem sh_i (n : Nat) (h : n < 3) : Sh (.int (n : Int)) 20 := (sh_int (by omega) (by omega)).up (by omega)
def odds (x : Str) : List Dv :=
  [.tup [.str x, .int 0], .tup [.str x, .int 2], .tup [.str x, .bl true], .tup [.str x, .int (-2)], .tup [.str x, .non], .tup [.str x, .str "1"], .tup [.str x], .tup [.str x, .int 1, .int 1]] ++
  [.lst [.str x, .int 1], .str x, .non, .int 1, .tup [.str "", .int 1], .tup [.str (x ++ "A"), .int 1], .tup [.str ("~" ++ x), .int 1], .tup [.str (x9 x), .int (-1)]] ++
  [.tup [.non, .int 1], .tup [.int 1, .str x], .dct [(.inr x, .int 1)], .tup [.str (x ++ " "), .int 1], .tup [.str x, .int (10 ^ 20)]]
theorem one_text : (("1" : Str).length = 1) ∧ ∀ c ∈ ("1" : Str).cps.toList, c < 16 ^ 8 := ⟨by decide +kernel, by decide +kernel⟩
theorem odds_ok {x : Str} (g : GoodL x) : ∀ d ∈ odds x, ∃ P, OddS d P := by
  have nx : ∀ S, m_is_name [.str x] S = .ok (.bl true) S := isname_ok g
  have sx : Sh (.str x) 20 := (sh_str g).up (by omega)
  have hl := g.2.1
  have s1 : Sh (.int 1) 20 := sh_i 1 (by omega)
  have ki : ∀ (b : Dv), kind [] b ≠ none → True := fun _ _ => trivial
  unfold odds
  simp only [List.cons_append, List.nil_append, List.forall_mem_cons]
  refine ⟨?_, ?_, ?_, ?_, ?_, ?_, ?_, ?_, ?_, ?_, ?_, ?_, ?_, ?_, ?_, ?_, ?_, ?_, ?_, ?_, ?_, fun _ h => nomatch h⟩
  · exact ⟨_, odd_two (fun _ _ => rfl) (fun _ _ => rfl) sx (sh_i 0 (by omega)) (isstep_way nx (by decide) (by decide))⟩
  · exact ⟨_, odd_two (fun _ _ => rfl) (fun _ _ => rfl) sx (sh_i 2 (by omega)) (isstep_way nx (by decide) (by decide))⟩
  · exact ⟨_, odd_two (fun _ _ => rfl) (fun _ _ => rfl) sx sh_tr (isstep_kind nx (.inr ⟨fun _ => rfl, fun _ => rfl⟩))⟩
  · exact ⟨_, odd_two (fun _ _ => rfl) (fun _ _ => rfl) sx sh_m2 (isstep_way nx (by decide) (by decide))⟩
  · exact ⟨_, odd_two (fun _ _ => rfl) (fun _ _ => rfl) sx (shN.up (by omega)) (isstep_kind nx (.inl fun _ => rfl))⟩
  · exact ⟨_, odd_two (fun _ _ => rfl) (fun _ _ => rfl) sx ((sh_strg one_text.2 (Nat.le_of_eq one_text.1)).up (by omega)) (isstep_kind nx (.inl fun _ => rfl))⟩
  · exact ⟨.tuple [.str x], fun _ _ => rfl, (sh_tup (f := id) (xs := [.str x]) (n := 20) fun z hz => by rw [List.mem_singleton.mp hz]; exact sx).up (by simp), isstep_len (by simp)⟩
  · exact ⟨.tuple [.str x, .int 1, .int 1], fun _ _ => rfl, ⟨by rw [show PyData.showable (.tuple [.str x, .int 1, .int 1]) = (PyData.showable (.int 1) && (PyData.showable (.int 1) && true)) from rfl]; decide +kernel, by
      show (PyData.leavesShort 400 (.str x) && (PyData.leavesShort 400 (.int 1) && (PyData.leavesShort 400 (.int 1) && true))) = true
      rw [sx.l, s1.l]; rfl, by
      show (PyData.str x).bulk + 1 + (0 + 1 + (0 + 1 + 0)) ≤ 60
      have := sx.b
      omega⟩, isstep_len (by simp)⟩
  · exact ⟨.list [.str x, .int 1], fun _ _ => rfl, (sh_l2 sx s1).up (by omega), isstep_non fun _ => rfl⟩
  · exact ⟨.str x, fun _ _ => rfl, sx.up (by omega), isstep_non fun _ => rfl⟩
  · exact ⟨.none, fun _ _ => rfl, shN.up (by omega), isstep_non fun _ => rfl⟩
  · exact ⟨.int 1, fun _ _ => rfl, s1.up (by omega), isstep_non fun _ => rfl⟩
  · exact ⟨_, odd_two (fun _ _ => rfl) (fun _ _ => rfl) ((sh_strg (n := 0) (by decide +kernel) (by decide +kernel)).up (by omega)) s1 (isstep_name (isname_no (by decide +kernel) (by decide +kernel)))⟩
  · have la : Str.length ("A" : Str) = 1 := by decide +kernel
    have l2 : (x ++ ("A" : Str)).length = x.length + 1 := by rw [len_app, la]
    exact ⟨_, odd_two (fun _ _ => rfl) (fun _ _ => rfl) (sh_strg (lo_app (lo_good g) (by decide +kernel)) (by omega)) s1 (isstep_name (isname_no (by rw [lim_eq]; omega) (isNm_bad (c := 65) (by rw [cps_app]; exact List.mem_append_right _ (by decide +kernel)) (by decide))))⟩
  · have l2 : (("~" : Str) ++ x).length = x.length + 1 := by rw [len_app, wv_len]; omega
    exact ⟨_, odd_two (fun _ _ => rfl) (fun _ _ => rfl) (sh_strg (lo_app (by decide +kernel) (lo_good g)) (by omega)) s1 (isstep_name (isname_no (by rw [lim_eq]; omega) (isNm_bad (c := 126) (by rw [cps_app]; exact List.mem_append_left _ (by decide +kernel)) (by decide))))⟩
  · have l2 := x9_len g
    exact ⟨_, odd_two (fun _ _ => rfl) (fun _ _ => rfl) (sh_strg (x9_lo g) (by omega)) (sh_m1.up (by omega)) (isstep_name (isname_no (by rw [lim_eq]; omega) (isNm_long (by omega))))⟩
  · exact ⟨_, odd_two (fun _ _ => rfl) (fun _ _ => rfl) (shN.up (by omega)) s1 (isstep_name (isname_non fun _ => rfl))⟩
  · exact ⟨_, odd_two (fun _ _ => rfl) (fun _ _ => rfl) s1 sx (isstep_name (isname_non fun _ => rfl))⟩
  · have okx : okSB x = true := by
      unfold okSB
      rw [List.all_eq_true]
      intro c hc
      have := g.2.2 c hc
      unfold isLt at this
      simp at this
      rw [decide_eq_true_iff]
      omega
    refine ⟨.dict [(.str x, .int 1)], fun S k => ?_, ⟨?_, ?_, ?_⟩, isstep_non fun _ => rfl⟩
    · show (if (okSB x && true) = true then _ else none) = _
      rw [okx]
      rfl
    · show (PyData.showable (.str x) && PyData.showable (.int 1) && true) = true
      rw [sx.s, s1.s]; rfl
    · show (PyData.leavesShort 400 (.str x) && PyData.leavesShort 400 (.int 1) && true) = true
      rw [sx.l, s1.l]; rfl
    · show (PyData.str x).bulk + 0 + 2 + 0 ≤ 60
      have := sx.b
      omega
  · have l2 : (x ++ (" " : Str)).length = x.length + 1 := by rw [len_app, bl_len]
    exact ⟨_, odd_two (fun _ _ => rfl) (fun _ _ => rfl) (sh_strg (lo_app (lo_good g) (by decide +kernel)) (by omega)) s1 (isstep_name (isname_no (by rw [lim_eq]; omega) (isNm_bad (c := 32) (by rw [cps_app]; exact List.mem_append_right _ (by decide +kernel)) (by decide))))⟩
  · exact ⟨_, odd_two (fun _ _ => rfl) (fun _ _ => rfl) sx sh_big (isstep_way nx (by decide +kernel) (by decide +kernel))⟩
theorem odds_len (x : Str) : (odds x).length = 21 := rfl
/-! ### a picked odd step -/
theorem oddstep_ok {S : Sto} {p : Nat} (h : Pt S p) {x : Str} (g : GoodL x) : Wp (m_Lodd_step [.loc p, .str x] S) fun v S' => v ∈ odds x ∧ Fr p S S' := by
  have hl := g.2.1
  have hl1 := g.1
  have la : Str.length ("A" : Str) = 1 := by decide +kernel
  have m9 : mMulS (.str x) (.int 9) S = .ok (.str (repS x 9)) S := by
    show (if (2 : Int) ≤ 9 ∧ (9 : Int) ≤ 1000 ∧ 1 ≤ x.length ∧ x.length ≤ 1000 then Res.ok (Dv.str (repS x (9 : Int).toNat)) S else .bad) = _
    rw [if_pos ⟨by omega, by omega, by omega, by omega⟩]
    rfl
  refine fn_wp rfl ?_
  unfold b_Lodd_step
  show WpS (sSeq _ _ [some (.loc p), some (.str x), none] S) _ _
  rw [wps_seq, wps_set, wp_eN]
  have E1_ : ∀ d S, d = [some (.loc p), some (.str x), none] → aCons (eN mTup (aCons (eVar 1) (aCons (eC (.int 0)) aNil))) (aCons (eN mTup (aCons (eVar 1) (aCons (eC (.int 2)) aNil))) (aCons (eN mTup (aCons (eVar 1) (aCons (eC (.bl true)) aNil))) (aCons (eN mTup (aCons (eVar 1) (aCons (e1 mNeg (eC (.int 2))) aNil))) (aCons (eN mTup (aCons (eVar 1) (aCons (eC .non) aNil))) (aCons (eN mTup (aCons (eVar 1) (aCons (eC (.str "1")) aNil))) (aCons (eN mTup (aCons (eVar 1) aNil)) (aCons (eN mTup (aCons (eVar 1) (aCons (eC (.int 1)) (aCons (eC (.int 1)) aNil)))) aNil))))))) d S = .ok [.tup [.str x, .int 0], .tup [.str x, .int 2], .tup [.str x, .bl true], .tup [.str x, .int (-2)], .tup [.str x, .non], .tup [.str x, .str "1"], .tup [.str x], .tup [.str x, .int 1, .int 1]] S := fun d S e => by
    subst e
    kernel_rfl
  rw [E1_ _ _ rfl, wp_ok, mLst_ok _ _ (by simp [lim_eq]), wp_ok]
  show WpS (sSeq _ _ [some (.loc p), some (.str x), some (.lst _)] S) _ _
  rw [wps_seq, wps_set, wp_e2, wp_var rfl, wp_eN]
  have E2_ : ∀ y, Wp (aCons (eN mLst (aCons (eVar 1) (aCons (eC (.int 1)) aNil))) (aCons (eVar 1) (aCons (eC .non) (aCons (eC (.int 1)) (aCons (eN mTup (aCons (eC (.str "")) (aCons (eC (.int 1)) aNil))) (aCons (eN mTup (aCons (e2 mAdd (eVar 1) (eC (.str "A"))) (aCons (eC (.int 1)) aNil))) (aCons (eN mTup (aCons (e2 mAdd (eC (.str "~")) (eVar 1)) (aCons (eC (.int 1)) aNil))) (aCons (eN mTup (aCons (eSl (e2 mMulS (eVar 1) (eC (.int 9))) oNone (oSome (eC (.int 9)))) (aCons (e1 mNeg (eC (.int 1))) aNil))) aNil))))))) [some (.loc p), some (.str x), y] S) fun ds S' => ds = [.lst [.str x, .int 1], .str x, .non, .int 1, .tup [.str "", .int 1], .tup [.str (x ++ "A"), .int 1], .tup [.str ("~" ++ x), .int 1], .tup [.str (x9 x), .int (-1)]] ∧ S' = S := fun y => by
    rw [wp_cons, show eN mLst (aCons (eVar 1) (aCons (eC (.int 1)) aNil)) [some (.loc p), some (.str x), y] S = .ok (.lst [.str x, .int 1]) S by kernel_rfl, wp_ok, wp_cons, wp_var rfl, wp_cons, wp_c, wp_cons, wp_c, wp_cons, show eN mTup (aCons (eC (.str "")) (aCons (eC (.int 1)) aNil)) [some (.loc p), some (.str x), y] S = .ok (.tup [.str "", .int 1]) S by kernel_rfl, wp_ok]
    rw [wp_cons, wp_eN, wp_cons, wp_e2, wp_var rfl, wp_c, mAdd_str (by rw [la, lim_eq]; omega), wp_ok, wp_cons, wp_c, wp_nil, mTup_ok _ _ (by simp [lim_eq]), wp_ok]
    rw [wp_cons, wp_eN, wp_cons, wp_e2, wp_c, wp_var rfl, mAdd_str (by rw [wv_len, lim_eq]; omega), wp_ok, wp_cons, wp_c, wp_nil, mTup_ok _ _ (by simp [lim_eq]), wp_ok]
    rw [wp_cons, wp_eN, wp_cons, wp_sl, wp_e2, wp_var rfl, wp_c, m9, wp_ok, wp_oNone, wp_oSome, wp_c, isI_int, mSl_str (by rw [rep_len, lim_eq]; omega), wp_ok, wp_cons, wp_e1, wp_c, show mNeg (.int 1) S = .ok (.int (-1)) S from rfl, wp_ok, wp_nil, mTup_ok _ _ (by simp [lim_eq]), wp_ok, wp_nil]
    exact ⟨rfl, rfl⟩
  refine (E2_ _).mono ?_
  rintro _ S' ⟨rfl, e⟩
  obtain rfl := e.symm
  rw [mLst_ok _ _ (by simp [lim_eq]), wp_ok, show ∀ (a b : List Dv) S, a.length + b.length ≤ lim → mAdd (.lst a) (.lst b) S = .ok (.lst (a ++ b)) S from fun a b S h => by
    show (if a.length + b.length ≤ lim then Res.ok (Dv.lst (a ++ b)) S else .bad) = _
    rw [if_pos h], wp_ok]
  rotate_left
  · simp [lim_eq]
  generalize hA : ([.tup [.str x, .int 0], .tup [.str x, .int 2], .tup [.str x, .bl true], .tup [.str x, .int (-2)], .tup [.str x, .non], .tup [.str x, .str "1"], .tup [.str x], .tup [.str x, .int 1, .int 1]] ++ [.lst [.str x, .int 1], .str x, .non, .int 1, .tup [.str "", .int 1], .tup [.str (x ++ "A"), .int 1], .tup [.str ("~" ++ x), .int 1], .tup [.str (x9 x), .int (-1)]] : List Dv) = A
  have hAl : A.length = 16 := by rw [← hA]; rfl
  show WpS (sRet _ [some (.loc p), some (.str x), some (.lst A)] _) _ _
  rw [wps_ret, wp_eN, wp_cons, wp_var rfl, wp_cons, wp_e2, wp_var rfl, wp_eN]
  have E3_ : Wp (aCons (eN mTup (aCons (eC .non) (aCons (eC (.int 1)) aNil))) (aCons (eN mTup (aCons (eC (.int 1)) (aCons (eVar 1) aNil))) (aCons (e1 (mDisp1 1) (eVar 1)) (aCons (eN mTup (aCons (e2 mAdd (eVar 1) (eC (.str " "))) (aCons (eC (.int 1)) aNil))) (aCons (eN mTup (aCons (eVar 1) (aCons (e2 mPow (eC (.int 10)) (eC (.int 20))) aNil))) aNil)))) [some (.loc p), some (.str x), some (.lst A)] S) fun ds S' => ds = [.tup [.non, .int 1], .tup [.int 1, .str x], .dct [(.inr x, .int 1)], .tup [.str (x ++ " "), .int 1], .tup [.str x, .int (10 ^ 20)]] ∧ S' = S := by
    rw [wp_cons, show eN mTup (aCons (eC .non) (aCons (eC (.int 1)) aNil)) [some (.loc p), some (.str x), some (.lst A)] S = .ok (.tup [.non, .int 1]) S by kernel_rfl, wp_ok, wp_cons, show eN mTup (aCons (eC (.int 1)) (aCons (eVar 1) aNil)) [some (.loc p), some (.str x), some (.lst A)] S = .ok (.tup [.int 1, .str x]) S by kernel_rfl, wp_ok, wp_cons, wp_e1, wp_var rfl, show mDisp1 1 (.str x) S = .ok (.dct [(.inr x, .int 1)]) S from rfl, wp_ok]
    rw [wp_cons, wp_eN, wp_cons, wp_e2, wp_var rfl, wp_c, mAdd_str (by rw [bl_len, lim_eq]; omega), wp_ok, wp_cons, wp_c, wp_nil, mTup_ok _ _ (by simp [lim_eq]), wp_ok]
    rw [wp_cons, wp_eN, wp_cons, wp_var rfl, wp_cons, wp_e2, wp_c, wp_c, show mPow (.int 10) (.int 20) S = .ok (.int (10 ^ 20)) S by kernel_rfl, wp_ok, wp_nil, mTup_ok _ _ (by simp [lim_eq]), wp_ok, wp_nil]
    exact ⟨rfl, rfl⟩
  refine E3_.mono ?_
  rintro _ S' ⟨rfl, e⟩
  obtain rfl := e.symm
  rw [mLst_ok _ _ (by simp [lim_eq]), wp_ok, show ∀ (a b : List Dv) S, a.length + b.length ≤ lim → mAdd (.lst a) (.lst b) S = .ok (.lst (a ++ b)) S from fun a b S h => by
    show (if a.length + b.length ≤ lim then Res.ok (Dv.lst (a ++ b)) S else .bad) = _
    rw [if_pos h], wp_ok, wp_nil]
  rotate_left
  · rw [hAl]; simp [lim_eq]
  have hB : A ++ [.tup [.non, .int 1], .tup [.int 1, .str x], .dct [(.inr x, .int 1)], .tup [.str (x ++ " "), .int 1], .tup [.str x, .int (10 ^ 20)]] = odds x := by rw [← hA]; rfl
  rw [hB]
  refine pick_ok (n := 21) h (by omega) (by omega) (by show Res.ok (Dv.int (odds x).length) _ = _; rw [odds_len]) fun S' k f hk => ?_
  exact ⟨_, mIx_lst (by rw [odds_len]; exact hk) S', List.getElem_mem _⟩
end Mi
end T_P11h
section T_P11i
set_option Elab.async false
set_option linter.all false
set_option maxRecDepth 100000
set_option maxHeartbeats 1000000
/-! P11i: k11: odd_right. -/
namespace Mi
open PySem L2
/-- a value that is data, and no word -/
structure BadW (d : Dv) (P : PyData) : Prop where
  dp : ∀ S k, deep S (k + 4) d = some P
  sh : Sh P 800
  nw : ∀ S, m_is_word [d] S = .ok (.bl false) S
def refD (d : Dv) : Dv := .lst [.str "refused", d]
def refP (P : PyData) : PyData := .list [.list [.str "refused", P], .list [.str "refused", P], .list [.str "refused", P]]
theorem refP_sh {P : PyData} (h : Sh P 800) : Sh (refP P) 4809 := by
  have s1 : Sh (.list [.str "refused", P]) 1602 := sh_l2 ((sh_str good_refused).up (by omega)) h
  exact sh_lst (f := id) (xs := [.list [.str "refused", P], .list [.str "refused", P], .list [.str "refused", P]]) (n := 1602) fun z hz => by
    have : z = .list [.str "refused", P] := by simpa using hz
    rw [this]
    exact s1
theorem refD_deep {d : Dv} {P : PyData} (b : BadW d P) (S : Sto) (k : Nat) : deep S (k + 5) (refD d) = some (.list [.str "refused", P]) := by
  show (optAll [some (PyData.str "refused"), deep S (k + 4) d]).map PyData.list = _
  rw [b.dp]
  rfl
theorem ref_all {d : Dv} {P : PyData} (b : BadW d P) (S : Sto) : optAll ([refD d, refD d, refD d].map (deep S 11)) = some [.list [.str "refused", P], .list [.str "refused", P], .list [.str "refused", P]] := by
  show optAll [deep S 11 (refD d), deep S 11 (refD d), deep S 11 (refD d)] = _
  rw [refD_deep b S 6]
  rfl
theorem repr_ref1 {d : Dv} {P : PyData} (b : BadW d P) {S : Sto} {n : Nat} (h : S[n]? = some (.lst [refD d, refD d, refD d])) : mRepr [.loc n] S = .ok (.str (refP P).shown) S := by
  refine mRepr_ok (p := refP P) (n := 4809) ?_ (refP_sh b.sh) (by omega)
  show (match S[n]? with | some (.lst xs) => (optAll (xs.map (deep S 11))).map PyData.list | _ => none) = _
  rw [h]
  dsimp only
  rw [ref_all b S]
  rfl
theorem repr_ref2 {d : Dv} {P : PyData} (b : BadW d P) (S : Sto) : mRepr [.lst [refD d, refD d, refD d]] S = .ok (.str (refP P).shown) S := by
  refine mRepr_ok (p := refP P) (n := 4809) ?_ (refP_sh b.sh) (by omega)
  show (optAll ([refD d, refD d, refD d].map (deep S 11))).map PyData.list = _
  rw [ref_all b S]
  rfl
theorem turn_ok {w : List Wst} (gw : GoodW w) (hl : w.length ≤ 20) {d : Dv} {P : PyData} (b : BadW d P) {a0 a1 a3 a4 a5 x7 x8 : Option Dv} {S : Sto} {N : En → Sto → Prop} {R : Dv → Sto → Prop} (k : ∀ o, N [a0, a1, some (wD w), a3, a4, a5, some d, some (.loc S.length), x8] (S ++ [o])) :
    WpS ((sSeq (sSet 7 (eN mNewL (aCons (eLam m_Lrefused (eN m_inverse_of (aCons (eVar 6) aNil))) aNil))) (sSeq (sExpr (eMth "list" mAppend (eVar 7) (aCons (eLam m_Lrefused (eN m_word_text (aCons (eVar 6) aNil))) aNil))) (sSeq (sExpr (eMth "list" mAppend (eVar 7) (aCons (eLam m_Lrefused (eN m_in_order (aCons (eN mLst (aCons (eVar 2) (aCons (eVar 6) (aCons (eC .non) aNil)))) aNil))) aNil))) (sIf (bOf (e2 mNe (eN mRepr (aCons (eVar 7) aNil)) (eN mRepr (aCons (e2 mMul (eN mLst (aCons (eN mLst (aCons (eC (.str "refused")) (aCons (eVar 6) aNil))) aNil)) (eC (.int 3))) aNil)))) (sRet (eC (.bl false))) sNil)))) [a0, a1, some (wD w), a3, a4, a5, some d, x7, x8] S) N R := by
  have E1 : ∀ x S, eLam m_Lrefused (eN m_inverse_of (aCons (eVar 6) aNil)) [a0, a1, some (wD w), a3, a4, a5, some d, x, x8] S = .ok (refD d) S := fun x S => lref_ok (inverse_bad (b.nw S))
  have E2 : ∀ x S, eLam m_Lrefused (eN m_word_text (aCons (eVar 6) aNil)) [a0, a1, some (wD w), a3, a4, a5, some d, x, x8] S = .ok (refD d) S := fun x S => lref_ok (text_bad (b.nw S))
  have E3 : ∀ x S, eLam m_Lrefused (eN m_in_order (aCons (eN mLst (aCons (eVar 2) (aCons (eVar 6) (aCons (eC .non) aNil)))) aNil)) [a0, a1, some (wD w), a3, a4, a5, some d, x, x8] S = .ok (refD d) S := fun x S => lref_ok (order_bad gw (by rw [lim_eq]; omega) (b.nw S))
  have EM : ∀ x S, e2 mMul (eN mLst (aCons (eN mLst (aCons (eC (.str "refused")) (aCons (eVar 6) aNil))) aNil)) (eC (.int 3)) [a0, a1, some (wD w), a3, a4, a5, some d, x, x8] S = .ok (.lst [refD d, refD d, refD d]) S := fun x S => by kernel_rfl
  rw [wps_seq, wps_set, wp_eN, wp_cons, E1, wp_ok, wp_nil, mNewL_ok _ _ (by simp [lim_eq]), wp_ok]
  show WpS (sSeq _ _ [a0, a1, some (wD w), a3, a4, a5, some d, some (.loc S.length), x8] (S ++ [.lst [refD d]])) _ _
  rw [wps_seq, wps_expr, wp_mth, wp_var rfl]
  refine ⟨kind_loc get_last, ?_⟩
  rw [wp_cons, E2, wp_ok, wp_nil, mAppend_ok get_last (by simp [lim_eq]), wp_ok, set_last]
  show WpS (sSeq _ _ [a0, a1, some (wD w), a3, a4, a5, some d, some (.loc S.length), x8] (S ++ [.lst [refD d, refD d]])) _ _
  rw [wps_seq, wps_expr, wp_mth, wp_var rfl]
  refine ⟨kind_loc get_last, ?_⟩
  rw [wp_cons, E3, wp_ok, wp_nil, mAppend_ok get_last (by simp [lim_eq]), wp_ok, set_last]
  show WpS (sIf _ _ _ [a0, a1, some (wD w), a3, a4, a5, some d, some (.loc S.length), x8] (S ++ [.lst [refD d, refD d, refD d]])) _ _
  rw [wps_if, wp_bOf, wp_e2, wp_eN, wp_cons, wp_var rfl, wp_nil, repr_ref1 b get_last, wp_ok, wp_eN, wp_cons, EM, wp_ok, wp_nil, repr_ref2 b, wp_ok, mNe_same, wp_ok, isB_bl, if_neg Bool.false_ne_true, wps_nil]
  exact k _
theorem mAdd_tup {a b : List Dv} (h : a.length + b.length ≤ lim) (S : Sto) : mAdd (.tup a) (.tup b) S = .ok (.tup (a ++ b)) S := by
  show (if a.length + b.length ≤ lim then Res.ok (Dv.tup (a ++ b)) S else .bad) = _
  rw [if_pos h]
def worse (w : List Wst) (n : Nat) (v : Dv) : List Dv := (w.take n).map sD ++ [v] ++ (w.drop n).map sD
theorem worse_bad {w : List Wst} (g : GoodW w) (hl : w.length ≤ 6) (n : Nat) {v : Dv} {P : PyData} (o : OddS v P) : ∃ Q, BadW (.tup (worse w n v)) Q := by
  have hlen : ((w.take n).map sP ++ [P] ++ (w.drop n).map sP).length ≤ 7 := by
    simp only [List.length_append, List.length_map, List.length_take, List.length_drop, List.length_singleton]
    omega
  refine ⟨.tuple ((w.take n).map sP ++ [P] ++ (w.drop n).map sP), fun S k => ?_, ?_, fun S => ?_⟩
  · show (optAll ((worse w n v).map (deep S (k + 3)))).map PyData.tuple = _
    have e : ∀ (zs : List (Dv × PyData)), (∀ z ∈ zs, deep S (k + 3) z.1 = some z.2) → optAll ((zs.map (·.1)).map (deep S (k + 3))) = some (zs.map (·.2)) := fun zs h => by
      rw [List.map_map]
      exact optAll_map (f := fun z : Dv × PyData => deep S (k + 3) z.1) h
    have z := e ((w.take n).map (fun s => (sD s, sP s)) ++ [(v, P)] ++ (w.drop n).map fun s => (sD s, sP s)) (fun z hz => by
      rcases List.mem_append.mp hz with hz | hz
      · rcases List.mem_append.mp hz with hz | hz
        · obtain ⟨s, _, rfl⟩ := List.mem_map.mp hz
          exact deep_s s S (k + 1)
        · rw [List.mem_singleton.mp hz]
          exact o.dp S (k + 1)
      · obtain ⟨s, _, rfl⟩ := List.mem_map.mp hz
        exact deep_s s S (k + 1))
    simp only [List.map_append, List.map_map, Function.comp_def, List.map_cons, List.map_nil] at z
    rw [worse]
    simp only [List.map_append, List.map_map, Function.comp_def, List.map_cons, List.map_nil]
    rw [z]
    rfl
  · have := sh_tup (f := id) (xs := (w.take n).map sP ++ [P] ++ (w.drop n).map sP) (n := 60) fun z hz => by
      rcases List.mem_append.mp hz with hz | hz
      · rcases List.mem_append.mp hz with hz | hz
        · obtain ⟨s, hs, rfl⟩ := List.mem_map.mp hz
          exact (sh_s (g s (List.mem_of_mem_take hs))).up (by omega)
        · rw [List.mem_singleton.mp hz]
          exact o.sh
      · obtain ⟨s, hs, rfl⟩ := List.mem_map.mp hz
        exact (sh_s (g s (List.mem_of_mem_drop hs))).up (by omega)
    rw [List.map_id] at this
    refine this.up ?_
    have h2 := Nat.mul_le_mul_right 61 hlen
    omega
  · have z := isword_zs ((w.take n).map (fun s => (sD s, true)) ++ [(v, false)] ++ (w.drop n).map fun s => (sD s, true)) (fun z hz => by
      rcases List.mem_append.mp hz with hz | hz
      · rcases List.mem_append.mp hz with hz | hz
        · obtain ⟨s, hs, rfl⟩ := List.mem_map.mp hz
          exact isstep_ok (g s (List.mem_of_mem_take hs))
        · rw [List.mem_singleton.mp hz]
          exact o.ns
      · obtain ⟨s, hs, rfl⟩ := List.mem_map.mp hz
        exact isstep_ok (g s (List.mem_of_mem_drop hs))) (by simp only [List.length_append, List.length_map, List.length_take, List.length_drop, List.length_singleton, lim_eq]; omega) S
    simp only [List.map_append, List.map_map, Function.comp_def, List.map_cons, List.map_nil] at z
    rw [worse, z]
    simp
theorem lst_bad {w : List Wst} (g : GoodW w) (hl : w.length ≤ 6) : BadW (.lst (w.map sD)) (.list (w.map sP)) := by
  refine ⟨fun S k => ?_, ?_, isword_non fun _ => rfl⟩
  · show (optAll ((w.map sD).map (deep S (k + 3)))).map PyData.list = _
    rw [List.map_map, show w.map (deep S (k + 3) ∘ sD) = w.map (fun s => deep S (k + 3) (sD s)) from rfl, optAll_map (g := sP) fun s _ => deep_s s S (k + 1)]
    rfl
  · refine (sh_lst (f := sP) (n := 18) fun s hs => sh_s (g s hs)).up ?_
    have := Nat.mul_le_mul_right 19 hl
    omega
theorem mIsNot_bl (a b : Bool) (S : Sto) : mIsNot (.bl a) (.bl b) S = .ok (.bl (!decide (a = b))) S := rfl
theorem mIs_bl (a b : Bool) (S : Sto) : mIs (.bl a) (.bl b) S = .ok (.bl (decide (a = b))) S := rfl
theorem a_text : GoodL ("a" : Str) := ⟨by decide +kernel, by decide +kernel, by decide +kernel⟩
theorem odd_ok {S : Sto} {p n : Nat} {ls : List Str} (l : Lb S p n ls) {w : List Wst} (g : GoodW w) (hw : w.length ≤ 6) : Wp (m_Lodd_right [.loc p, .loc n, wD w] S) fun v S' => v = .bl true ∧ Fr p S S' := by
  refine fn_wp rfl ?_
  unfold b_Lodd_right
  rw [wps_seq, wps_par, wp_cons, wp_eN, wp_cons, wp_var rfl, wp_cons, wp_eN, wp_cons, wp_var rfl, wp_cons, wp_var rfl, wp_nil]
  refine (pick_label l).mono ?_
  rintro _ S1 ⟨⟨x, rfl, gx⟩, f1⟩
  rw [wp_nil]
  refine (oddstep_ok f1.pt gx).mono ?_
  rintro v S2 ⟨hv, f2⟩
  rw [wp_cons]
  refine (draw_len (j := 2) (n := w.length) f2.pt rfl rfl (mLen_w w) (by omega)).mono ?_
  rintro _ S3 ⟨at_, rfl, hat, f3⟩
  rw [wp_nil]
  show WpS (sSeq _ _ [some (.loc p), some (.loc n), some (wD w), some v, some (.int (at_ : Int)), none, none, none, none] S3) _ _
  obtain ⟨P, o⟩ := odds_ok gx v hv
  obtain ⟨Q, bw⟩ := worse_bad g hw at_ o
  have f : Fr p S S3 := (f1.trans f2).trans f3
  refine set_then (fun d S' => d = .tup (worse w at_ v) ∧ S' = S3) ?_ ?_
  · rw [wp_e2, wp_e2, wp_sl, wp_var rfl, wp_oNone, wp_oSome, wp_var rfl, isI_int, mSl_t w (a := at_) rfl, wp_ok, wp_eN, wp_cons, wp_var rfl, wp_nil, mTup_ok _ _ (by simp [lim_eq]), wp_ok]
    have l1 : (w.take at_).length ≤ 6 := by rw [List.length_take]; omega
    have l2 : (w.drop at_).length ≤ 6 := by rw [List.length_drop]; omega
    rw [show mAdd (wD (w.take at_)) (.tup [v]) S3 = _ from mAdd_tup (by rw [List.length_map, lim_eq, List.length_singleton]; omega) S3, wp_ok, wp_sl, wp_var rfl, wp_oSome, wp_var rfl, isI_int, wp_oNone, mSl_f w (a := at_) rfl, wp_ok, show ∀ a S, a.length ≤ 50 → mAdd (.tup a) (wD (w.drop at_)) S = _ from fun a S h => mAdd_tup (by rw [List.length_map, lim_eq]; omega) S, wp_ok]
    · exact ⟨rfl, rfl⟩
    · rw [List.length_append, List.length_map, List.length_singleton]; omega
  rintro _ S' ⟨rfl, e⟩
  obtain rfl := e.symm
  show WpS (sSeq _ _ [some (.loc p), some (.loc n), some (wD w), some v, some (.int (at_ : Int)), some (.tup (worse w at_ v)), none, none, none] _) _ _
  have bl := lst_bad g hw
  rw [wps_seq, wps_if, wp_bOr, wp_bOf, wp_e2, wp_eN, wp_cons, wp_var rfl, wp_nil, o.ns, wp_ok, wp_c, mIsNot_bl, wp_ok, isB_bl, if_neg (by decide), wp_bOr, wp_bOf, wp_e2, wp_eN, wp_cons, wp_var rfl, wp_nil, bw.nw, wp_ok, wp_c, mIsNot_bl, wp_ok, isB_bl, if_neg (by decide), wp_bOf, wp_e2, wp_eN, wp_cons, wp_eN, wp_cons, wp_var rfl, wp_nil, show ∀ S, mList [wD w] S = .ok (.lst (w.map sD)) S from fun _ => rfl, wp_ok, wp_nil, bl.nw, wp_ok, wp_c, mIsNot_bl, wp_ok, isB_bl, if_neg (by decide), wps_nil]
  refine seq_then (fun δ S' => Fr p S S' ∧ ∃ x6 x7, δ = [some (.loc p), some (.loc n), some (wD w), some v, some (.int (at_ : Int)), some (.tup (worse w at_ v)), x6, x7, none]) ?_ ?_
  · rw [wps_forE, wp_eN]
    have things : aCons (eVar 5) (aCons (eN mList (aCons (eVar 2) aNil)) (aCons (eC .non) (aCons (eC (.bl true)) (aCons (eC (.str "1")) (aCons (eN mLst (aCons (eN mTup (aCons (eC (.str "a")) (aCons (eC (.int 1)) aNil))) aNil)) (aCons mDct0 aNil)))))) [some (.loc p), some (.loc n), some (wD w), some v, some (.int (at_ : Int)), some (.tup (worse w at_ v)), none, none, none] S3 = .ok [.tup (worse w at_ v), .lst (w.map sD), .non, .bl true, .str "1", .lst [.tup [.str "a", .int 1]], .dct []] S3 := by kernel_rfl
    rw [things, wp_ok, mLst_ok _ _ (by simp [lim_eq]), wp_ok]
    have all : ∀ d ∈ [.tup (worse w at_ v), .lst (w.map sD), .non, .bl true, .str "1", .lst [.tup [.str "a", .int 1]], .dct []], ∃ P, BadW d P := by
      simp only [List.forall_mem_cons]
      refine ⟨⟨_, bw⟩, ⟨_, bl⟩, ⟨.none, fun _ _ => rfl, shN.up (by omega), isword_non fun _ => rfl⟩, ⟨.bool true, fun _ _ => rfl, sh_tr.up (by omega), isword_non fun _ => rfl⟩, ⟨.str "1", fun _ _ => rfl, sh_strg one_text.2 (by rw [one_text.1]; omega), isword_non fun _ => rfl⟩, ⟨.list [.tuple [.str "a", .int 1]], fun _ _ => rfl, ?_, isword_non fun _ => rfl⟩, ⟨.dict [], fun _ _ => rfl, ⟨by decide, by decide, by decide⟩, isword_non fun _ => rfl⟩, fun _ h => nomatch h⟩
      refine (sh_lst (f := id) (xs := [.tuple [.str "a", .int 1]]) (n := 42) fun z hz => ?_).up (by simp)
      rw [List.mem_singleton.mp hz]
      exact sh_two ((sh_str a_text).up (by omega)) (sh_i 1 (by omega))
    generalize [Dv.tup (worse w at_ v), .lst (w.map sD), .non, .bl true, .str "1", .lst [.tup [.str "a", .int 1]], .dct []] = things at all
    show WpS (forGo _ _ things _ S3) _ _
    refine wps_forIx (fun k δ S' => Fr p S S' ∧ ∃ x6 x7, δ = [some (.loc p), some (.loc n), some (wD w), some v, some (.int (at_ : Int)), some (.tup (worse w at_ v)), x6, x7, none]) _ ⟨f, _, _, rfl⟩ (fun δ S' z => z) ?_
    rintro k hk δ S4 ⟨f4, x6, x7, rfl⟩
    obtain ⟨P2, b2⟩ := all things[k] (List.getElem_mem hk)
    generalize things[k] = d at b2
    unfold gNm
    rw [onS_some]
    show WpS (sSeq _ _ [some (.loc p), some (.loc n), some (wD w), some v, some (.int (at_ : Int)), some (.tup (worse w at_ v)), some d, x7, none] S4) _ _
    refine turn_ok g (by omega) b2 fun o => ⟨f4.new, _, _, rfl⟩
  · rintro δ S4 ⟨f4, x6, x7, rfl⟩
    have key : lcEnd (gNm 8) bYes (e2 mIs (eN m_is_step (aCons (eVar 8) aNil)) (eC (.bl true))) (wipeD [some (.loc p), some (.loc n), some (wD w), some v, some (.int (at_ : Int)), some (.tup (worse w at_ v)), x6, x7, none] [8]) (w.map sD) S4 = .ok (.lst (w.map fun _ => .bl true)) S4 :=
      lcEnd_map sD _ (by rw [lim_eq]; omega) fun s hs => ⟨rfl, Wp.eq (by rw [wp_e2, wp_eN, wp_cons, wp_var rfl, wp_nil, isstep_ok (g s hs), wp_ok, wp_c, mIs_bl, wp_ok]; exact ⟨rfl, rfl⟩)⟩
    rw [wps_ret, wp_eAnd, wp_e2, wp_eN, wp_cons, wp_var rfl, wp_nil, isword_ok g (by rw [lim_eq]; omega), wp_ok, wp_c, mIs_bl, wp_ok, isB_bl, if_pos (by decide), wp_eN, wp_cons, wp_lcE, wp_var rfl]
    refine Wp.of_eq (a := .lst (w.map fun _ => .bl true)) (S := S4) key ?_
    rw [wp_nil, mAll_map (p := fun _ => true), wp_ok]
    exact ⟨by simp, f4⟩
end Mi
end T_P11i
section T_P11j
set_option Elab.async false
set_option linter.all false
set_option maxRecDepth 100000
set_option maxHeartbeats 1000000
/-! P11j: k11: kinds. -/
namespace Mi
open PySem L2
section
variable {δ : En} {S : Sto} {P : Dv → Sto → Prop}
theorem wp_eK1 {f : List Dv → M Dv} {a : EX} : Wp (eK f [0] (aCons a aNil) δ S) P = Wp (a δ S) fun x S1 => Wp (f [x] S1) P := by
  rw [wp_eK, wp_cons]
  congr
end
/-! comprehensions over a list of the store -/
theorem lcLGo_map {ι : Type} {g : TGm} {e : EX} {f : ι → Dv} {δ : En} {S : Sto} {n : Nat} (enc : ι → Dv) (xs : List ι) (hn : S[n]? = some (.lst (xs.map enc))) (h : ∀ x ∈ xs, OnS (g (enc x) δ S) fun z => z.2 = S ∧ e z.1 S = .ok (f x) S) :
    ∀ (m i fuel : Nat) (acc : List Dv), i + m = xs.length → m < fuel → lcLGo n g bYes e δ fuel i acc S = .ok (acc ++ (xs.drop i).map f) S := by
  intro m
  induction m with
  | zero =>
    intro i fuel acc hi hf
    obtain ⟨fu, rfl⟩ : ∃ k, fuel = k + 1 := ⟨fuel - 1, by omega⟩
    have nx : nxL S n i = some none := by
      unfold nxL
      rw [hn]
      show some ((xs.map enc)[i]?) = _
      rw [List.getElem?_eq_none (by simp; omega)]
    unfold lcLGo
    rw [nx, List.drop_eq_nil_of_le (by omega)]
    simp
  | succ m ih =>
    intro i fuel acc hi hf
    obtain ⟨fu, rfl⟩ : ∃ k, fuel = k + 1 := ⟨fuel - 1, by omega⟩
    have hil : i < xs.length := by omega
    have nx : nxL S n i = some (some (enc xs[i])) := by
      unfold nxL
      rw [hn]
      show some ((xs.map enc)[i]?) = _
      rw [List.getElem?_map, List.getElem?_eq_getElem hil]
      rfl
    unfold lcLGo
    rw [nx]
    have z := h xs[i] (List.getElem_mem hil)
    cases e1 : g (enc xs[i]) δ S with
    | none => rw [e1] at z; exact z.elim
    | some q =>
      rw [e1] at z
      obtain ⟨δ1, S1⟩ := q
      obtain ⟨z1, z2⟩ := z
      simp only at z1 z2
      subst z1
      simp only [e1, show bYes δ1 S1 = Res.ok true S1 from rfl, z2]
      rw [ih (i + 1) fu _ (by omega) (by omega), List.drop_eq_getElem_cons hil, List.map_cons, List.append_assoc]
      rfl
theorem lcE_loc {ι : Type} {g : TGm} {e : EX} {f : ι → Dv} {δ : En} {S : Sto} {n : Nat} (enc : ι → Dv) (xs : List ι) (hl : xs.length < lim) (hn : S[n]? = some (.lst (xs.map enc))) (h : ∀ x ∈ xs, OnS (g (enc x) δ S) fun z => z.2 = S ∧ e z.1 S = .ok (f x) S) :
    lcE g bYes e δ (.loc n) S = .ok (.lst (xs.map f)) S := by
  show lcOk (lcLGo n g bYes e δ lim 0 [] S) = _
  rw [lcLGo_map enc xs hn h xs.length 0 lim [] (by omega) hl]
  simp [lcOk]
theorem mAdd_locl {S : Sto} {n : Nat} {xs ys : List Dv} (h : S[n]? = some (.lst xs)) (hl : xs.length + ys.length ≤ lim) : mAdd (.loc n) (.lst ys) S = .ok (.lst (xs ++ ys)) S := by
  show (match (match S[n]? with | some (.lst ds) => some ds | _ => none), some ys with
    | some xs, some ys => if xs.length + ys.length ≤ lim then Res.ok (Dv.lst (xs ++ ys)) S else .bad
    | _, _ => .bad) = _
  rw [h]
  dsimp only
  rw [if_pos hl]
theorem mAddS_ll {xs ys : List Dv} (hl : xs.length + ys.length ≤ lim) (S : Sto) : mAddS (.lst xs) (.lst ys) S = .ok (.loc S.length) (S ++ [.lst (xs ++ ys)]) := by
  show (if xs.length + ys.length ≤ lim then Res.ok (Dv.loc S.length) (S ++ [Ob.lst (xs ++ ys)]) else .bad) = _
  rw [if_pos hl]
theorem mAdd_ll {xs ys : List Dv} (hl : xs.length + ys.length ≤ lim) (S : Sto) : mAdd (.lst xs) (.lst ys) S = .ok (.lst (xs ++ ys)) S := by
  show (if xs.length + ys.length ≤ lim then Res.ok (Dv.lst (xs ++ ys)) S else .bad) = _
  rw [if_pos hl]
def dueB : List Bool := [true, true, false, false, false, true, false, false, false, true, true, false, false, false, false, false, false, true]
theorem deep_bls (bs : List Bool) (S : Sto) (k : Nat) : optAll ((bs.map Dv.bl).map (deep S (k + 1))) = some (bs.map PyData.bool) := by
  rw [List.map_map]
  exact optAll_map (f := fun x => deep S (k + 1) (Dv.bl x)) fun x _ => rfl
theorem mEq_due {S : Sto} {n : Nat} (h : S[n]? = some (.lst (dueB.map Dv.bl))) : mEq (.loc n) (.lst (dueB.map Dv.bl)) S = .ok (.bl true) S := by
  have e : deep S dpt (.loc n) = some (.list (dueB.map .bool)) := by
    show (match S[n]? with | some (.lst xs) => (optAll (xs.map (deep S 11))).map PyData.list | _ => none) = _
    rw [h]
    dsimp only
    rw [deep_bls dueB S 10]
    rfl
  have e2 : deep S dpt (.lst (dueB.map Dv.bl)) = some (.list (dueB.map .bool)) := by
    show (optAll ((dueB.map Dv.bl).map (deep S 11))).map PyData.list = _
    rw [deep_bls dueB S 10]
    rfl
  unfold mEq mEqv
  rw [e, e2]
  kernel_rfl
theorem kinds_ok {S : Sto} {p n : Nat} {ls : List Str} (l : Lb S p n ls) : Wp (m_Lkinds_right [.loc n] S) fun v _ => v = .bl true := by
  refine fn_wp rfl ?_
  have hlt := (List.getElem?_eq_some_iff.mp l.at_).1
  unfold b_Lkinds_right
  rw [wps_seq, wps_set, wp_eN]
  refine Wp.of_eq (a := [.bl true, .bl true, .bl false, .bl false, .bl false, .bl true]) (S := S) (by kernel_rfl) ?_
  rw [mNewL_ok _ _ (by simp [lim_eq]), wp_ok]
  show WpS (sSeq _ _ [some (.loc n), some (.loc S.length), none, none] (S ++ [.lst ([true, true, false, false, false, true].map Dv.bl)])) _ _
  have l1 := l.keep ((Fr.refl l.pt).new (T := [.lst ([true, true, false, false, false, true].map Dv.bl)]))
  have g1 : (S ++ [Ob.lst ([true, true, false, false, false, true].map Dv.bl)])[S.length]? = some (.lst ([true, true, false, false, false, true].map Dv.bl)) := get_last
  generalize (S ++ [Ob.lst ([true, true, false, false, false, true].map Dv.bl)]) = S1 at l1 g1 ⊢
  rw [wps_seq, wps_set, wp_e2, wp_var rfl, wp_eN]
  refine Wp.of_eq (a := [.bl false, .bl false, .bl false, .bl true, .bl true, .bl false]) (S := S1) (by kernel_rfl) ?_
  rw [mLst_ok _ _ (by simp [lim_eq]), wp_ok, mAdd_locl g1 (by simp [lim_eq]), wp_ok]
  show WpS (sSeq _ _ [some (.loc n), some (.lst ([true, true, false, false, false, true, false, false, false, true, true, false].map Dv.bl)), none, none] S1) _ _
  rw [wps_seq, wps_set, wp_e2, wp_var rfl, wp_eN]
  refine Wp.of_eq (a := [.bl false, .bl false, .bl false, .bl false, .bl false]) (S := S1) (by kernel_rfl) ?_
  rw [mLst_ok _ _ (by simp [lim_eq]), wp_ok, mAddS_ll (by simp [lim_eq]), wp_ok]
  show WpS (sSeq _ _ [some (.loc n), some (.loc S1.length), none, none] (S1 ++ [.lst ([true, true, false, false, false, true, false, false, false, true, true, false, false, false, false, false, false].map Dv.bl)])) _ _
  rw [wps_seq, wps_expr, wp_mth, wp_var rfl]
  refine ⟨kind_loc get_last, ?_⟩
  rw [wp_cons]
  refine Wp.of_eq (a := .bl true) (S := S1 ++ [.lst ([true, true, false, false, false, true, false, false, false, true, true, false, false, false, false, false, false].map Dv.bl)]) (by kernel_rfl) ?_
  rw [wp_nil, mAppend_ok get_last (by simp [lim_eq]), wp_ok, set_last]
  show WpS (sSeq _ _ [some (.loc n), some (.loc S1.length), none, none] (S1 ++ [.lst (dueB.map Dv.bl)])) _ _
  have l2 := l1.keep ((Fr.refl l1.pt).new (T := [.lst (dueB.map Dv.bl)]))
  have g2 : (S1 ++ [Ob.lst (dueB.map Dv.bl)])[S1.length]? = some (.lst (dueB.map Dv.bl)) := get_last
  generalize (S1 ++ [Ob.lst (dueB.map Dv.bl)]) = S2 at l2 g2 ⊢
  rw [wps_seq, wps_if]
  refine Wp.of_eq (a := false) (S := S2) (by kernel_rfl) ?_
  rw [if_neg Bool.false_ne_true, wps_nil, wps_seq, wps_set]
  refine Wp.of_eq (a := .lst ([true, true, false, false, false, true, false, false, false, true, true, false, false, false, false, false].map Dv.bl)) (S := S2) (by kernel_rfl) ?_
  show WpS (sRet _ [some (.loc n), some (.loc S1.length), some (.lst ([true, true, false, false, false, true, false, false, false, true, true, false, false, false, false, false].map Dv.bl)), none] S2) _ _
  rw [wps_ret, wp_eAnd, wp_e2, wp_var rfl, wp_e2, wp_var rfl]
  refine Wp.of_eq (a := .lst [.bl false, .bl true]) (S := S2) (by kernel_rfl) ?_
  rw [mAdd_ll (by simp [lim_eq]), wp_ok, show mEq (.loc S1.length) (.lst (([true, true, false, false, false, true, false, false, false, true, true, false, false, false, false, false].map Dv.bl) ++ [.bl false, .bl true])) S2 = .ok (.bl true) S2 from mEq_due g2, wp_ok, isB_bl, if_pos rfl, wp_eN, wp_cons, wp_lcE, wp_var rfl]
  have few := l2.few
  have key : lcE (gNm 3) bYes (e2 mIs (eN m_is_name (aCons (eVar 3) aNil)) (eC (.bl true))) (wipeD [some (.loc n), some (.loc S1.length), some (.lst ([true, true, false, false, false, true, false, false, false, true, true, false, false, false, false, false].map Dv.bl)), none] [3]) (.loc n) S2 = .ok (.lst (ls.map fun _ => .bl true)) S2 :=
    lcE_loc Dv.str ls (by rw [lim_eq]; omega) l2.at_ fun x hx => ⟨rfl, Wp.eq (by rw [wp_e2, wp_eN, wp_cons, wp_var rfl, wp_nil, isname_ok (l2.good x hx), wp_ok, wp_c, mIs_bl, wp_ok]; exact ⟨rfl, rfl⟩)⟩
  refine Wp.of_eq (a := .lst (ls.map fun _ => .bl true)) (S := S2) key ?_
  rw [wp_nil, mAll_map (p := fun _ => true), wp_ok]
  simp
end Mi
end T_P11j
section T_P11k
set_option Elab.async false
set_option linter.all false
set_option maxRecDepth 100000
set_option maxHeartbeats 1000000
/-! P11k: k11: one cell. -/
namespace Mi
open PySem L2
def GoodA (ws : List (List Wst)) : Prop := ∀ w ∈ ws, GoodW w ∧ w.length ≤ 6
theorem GoodA.lim {ws : List (List Wst)} (g : GoodA ws) : ∀ w ∈ ws, GoodW w ∧ w.length ≤ Mi.lim := fun w hw => ⟨(g w hw).1, Nat.le_trans (g w hw).2 (by decide)⟩
def wsP (ws : List (List Wst)) : PyData := .list (ws.map wP)
theorem deep_ws (ws : List (List Wst)) (S : Sto) : deep S dpt (.lst (ws.map wD)) = some (wsP ws) := by
  show (optAll ((ws.map wD).map (deep S 11))).map PyData.list = _
  rw [List.map_map, show ws.map (deep S 11 ∘ wD) = ws.map (fun w => deep S 11 (wD w)) from rfl, optAll_map (g := wP) fun w _ => deep_w w S 8]
  rfl
theorem sh_ws {ws : List (List Wst)} (g : GoodA ws) (hl : ws.length ≤ 5) : Sh (wsP ws) 600 := by
  refine (sh_lst (f := wP) (n := 114) fun w hw => (sh_w (g w hw).1).up ?_).up ?_
  · have := Nat.mul_le_mul_right 19 (g w hw).2
    omega
  · have := Nat.mul_le_mul_right 115 hl
    omega
theorem repr_ws {ws : List (List Wst)} (g : GoodA ws) (hl : ws.length ≤ 5) (S : Sto) : mRepr [.lst (ws.map wD)] S = .ok (.str (wsP ws).shown) S := mRepr_ok (deep_ws ws S) (sh_ws g hl) (by omega)
theorem repr_locws {ws : List (List Wst)} (g : GoodA ws) (hl : ws.length ≤ 5) {S : Sto} {n : Nat} (h : S[n]? = some (.lst (ws.map wD))) : mRepr [.loc n] S = .ok (.str (wsP ws).shown) S := by
  refine mRepr_ok (p := wsP ws) ?_ (sh_ws g hl) (by omega)
  rw [← deep_ws ws S]
  show (match S[n]? with | some (.lst xs) => (optAll (xs.map (deep S 11))).map PyData.list | _ => none) = _
  rw [h]
  rfl
theorem srt_len (ws : List (List Wst)) : (srtW ws).length = ws.length := by
  unfold srtW
  exact List.length_mergeSort ws
theorem srt_good {ws : List (List Wst)} (g : GoodA ws) : GoodA (srtW ws) := fun w hw => g w (by
  unfold srtW at hw
  exact (List.mergeSort_perm ws _).mem_iff.mp hw)
/-- the words of a cell -/
theorem some_ok {S : Sto} {p n : Nat} {ls : List Str} (l : Lb S p n ls) {δ : En} (h0 : (wipeD δ [7])[0]? = some (some (.loc p))) (h1 : (wipeD δ [7])[1]? = some (some (.loc n))) (hl : (wipeD δ [7]).length = 10) : Wp (eLc (iRange1 (aCons (eC (.int 5)) aNil)) (gNm 7) bYes (eN m_Lword (aCons (eVar 0) (aCons (eVar 1) aNil))) [7] δ S) fun v S' => ∃ ws, v = .lst (ws.map wD) ∧ ws.length = 5 ∧ GoodA ws ∧ Fr p S S' := by
  rw [wp_lc, wp_range1, wp_cons, wp_c, wp_nil, show (5 : Int) = ((5 : Nat) : Int) from rfl, mRange1_nat (by simp [lim_eq]), wp_ok]
  refine wp_lcIx (fun i acc S' => ∃ ws, acc = ws.map wD ∧ ws.length = i ∧ GoodA ws ∧ Fr p S S') _ (by simp [lim_eq]) ⟨[], rfl, rfl, fun _ z => (nomatch z), Fr.refl l.pt⟩ ?_ ?_
  · rintro _ S' ⟨ws, rfl, hl, g, f⟩
    exact ⟨ws, rfl, by simpa using hl, g, f⟩
  · rintro k hk acc S' ⟨ws, rfl, hl, g, f⟩
    unfold gNm
    rw [onS_some]
    dsimp only
    have g0 : ∀ d : Option Dv, (List.set (wipeD δ [7]) 7 d)[0]? = some (some (.loc p)) := fun d => by rw [List.getElem?_set_ne (by decide)]; exact h0
    have g1 : ∀ d : Option Dv, (List.set (wipeD δ [7]) 7 d)[1]? = some (some (.loc n)) := fun d => by rw [List.getElem?_set_ne (by decide)]; exact h1
    rw [show ∀ δ, bYes δ S' = .ok true S' from fun _ => rfl, wp_ok, if_pos rfl, wp_eN, wp_cons, wp_var (g0 _), wp_cons, wp_var (g1 _), wp_nil]
    refine (word_ok (l.keep f)).mono ?_
    rintro _ S2 ⟨w, rfl, gw, lw, f2⟩
    exact ⟨ws ++ [w], by simp, by simp [hl], fun v hv => (List.mem_append.mp hv).elim (g v) fun hv => by rw [List.mem_singleton.mp hv]; exact ⟨gw, lw⟩, f.trans f2⟩
theorem mSub_int (i j : Int) (S : Sto) : mSub (.int i) (.int j) S = .ok (.int (i - j)) S := rfl
theorem inorder_loc {ws : List (List Wst)} (g : GoodA ws) {d : Dv} (hd : d = .lst (ws.map wD) ∨ d = .tup (ws.map wD)) (S : Sto) : m_in_order [d] S = .ok (.loc S.length) (S ++ [.lst ((srtW ws).map wD)]) := inorder_ok g.lim hd S
theorem mNe_nilL (S : Sto) : mNe (.loc S.length) (.lst []) (S ++ [Ob.lst []]) = .ok (.bl false) (S ++ [Ob.lst []]) := by
  have e : deep (S ++ [Ob.lst []]) dpt (.loc S.length) = some (.list []) := by
    show (match (S ++ [Ob.lst []])[S.length]? with | some (.lst xs) => (optAll (xs.map (deep (S ++ [Ob.lst []]) 11))).map PyData.list | _ => none) = _
    rw [get_last]
    rfl
  have e2 : deep (S ++ [Ob.lst []]) dpt (.lst []) = some (.list []) := rfl
  unfold mNe mEqv
  rw [e, e2]
  rfl
theorem cond_ok {ws : List (List Wst)} (g : GoodA ws) (hl : ws.length = 5) {a0 a1 a3 x5 x6 x7 x8 x9 : Option Dv} (S : Sto) :
    Wp ((bOr (bOf (e2 mNe (eN mRepr (aCons (eN m_in_order (aCons (eVar 2) aNil)) aNil)) (eN mRepr (aCons (eVar 4) aNil)))) (bOr (bOf (e2 mNe (eN mRepr (aCons (eK m_in_order [0] (aCons (eN mTuple (aCons (eVar 2) aNil)) aNil)) aNil)) (eN mRepr (aCons (eVar 4) aNil)))) (bOf (e2 mNe (eN m_in_order (aCons (eN mLst aNil) aNil)) (eN mLst aNil))))) [a0, a1, some (.lst (ws.map wD)), a3, some (.lst ((srtW ws).map wD)), x5, x6, x7, x8, x9] S) fun b S' => b = false ∧ ∃ T, S' = S ++ T := by
  have gs := srt_good g
  have ls : (srtW ws).length ≤ 5 := by rw [srt_len, hl]; exact Nat.le_refl _
  have nil_ok : ∀ S, m_in_order [.lst []] S = .ok (.loc S.length) (S ++ [Ob.lst []]) := fun S => by
    have := inorder_loc (ws := []) (fun _ h => nomatch h) (d := .lst []) (.inl rfl) S
    rw [this, show srtW [] = [] by simp [srtW]]
    rfl
  rw [wp_bOr, wp_bOf, wp_e2, wp_eN, wp_cons, wp_eN, wp_cons, wp_var rfl, wp_nil, inorder_loc g (.inl rfl), wp_ok, wp_nil, repr_locws gs ls get_last, wp_ok, wp_eN, wp_cons, wp_var rfl, wp_nil, repr_ws gs ls, wp_ok, mNe_same, wp_ok, isB_bl, if_neg Bool.false_ne_true]
  rw [wp_bOr, wp_bOf, wp_e2, wp_eN, wp_cons, wp_eK1, wp_eN, wp_cons, wp_var rfl, wp_nil, show ∀ S, mTuple [.lst (ws.map wD)] S = .ok (.tup (ws.map wD)) S from fun _ => rfl, wp_ok, inorder_loc g (.inr rfl), wp_ok, wp_nil, repr_locws gs ls get_last, wp_ok, wp_eN, wp_cons, wp_var rfl, wp_nil, repr_ws gs ls, wp_ok, mNe_same, wp_ok, isB_bl, if_neg Bool.false_ne_true]
  rw [wp_bOf, wp_e2, wp_eN, wp_cons, wp_eN, wp_nil, mLst_ok _ _ (by simp [lim_eq]), wp_ok, wp_nil, nil_ok, wp_ok, wp_eN, wp_nil, mLst_ok _ _ (by simp [lim_eq]), wp_ok, mNe_nilL, wp_ok, isB_bl]
  exact ⟨rfl, _, by rw [List.append_assoc, List.append_assoc]⟩
theorem turned_ok {w : List Wst} (hl : w.length ≤ 6) {δ : En} (h5 : δ[5]? = some (some (wD w))) (hn : δ.length = 10) (S : Sto) : eN mTuple (aCons (eLcE (e1 mRev (eVar 5)) (gTp [(gNm 8), (gNm 9)]) bYes (eN mTup (aCons (eVar 8) (aCons (e2 mSub (eC (.int 0)) (eVar 9)) aNil))) [8, 9]) aNil) δ S = .ok (wD (inv w)) S := by
  apply Wp.eq
  have key : ∀ δ' : En, δ'.length = 10 → lcEnd (gTp [gNm 8, gNm 9]) bYes (eN mTup (aCons (eVar 8) (aCons (e2 mSub (eC (.int 0)) (eVar 9)) aNil))) δ' (w.reverse.map sD) S = .ok (.lst (w.reverse.map fun s => sD (inv1 s))) S := fun δ' hd =>
    lcEnd_map sD _ (by rw [List.length_reverse, lim_eq]; omega) fun s hs => by
      show OnS (some ((List.set δ' 8 (some (.str s.1))).set 9 (some (.int s.2)), S)) _
      rw [onS_some]
      refine ⟨rfl, Wp.eq ?_⟩
      dsimp only
      have e8 : ((List.set δ' 8 (some (Dv.str s.1))).set 9 (some (.int s.2)))[8]? = some (some (.str s.1)) := by
        rw [List.getElem?_set_ne (by decide), List.getElem?_set_self (by omega)]
      have e9 : ((List.set δ' 8 (some (Dv.str s.1))).set 9 (some (.int s.2)))[9]? = some (some (.int s.2)) := by
        rw [List.getElem?_set_self (by rw [List.length_set]; omega)]
      rw [wp_eN, wp_cons, wp_var e8, wp_cons, wp_e2, wp_c, wp_var e9, mSub_int, wp_ok, wp_nil, mTup_ok _ _ (by simp [lim_eq]), wp_ok]
      refine ⟨?_, rfl⟩
      show Dv.tup [.str s.1, .int (0 - s.2)] = .tup [.str s.1, .int (-s.2)]
      rw [Int.zero_sub]
  rw [wp_eN, wp_cons, wp_lcE, wp_e1, wp_var h5, show mRev (wD w) S = .ok (.tup (w.reverse.map sD)) S by show Res.ok (Dv.tup (w.map sD).reverse) S = _; rw [← List.map_reverse], wp_ok]
  refine Wp.of_eq (a := .lst (w.reverse.map fun s => sD (inv1 s))) (S := S) (key (wipeD δ [8, 9]) (by simp [wipeD, hn])) ?_
  rw [wp_nil]
  show Wp (.ok (Dv.tup (w.reverse.map fun s => sD (inv1 s))) S) _
  rw [wp_ok]
  refine ⟨?_, rfl⟩
  simp [wD, inv, List.map_map, Function.comp_def]
theorem repr_two {a b : List Wst} (ga : GoodW a) (gb : GoodW b) (la : a.length ≤ 6) (lb : b.length ≤ 6) (S : Sto) : mRepr [.lst [wD a, wD b]] S = .ok (.str (wsP [a, b]).shown) S :=
  repr_ws (ws := [a, b]) (fun w hw => by
    rcases List.mem_cons.mp hw with rfl | hw
    · exact ⟨ga, la⟩
    · rw [List.mem_singleton.mp hw]; exact ⟨gb, lb⟩) (by simp) S
theorem spell_ok {S : Sto} {p n : Nat} {ls : List Str} (l : Lb S p n ls) {ws : List (List Wst)} (g : GoodA ws) (hl : ws.length = 5) {w : List Wst} (gw : GoodW w) (lw : w.length ≤ 6) {a3 a4 x6 x7 x8 x9 : Option Dv} {N : En → Sto → Prop} {R : Dv → Sto → Prop} (k : ∀ x6 S', Fr p S S' → N [some (.loc p), some (.loc n), some (.lst (ws.map wD)), a3, a4, some (wD w), x6, x7, x8, x9] S') :
    WpS ((sSeq (sSet 6 (eN mTuple (aCons (eLcE (e1 mRev (eVar 5)) (gTp [(gNm 8), (gNm 9)]) bYes (eN mTup (aCons (eVar 8) (aCons (e2 mSub (eC (.int 0)) (eVar 9)) aNil))) [8, 9]) aNil))) (sSeq (sIf (bOf (e2 mNe (eN mRepr (aCons (eN mLst (aCons (eN m_inverse_of (aCons (eVar 5) aNil)) (aCons (eK m_inverse_of [0] (aCons (eVar 6) aNil)) aNil))) aNil)) (eN mRepr (aCons (eN mLst (aCons (eVar 6) (aCons (eVar 5) aNil))) aNil)))) (sRet (eC (.bl false))) sNil) (sSeq (sIf (bOr (bOf (e2 mIsNot (eK m_is_word [0] (aCons (eVar 5) aNil)) (eC (.bl true)))) (bOf (e2 mNe (eN mRepr (aCons (eK m_read_word [0] (aCons (eK m_word_text [0] (aCons (eVar 5) aNil)) aNil)) aNil)) (eN mRepr (aCons (eVar 5) aNil))))) (sRet (eC (.bl false))) sNil) (sSeq (sIf (bOr (bOf (e2 mNe (eN m_inverse_of (aCons (e2 mAdd (eVar 5) (e2 mIx (eVar 2) (eC (.int 0)))) aNil)) (e2 mAdd (eN m_inverse_of (aCons (e2 mIx (eVar 2) (eC (.int 0))) aNil)) (eN m_inverse_of (aCons (eVar 5) aNil))))) (bNot (bOf (eN m_Ltexts_right (aCons (eVar 0) (aCons (eVar 5) aNil)))))) (sRet (eC (.bl false))) sNil) (sIf (bNot (bOf (eN m_Lodd_right (aCons (eVar 0) (aCons (eVar 1) (aCons (eVar 5) aNil)))))) (sRet (eC (.bl false))) sNil))))) [some (.loc p), some (.loc n), some (.lst (ws.map wD)), a3, a4, some (wD w), x6, x7, x8, x9] S) N R := by
  have gi := gw.inv
  have li : (inv w).length ≤ 6 := by rw [inv_len]; exact lw
  have tlen := txW_len gw
  rw [wps_seq, wps_set, turned_ok lw rfl rfl, wp_ok]
  show WpS (sSeq _ _ [some (.loc p), some (.loc n), some (.lst (ws.map wD)), a3, a4, some (wD w), some (wD (inv w)), x7, x8, x9] S) _ _
  rw [wps_seq, wps_if, wp_bOf, wp_e2, wp_eN, wp_cons, wp_eN, wp_cons, wp_eN, wp_cons, wp_var rfl, wp_nil, inverse_ok gw (by rw [lim_eq]; omega), wp_ok, wp_cons, wp_eK1, wp_var rfl, inverse_ok gi (by rw [lim_eq]; omega), wp_ok, wp_nil, mLst_ok _ _ (by simp [lim_eq]), wp_ok, wp_nil, inv_inv, repr_two gi gw li lw, wp_ok, wp_eN, wp_cons, wp_eN, wp_cons, wp_var rfl, wp_cons, wp_var rfl, wp_nil, mLst_ok _ _ (by simp [lim_eq]), wp_ok, wp_nil, repr_two gi gw li lw, wp_ok, mNe_same, wp_ok, isB_bl, if_neg Bool.false_ne_true, wps_nil]
  rw [wps_seq, wps_if, wp_bOr, wp_bOf, wp_e2, wp_eK1, wp_var rfl, isword_ok gw (by rw [lim_eq]; omega), wp_ok, wp_c, mIsNot_bl, wp_ok, isB_bl, if_neg (by decide), wp_bOf, wp_e2, wp_eN, wp_cons, wp_eK1, wp_eK1, wp_var rfl, wordtext_ok gw (by omega), wp_ok, read_some (by omega) (readback gw), wp_ok, wp_nil, repr_w gw (by omega), wp_ok, wp_eN, wp_cons, wp_var rfl, wp_nil, repr_w gw (by omega), wp_ok, mNe_same, wp_ok, isB_bl, if_neg Bool.false_ne_true, wps_nil]
  have h0 : 0 < ws.length := by omega
  have g0 := g ws[0] (List.getElem_mem h0)
  have ix0 : ∀ S, mIx (.lst (ws.map wD)) (.int 0) S = .ok (wD ws[0]) S := fun S => by
    rw [show (0 : Int) = ((0 : Nat) : Int) from rfl, mIx_lst (k := 0) (by simpa using h0)]
    simp
  have li0 : (inv ws[0]).length ≤ 6 := by rw [inv_len]; exact g0.2
  rw [wps_seq, wps_if, wp_bOr, wp_bOf, wp_e2, wp_eN, wp_cons, wp_e2, wp_var rfl, wp_e2, wp_var rfl, wp_c, ix0, wp_ok, mAdd_w (by rw [lim_eq]; omega), wp_ok, wp_nil, inverse_ok (gw.app g0.1) (by rw [List.length_append, lim_eq]; omega), wp_ok, wp_e2, wp_eN, wp_cons, wp_e2, wp_var rfl, wp_c, ix0, wp_ok, wp_nil, inverse_ok g0.1 (by rw [lim_eq]; omega), wp_ok, wp_eN, wp_cons, wp_var rfl, wp_nil, inverse_ok gw (by rw [lim_eq]; omega), wp_ok, mAdd_w (by rw [lim_eq]; omega), wp_ok, inv_app, mNe_w, wp_ok, isB_bl, decide_eq_true rfl, if_neg (by decide), wp_bNot, wp_bOf, wp_eN, wp_cons, wp_var rfl, wp_cons, wp_var rfl, wp_nil]
  refine (texts_ok l.pt gw (by omega)).mono ?_
  rintro _ S1 ⟨rfl, f1⟩
  rw [isB_bl, Bool.not_true, if_neg Bool.false_ne_true, wps_nil, wps_if, wp_bNot, wp_bOf, wp_eN, wp_cons, wp_var rfl, wp_cons, wp_var rfl, wp_cons, wp_var rfl, wp_nil]
  refine (odd_ok (l.keep f1) gw lw).mono ?_
  rintro _ S2 ⟨rfl, f2⟩
  rw [isB_bl, Bool.not_true, if_neg Bool.false_ne_true, wps_nil]
  exact k _ _ (f1.trans f2)
theorem right_ok {S : Sto} {p : Nat} (h : Pt S p) : Wp (m_Lright [.loc p] S) fun d _ => d = .bl true := by
  refine fn_wp rfl ?_
  unfold b_Lright
  rw [wps_seq, wps_set, wp_eN, wp_cons, wp_var rfl, wp_nil]
  refine (labels_ok h).mono ?_
  rintro _ S1 ⟨ls, rfl, h1, h2, h3, h4, f1⟩
  have l1 : Lb S1 p S.length ls := ⟨f1.pt, h1, by have := h.lt; omega, h2, h3, h4⟩
  show WpS (sSeq _ _ [some (.loc p), some (.loc S.length), none, none, none, none, none, none, none, none] S1) _ _
  refine set_then _ (some_ok l1 rfl rfl rfl) ?_
  rintro _ S2 ⟨ws, rfl, hl, g, f2⟩
  have hl5 : ws.length ≤ 5 := by omega
  show WpS (sSeq _ _ [some (.loc p), some (.loc S.length), some (.lst (ws.map wD)), none, none, none, none, none, none, none] S2) _ _
  rw [wps_seq, wps_par, wp_cons, wp_eN, wp_cons, wp_var rfl, wp_nil, repr_ws g hl5, wp_ok, wp_cons, wp_e1, wp_var rfl, sortK_law g.lim (.inl rfl), wp_ok, wp_nil]
  show WpS (sSeq _ _ [some (.loc p), some (.loc S.length), some (.lst (ws.map wD)), some (.str (wsP ws).shown), some (.lst ((srtW ws).map wD)), none, none, none, none, none] S2) _ _
  rw [wps_seq, wps_if]
  refine (cond_ok g hl S2).mono ?_
  rintro _ _ ⟨rfl, T, rfl⟩
  rw [if_neg Bool.false_ne_true, wps_nil, wps_seq, wps_expr, wp_mth, wp_eN, wp_cons, wp_var rfl, wp_nil, inorder_loc g (.inl rfl), wp_ok]
  have f3 : Fr p S1 (S2 ++ T) := f2.new
  generalize hS3 : S2 ++ T = S3 at f3 ⊢
  refine ⟨kind_loc get_last, ?_⟩
  rw [wp_nil, show mClear (.loc S3.length) [] (S3 ++ [.lst ((srtW ws).map wD)]) = .ok .non (S3 ++ [.lst []]) by
    show (match (S3 ++ [Ob.lst ((srtW ws).map wD)])[S3.length]? with | some (.lst _) => Res.ok Dv.non ((S3 ++ [Ob.lst ((srtW ws).map wD)]).set S3.length (.lst [])) | _ => .bad) = _
    rw [get_last, set_last], wp_ok]
  have f4 : Fr p S1 (S3 ++ [.lst []]) := f3.new
  generalize S3 ++ [Ob.lst []] = S4 at f4 ⊢
  refine seq_then (fun δ S' => Fr p S1 S' ∧ ∃ x5 x6, δ = [some (.loc p), some (.loc S.length), some (.lst (ws.map wD)), some (.str (wsP ws).shown), some (.lst ((srtW ws).map wD)), x5, x6, none, none, none]) ?_ ?_
  · rw [wps_forE, wp_var rfl]
    show WpS (forGo _ _ (ws.map wD) _ S4) _ _
    refine wps_forIx (fun k δ S' => Fr p S1 S' ∧ ∃ x5 x6, δ = [some (.loc p), some (.loc S.length), some (.lst (ws.map wD)), some (.str (wsP ws).shown), some (.lst ((srtW ws).map wD)), x5, x6, none, none, none]) _ ⟨f4, _, _, rfl⟩ (fun δ S' z => z) ?_
    rintro k hk δ S5 ⟨f5, x5, x6, rfl⟩
    rw [List.getElem_map]
    have hk' : k < ws.length := by simpa using hk
    have gk := g ws[k] (List.getElem_mem hk')
    unfold gNm
    rw [onS_some]
    show WpS (sSeq _ _ [some (.loc p), some (.loc S.length), some (.lst (ws.map wD)), some (.str (wsP ws).shown), some (.lst ((srtW ws).map wD)), some (wD ws[k]), x6, none, none, none] S5) _ _
    exact spell_ok (l1.keep f5) g hl gk.1 gk.2 fun x6 S' f6 => ⟨f5.trans f6, _, _, rfl⟩
  · rintro δ S5 ⟨f5, x5, x6, rfl⟩
    rw [wps_ret, wp_eAnd, wp_e2, wp_eN, wp_cons, wp_var rfl, wp_nil, repr_ws g hl5, wp_ok, wp_var rfl, mEq_same, wp_ok, isB_bl, if_pos rfl, wp_eN, wp_cons, wp_var rfl, wp_nil]
    exact kinds_ok (l1.keep f5)
end Mi
end T_P11k
section T_P11l
set_option Elab.async false
set_option linter.all false
set_option maxRecDepth 100000
set_option maxHeartbeats 1000000
/-! P11l: k11, the plain part: the pot, the law. -/
namespace Mi
open PySem L2
theorem pot_list {c : Int} {k : Nat} (hk : k < 100) {δ : En} (d1 : δ[1]? = some (some (.int (k : Int)))) (d2 : δ[2]? = some (some (.int c))) (S1 : Sto) :
    Wp (eN mNewL (aCons (eN mMax (aCons (eC (.int 0)) (aCons (e2 mSub (eVar 2) (e2 mPow (eC (.int 10)) (eC (.int 18)))) aNil))) (aCons (e2 mAdd (e2 mMod (e2 mMul (eN mInt (aCons (e2 mAdd (e2 mMod (eN mInt (aCons (eVar 2) aNil)) (eC (.int 2147483563))) (eC (.int 11))) aNil)) (e2 mPow (e2 mAdd (e2 mMul (eC (.int 2)) (eVar 1)) (eC (.int 3))) (eC (.int 3)))) (eC (.int 2147483543))) (eC (.int 1))) aNil)) δ S1) fun v S' => ∃ a b : Int, v = .loc S1.length ∧ S' = S1 ++ [.lst [.int a, .int b]] ∧ 0 ≤ a ∧ 0 ≤ b := by
  have p18 : mPow (.int 10) (.int 18) S1 = .ok (.int (10 ^ 18)) S1 := rfl
  have m1 : mMod (.int c) (.int 2147483563) S1 = .ok (.int (c % 2147483563)) S1 := rfl
  have h1 : 0 ≤ c % 2147483563 := Int.emod_nonneg _ (by decide)
  have h2 : c % 2147483563 < 2147483563 := Int.emod_lt_of_pos _ (by decide)
  have m2 : mMul (.int 2) (.int (k : Int)) S1 = .ok (.int (2 * (k : Int))) S1 := mMul_small (by decide)
  have p3 : mPow (.int (2 * (k : Int) + 3)) (.int 3) S1 = .ok (.int ((2 * (k : Int) + 3) ^ 3)) S1 := by
    show (if 0 ≤ (3 : Int) ∧ (3 : Int) ≤ 1000 ∧ (2 * (k : Int) + 3).natAbs < 2 ^ 64 then M.pure _ else mBad) S1 = _
    rw [if_pos ⟨by decide, by decide, by omega⟩]
    rfl
  have m3 : mMul (.int (c % 2147483563 + 11)) (.int ((2 * (k : Int) + 3) ^ 3)) S1 = .ok (.int ((c % 2147483563 + 11) * (2 * (k : Int) + 3) ^ 3)) S1 := mMul_small (by omega)
  have m4 : ∀ i : Int, mMod (.int i) (.int 2147483543) S1 = .ok (.int (i % 2147483543)) S1 := fun i => rfl
  have mi : ∀ i : Int, mInt [.int i] S1 = .ok (.int i) S1 := fun i => rfl
  have ms : ∀ i j : Int, mSub (.int i) (.int j) S1 = .ok (.int (i - j)) S1 := fun i j => rfl
  have mx : ∀ i j : Int, mMax [.int i, .int j] S1 = .ok (.int (if j > i then j else i)) S1 := fun i j => rfl
  simp only [wp_eN, wp_cons, wp_nil, wp_e2, wp_c, wp_var d1, wp_var d2]
  rw [p18, wp_ok, ms, wp_ok, mx, wp_ok, mi, wp_ok, m1, wp_ok, mAdd_int, wp_ok, mi, wp_ok, m2, wp_ok, mAdd_int, wp_ok, p3, wp_ok, m3, wp_ok, m4, wp_ok, mAdd_int, wp_ok, mNewL_ok _ _ (by simp [lim_eq]), wp_ok]
  have h3 := Int.emod_nonneg ((c % 2147483563 + 11) * (2 * (k : Int) + 3) ^ 3) (show (2147483543 : Int) ≠ 0 by decide)
  refine ⟨_, _, rfl, rfl, ?_, by omega⟩
  split <;> omega
theorem pot_ok (ns : List Int) {k : Nat} (hk : k < 100) (S : Sto) : Wp (m_Lpot [.con (ns.map Dv.int), .int (k : Int)] S) fun v S' => ∃ a b : Int, v = .loc S.length ∧ S' = S ++ [.lst [.int a, .int b]] ∧ 0 ≤ a ∧ 0 ≤ b := by
  refine fn_wp rfl ?_
  unfold b_Lpot
  have m31 : mMul (.int 31) (.int (k : Int)) S = .ok (.int (31 * (k : Int))) S := mMul_small (by decide)
  rw [wps_seq, wps_set, wp_e2, wp_e2, wp_c, wp_var rfl, m31, wp_ok, wp_c, mAdd_int, wp_ok]
  show WpS (sSeq _ _ [some (.con (ns.map Dv.int)), some (.int (k : Int)), some (.int (31 * (k : Int) + 5))] S) _ _
  refine seq_then (fun δ S' => S' = S ∧ ∃ c : Int, δ = [some (.con (ns.map Dv.int)), some (.int (k : Int)), some (.int c)]) ?_ ?_
  · rw [wps_if, wp_bOf, wp_e2, wp_var rfl, wp_eN, wp_cons, wp_var rfl, wp_nil, mLen_con, wp_ok]
    show (if decide ((k : Int) < ((ns.map Dv.int).length : Int)) = true then _ else _)
    by_cases h : (k : Int) < ((ns.map Dv.int).length : Int)
    · have hk : k < (ns.map Dv.int).length := by omega
      rw [decide_eq_true h, if_pos rfl, wps_set, wp_eN, wp_cons, wp_e2, wp_var rfl, wp_var rfl, mIx_con hk, wp_ok, wp_nil]
      have e : (ns.map Dv.int)[k] = Dv.int (ns[k]'(by simpa using hk)) := by simp
      rw [e]
      exact ⟨rfl, _, rfl⟩
    · rw [decide_eq_false h, if_neg Bool.false_ne_true, wps_nil]
      exact ⟨rfl, _, rfl⟩
  rintro _ S1 ⟨rfl, c, rfl⟩
  rw [wps_ret]
  exact pot_list hk rfl rfl S1
theorem law_ok (ns : List Int) (S : Sto) : Wp (m_law [.con (ns.map .int)] S) fun d _ => d = .bl true := by
  refine fn_wp rfl ?_
  unfold b_law
  rw [wps_ret, wp_eN, wp_cons, wp_lc, wp_range1, wp_cons, wp_eN, wp_cons, wp_c, wp_cons, wp_eN, wp_cons, wp_eN, wp_cons, wp_var rfl, wp_nil, mLen_con, wp_ok, wp_cons, wp_c, wp_nil]
  obtain ⟨m, e, hm⟩ : ∃ m : Nat, mMin [.int ((ns.map Dv.int).length : Int), .int 6] S = .ok (.int (m : Int)) S ∧ m ≤ 6 := by
    show ∃ m : Nat, Res.ok (Dv.int (if (6 : Int) < ((ns.map Dv.int).length : Int) then 6 else ((ns.map Dv.int).length : Int))) S = .ok (.int (m : Int)) S ∧ m ≤ 6
    split
    · exact ⟨6, rfl, Nat.le_refl _⟩
    · exact ⟨(ns.map Dv.int).length, rfl, by omega⟩
  rw [e, wp_ok, wp_nil]
  obtain ⟨m2, e2, hm2⟩ : ∃ m2 : Nat, mMax [.int 1, .int (m : Int)] S = .ok (.int (m2 : Int)) S ∧ m2 ≤ 6 := by
    show ∃ m2 : Nat, Res.ok (Dv.int (if (m : Int) > 1 then (m : Int) else 1)) S = .ok (.int (m2 : Int)) S ∧ m2 ≤ 6
    split
    · exact ⟨m, rfl, hm⟩
    · exact ⟨1, rfl, by omega⟩
  rw [e2, wp_ok, wp_nil, mRange1_nat (by rw [lim_eq]; omega), wp_ok]
  refine wp_lcIx (fun i acc S' => acc = List.replicate i (.bl true)) _ (by simp [lim_eq]; omega) rfl ?_ ?_
  · rintro _ S1 rfl
    rw [wp_nil]
    have e3 := mAll_lst (S := S1) (bs := List.replicate ((List.range m2).map fun i => Dv.int (i : Nat)).length true)
    rw [List.map_replicate] at e3
    rw [e3, wp_ok]
    simp
  · rintro k hk acc S1 rfl
    rw [List.getElem_map]
    have hj : (List.range m2)[k]'(by simpa using hk) < 100 := by
      have hk' : k < m2 := by simpa using hk
      simp
      omega
    generalize (List.range m2)[k]'(by simpa using hk) = j at hj
    unfold gNm
    rw [onS_some]
    dsimp only
    rw [show ∀ δ, bYes δ S1 = .ok true S1 from fun _ => rfl, wp_ok, if_pos rfl, wp_eN, wp_cons, wp_eN, wp_cons, wp_var rfl, wp_cons, wp_var rfl, wp_nil]
    refine (pot_ok ns hj S1).mono ?_
    rintro _ S2 ⟨a, b, rfl, rfl, ha, hb⟩
    rw [wp_nil]
    refine (right_ok (p := S1.length) ⟨a, b, by simp, ha, hb⟩).mono ?_
    rintro _ S3 rfl
    rw [List.replicate_succ']
theorem plain_k11 (ns : List Int) : ∃ S', m_law [.con (ns.map .int)] [] = .ok (.bl true) S' := by
  obtain ⟨a, S', e, rfl⟩ := (law_ok ns []).ex
  exact ⟨S', e⟩
end Mi
end T_P11l
section T_G11b
set_option Elab.async false
set_option linter.all false
set_option maxRecDepth 100000
set_option maxHeartbeats 0
namespace Mi
open PySem PySem.Spec PyProof.Rows L2 He
/-! ### the head -/
def dfs : List DefD := [
  ⟨("_law_draw", none), "_law_draw", "_law_draw", defArgs (top 29), defBody (top 29), defScope (top 29), [], []⟩,
  ⟨("_law_labels", none), "_law_labels", "_law_labels", defArgs (top 31), defBody (top 31), defScope (top 31), [], []⟩,
  ⟨("_law_pick", none), "_law_pick", "_law_pick", defArgs (top 30), defBody (top 30), defScope (top 30), [], []⟩,
  ⟨("_law_word", none), "_law_word", "_law_word", defArgs (top 32), defBody (top 32), defScope (top 32), [], []⟩,
  ⟨("is_integer", none), "is_integer", "is_integer", defArgs (top 12), defBody (top 12), defScope (top 12), [], []⟩,
  ⟨("is_count", none), "is_count", "is_count", defArgs (top 13), defBody (top 13), defScope (top 13), [], []⟩,
  ⟨("is_name", none), "is_name", "is_name", defArgs (top 14), defBody (top 14), defScope (top 14), [], []⟩,
  ⟨("is_step", none), "is_step", "is_step", defArgs (top 15), defBody (top 15), defScope (top 15), [], []⟩,
  ⟨("_law_kinds_right", none), "_law_kinds_right", "_law_kinds_right", defArgs (top 41), defBody (top 41), defScope (top 41), [], []⟩,
  ⟨("_law_key", none), "_law_key", "_law_key", defArgs (top 42), defBody (top 42), defScope (top 42), [], []⟩,
  ⟨("is_word", none), "is_word", "is_word", defArgs (top 16), defBody (top 16), defScope (top 16), [], []⟩,
  ⟨("want_word", none), "want_word", "want_word", defArgs (top 17), defBody (top 17), defScope (top 17), [], []⟩,
  ⟨("step_key", none), "step_key", "step_key", defArgs (top 20), defBody (top 20), defScope (top 20), [], []⟩,
  ⟨("word_key", none), "word_key", "word_key", defArgs (top 21), defBody (top 21), defScope (top 21), [], []⟩,
  ⟨("in_order", none), "in_order", "in_order", defArgs (top 22), defBody (top 22), defScope (top 22), [], []⟩,
  ⟨("_law_odd_step", none), "_law_odd_step", "_law_odd_step", defArgs (top 38), defBody (top 38), defScope (top 38), [], []⟩,
  ⟨("_law_refused", none), "_law_refused", "_law_refused", defArgs (top 39), defBody (top 39), defScope (top 39), [], []⟩,
  ⟨("inverse_step", none), "inverse_step", "inverse_step", defArgs (top 18), defBody (top 18), defScope (top 18), [], []⟩,
  ⟨("inverse_of", none), "inverse_of", "inverse_of", defArgs (top 19), defBody (top 19), defScope (top 19), [], []⟩,
  ⟨("step_text", none), "step_text", "step_text", defArgs (top 23), defBody (top 23), defScope (top 23), [], []⟩,
  ⟨("word_text", none), "word_text", "word_text", defArgs (top 24), defBody (top 24), defScope (top 24), [], []⟩,
  ⟨("_law_odd_right", none), "_law_odd_right", "_law_odd_right", defArgs (top 40), defBody (top 40), defScope (top 40), [], []⟩,
  ⟨("_law_text", none), "_law_text", "_law_text", defArgs (top 33), defBody (top 33), defScope (top 33), [], []⟩,
  ⟨("_law_step_in", none), "_law_step_in", "_law_step_in", defArgs (top 34), defBody (top 34), defScope (top 34), [], []⟩,
  ⟨("_law_read", none), "_law_read", "_law_read", defArgs (top 35), defBody (top 35), defScope (top 35), [], []⟩,
  ⟨("step_in", none), "step_in", "step_in", defArgs (top 25), defBody (top 25), defScope (top 25), [], []⟩,
  ⟨("read_word", none), "read_word", "read_word", defArgs (top 26), defBody (top 26), defScope (top 26), [], []⟩,
  ⟨("_law_told_text", none), "_law_told_text", "_law_told_text", defArgs (top 36), defBody (top 36), defScope (top 36), [], []⟩,
  ⟨("_law_texts_right", none), "_law_texts_right", "_law_texts_right", defArgs (top 37), defBody (top 37), defScope (top 37), [], []⟩,
  ⟨("_law_right", none), "_law_right", "_law_right", defArgs (top 43), defBody (top 43), defScope (top 43), [], []⟩,
  ⟨("_law_pot", none), "_law_pot", "_law_pot", defArgs (top 28), defBody (top 28), defScope (top 28), [], []⟩,
  ⟨("law", none), "law", "law", defArgs (top 44), defBody (top 44), defScope (top 44), [], []⟩,
  ⟨("InvalidText", some "__init__"), "__init__", "InvalidText.__init__", defArgs (clsDef (top 3) 0), defBody (clsDef (top 3) 0), defScope (clsDef (top 3) 0), [], []⟩,
  ⟨("InvalidWord", some "__init__"), "__init__", "InvalidWord.__init__", defArgs (clsDef (top 2) 0), defBody (clsDef (top 2) 0), defScope (clsDef (top 2) 0), [], []⟩]
def fas : List Fa := [.free "abs", .free "all", .free "any", .free "bool", .free "divmod", .free "int", .free "isinstance", .free "len", .free "list", .free "max", .free "min", .free "range", .free "repr", .free "sorted", .free "str", .free "tuple", .int "AGAINST" (-1), .int "ALONG" (1), .int "LONGEST_NAME" (8), .str "AGAINST_MARK" "~", .str "EMPTY_TEXT" "1", .str "LETTERS" "abcdefghijklmnopqrstuvwxyz", .glo "InvalidText", .glo "InvalidWord", .glo "StateError", .glo "WalkError", .glo "_law_draw", .glo "_law_labels", .glo "_law_pick", .glo "_law_word", .glo "is_integer", .glo "is_count", .glo "is_name", .glo "is_step", .glo "_law_kinds_right", .glo "_law_key", .glo "is_word", .glo "want_word", .glo "step_key", .glo "word_key", .glo "in_order", .glo "_law_odd_step", .glo "_law_refused", .glo "inverse_step", .glo "inverse_of", .glo "step_text", .glo "word_text", .glo "_law_odd_right", .glo "_law_text", .glo "_law_step_in", .glo "_law_read", .glo "step_in", .glo "read_word", .glo "_law_told_text", .glo "_law_texts_right", .glo "_law_right", .glo "_law_pot", .glo "law"]
def fxs : List Fx := [.sm, .oexg "InvalidText" bVE, .oexg "InvalidWord" bVE, .noats cf_line "line", .excs cf_line, .noats cf_value "value", .excs cf_value, .init "InvalidText", .init "InvalidWord", .rdg "WalkError" bVE, .noat "InvalidText" "line", .noat "InvalidWord" "value", .xf "InvalidText", .exc "InvalidText", .xf "InvalidWord", .exc "InvalidWord", .exm "InvalidText" "InvalidText" true, .exm "InvalidWord" "InvalidWord" true, .kit "InvalidText" "StateError" false, .kit "InvalidText" "WalkError" true]
abbrev Rr : PySem.W.OpenRow := PySem.W.OpenLaw.row PySem.Challenge.rw_walkasks_k11_whole_steps_and_words
abbrev hk : PySem.W.Hook := hookN 5 fas dfs fxs tfs
def ob (s : PySem.W.SharedT) : AlM := obsN 5 fas dfs fxs tfs (HandSHeadRun.getT s)
theorem ob_eq (s : PySem.W.SharedT) : ob s = hk.obs s.abs := obsN_eq (HandSHeadRun.getT_eq s)
def loose0 : List Str := ["WalkError", "InvalidWord", "InvalidText", "StateError", "is_integer", "is_count", "is_name", "is_step", "is_word", "want_word", "inverse_step", "inverse_of", "step_key", "word_key", "in_order", "step_text", "word_text", "step_in", "read_word", "_law_pot", "_law_draw", "_law_pick", "_law_labels", "_law_word", "_law_text", "_law_step_in", "_law_read", "_law_told_text", "_law_texts_right", "_law_odd_step"]
def loose1 : List Str := ["_law_refused", "_law_odd_right", "_law_kinds_right", "_law_key", "_law_right", "LETTERS", "LONGEST_NAME", "ALONG", "AGAINST", "AGAINST_MARK", "EMPTY_TEXT"]
def loose : List Str := loose0 ++ loose1
theorem run (w : World) : HandSHeadRun.RunEq Rr (PySem.W.view Rr.prog [44]) hk ob 20000 loose w := by
  intro os
  kernel_rfl
theorem md {K : PySem.W.Frag} {h : Heap} {mg : Str → Option Value} (X : K.In h) (G : h.Ns mainGlobals mg) (c : SaysN fas dfs fxs tfs h K) : Md K mg where
  n_abs := He.free_ok X G (c.m.d.fact 0 (f := .free "abs") rfl)
  n_all := He.free_ok X G (c.m.d.fact 1 (f := .free "all") rfl)
  n_any := He.free_ok X G (c.m.d.fact 2 (f := .free "any") rfl)
  n_bool := He.free_ok X G (c.m.d.fact 3 (f := .free "bool") rfl)
  n_divmod := He.free_ok X G (c.m.d.fact 4 (f := .free "divmod") rfl)
  n_int := He.free_ok X G (c.m.d.fact 5 (f := .free "int") rfl)
  n_isinstance := He.free_ok X G (c.m.d.fact 6 (f := .free "isinstance") rfl)
  n_len := He.free_ok X G (c.m.d.fact 7 (f := .free "len") rfl)
  n_list := He.free_ok X G (c.m.d.fact 8 (f := .free "list") rfl)
  n_max := He.free_ok X G (c.m.d.fact 9 (f := .free "max") rfl)
  n_min := He.free_ok X G (c.m.d.fact 10 (f := .free "min") rfl)
  n_range := He.free_ok X G (c.m.d.fact 11 (f := .free "range") rfl)
  n_repr := He.free_ok X G (c.m.d.fact 12 (f := .free "repr") rfl)
  n_sorted := He.free_ok X G (c.m.d.fact 13 (f := .free "sorted") rfl)
  n_str := He.free_ok X G (c.m.d.fact 14 (f := .free "str") rfl)
  n_tuple := He.free_ok X G (c.m.d.fact 15 (f := .free "tuple") rfl)
  i_AGAINST := He.int_ok X G (c.m.d.fact 16 (f := .int "AGAINST" (-1)) rfl)
  i_ALONG := He.int_ok X G (c.m.d.fact 17 (f := .int "ALONG" (1)) rfl)
  i_LONGEST_NAME := He.int_ok X G (c.m.d.fact 18 (f := .int "LONGEST_NAME" (8)) rfl)
  s_AGAINST_MARK := He.str_ok X G (c.m.d.fact 19 (f := .str "AGAINST_MARK" "~") rfl)
  s_EMPTY_TEXT := He.str_ok X G (c.m.d.fact 20 (f := .str "EMPTY_TEXT" "1") rfl)
  s_LETTERS := He.str_ok X G (c.m.d.fact 21 (f := .str "LETTERS" "abcdefghijklmnopqrstuvwxyz") rfl)
  g_InvalidText := He.glo_ok X G (c.m.d.fact 22 (f := .glo "InvalidText") rfl)
  g_InvalidWord := He.glo_ok X G (c.m.d.fact 23 (f := .glo "InvalidWord") rfl)
  g_StateError := He.glo_ok X G (c.m.d.fact 24 (f := .glo "StateError") rfl)
  g_WalkError := He.glo_ok X G (c.m.d.fact 25 (f := .glo "WalkError") rfl)
  sm := smB_ok (c.m.at 0 (f := .sm) rfl)
  oex_InvalidText := oexgB_ok bVE_ok (c.m.at 1 (f := .oexg "InvalidText" bVE) rfl)
  oex_InvalidWord := oexgB_ok bVE_ok (c.m.at 2 (f := .oexg "InvalidWord" bVE) rfl)
  noats_line := (fun k_ hk_ => of_decide_eq_true (all_at (c.m.at 3 (f := .noats cf_line "line") rfl) k_ hk_))
  xfs_line := (fun k_ hk_ => xfB_ok (bad2 (all_at (c.m.at 4 (f := .excs cf_line) rfl) k_ hk_)).2)
  noats_value := (fun k_ hk_ => of_decide_eq_true (all_at (c.m.at 5 (f := .noats cf_value "value") rfl) k_ hk_))
  xfs_value := (fun k_ hk_ => xfB_ok (bad2 (all_at (c.m.at 6 (f := .excs cf_value) rfl) k_ hk_)).2)
  init_InvalidText := (let z := bad2 (c.m.at 7 (f := .init "InvalidText") rfl); ⟨of_decide_eq_true z.1, of_decide_eq_true z.2⟩)
  init_InvalidWord := (let z := bad2 (c.m.at 8 (f := .init "InvalidWord") rfl); ⟨of_decide_eq_true z.1, of_decide_eq_true z.2⟩)
  rd_WalkError := rdgB_ok (c.m.at 9 (f := .rdg "WalkError" bVE) rfl)
  noat_InvalidText_line := of_decide_eq_true (c.m.at 10 (f := .noat "InvalidText" "line") rfl)
  noat_InvalidWord_value := of_decide_eq_true (c.m.at 11 (f := .noat "InvalidWord" "value") rfl)
  xf_InvalidText := xfB_ok (c.m.at 12 (f := .xf "InvalidText") rfl)
  exc_InvalidText := excB_ok (c.m.at 13 (f := .exc "InvalidText") rfl)
  xf_InvalidWord := xfB_ok (c.m.at 14 (f := .xf "InvalidWord") rfl)
  exc_InvalidWord := excB_ok (c.m.at 15 (f := .exc "InvalidWord") rfl)
  exm_InvalidText_InvalidText := of_decide_eq_true (c.m.at 16 (f := .exm "InvalidText" "InvalidText" true) rfl)
  exm_InvalidWord_InvalidWord := of_decide_eq_true (c.m.at 17 (f := .exm "InvalidWord" "InvalidWord" true) rfl)
  kit_InvalidText_StateError := of_decide_eq_true (c.m.at 18 (f := .kit "InvalidText" "StateError" false) rfl)
  kit_InvalidText_WalkError := of_decide_eq_true (c.m.at 19 (f := .kit "InvalidText" "WalkError" true) rfl)
theorem facts {P : Program} {w : World} {K : PySem.W.Frag} {h : Heap} {mg : Str → Option Value} {f : Addr} (X : K.In h) (G : h.Ns mainGlobals mg) (hfa : mg ("law" : Str) = some (.ref f)) (c : SaysN fas dfs fxs tfs h K) :
    ∃ fd : FuncData, (∀ (s : Shared) (v : Value), BindsTo s fd ⟨[v], []⟩ [("_law_script", v)]) ∧ ∀ base : Heap, K.In base → base.Ns mainGlobals mg → (∀ p ∈ tfs.map (cT K), LamX.TabB base mg p.1 p.2) → FnG P w K mg base 10 f fd ["_law_script"] (spM ⟨K, mg, TT K, none, none⟩ 1 m_law) := by
  have M := md X G c
  have g_Ldraw := He.glo_ok X G (c.m.d.fact 26 (f := .glo "_law_draw") rfl)
  have D_Ldraw : ∃ fd, Fd_Ldraw K fd := c.m.d.def_ 0 rfl
  have g_Llabels := He.glo_ok X G (c.m.d.fact 27 (f := .glo "_law_labels") rfl)
  have D_Llabels : ∃ fd, Fd_Llabels K fd := c.m.d.def_ 1 rfl
  have g_Lpick := He.glo_ok X G (c.m.d.fact 28 (f := .glo "_law_pick") rfl)
  have D_Lpick : ∃ fd, Fd_Lpick K fd := c.m.d.def_ 2 rfl
  have g_Lword := He.glo_ok X G (c.m.d.fact 29 (f := .glo "_law_word") rfl)
  have D_Lword : ∃ fd, Fd_Lword K fd := c.m.d.def_ 3 rfl
  have g_is_integer := He.glo_ok X G (c.m.d.fact 30 (f := .glo "is_integer") rfl)
  have D_is_integer : ∃ fd, Fd_is_integer K fd := c.m.d.def_ 4 rfl
  have g_is_count := He.glo_ok X G (c.m.d.fact 31 (f := .glo "is_count") rfl)
  have D_is_count : ∃ fd, Fd_is_count K fd := c.m.d.def_ 5 rfl
  have g_is_name := He.glo_ok X G (c.m.d.fact 32 (f := .glo "is_name") rfl)
  have D_is_name : ∃ fd, Fd_is_name K fd := c.m.d.def_ 6 rfl
  have g_is_step := He.glo_ok X G (c.m.d.fact 33 (f := .glo "is_step") rfl)
  have D_is_step : ∃ fd, Fd_is_step K fd := c.m.d.def_ 7 rfl
  have g_Lkinds_right := He.glo_ok X G (c.m.d.fact 34 (f := .glo "_law_kinds_right") rfl)
  have D_Lkinds_right : ∃ fd, Fd_Lkinds_right K fd := c.m.d.def_ 8 rfl
  have g_Lkey := He.glo_ok X G (c.m.d.fact 35 (f := .glo "_law_key") rfl)
  have D_Lkey : ∃ fd, Fd_Lkey K fd := c.m.d.def_ 9 rfl
  have g_is_word := He.glo_ok X G (c.m.d.fact 36 (f := .glo "is_word") rfl)
  have D_is_word : ∃ fd, Fd_is_word K fd := c.m.d.def_ 10 rfl
  have g_want_word := He.glo_ok X G (c.m.d.fact 37 (f := .glo "want_word") rfl)
  have D_want_word : ∃ fd, Fd_want_word K fd := c.m.d.def_ 11 rfl
  have g_step_key := He.glo_ok X G (c.m.d.fact 38 (f := .glo "step_key") rfl)
  have D_step_key : ∃ fd, Fd_step_key K fd := c.m.d.def_ 12 rfl
  have g_word_key := He.glo_ok X G (c.m.d.fact 39 (f := .glo "word_key") rfl)
  have D_word_key : ∃ fd, Fd_word_key K fd := c.m.d.def_ 13 rfl
  have g_in_order := He.glo_ok X G (c.m.d.fact 40 (f := .glo "in_order") rfl)
  have D_in_order : ∃ fd, Fd_in_order K fd := c.m.d.def_ 14 rfl
  have g_Lodd_step := He.glo_ok X G (c.m.d.fact 41 (f := .glo "_law_odd_step") rfl)
  have D_Lodd_step : ∃ fd, Fd_Lodd_step K fd := c.m.d.def_ 15 rfl
  have g_Lrefused := He.glo_ok X G (c.m.d.fact 42 (f := .glo "_law_refused") rfl)
  have D_Lrefused : ∃ fd, Fd_Lrefused K fd := c.m.d.def_ 16 rfl
  have g_inverse_step := He.glo_ok X G (c.m.d.fact 43 (f := .glo "inverse_step") rfl)
  have D_inverse_step : ∃ fd, Fd_inverse_step K fd := c.m.d.def_ 17 rfl
  have g_inverse_of := He.glo_ok X G (c.m.d.fact 44 (f := .glo "inverse_of") rfl)
  have D_inverse_of : ∃ fd, Fd_inverse_of K fd := c.m.d.def_ 18 rfl
  have g_step_text := He.glo_ok X G (c.m.d.fact 45 (f := .glo "step_text") rfl)
  have D_step_text : ∃ fd, Fd_step_text K fd := c.m.d.def_ 19 rfl
  have g_word_text := He.glo_ok X G (c.m.d.fact 46 (f := .glo "word_text") rfl)
  have D_word_text : ∃ fd, Fd_word_text K fd := c.m.d.def_ 20 rfl
  have g_Lodd_right := He.glo_ok X G (c.m.d.fact 47 (f := .glo "_law_odd_right") rfl)
  have D_Lodd_right : ∃ fd, Fd_Lodd_right K fd := c.m.d.def_ 21 rfl
  have g_Ltext := He.glo_ok X G (c.m.d.fact 48 (f := .glo "_law_text") rfl)
  have D_Ltext : ∃ fd, Fd_Ltext K fd := c.m.d.def_ 22 rfl
  have g_Lstep_in := He.glo_ok X G (c.m.d.fact 49 (f := .glo "_law_step_in") rfl)
  have D_Lstep_in : ∃ fd, Fd_Lstep_in K fd := c.m.d.def_ 23 rfl
  have g_Lread := He.glo_ok X G (c.m.d.fact 50 (f := .glo "_law_read") rfl)
  have D_Lread : ∃ fd, Fd_Lread K fd := c.m.d.def_ 24 rfl
  have g_step_in := He.glo_ok X G (c.m.d.fact 51 (f := .glo "step_in") rfl)
  have D_step_in : ∃ fd, Fd_step_in K fd := c.m.d.def_ 25 rfl
  have g_read_word := He.glo_ok X G (c.m.d.fact 52 (f := .glo "read_word") rfl)
  have D_read_word : ∃ fd, Fd_read_word K fd := c.m.d.def_ 26 rfl
  have g_Ltold_text := He.glo_ok X G (c.m.d.fact 53 (f := .glo "_law_told_text") rfl)
  have D_Ltold_text : ∃ fd, Fd_Ltold_text K fd := c.m.d.def_ 27 rfl
  have g_Ltexts_right := He.glo_ok X G (c.m.d.fact 54 (f := .glo "_law_texts_right") rfl)
  have D_Ltexts_right : ∃ fd, Fd_Ltexts_right K fd := c.m.d.def_ 28 rfl
  have g_Lright := He.glo_ok X G (c.m.d.fact 55 (f := .glo "_law_right") rfl)
  have D_Lright : ∃ fd, Fd_Lright K fd := c.m.d.def_ 29 rfl
  have g_Lpot := He.glo_ok X G (c.m.d.fact 56 (f := .glo "_law_pot") rfl)
  have D_Lpot : ∃ fd, Fd_Lpot K fd := c.m.d.def_ 30 rfl
  have g_law := He.glo_ok X G (c.m.d.fact 57 (f := .glo "law") rfl)
  have D_law : ∃ fd, Fd_law K fd := c.m.d.def_ 31 rfl
  have E_InvalidText : ∃ fd, FnX_InvalidText K fd := c.m.d.def_ 32 rfl
  have E_InvalidWord : ∃ fd, FnX_InvalidWord K fd := c.m.d.def_ 33 rfl
  rw [g_law] at hfa
  cases hfa
  have L : ∀ base : Heap, (∀ p ∈ tfs.map (cT K), LamX.TabB base mg p.1 p.2) → Ok_law P w K mg base := fun base tbs => by
    have x_InvalidText : Oe_InvalidText P w K mg base := oe_InvalidText M E_InvalidText
    have x_InvalidWord : Oe_InvalidWord P w K mg base := oe_InvalidWord M E_InvalidWord
    have c_Ldraw : Ok_Ldraw P w K mg base := ok_Ldraw M D_Ldraw g_Ldraw 
    have c_Llabels : Ok_Llabels P w K mg base := ok_Llabels M D_Llabels g_Llabels c_Ldraw
    have c_Lpick : Ok_Lpick P w K mg base := ok_Lpick M D_Lpick g_Lpick c_Ldraw
    have c_Lword : Ok_Lword P w K mg base := ok_Lword M D_Lword g_Lword c_Ldraw c_Lpick
    have c_is_integer : Ok_is_integer P w K mg base := ok_is_integer M D_is_integer g_is_integer 
    have c_is_count : Ok_is_count P w K mg base := ok_is_count M D_is_count g_is_count c_is_integer
    have c_is_name : Ok_is_name P w K mg base := ok_is_name M D_is_name g_is_name 
    have c_is_step : Ok_is_step P w K mg base := ok_is_step M D_is_step g_is_step c_is_name c_is_integer
    have c_Lkinds_right : Ok_Lkinds_right P w K mg base := ok_Lkinds_right M D_Lkinds_right g_Lkinds_right c_is_integer c_is_count c_is_name c_is_step
    have c_Lkey : Ok_Lkey P w K mg base := ok_Lkey M D_Lkey g_Lkey 
    have c_is_word : Ok_is_word P w K mg base := ok_is_word M D_is_word g_is_word c_is_step
    have c_want_word : Ok_want_word P w K mg base := ok_want_word M D_want_word g_want_word c_is_word x_InvalidWord
    have c_step_key : Ok_step_key P w K mg base := ok_step_key M D_step_key g_step_key 
    have c_word_key : Ok_word_key P w K mg base := ok_word_key M D_word_key g_word_key c_step_key
    have c_in_order : Ok_in_order P w K mg base := ok_in_order M D_in_order g_in_order c_want_word c_word_key
    have c_Lodd_step : Ok_Lodd_step P w K mg base := ok_Lodd_step M D_Lodd_step g_Lodd_step c_Lpick
    have c_Lrefused : Ok_Lrefused P w K mg base := ok_Lrefused M D_Lrefused g_Lrefused 
    have c_inverse_step : Ok_inverse_step P w K mg base := ok_inverse_step M D_inverse_step g_inverse_step 
    have c_inverse_of : Ok_inverse_of P w K mg base := ok_inverse_of M D_inverse_of g_inverse_of c_want_word c_inverse_step
    have c_step_text : Ok_step_text P w K mg base := ok_step_text M D_step_text g_step_text 
    have c_word_text : Ok_word_text P w K mg base := ok_word_text M D_word_text g_word_text c_want_word c_step_text
    have c_Lodd_right : Ok_Lodd_right P w K mg base := ok_Lodd_right M D_Lodd_right g_Lodd_right c_Lodd_step c_Lpick c_Ldraw c_is_step c_is_word c_inverse_of c_word_text c_in_order c_Lrefused (tbs (cT K ("_law_odd_right", none)) (List.mem_map.mpr ⟨("_law_odd_right", none), .head _, rfl⟩))
    have c_Ltext : Ok_Ltext P w K mg base := ok_Ltext M D_Ltext g_Ltext 
    have c_Lstep_in : Ok_Lstep_in P w K mg base := ok_Lstep_in M D_Lstep_in g_Lstep_in 
    have c_Lread : Ok_Lread P w K mg base := ok_Lread M D_Lread g_Lread c_Lstep_in
    have c_step_in : Ok_step_in P w K mg base := ok_step_in M D_step_in g_step_in c_is_name
    have c_read_word : Ok_read_word P w K mg base := ok_read_word M D_read_word g_read_word c_step_in x_InvalidText
    have c_Ltold_text : Ok_Ltold_text P w K mg base := ok_Ltold_text M D_Ltold_text g_Ltold_text c_read_word
    have c_Ltexts_right : Ok_Ltexts_right P w K mg base := ok_Ltexts_right M D_Ltexts_right g_Ltexts_right c_Ltext c_word_text c_Ltold_text c_Ldraw c_Lpick c_Lread
    have c_Lright : Ok_Lright P w K mg base := ok_Lright M D_Lright g_Lright c_Llabels c_Lword c_Lkey c_in_order c_inverse_of c_is_word c_read_word c_word_text c_Ltexts_right c_Lodd_right c_Lkinds_right
    have c_Lpot : Ok_Lpot P w K mg base := ok_Lpot M D_Lpot g_Lpot 
    have c_law : Ok_law P w K mg base := ok_law M D_law g_law c_Lright c_Lpot
    exact c_law
  obtain ⟨fd, F⟩ := D_law
  have b := FunD.bindsA (ps := ["_law_script"]) F fun _ _ _ _ _ _ us hl => match us, hl with | [_], _ => rfl
  refine ⟨fd, fun s v => b s [v] rfl, fun base _ _ tbs => ?_⟩
  obtain ⟨fd2, F2, G2, _⟩ := L base tbs
  have e : fd2 = fd := fd_eq F2 F
  rw [← e]
  exact G2
end Mi
open PySem PySem.W PySem.Calls PyProof.Rows
theorem holds_of (law : ∀ ns : List Int, ns.length ≤ 63 → ∃ S', Mi.m_law [.con (ns.map .int)] [] = .ok (.bl true) S') : PySem.Challenge.rw_walkasks_k11_whole_steps_and_words.Holds := by
  w_on; o_law
  refine HandSHeadRun.head_any (r := OpenLaw.row PySem.Challenge.rw_walkasks_k11_whole_steps_and_words) (q := view (OpenLaw.row PySem.Challenge.rw_walkasks_k11_whole_steps_and_words).prog [44]) (H := Mi.hk) (ob := Mi.ob) (M := 20000) (loose := Mi.loose) (d := HandSHeadRun.topDef (OpenLaw.row PySem.Challenge.rw_walkasks_k11_whole_steps_and_words).prog 44) (kwd := []) Mi.ob_eq
    (by kernel_rfl) (fun s => by kernel_rfl) Mi.run (by kernel_rfl) (by kernel_rfl) (by kernel_rfl) (by rfl) (by first | assumption | decide +kernel) (by decide +kernel) ⟨rfl, rfl, rfl, rfl, rfl, by decide +kernel⟩ ?hw ?hc
  case hw => w_witness2
  case hc =>
    refine Mi.walkGT (l := PySem.Challenge.rw_walkasks_k11_whole_steps_and_words) (n := 63) (k := 10) (x := "_law_script") (mf := Mi.m_law) rfl (by decide) (by kernel_rfl) ⟨rfl, by decide, by decide⟩ ?F law
    intro w mg fa h Y G hmg0
    obtain ⟨K, KX, c⟩ := Y
    have hmg : mg ("law" : PySem.Str) = some (.ref fa) := by
      have e : (HandSHeadRun.topDef (OpenLaw.row PySem.Challenge.rw_walkasks_k11_whole_steps_and_words).prog 44).name = ("law" : PySem.Str) := by kernel_rfl
      rw [← e]
      exact hmg0
    obtain ⟨fd, hb, hF⟩ := Mi.facts (P := (PySem.Challenge.rw_walkasks_k11_whole_steps_and_words).prog) (w := w) KX G hmg c
    exact ⟨K, fd, Mi.tfs.map (He.cT K), Mi.TT K, KX, fun p hp => by
      obtain ⟨d, hd, rfl⟩ := List.mem_map.mp hp
      exact ⟨He.cT K d, List.mem_map.mpr ⟨d, hd, rfl⟩, rfl⟩, fun p hp => by
      obtain ⟨d, hd, rfl⟩ := List.mem_map.mp hp
      exact c.emp d hd, fun p hp => by
      obtain ⟨d, hd, rfl⟩ := List.mem_map.mp hp
      exact c.out d hd, fun p hp => by
      obtain ⟨d, hd, rfl⟩ := List.mem_map.mp hp
      exact c.hd d hd, hb, hF⟩
end T_G11b
theorem PySem.Challenge.cw_walkasks_k11_whole_steps_and_words_holds : PySem.Challenge.rw_walkasks_k11_whole_steps_and_words.Holds := by
  exact holds_of fun ns _ => Mi.plain_k11 ns
