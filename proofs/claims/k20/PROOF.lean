import PyProof.Rows.All
import Wide.All
import OpenK.AllK
import Wide.FinOn
import HandS.ForMost
import HandS.ForExc
import HandS.Deep
import KE.KeyNested
import KE.LtData
import HandS.Lambda
import KE.DataMinMax
import KE.SortData
import HandS.Text
import KE.KDictKeyed
import KE.SortCalls
import KE.DataCmp
import HandS.TupAny
import HandS.TupMul
import HandS.NoneIn
import HandS.Zip
import HandS.IsInst
import HandS.Style
import HandS.Dict
import HandS.Strs
import PyProof.Rows.SortShellAny
import HandS.Iter
import HandS.SetFor
import HandS.Nested
import KE.KMinKey
import HandS.SortKw
import HandS.EndTab
import KE.KNestM
import HandS.NestedK
import HandS.ExcInit
import HandS.ExcField
import HandS.ExcIs
import HandS.TryOnly
import KE.KDictSum
import PySem.Challenge.RW_blazonry_k20_whole_few_words_more
set_option Elab.async false
set_option linter.all false
set_option maxRecDepth 100000
set_option maxHeartbeats 2000000
/-! The data layer: what a def means, as a function of plain data. -/
namespace Bz
open PySem

/-- a value: plain data, or a handle of something that may be changed -/
inductive S where
  | d (x : PyData)
  | m (h : Nat)
/-- what a handle stands for -/
inductive M where
  | lst (xs : List PyData)
  | frz (xs : List PyData)
  | dic (kvs : List (PyData × PyData))
  | fdc (kvs : List (PyData × PyData))
/-- the world a walk stands in; the tables of the code objects of lambdas, with their names -/
class Wd where
  w : PySem.World
  T : List (PySem.Addr × PySem.Str)
abbrev Mem := List M
/-- a script as data -/
def scrD (ns : List Int) : PyData := .dict [(.none, .list (ns.map PyData.int))]
structure Exn where
  cls : Nat
  place : Option Int
inductive R (α : Type) where
  | ok (a : α) (μ : Mem)
  | err (e : Exn) (μ : Mem)
  | no
abbrev Env := List (Option S)
abbrev DE := Env → Mem → R S
abbrev DT := Env → Mem → R Bool
abbrev DA := Env → Mem → R (List S)
abbrev DI := Env → Mem → R (List PyData)
inductive Out where
  | nx (ρ : Env) (μ : Mem)
  | rt (s : S) (μ : Mem)
  | bk (ρ : Env) (μ : Mem)
  | ct (ρ : Env) (μ : Mem)
  | err (e : Exn) (μ : Mem)
  | no
abbrev DS := Env → Mem → Out
abbrev DG := S → Env → Option Env
abbrev Fn := List S → Mem → R S

@[simp] def R.bind {α β : Type} (r : R α) (f : α → Mem → R β) : R β := match r with
  | .ok a μ => f a μ
  | .err e μ => .err e μ
  | .no => .no
@[simp] def R.out {α : Type} (r : R α) (f : α → Mem → Out) : Out := match r with
  | .ok a μ => f a μ
  | .err e μ => .err e μ
  | .no => .no
/-- where nothing may be raised -/
@[simp] def R.bindN {α β : Type} (r : R α) (f : α → Mem → R β) : R β := match r with
  | .ok a μ => f a μ
  | _ => .no
@[simp] def rd (μ : Mem) : S → Option PyData
  | .d x => some x
  | .m h => match μ[h]? with
    | some (.lst xs) => some (.list xs)
    | some (.frz xs) => some (.list xs)
    | _ => none
@[simp] def pureS : S → Option PyData
  | .d x => some x
  | .m _ => none
@[simp] def pureL : List S → Option (List PyData)
  | [] => some []
  | .d x :: r => match pureL r with
    | some xs => some (x :: xs)
    | none => none
  | .m _ :: _ => none
@[simp] def rdL (μ : Mem) : List S → Option (List PyData)
  | [] => some []
  | s :: r => match rd μ s, rdL μ r with
    | some x, some xs => some (x :: xs)
    | _, _ => none
@[simp] def R.of (o : Option PyData) (μ : Mem) : R S := match o with
  | some x => .ok (.d x) μ
  | none => .no

/-! ### expressions -/
@[simp] def eVar (i : Nat) : DE := fun ρ μ => match ρ[i]? with
  | some (some s) => .ok s μ
  | _ => .no
@[simp] def eC (x : PyData) : DE := fun _ μ => .ok (.d x) μ
@[simp] def eOp (f : PyData → PyData → Option PyData) (a b : DE) : DE := fun ρ μ => (a ρ μ).bind fun x μ1 => (b ρ μ1).bind fun y μ2 => match rd μ2 x, rd μ2 y with
  | some u, some v => R.of (f u v) μ2
  | _, _ => .no
@[simp] def eUn (f : PyData → Option PyData) (a : DE) : DE := fun ρ μ => (a ρ μ).bind fun x μ1 => match rd μ1 x with
  | some u => R.of (f u) μ1
  | none => .no
@[simp] def aNil : DA := fun _ μ => .ok [] μ
@[simp] def aCons (a : DE) (r : DA) : DA := fun ρ μ => (a ρ μ).bind fun x μ1 => (r ρ μ1).bind fun xs μ2 => .ok (x :: xs) μ2
@[simp] def eCB (f : List PyData → Option PyData) (as : DA) : DE := fun ρ μ => (as ρ μ).bind fun ss μ1 => match rdL μ1 ss with
  | some xs => R.of (f xs) μ1
  | none => .no
@[simp] def small (n : Nat) : Bool := decide (n ≤ 1000000)
@[simp] def eTup (as : DA) : DE := fun ρ μ => (as ρ μ).bind fun ss μ1 => match pureL ss with
  | some xs => if small xs.length then .ok (.d (.tuple xs)) μ1 else .no
  | none => .no
@[simp] def eLst (as : DA) : DE := fun ρ μ => (as ρ μ).bind fun ss μ1 => match pureL ss with
  | some xs => if small xs.length then .ok (.d (.list xs)) μ1 else .no
  | none => .no
/-- a list, to be changed -/
@[simp] def eNew (a : DE) : DE := fun ρ μ => (a ρ μ).bind fun s μ1 => match s with
  | .d (.list xs) => .ok (.m μ1.length) (μ1 ++ [.lst xs])
  | _ => .no
@[simp] def eIf (t : DT) (a b : DE) : DE := fun ρ μ => (t ρ μ).bind fun c μ1 => if c then a ρ μ1 else b ρ μ1
@[simp] def eAnd (a b : DE) : DE := fun ρ μ => (a ρ μ).bind fun s μ1 => match s with
  | .d (.bool c) => if c then b ρ μ1 else .ok (.d (.bool false)) μ1
  | _ => .no
@[simp] def eOr (a b : DE) : DE := fun ρ μ => (a ρ μ).bind fun s μ1 => match s with
  | .d (.bool c) => if c then .ok (.d (.bool true)) μ1 else b ρ μ1
  | _ => .no
@[simp] def eNot (a : DE) : DE := fun ρ μ => (a ρ μ).bind fun s μ1 => match s with
  | .d (.bool c) => .ok (.d (.bool (!c))) μ1
  | _ => .no
/-- a op1 b op2 c -/
@[simp] def eChain (f g : PyData → PyData → Option PyData) (a b c : DE) : DE := fun ρ μ => (a ρ μ).bind fun x μ1 => (b ρ μ1).bind fun y μ2 => match rd μ2 x, rd μ2 y with
  | some u, some v => match f u v with
    | some (.bool true) => (c ρ μ2).bind fun z μ3 => match rd μ3 y, rd μ3 z with
      | some v', some w => R.of (g v' w) μ3
      | _, _ => .no
    | some (.bool false) => .ok (.d (.bool false)) μ2
    | _ => .no
  | _, _ => .no
@[simp] def bVal (a : DE) : DT := fun ρ μ => (a ρ μ).bind fun s μ1 => match s with
  | .d (.bool c) => .ok c μ1
  | _ => .no
@[simp] def bAnd (t u : DT) : DT := fun ρ μ => (t ρ μ).bind fun c μ1 => if c then u ρ μ1 else .ok false μ1
@[simp] def bOr (t u : DT) : DT := fun ρ μ => (t ρ μ).bind fun c μ1 => if c then .ok true μ1 else u ρ μ1
@[simp] def bNot (t : DT) : DT := fun ρ μ => (t ρ μ).bind fun c μ1 => .ok (!c) μ1
@[simp] def bYes : DT := fun _ μ => .ok true μ
@[simp] def eCall (F : Fn) (as : DA) : DE := fun ρ μ => (as ρ μ).bind fun ss μ1 => F ss μ1

@[simp] theorem ok_and {p : Prop} [Decidable p] {d : Bool} {μ : Mem} : (if p then R.ok (S.d (.bool d)) μ else R.ok (S.d (.bool false)) μ) = R.ok (S.d (.bool (decide p && d))) μ := by
  by_cases h : p <;> simp [h]
@[simp] theorem ok_or {p : Prop} [Decidable p] {d : Bool} {μ : Mem} : (if p then R.ok (S.d (.bool true)) μ else R.ok (S.d (.bool d)) μ) = R.ok (S.d (.bool (decide p || d))) μ := by
  by_cases h : p <;> simp [h]
@[simp] theorem ok_andT {p : Prop} [Decidable p] {d : Bool} {μ : Mem} : (if p then R.ok d μ else R.ok false μ) = R.ok (decide p && d) μ := by
  by_cases h : p <;> simp [h]
@[simp] theorem ok_orT {p : Prop} [Decidable p] {d : Bool} {μ : Mem} : (if p then R.ok true μ else R.ok d μ) = R.ok (decide p || d) μ := by
  by_cases h : p <;> simp [h]

/-! ### what is walked -/
@[simp] def seqOf : PyData → Option (List PyData)
  | .list xs => some xs
  | .tuple xs => some xs
  | _ => none
/-- a list that is walked stands from there on -/
@[simp] def iSeq (a : DE) : DI := fun ρ μ => (a ρ μ).bind fun s μ1 => match s with
  | .d x => match seqOf x with
    | some xs => .ok xs μ1
    | none => .no
  | .m h => match μ1[h]? with
    | some (.lst xs) => .ok xs (μ1.set h (.frz xs))
    | some (.frz xs) => .ok xs μ1
    | _ => .no
def upFrom (lo : Int) (n : Nat) : List PyData := (List.range n).map fun (i : Nat) => PyData.int (lo + (i : Int))
def lim : Int := 1000000000000
@[simp] def iRng1 (as : DA) : DI := fun ρ μ => (as ρ μ).bind fun ss μ1 => match ss with
  | [.d (.int j)] => if decide (-lim ≤ j ∧ j ≤ lim) then .ok (upFrom 0 j.toNat) μ1 else .no
  | _ => .no
@[simp] def iRng2 (as : DA) : DI := fun ρ μ => (as ρ μ).bind fun ss μ1 => match ss with
  | [.d (.int i), .d (.int j)] => if decide (-lim ≤ i ∧ i ≤ lim ∧ -lim ≤ j ∧ j ≤ lim) then .ok (upFrom i (j - i).toNat) μ1 else .no
  | _ => .no
@[simp] def zipD : List PyData → List PyData → List PyData
  | x :: xs, y :: ys => .tuple [x, y] :: zipD xs ys
  | _, _ => []
@[simp] def iZip (as : DA) : DI := fun ρ μ => (as ρ μ).bind fun ss μ1 => match ss with
  | [.d (.list xs), .d (.list ys)] => .ok (zipD xs ys) μ1
  | [.d (.tuple xs), .d (.tuple ys)] => .ok (zipD xs ys) μ1
  | [.d (.tuple xs), .d (.list ys)] => .ok (zipD xs ys) μ1
  | _ => .no

/-! ### targets -/
@[simp] def gNm (i : Nat) : DG := fun s ρ => some (ρ.set i (some s))
@[simp] def gSeq : List DG → List PyData → Env → Option Env
  | [], [], ρ => some ρ
  | g :: gs, x :: xs, ρ => match g (.d x) ρ with
    | some ρ1 => gSeq gs xs ρ1
    | none => none
  | _, _, _ => none
/-- (a, b, ..) = a tuple -/
@[simp] def gTp (gs : List DG) : DG := fun s ρ => match s with
  | .d (.tuple xs) => gSeq gs xs ρ
  | _ => none
/-- .. = a list -/
@[simp] def gLs (gs : List DG) : DG := fun s ρ => match s with
  | .d (.list xs) => gSeq gs xs ρ
  | _ => none

/-! ### comprehensions -/
@[simp] def wipeD (ρ : Env) : List Nat → Env
  | [] => ρ
  | v :: vs => (wipeD ρ vs).set v none
@[simp] def compGo (g : DG) (t : DT) (e : DE) (ρ : Env) : List PyData → List PyData → Mem → R (List PyData)
  | [], acc, μ => .ok acc μ
  | x :: xs, acc, μ => match g (.d x) ρ with
    | none => .no
    | some ρ1 => (t ρ1 μ).bindN fun b μ1 => if b then (e ρ1 μ1).bindN fun s μ2 => match s with
        | .d y => if small acc.length then compGo g t e ρ xs (acc ++ [y]) μ2 else .no
        | .m _ => .no
      else compGo g t e ρ xs acc μ1
@[simp] def eComp (it : DI) (g : DG) (t : DT) (e : DE) (vs : List Nat) : DE := fun ρ μ => (it ρ μ).bind fun xs μ1 => (compGo g t e (wipeD ρ vs) xs [] μ1).bindN fun ys μ2 => .ok (.d (.list ys)) μ2

/-! ### statements -/
@[simp] def sNx : DS := fun ρ μ => .nx ρ μ
@[simp] def sSeq (a b : DS) : DS := fun ρ μ => match a ρ μ with
  | .nx ρ1 μ1 => b ρ1 μ1
  | o => o
@[simp] def sAsg (e : DE) (g : DG) : DS := fun ρ μ => (e ρ μ).out fun s μ1 => match g s ρ with
  | some ρ1 => .nx ρ1 μ1
  | none => .no
/-- a, b = e1, e2, of which one may be a list to be changed -/
@[simp] def sPar (a b : DE) (i j : Nat) : DS := fun ρ μ => (a ρ μ).out fun s μ1 => (b ρ μ1).out fun t μ2 => .nx ((ρ.set i (some s)).set j (some t)) μ2
@[simp] def sDrop (e : DE) : DS := fun ρ μ => (e ρ μ).out fun _ μ1 => .nx ρ μ1
@[simp] def sRet (e : DE) : DS := fun ρ μ => (e ρ μ).out fun s μ1 => .rt s μ1
@[simp] def sRetN : DS := fun _ μ => .rt (.d .none) μ
@[simp] def sIf (t : DT) (a b : DS) : DS := fun ρ μ => (t ρ μ).out fun c μ1 => if c then a ρ μ1 else b ρ μ1
@[simp] def sNo : DS := fun _ _ => .no
@[simp] def sBk : DS := fun ρ μ => .bk ρ μ
@[simp] def sCt : DS := fun ρ μ => .ct ρ μ
@[simp] def forGo (g : DG) (b : DS) : List PyData → Env → Mem → Out
  | [], ρ, μ => .nx ρ μ
  | x :: xs, ρ, μ => match g (.d x) ρ with
    | none => .no
    | some ρ1 => match b ρ1 μ with
      | .nx ρ2 μ2 => forGo g b xs ρ2 μ2
      | .ct ρ2 μ2 => forGo g b xs ρ2 μ2
      | .bk ρ2 μ2 => .nx ρ2 μ2
      | o => o
@[simp] def sFor (it : DI) (g : DG) (b : DS) : DS := fun ρ μ => (it ρ μ).out fun xs μ1 => forGo g b xs ρ μ1
def whGo (t : DT) (b : DS) : Nat → Env → Mem → Out
  | 0, _, _ => .no
  | n + 1, ρ, μ => (t ρ μ).out fun c μ1 => if c then match b ρ μ1 with
      | .nx ρ2 μ2 => whGo t b n ρ2 μ2
      | .ct ρ2 μ2 => whGo t b n ρ2 μ2
      | .bk ρ2 μ2 => .nx ρ2 μ2
      | o => o
    else .nx ρ μ1
@[simp] def sWh (n : Nat) (t : DT) (b : DS) : DS := fun ρ μ => whGo t b n ρ μ
/-- xs[i] = v, the list a changeable one -/
@[simp] def sSetIx (e o i : DE) : DS := fun ρ μ => (e ρ μ).out fun s μ1 => (o ρ μ1).out fun l μ2 => (i ρ μ2).out fun k μ3 => match s, l, k with
  | .d x, .m h, .d (.int j) => match μ3[h]? with
    | some (.lst xs) => match L2.ixN xs.length j with
      | some n => .nx ρ (μ3.set h (.lst (xs.set n x)))
      | none => .no
    | _ => .no
  | _, _, _ => .no
/-- xs.append(e) -/
@[simp] def eApp (o e : DE) : DE := fun ρ μ => (o ρ μ).bind fun l μ1 => match l with
  | .m h => match μ1[h]? with
    | some (.lst _) => (e ρ μ1).bind fun s μ2 => match s with
      | .d x => match μ2[h]? with
        | some (.lst xs) => if small xs.length then .ok (.d .none) (μ2.set h (.lst (xs ++ [x]))) else .no
        | _ => .no
      | .m _ => .no
    | _ => .no
  | .d _ => .no

/-! ### defs -/
@[simp] def retF (n : Nat) (s : S) (μ : Mem) : R S := match s with
  | .d x => .ok (.d x) (μ.take n)
  | .m h => if h < n then .ok (.m h) (μ.take n) else match μ[h]? with
    | some (.lst xs) => .ok (.d (.list xs)) (μ.take n)
    | some (.frz xs) => .ok (.d (.list xs)) (μ.take n)
    | _ => .no
def callD (np n : Nat) (b : DS) : Fn := fun args μ => if args.length = np then match b (args.map some ++ List.replicate (n - np) none) μ with
    | .nx _ μ' => .ok (.d .none) (μ'.take μ.length)
    | .rt s μ' => retF μ.length s μ'
    | .err e μ' => .err e (μ'.take μ.length)
    | _ => .no
  else .no
theorem callD_no {np n : Nat} {b : DS} {args : List S} {μ : Mem} (h : args.length ≠ np) : callD np n b args μ = .no := by
  unfold callD
  rw [if_neg h]
/-! ### operations on data -/
abbrev D2 := PyData → PyData → Option PyData
@[simp] def fAdd : D2
  | .int i, .int j => some (.int (i + j))
  | .str x, .str y => if small (x.length + y.length) then some (.str (x ++ y)) else none
  | .tuple xs, .tuple ys => if small (xs.length + ys.length) then some (.tuple (xs ++ ys)) else none
  | .list xs, .list ys => if small (xs.length + ys.length) then some (.list (xs ++ ys)) else none
  | _, _ => none
@[simp] def fSub : D2
  | .int i, .int j => some (.int (i - j))
  | _, _ => none
def big64 : Int := 18446744073709551616
@[simp] def fMul : D2
  | .int i, .int j => if decide (-big64 < i ∧ i < big64) || decide (-big64 < j ∧ j < big64) then some (.int (i * j)) else none
  | .tuple xs, .int k => if decide (0 ≤ k ∧ k ≤ 1000) && decide (xs.length ≤ 1000) then some (.tuple (List.replicate k.toNat xs).flatten) else none
  | .list xs, .int k => if decide (0 ≤ k ∧ k ≤ 1000) && decide (xs.length ≤ 1000) then some (.list (List.replicate k.toNat xs).flatten) else none
  | _, _ => none
@[simp] def fDiv : D2
  | .int i, .int j => if decide (0 < j ∧ j < 1073741824) then some (.int (i / j)) else none
  | _, _ => none
@[simp] def fMod : D2
  | .int i, .int j => if decide (0 < j) then some (.int (i % j)) else none
  | _, _ => none
@[simp] def fPow : D2
  | .int i, .int j => if decide (0 ≤ j ∧ j ≤ 1000) && decide (i.natAbs ≤ 1000) then some (.int (i ^ j.toNat)) else none
  | _, _ => none
/-- == of two scalars -/
@[simp] def scalD : PyData → PyData → Option Bool
  | .int i, .int j => some (decide (i = j))
  | .str x, .str y => some (decide (x = y))
  | .bool a, .bool b => some (decide (a = b))
  | .none, .none => some true
  | .none, .int _ => some false
  | .int _, .none => some false
  | .none, .str _ => some false
  | .str _, .none => some false
  | .int _, .str _ => some false
  | .str _, .int _ => some false
  | _, _ => none
@[simp] def eqD2 (a b : PyData) : Option Bool := match scalD a b with
  | some c => some c
  | none => if a.canLay0 && b.canLay0 && decide (min a.depth b.depth ≤ 64) then some (PyData.eqv a b) else none
@[simp] def fEq : D2 := fun a b => (eqD2 a b).map fun c => .bool c
@[simp] def fNe : D2 := fun a b => (eqD2 a b).map fun c => .bool (!c)
def ordOk (a b : PyData) : Bool := a.canLay0 && b.canLay0 && PySem.W.alike a b && decide (min a.depth b.depth ≤ 64) && (match a with | .tuple _ => true | _ => false)
@[simp] def gLt : D2 := fun a b => if ordOk a b then some (.bool (PySem.W.dataLt a b)) else none
@[simp] def gGt : D2 := fun a b => if ordOk a b then some (.bool (PySem.W.dataLt b a)) else none
@[simp] def fLt : D2
  | .int i, .int j => some (.bool (decide (i < j)))
  | a, b => gLt a b
@[simp] def fLe : D2
  | .int i, .int j => some (.bool (decide (i ≤ j)))
  | _, _ => none
@[simp] def fGt : D2
  | .int i, .int j => some (.bool (decide (j < i)))
  | a, b => gGt a b
@[simp] def fGe : D2
  | .int i, .int j => some (.bool (decide (j ≤ i)))
  | _, _ => none
@[simp] def flatD : PyData → Bool
  | .none => true
  | .bool _ => true
  | .int _ => true
  | .str _ => true
  | _ => false
def inD (x : PyData) (xs : List PyData) : Bool := xs.any fun y => PyData.eqv y x
@[simp] def fIn : D2
  | x, .tuple xs => if flatD x && xs.all flatD then some (.bool (inD x xs)) else if SeqAt.shaped x && SeqAt.shaped (.tuple xs) then some (.bool (inD x xs)) else none
  | x, .list xs => if SeqAt.shaped x && SeqAt.shaped (.list xs) then some (.bool (inD x xs)) else none
  | _, _ => none
@[simp] def fNotIn : D2
  | x, .tuple xs => if flatD x && xs.all flatD then some (.bool (!inD x xs)) else if SeqAt.shaped x && SeqAt.shaped (.tuple xs) then some (.bool (!inD x xs)) else none
  | x, .list xs => if SeqAt.shaped x && SeqAt.shaped (.list xs) then some (.bool (!inD x xs)) else none
  | _, _ => none
@[simp] def isNone : PyData → Bool
  | .none => true
  | _ => false
/-- is, the right side None, True, False -/
@[simp] def fIs : D2
  | x, .none => some (.bool (isNone x))
  | .bool a, .bool b => some (.bool (decide (a = b)))
  | _, _ => none
@[simp] def fIsNot : D2
  | x, .none => some (.bool (!isNone x))
  | .bool a, .bool b => some (.bool (!decide (a = b)))
  | _, _ => none
@[simp] def fIx : D2
  | .list xs, .int i => L2.atI xs i
  | .tuple xs, .int i => L2.atI xs i
  | .dict [(.none, .list xs)], .int i => L2.atI xs i
  | .str z, .int i => if small z.length then (L2.atI z.cps.toList i).map fun c => .str ⟨#[c]⟩ else none
  | _, _ => none
def cutD (xs : List PyData) (lo hi : Option Int) : List PyData := (xs.drop (HT.sIx xs.length 0 lo)).take (HT.sIx xs.length xs.length hi - HT.sIx xs.length 0 lo)
@[simp] def fSl (lo hi : Option Int) : PyData → Option PyData
  | .list xs => some (.list (cutD xs lo hi))
  | .tuple xs => some (.tuple (cutD xs lo hi))
  | .str z => if small z.length then some (.str (L2.cutS z lo hi)) else none
  | _ => none
abbrev DO := Env → Mem → R (Option Int)
@[simp] def oNo : DO := fun _ μ => .ok none μ
@[simp] def oYes (e : DE) : DO := fun ρ μ => (e ρ μ).bind fun s μ1 => match s with
  | .d (.int i) => .ok (some i) μ1
  | _ => .no
@[simp] def eSl (e : DE) (l h : DO) : DE := fun ρ μ => (e ρ μ).bind fun s μ1 => (l ρ μ1).bind fun lo μ2 => (h ρ μ2).bind fun hi μ3 => match rd μ3 s with
  | some x => R.of (fSl lo hi x) μ3
  | none => .no
/-! calls of built-ins -/
abbrev DF := List PyData → Option PyData
@[simp] def bLen : DF
  | [.list xs] => some (.int xs.length)
  | [.tuple xs] => some (.int xs.length)
  | [.dict [(.none, .list xs)]] => some (.int xs.length)
  | [.str z] => if small z.length then some (.int z.length) else none
  | _ => none
@[simp] def bTup : DF
  | [.list xs] => some (.tuple xs)
  | [.tuple xs] => some (.tuple xs)
  | _ => none
@[simp] def bLst : DF
  | [.list xs] => some (.list xs)
  | [.tuple xs] => some (.list xs)
  | _ => none
@[simp] def bInt : DF
  | [.int i] => some (.int i)
  | [.bool b] => some (.int (if b then 1 else 0))
  | _ => none
@[simp] def bAbs : DF
  | [.int i] => some (.int (if i < 0 then -i else i))
  | _ => none
@[simp] def fNeg : PyData → Option PyData
  | .int i => some (.int (-i))
  | _ => none
/-! order of data that are alike -/
def alikeAt (xs : List PyData) : Bool := xs.all fun x => x.canLay0 && decide (x.depth ≤ 30) && xs.all fun y => PySem.W.alike x y
def dLe (a b : PyData) : Bool := !PySem.W.dataLt b a
def isTupC : PyData → Bool
  | .tuple (_ :: _) => true
  | _ => false
/-- sorted(xs), tuples of data that are alike -/
@[simp] def bSortD (xs : List PyData) : Option PyData := if small xs.length && alikeAt xs && xs.all isTupC then some (.list (xs.mergeSort dLe)) else none
/-- min(xs), max(xs) of data that are alike: the first of the least, of the greatest -/
@[simp] def bMinD : List PyData → Option PyData
  | x :: xs => if small xs.length && alikeAt (x :: xs) && (x :: xs).all (fun x => !isNone x) then some (PySem.W.minD x xs) else none
  | [] => none
@[simp] def bMaxD : List PyData → Option PyData
  | x :: xs => if small xs.length && alikeAt (x :: xs) && (x :: xs).all (fun x => !isNone x) then some (PySem.W.maxD x xs) else none
  | [] => none
def min4 (a b c d : Int) : Int := min (min (min a b) c) d
@[simp] def bMin : DF
  | [.int a, .int b] => some (.int (if b < a then b else a))
  | [.int a, .int b, .int c, .int d] => some (.int (min4 a b c d))
  | [.list xs] => bMinD xs
  | _ => none
@[simp] def bMax : DF
  | [.tuple xs] => bMaxD xs
  | _ => none

/-! dicts that are not changed -/
@[simp] def kD0 : L2.Key → PyData
  | .inl i => .int i
  | .inr x => .str x
@[simp] def kOf : PyData → Option L2.Key
  | .int i => some (.inl i)
  | .str x => some (.inr x)
  | _ => none
abbrev DP := Env → Mem → R (List (L2.Key × PyData))
@[simp] def pNil : DP := fun _ μ => .ok [] μ
@[simp] def pCons (k v : DE) (r : DP) : DP := fun ρ μ => (k ρ μ).bind fun a μ1 => (v ρ μ1).bind fun b μ2 => (r ρ μ2).bind fun ps μ3 => match a, b with
  | .d x, .d y => match kOf x with
    | some k => .ok ((k, y) :: ps) μ3
    | none => .no
  | _, _ => .no
@[simp] def eDict (ps : DP) : DE := fun ρ μ => (ps ρ μ).bind fun kvs μ1 => if decide ((kvs.map (·.1)).Nodup) && decide (kvs.length ≤ 15) then .ok (.d (.dict (kvs.map fun p => (kD0 p.1, p.2)))) μ1 else .no
@[simp] def lookK : List (PyData × PyData) → L2.Key → Option PyData
  | [], _ => none
  | (a, d) :: r, k => if kOf a = some k then some d else lookK r k
@[simp] def isDct : List (PyData × PyData) → Bool
  | (.none, _) :: _ => false
  | _ => true
/-- d.get(k, z) -/
@[simp] def eGet2 (o k z : DE) : DE := fun ρ μ => (o ρ μ).bind fun s μ1 => match s with
  | .d (.dict kvs) => if isDct kvs then (k ρ μ1).bind fun a μ2 => (z ρ μ2).bind fun b μ3 => match a, b with
      | .d x, .d y => match kOf x with
        | some q => .ok (.d ((lookK kvs q).getD y)) μ3
        | none => .no
      | _, _ => .no
    else .no
  | _ => .no
/-! turned about, places, texts sorted -/
@[simp] def fRev : PyData → Option PyData
  | .list xs => some (.list xs.reverse)
  | .tuple xs => some (.tuple xs.reverse)
  | _ => none
@[simp] def strsOf : List PyData → Option (List Str)
  | [] => some []
  | .str x :: r => match strsOf r with
    | some xs => some (x :: xs)
    | none => none
  | _ :: _ => none
/-- t.index(x), of texts -/
@[simp] def fTIdx : D2
  | .tuple xs, .str z => match strsOf xs with
    | some ys => match ys.findIdx? (fun y => decide (y = z)) with
      | some j => some (.int (j : Nat))
      | none => none
    | none => none
  | _, _ => none
def leS (a b : Str) : Bool := !Spec.ltCps b.cps.toList a.cps.toList
def sortS (xs : List Str) : List Str := xs.mergeSort leS
@[simp] def bSorted : DF
  | [.list xs] => match strsOf xs with
    | some ys => if small ys.length then some (.list ((sortS ys).map PyData.str)) else none
    | none => bSortD xs
  | [.tuple xs] => match strsOf xs with
    | some ys => if small ys.length then some (.list ((sortS ys).map PyData.str)) else none
    | none => none
  | _ => none
/-! more of lists that are changed -/
/-- xs.extend(e) -/
@[simp] def eExt (o e : DE) : DE := fun ρ μ => (o ρ μ).bind fun l μ1 => match l with
  | .m h => match μ1[h]? with
    | some (.lst _) => (e ρ μ1).bind fun s μ2 => match s with
      | .d x => match seqOf x, μ2[h]? with
        | some ys, some (.lst xs) => if small (xs.length + ys.length) then .ok (.d .none) (μ2.set h (.lst (xs ++ ys))) else .no
        | _, _ => .no
      | .m _ => .no
    | _ => .no
  | .d _ => .no
/-- xs.pop() -/
@[simp] def ePop (o : DE) : DE := fun ρ μ => (o ρ μ).bind fun l μ1 => match l with
  | .m h => match μ1[h]? with
    | some (.lst xs) => match xs[xs.length - 1]? with
      | some x => .ok (.d x) (μ1.set h (.lst xs.dropLast))
      | none => .no
    | _ => .no
  | .d _ => .no
/-- xs.pop(i) -/
@[simp] def ePopAt (o i : DE) : DE := fun ρ μ => (o ρ μ).bind fun l μ1 => match l with
  | .m h => match μ1[h]? with
    | some (.lst _) => (i ρ μ1).bind fun s μ2 => match s, μ2[h]? with
      | .d (.int j), some (.lst xs) => if decide (0 ≤ j ∧ j < 1000000) then match xs[j.toNat]? with
          | some x => .ok (.d x) (μ2.set h (.lst (xs.eraseIdx j.toNat)))
          | none => .no
        else .no
      | _, _ => .no
    | _ => .no
  | .d _ => .no
/-- xs.reverse() -/
@[simp] def eRevM (o : DE) : DE := fun ρ μ => (o ρ μ).bind fun l μ1 => match l with
  | .m h => match μ1[h]? with
    | some (.lst xs) => .ok (.d .none) (μ1.set h (.lst xs.reverse))
    | _ => .no
  | .d _ => .no
/-- xs.clear() -/
@[simp] def eClr (o : DE) : DE := fun ρ μ => (o ρ μ).bind fun l μ1 => match l with
  | .m h => match μ1[h]? with
    | some (.lst _) => .ok (.d .none) (μ1.set h (.lst []))
    | _ => .no
  | .d _ => .no
/-- list(zip(a, b)) -/
@[simp] def bLstZip : DF
  | [.tuple xs, .tuple ys] => if small xs.length then some (.list (zipD xs ys)) else none
  | _ => none
/-! min(xs, key=lambda ..) -/
def ordK (k b : PyData) : Bool := k.canLay0 && b.canLay0 && PySem.W.alike k b && decide (k.depth ≤ 30) && !isNone k
def minGo (δk : DE) : PyData → PyData → List PyData → Mem → R PyData
  | b, _, [], μ => .ok b μ
  | b, bk, x :: xs, μ => match δk [some (.d x)] μ with
    | .ok (.d k) μ1 => if ordK k bk then (if PySem.W.dataLt k bk then minGo δk x k xs μ1 else minGo δk b bk xs μ1) else .no
    | _ => .no
def minOf (δk : DE) : List PyData → Mem → R PyData
  | [], _ => .no
  | x :: xs, μ => match δk [some (.d x)] μ with
    | .ok (.d k) μ1 => minGo δk x k xs μ1
    | _ => .no
@[simp] def R.toS (r : R PyData) : R S := match r with
  | .ok x μ => .ok (.d x) μ
  | .err e μ => .err e μ
  | .no => .no
/-- a list that is handed on stands from there on -/
@[simp] def eMinK (o : DE) (δk : DE) : DE := fun ρ μ => (o ρ μ).bind fun s μ1 => match s with
  | .d (.list xs) => (minOf δk xs μ1).toS
  | .m h => match μ1[h]? with
    | some (.lst xs) => (minOf δk xs (μ1.set h (.frz xs))).toS
    | some (.frz xs) => (minOf δk xs μ1).toS
    | _ => .no
  | _ => .no
/-! texts, each once -/
def dedupS : List Str → List Str
  | [] => []
  | x :: xs => if x ∈ xs then dedupS xs else x :: dedupS xs
/-- sorted(set(xs)) -/
@[simp] def bSortSet : DF
  | [.list xs] => match strsOf xs with
    | some ys => if ys.length ≤ 4000 then some (.list ((sortS (dedupS ys)).map PyData.str)) else none
    | none => none
  | _ => none
/-! keys that are tuples; dicts that grow -/
mutual
def nkOf : PyData → Option NestedKey
  | .int i => some (.num i)
  | .str x => some (.text x)
  | .tuple xs => match nkAll xs with
    | some ks => some (.tup ks)
    | none => none
  | _ => none
def nkAll : List PyData → Option (List NestedKey)
  | [] => some []
  | x :: xs => match nkOf x, nkAll xs with
    | some k, some ks => some (k :: ks)
    | _, _ => none
end
/-- a key that a dict of tuples may have -/
def nkT (x : PyData) : Option NestedKey := match x with
  | .tuple _ => match nkOf x with
    | some k => if k.depth ≤ 8 then some k else none
    | none => none
  | _ => none
def lookN : List (PyData × PyData) → NestedKey → Option PyData
  | [], _ => none
  | (a, d) :: r, k => if nkOf a = some k then some d else lookN r k
def putN : List (PyData × PyData) → PyData → NestedKey → PyData → List (PyData × PyData)
  | [], x, _, d => [(x, d)]
  | (a, e) :: r, x, k, d => if nkOf a = some k then (a, d) :: r else (a, e) :: putN r x k d
/-- {} -/
@[simp] def eNewD : DE := fun _ μ => .ok (.m μ.length) (μ ++ [.dic []])
/-- what a dict holds, one that may be changed, or one that stands -/
def dicOf : M → Option (List (PyData × PyData))
  | .dic kvs => some kvs
  | .fdc kvs => some kvs
  | _ => none
/-- k in d -/
@[simp] def eInD (a o : DE) : DE := fun ρ μ => (a ρ μ).bind fun s μ1 => (o ρ μ1).bind fun t μ2 => match s, t with
  | .d x, .m h => match nkT x, (μ2[h]?).bind dicOf with
    | some k, some kvs => .ok (.d (.bool (lookN kvs k).isSome)) μ2
    | _, _ => .no
  | _, _ => .no
@[simp] def eNotInD (a o : DE) : DE := fun ρ μ => (a ρ μ).bind fun s μ1 => (o ρ μ1).bind fun t μ2 => match s, t with
  | .d x, .m h => match nkT x, (μ2[h]?).bind dicOf with
    | some k, some kvs => .ok (.d (.bool (!(lookN kvs k).isSome))) μ2
    | _, _ => .no
  | _, _ => .no
/-- d[k], there -/
@[simp] def eGetD (o a : DE) : DE := fun ρ μ => (o ρ μ).bind fun t μ1 => (a ρ μ1).bind fun s μ2 => match s, t with
  | .d x, .m h => match nkT x, (μ2[h]?).bind dicOf with
    | some k, some kvs => R.of (lookN kvs k) μ2
    | _, _ => .no
  | _, _ => .no
/-- d[k] = v -/
@[simp] def sSetD (e o a : DE) : DS := fun ρ μ => (e ρ μ).out fun v μ1 => (o ρ μ1).out fun t μ2 => (a ρ μ2).out fun s μ3 => match v, s, t with
  | .d y, .d x, .m h => match nkT x, μ3[h]? with
    | some k, some (.dic kvs) => if small kvs.length then .nx ρ (μ3.set h (.dic (putN kvs x k y))) else .no
    | _, _ => .no
  | _, _, _ => .no
/-- for k in d: from there on it stands -/
@[simp] def iDic (o : DE) : DI := fun ρ μ => (o ρ μ).bind fun t μ1 => match t with
  | .m h => match μ1[h]? with
    | some (.dic kvs) => .ok (kvs.map (·.1)) (μ1.set h (.fdc kvs))
    | _ => .no
  | _ => .no
/-! isinstance -/
@[simp] def tyD : PyData → Option String
  | .none => some "NoneType"
  | .bool _ => some "bool"
  | .int _ => some "int"
  | .str _ => some "str"
  | .list _ => some "list"
  | .tuple _ => some "tuple"
  | _ => none
@[simp] def isB (t c : String) : Bool := t == c || (t == "bool" && c == "int")
@[simp] def fIsI (cs : List String) : PyData → Option PyData := fun x => match tyD x with
  | some t => some (.bool (cs.any fun c => isB t c))
  | none => none
end Bz
set_option Elab.async false
set_option linter.all false
set_option maxRecDepth 100000
set_option maxHeartbeats 2000000
/-! The data layer, further pieces: texts split and joined, exceptions. -/
namespace Bz
open PySem
/-- a method of a text, of one argument -/
@[simp] def eStrM (f : Str → PyData → Option PyData) (o e : DE) : DE := fun ρ μ => (o ρ μ).bind fun s μ1 => match s with
  | .d (.str a) => (e ρ μ1).bind fun t μ2 => match rd μ2 t with
    | some y => R.of (f a y) μ2
    | none => .no
  | _ => .no
def joinOk (a : Str) (ys : List Str) : Bool := decide ((ys.map fun y => y.length).sum + ys.length * a.length ≤ 16777216)
/-- a.join(ys) -/
@[simp] def fJoin (a : Str) : PyData → Option PyData
  | .tuple xs => match strsOf xs with
    | some ys => if joinOk a ys then some (.str (Txt.join a ys)) else none
    | none => none
  | _ => none
/-- a.split(b) -/
@[simp] def fSplit (a : Str) : PyData → Option PyData
  | .str b => if decide ((b.length == 0) = false) && small a.length then some (.list ((Txt.split a b).map PyData.str)) else none
  | _ => none
/-- sorted(d), d a dict whose keys are tuples -/
@[simp] def eSortD (o : DE) : DE := fun ρ μ => (o ρ μ).bind fun t μ1 => match t with
  | .m h => match μ1[h]? with
    | some (.dic kvs) => R.of (bSortD (kvs.map (·.1))) μ1
    | _ => .no
  | _ => .no
/-! exceptions -/
/-- raise C('..') -/
@[simp] def sRaise (n : Nat) : DS := fun _ μ => .err ⟨n, none⟩ μ
/-- raise C(e), the place kept -/
@[simp] def sRaiseP (n : Nat) (e : DE) : DS := fun ρ μ => (e ρ μ).out fun s μ1 => match s with
  | .d (.int i) => .err ⟨n, some i⟩ μ1
  | _ => .no
/-- the classes that a clause takes -/
def subL (bs : List Bool) (n : Nat) : Bool := (bs[n]?).getD false
/-- try: .. except C: .., the body changes no name -/
@[simp] def sTry (sub : Nat → Bool) (b : DS) (h : Exn → DS) : DS := fun ρ μ => match b ρ μ with
  | .err e μ1 => if sub e.cls then h e ρ μ1 else .err e μ1
  | o => o
end Bz
set_option Elab.async false
set_option linter.all false
set_option maxRecDepth 100000
set_option maxHeartbeats 2000000
/-! The data layer over the hand layer: what a reading does, told by plain data. -/
namespace Bz
open PySem PySem.Spec PyProof.Rows L2
abbrev St := L2.St

/-! ### relations -/
theorem Rd.same {H H' : Hp} {a : Addr} {u : HO} (e : Same H H') (h : Rd H a u) : Rd H' a u := by
  rcases h with h | ⟨o, h⟩
  · exact .inl (e a _ h)
  · exact .inr ⟨o, e a _ h⟩
theorem SqL.same {K : PySem.W.Frag} {H H' : Hp} {a : Addr} {xs : List V} (e : Same H H') (h : SqL K H a xs) : SqL K H' a xs := by
  rcases h with h | h
  · exact .inl (Rd.same e h)
  · exact .inr h
theorem SqT.same {K : PySem.W.Frag} {H H' : Hp} {a : Addr} {xs : List V} (e : Same H H') (h : SqT K H a xs) : SqT K H' a xs := by
  rcases h with h | h
  · exact .inl (Rd.same e h)
  · exact .inr h
/-- a key as data -/
def kD : Key → PyData
  | .inl i => .int i
  | .inr x => .str x
mutual
/-- v is the data d: lists are tracked (lst), or only read (scr: the script); dicts with int and text keys that are not changed -/
inductive Dq (K : PySem.W.Frag) (H : Hp) : V → PyData → Prop
  | non : Dq K H .non .none
  | bl (b : Bool) : Dq K H (.bl b) (.bool b)
  | int (i : Int) : Dq K H (.int i) (.int i)
  | str (x : Str) : Dq K H (.str x) (.str x)
  | lst {a : Addr} {xs : List V} {ds : List PyData} : H a = some (.lst xs) → DqAll K H xs ds → Dq K H (.ref a) (.list ds)
  | tup {a : Addr} {xs : List V} {ds : List PyData} : SqT K H a xs → DqAll K H xs ds → Dq K H (.ref a) (.tuple ds)
  | scr {a : Addr} {xs : List Int} : SqL K H a (xs.map V.int) → Dq K H (.ref a) (.dict [(.none, .list (xs.map PyData.int))])
  | dct {a : Addr} {kvs : List (Key × V)} {ds : List (PyData × PyData)} : H a = some (.dK kvs) → DqKv K H kvs ds → Dq K H (.ref a) (.dict ds)
inductive DqAll (K : PySem.W.Frag) (H : Hp) : List V → List PyData → Prop
  | nil : DqAll K H [] []
  | cons {v : V} {vs : List V} {d : PyData} {ds : List PyData} : Dq K H v d → DqAll K H vs ds → DqAll K H (v :: vs) (d :: ds)
inductive DqKv (K : PySem.W.Frag) (H : Hp) : List (Key × V) → List (PyData × PyData) → Prop
  | nil : DqKv K H [] []
  | cons {k : Key} {v : V} {vs : List (Key × V)} {d : PyData} {ds : List (PyData × PyData)} : Dq K H v d → DqKv K H vs ds → DqKv K H ((k, v) :: vs) ((kD k, d) :: ds)
end
mutual
theorem Dq.mono {K : PySem.W.Frag} {H H' : Hp} (e : Same H H') : ∀ (d : PyData) (v : V), Dq K H v d → Dq K H' v d
  | .none, _, h => by cases h; exact .non
  | .bool _, _, h => by cases h; exact .bl _
  | .int _, _, h => by cases h; exact .int _
  | .str _, _, h => by cases h; exact .str _
  | .list ds, _, h => by
    cases h with
    | lst h1 h2 => exact .lst (e _ _ h1) (DqAll.mono e ds _ h2)
  | .tuple ds, _, h => by
    cases h with
    | tup h1 h2 => exact .tup (SqT.same e h1) (DqAll.mono e ds _ h2)
  | .dict ds, _, h => by
    cases h with
    | scr h1 => exact .scr (SqL.same e h1)
    | dct h1 h2 => exact .dct (e _ _ h1) (DqKv.mono e ds _ h2)
theorem DqAll.mono {K : PySem.W.Frag} {H H' : Hp} (e : Same H H') : ∀ (ds : List PyData) (vs : List V), DqAll K H vs ds → DqAll K H' vs ds
  | [], _, h => by cases h; exact .nil
  | d :: ds, _, h => by
    cases h with
    | cons h1 h2 => exact .cons (Dq.mono e d _ h1) (DqAll.mono e ds _ h2)
theorem DqKv.mono {K : PySem.W.Frag} {H H' : Hp} (e : Same H H') : ∀ (ds : List (PyData × PyData)) (vs : List (Key × V)), DqKv K H vs ds → DqKv K H' vs ds
  | [], _, h => by cases h; exact .nil
  | (_, d) :: ds, _, h => by
    cases h with
    | cons h1 h2 => exact .cons (Dq.mono e d _ h1) (DqKv.mono e ds _ h2)
end
mutual
theorem Dq.dp {K : PySem.W.Frag} {H : Hp} : ∀ (d : PyData) (v : V), d.canLay0 = true → Dq K H v d → Dp K H v d
  | .none, _, _, h => by cases h; exact .non
  | .bool _, _, _, h => by cases h; exact .bl _
  | .int _, _, _, h => by cases h; exact .int _
  | .str _, _, _, h => by cases h; exact .str _
  | .list ds, _, c, h => by
    cases h with
    | lst h1 h2 => exact .lst (SqL.of h1) (DqAll.dp ds _ (by simpa [PyData.canLay0] using c) h2)
  | .tuple ds, _, c, h => by
    cases h with
    | tup h1 h2 => exact .tup h1 (DqAll.dp ds _ (by simpa [PyData.canLay0] using c) h2)
  | .dict _, _, c, h => by simp [PyData.canLay0] at c
theorem DqAll.dp {K : PySem.W.Frag} {H : Hp} : ∀ (ds : List PyData) (vs : List V), PyData.canLayAll0 ds = true → DqAll K H vs ds → DpAll K H vs ds
  | [], _, _, h => by cases h; exact .nil
  | d :: ds, _, c, h => by
    have c' : d.canLay0 = true ∧ PyData.canLayAll0 ds = true := by simpa [PyData.canLayAll0] using c
    cases h with
    | cons h1 h2 => exact .cons (Dq.dp d _ c'.1 h1) (DqAll.dp ds _ c'.2 h2)
end
section
variable {K : PySem.W.Frag} {G G' H H' : Hp} {m m' : List Addr} {μ μ' : Mem} {σ : St} {ρ : Env}
theorem DqAll.length : ∀ {vs : List V} {ds : List PyData}, DqAll K H vs ds → vs.length = ds.length
  | _, _, .nil => rfl
  | _, _, .cons _ t => congrArg (· + 1) (DqAll.length t)
theorem DqAll.get : ∀ {vs : List V} {ds : List PyData} {i : Nat} {d : PyData}, DqAll K H vs ds → ds[i]? = some d → ∃ v, vs[i]? = some v ∧ Dq K H v d
  | _, _, _, _, .nil, e => by simp at e
  | _, _, 0, d, .cons r _, e => by simp at e; subst e; exact ⟨_, rfl, r⟩
  | _, _, i + 1, d, .cons _ t, e => by
    obtain ⟨v, h1, h2⟩ := DqAll.get (i := i) (d := d) t (by simpa using e)
    exact ⟨v, by simpa using h1, h2⟩
theorem DqAll.append : ∀ {vs ws : List V} {ds es : List PyData}, DqAll K H vs ds → DqAll K H ws es → DqAll K H (vs ++ ws) (ds ++ es)
  | _, _, _, _, .nil, s => s
  | _, _, _, _, .cons r t, s => .cons r (DqAll.append t s)
theorem DqAll.take : ∀ {vs : List V} {ds : List PyData} (n : Nat), DqAll K H vs ds → DqAll K H (vs.take n) (ds.take n)
  | _, _, 0, _ => .nil
  | _, _, _ + 1, .nil => .nil
  | _, _, n + 1, .cons r t => .cons r (DqAll.take n t)
theorem DqAll.drop : ∀ {vs : List V} {ds : List PyData} (n : Nat), DqAll K H vs ds → DqAll K H (vs.drop n) (ds.drop n)
  | _, _, 0, r => r
  | _, _, _ + 1, .nil => .nil
  | _, _, n + 1, .cons _ t => DqAll.drop n t
theorem DqAll.set {x : V} {y : PyData} (r : Dq K H x y) : ∀ {vs : List V} {ds : List PyData} (i : Nat), DqAll K H vs ds → DqAll K H (vs.set i x) (ds.set i y)
  | _, _, _, .nil => .nil
  | _, _, 0, .cons _ t => .cons r t
  | _, _, i + 1, .cons q t => .cons q (DqAll.set r i t)
theorem DqAll.reverse : ∀ {vs : List V} {ds : List PyData}, DqAll K H vs ds → DqAll K H vs.reverse ds.reverse
  | _, _, .nil => .nil
  | _, _, .cons r t => by
    rw [List.reverse_cons, List.reverse_cons]
    exact DqAll.append (DqAll.reverse t) (.cons r .nil)
theorem DqAll.rep {vs : List V} {ds : List PyData} (h : DqAll K H vs ds) : ∀ k : Nat, DqAll K H (List.replicate k vs).flatten (List.replicate k ds).flatten
  | 0 => .nil
  | k + 1 => by
    rw [List.replicate_succ, List.replicate_succ, List.flatten_cons, List.flatten_cons]
    exact DqAll.append h (DqAll.rep h k)

/-- the dict at a, by its one object: keys that are tuples, their places, the values -/
def DicO (w : World) (a : Addr) (xs : List (NestedKey × Addr × Value)) : HO := .ext fun h => ∃ o es ep, h.get? a = some o ∧ o.ExactDict ∧ o.data = .dict es ep ∧ es.toList = xs.map fun x => (⟨x.1.hash w, .ref x.2.1, x.2.2⟩ : DictEntry)
/-- what its entries are as data -/
inductive DR (K : PySem.W.Frag) (G : Hp) : List (PyData × PyData) → List (NestedKey × Addr × Value) → Prop
  | nil : DR K G [] []
  | cons {k d : PyData} {n : NestedKey} {q : Addr} {u : Value} {v : V} {kvs : List (PyData × PyData)} {xs : List (NestedKey × Addr × Value)} :
      nkOf k = some n → n.depth ≤ 8 → Dq K G (.ref q) k → RelV v u → Dq K G v d → DR K G kvs xs → DR K G ((k, d) :: kvs) ((n, q, u) :: xs)
theorem DR.mono {K : PySem.W.Frag} {G G' : Hp} (e : Same G G') : ∀ {kvs : List (PyData × PyData)} {xs : List (NestedKey × Addr × Value)}, DR K G kvs xs → DR K G' kvs xs
  | _, _, .nil => .nil
  | _, _, .cons h1 h2 h3 h4 h5 h6 => .cons h1 h2 (Dq.mono e _ _ h3) h4 (Dq.mono e _ _ h5) (DR.mono e h6)
/-- it may be changed -/
def mutM : M → Bool
  | .lst _ => true
  | .dic _ => true
  | _ => false
variable [Wd]
/-- an object that may be changed (lst, dic), one that stands (frz, fdc) -/
def MO (K : PySem.W.Frag) (G H : Hp) (a : Addr) : M → Prop
  | .lst xs => G a = none ∧ ∃ vs, H a = some (.lst vs) ∧ DqAll K G vs xs
  | .frz xs => ∃ vs, G a = some (.lst vs) ∧ DqAll K G vs xs
  | .dic kvs => G a = none ∧ (a == sysModules) = false ∧ ∃ xs, H a = some (DicO Wd.w a xs) ∧ (xs.map (·.1)).Nodup ∧ DR K G kvs xs
  | .fdc kvs => (a == sysModules) = false ∧ ∃ xs o, G a = some (.frz o (DicO Wd.w a xs)) ∧ (xs.map (·.1)).Nodup ∧ DR K G kvs xs
theorem MO.gn {K : PySem.W.Frag} {G H : Hp} {a : Addr} {o : M} (h : MO K G H a o) (z : mutM o = true) : G a = none := by
  cases o with
  | lst xs => exact h.1
  | frz xs => cases z
  | dic kvs => exact h.1
  | fdc kvs => cases z
/-- the tables of code objects stand -/
def TabsM (T : List (Addr × Str)) (m : List Addr) (G H : Hp) : Prop := ∀ p ∈ T, p.1 ∉ m ∧ G p.1 = none ∧ ∃ ps : Array Value, H p.1 = some (.tbl ps) ∧ TriplesOk ps.toList ∧ ∀ (pos : Pos) (cv : Value), codeAmong pos ps.toList = some cv → ∃ c, cv = .ref c ∧ H c = some (LamX.CodeO c p.2) ∧ c ∉ m
section
variable {T : List (Addr × Str)} {m m' : List Addr} {G G' H H' : Hp} {a p : Addr} {o u : HO}
theorem TabsM.via (h : TabsM T m G H) (e : ∀ b o, H b = some o → b ∉ m → (∀ xs, o ≠ .lst xs) → (∀ xs, o ≠ .dK xs) → H' b = some o) (n : ∀ b, H b ≠ none → b ∉ m → b ∉ m') (g : ∀ b ps, H b = some (.tbl ps) → b ∉ m → G b = none → G' b = none) : TabsM T m' G' H' := fun p hp => by
  obtain ⟨h0, hg, ps, h1, h2, h3⟩ := h p hp
  refine ⟨n _ (by rw [h1]; intro z; cases z) h0, g _ _ h1 h0 hg, ps, e _ _ h1 h0 (fun _ z => nomatch z) (fun _ z => nomatch z), h2, fun pos cv hc => ?_⟩
  obtain ⟨c, c1, c2, c3⟩ := h3 pos cv hc
  exact ⟨c, c1, e _ _ c2 c3 (fun _ z => by unfold LamX.CodeO at z; cases z) (fun _ z => by unfold LamX.CodeO at z; cases z), n _ (by rw [c2]; intro z; cases z) c3⟩
theorem TabsM.new (h : TabsM T m G H) (hp : H p = none) : TabsM T m G (upd H p o) := h.via (fun b u e _ _ _ => by rw [upd_ne (ne_of_none e hp)]; exact e) (fun _ _ z => z) fun _ _ _ _ z => z
theorem TabsM.push (h : TabsM T m G H) (hp : H p = none) : TabsM T m (upd G p u) (upd H p o) := h.via (fun b u e _ _ _ => by rw [upd_ne (ne_of_none e hp)]; exact e) (fun _ _ z => z) fun b ps e _ z => by
  rw [upd_ne (ne_of_none e hp)]
  exact z
theorem TabsM.grow (h : TabsM T m G H) (hp : H p = none) : TabsM T (m ++ [p]) G (upd H p o) := h.via (fun b u e _ _ _ => by rw [upd_ne (ne_of_none e hp)]; exact e) (fun b e n z => by
  rcases List.mem_append.mp z with z | z
  · exact n z
  · rw [List.mem_singleton.mp z] at e
    exact e hp) fun _ _ _ _ z => z
theorem TabsM.put (h : TabsM T m G H) (ha : a ∈ m) : TabsM T m G (upd H a o) := h.via (fun b u e n _ _ => by rw [upd_ne (fun z => n (by rw [z]; exact ha))]; exact e) (fun _ _ z => z) fun _ _ _ _ z => z
theorem TabsM.lst {xs : List V} (h : TabsM T m G H) (ha : H a = some (.lst xs)) : TabsM T m G (upd H a o) := h.via (fun b u e _ n _ => by
  rw [upd_ne (fun z => n xs (by rw [z, ha] at e; cases e; rfl))]
  exact e) (fun _ _ z => z) fun _ _ _ _ z => z
theorem TabsM.lstG {xs : List V} (h : TabsM T m G H) (ha : H a = some (.lst xs)) : TabsM T m (upd G a u) H := h.via (fun b u e _ _ _ => e) (fun _ _ z => z) fun b ps e _ z => by
  rw [upd_ne (fun q => by rw [q, ha] at e; cases e)]
  exact z
theorem TabsM.dK {xs : List (Key × V)} (h : TabsM T m G H) (ha : H a = some (.dK xs)) : TabsM T m (upd G a u) (upd H a o) := h.via (fun b u e _ _ n => by
  rw [upd_ne (fun z => n xs (by rw [z, ha] at e; cases e; rfl))]
  exact e) (fun _ _ z => z) fun b ps e _ z => by
  rw [upd_ne (fun q => by rw [q, ha] at e; cases e)]
  exact z
theorem TabsM.cut (h : TabsM T m' G H) (hs : ∀ a ∈ m, a ∈ m') : TabsM T m G H := fun p hp => by
  obtain ⟨h0, hg, ps, h1, h2, h3⟩ := h p hp
  refine ⟨fun z => h0 (hs _ z), hg, ps, h1, h2, fun pos cv hc => ?_⟩
  obtain ⟨c, c1, c2, c3⟩ := h3 pos cv hc
  exact ⟨c, c1, c2, fun z => c3 (hs _ z)⟩
end
structure MemR (K : PySem.W.Frag) (G H : Hp) (m : List Addr) (μ : Mem) : Prop where
  ex : Same G H
  len : m.length = μ.length
  nd : m.Nodup
  at_ : ∀ (i : Nat) a o, m[i]? = some a → μ[i]? = some o → MO K G H a o
  tb : TabsM Wd.T m G H
def RpS (K : PySem.W.Frag) (G : Hp) (m : List Addr) : S → V → Prop
  | .d x, v => Dq K G v x
  | .m h, v => ∃ a, m[h]? = some a ∧ v = .ref a
def EnvR (K : PySem.W.Frag) (G : Hp) (m : List Addr) (ρ : Env) (σ : St) : Prop :=
  σ.length = ρ.length ∧ ∀ (i : Nat) s, ρ[i]? = some (some s) → ∃ v, σ[i]? = some (some v) ∧ RpS K G m s v
structure Gr (G G' : Hp) (m m' : List Addr) : Prop where
  ex : Same G G'
  pre : ∃ k, m' = m ++ k
theorem Gr.refl : Gr G G m m := ⟨Same.refl _, [], by simp⟩
theorem Gr.trans {G1 : Hp} {m1 : List Addr} (a : Gr G G1 m m1) (b : Gr G1 G' m1 m') : Gr G G' m m' := by
  obtain ⟨k, e⟩ := a.pre
  obtain ⟨k', e'⟩ := b.pre
  exact ⟨a.ex.trans b.ex, k ++ k', by rw [e', e, List.append_assoc]⟩
theorem Gr.at_ (g : Gr G G' m m') {i : Nat} {a : Addr} (h : m[i]? = some a) : m'[i]? = some a := by
  obtain ⟨k, e⟩ := g.pre
  obtain ⟨hl, _⟩ := List.getElem?_eq_some_iff.mp h
  rw [e, List.getElem?_append_left hl]
  exact h
theorem RpS.mono {s : S} {v : V} (g : Gr G G' m m') (h : RpS K G m s v) : RpS K G' m' s v := by
  cases s with
  | d x => exact Dq.mono g.ex x v h
  | m n =>
    obtain ⟨a, h1, h2⟩ := h
    exact ⟨a, g.at_ h1, h2⟩
theorem EnvR.mono (g : Gr G G' m m') (h : EnvR K G m ρ σ) : EnvR K G' m' ρ σ := ⟨h.1, fun i s e => by
  obtain ⟨v, h1, h2⟩ := h.2 i s e
  exact ⟨v, h1, h2.mono g⟩⟩
theorem EnvR.set {i : Nat} {s : S} {v : V} (h : EnvR K G m ρ σ) (r : RpS K G m s v) : EnvR K G m (ρ.set i (some s)) (σ.set i (some v)) := by
  refine ⟨by rw [List.length_set, List.length_set]; exact h.1, fun j t e => ?_⟩
  by_cases hj : i = j
  · subst hj
    by_cases hl : i < ρ.length
    · rw [List.getElem?_set_self hl] at e
      cases e
      exact ⟨v, List.getElem?_set_self (by rw [h.1]; exact hl), r⟩
    · rw [List.getElem?_eq_none (by simpa using hl)] at e
      cases e
  · rw [List.getElem?_set_ne hj] at e ⊢
    exact h.2 j t e
theorem EnvR.wipe (h : EnvR K G m ρ σ) : ∀ vs : List Nat, EnvR K G m (wipeD ρ vs) (wipe σ vs)
  | [] => h
  | v :: vs => by
    have ih := EnvR.wipe h vs
    refine ⟨by unfold wipeD L2.wipe; rw [List.length_set, List.length_set]; exact ih.1, fun j t e => ?_⟩
    unfold wipeD at e
    unfold L2.wipe
    by_cases hj : v = j
    · subst hj
      by_cases hl : v < (wipeD ρ vs).length
      · rw [List.getElem?_set_self hl] at e
        cases e
      · rw [List.getElem?_eq_none (by simpa using hl)] at e
        cases e
    · rw [List.getElem?_set_ne hj] at e ⊢
      exact ih.2 j t e

/-- from one state to a later one: what is known stays, what is tracked and not to be changed stays -/
structure Stp (G H : Hp) (m : List Addr) (G' H' : Hp) (m' : List Addr) : Prop where
  gr : Gr G G' m m'
  kp : ∀ b o, H b = some o → b ∉ m → (∀ ps, o ≠ .tbl ps) → H' b = some o
  th : ∀ b, H b ≠ none → b ∉ m → H' b ≠ none
  fr : ∀ a ∈ m', a ∉ m → H a = none
  gn : ∀ b, G b = none → H b ≠ none → b ∉ m → G' b = none
theorem Stp.refl : Stp G H m G H m := ⟨Gr.refl, fun _ _ h _ _ => h, fun _ h _ => h, fun a h n => absurd h n, fun _ h _ _ => h⟩
theorem Stp.trans {G1 H1 : Hp} {m1 : List Addr} (a : Stp G H m G1 H1 m1) (b : Stp G1 H1 m1 G' H' m') : Stp G H m G' H' m' := by
  have nm : ∀ c, H c ≠ none → c ∉ m → c ∉ m1 := fun c e n z => e (a.fr c z n)
  have so : ∀ {c o}, H c = some o → H c ≠ none := fun e z => by rw [e] at z; cases z
  refine ⟨a.gr.trans b.gr, fun c o e n t => b.kp c o (a.kp c o e n t) (nm c (so e) n) t, fun c e n => b.th c (a.th c e n) (nm c e n), fun c hc n => ?_, fun c e1 e2 n => b.gn c (a.gn c e1 e2 n) (a.th c e2 n) (nm c e2 n)⟩
  by_cases q : H c = none
  · exact q
  · exact absurd (b.fr c hc (nm c q n)) (a.th c q n)
theorem upd_th {p : Addr} {o : HO} {b : Addr} (e : H b ≠ none) : upd H p o b ≠ none := by
  by_cases hb : b = p
  · rw [hb, upd_same]
    intro z
    cases z
  · rw [upd_ne hb]
    exact e
theorem Stp.new {p : Addr} {o : HO} (hp : H p = none) (g0 : G p = none) : Stp G H m (upd G p o) (upd H p o) m :=
  ⟨⟨fun b u e => by rw [upd_ne (ne_of_none e g0)]; exact e, [], by simp⟩, fun b u e _ _ => by rw [upd_ne (ne_of_none e hp)]; exact e, fun b e _ => upd_th e, fun a h n => absurd h n, fun b e1 e2 _ => by
    rw [upd_ne (fun z => e2 (by rw [z]; exact hp))]
    exact e1⟩

/-! ### the memory -/
theorem MemR.dead (h : MemR K G H m μ) {p : Addr} (hp : H p = none) : G p = none ∧ p ∉ m := by
  refine ⟨h.ex.free hp, fun hm => ?_⟩
  obtain ⟨i, hi⟩ := List.getElem?_of_mem hm
  obtain ⟨hl, _⟩ := List.getElem?_eq_some_iff.mp hi
  have hl' : i < μ.length := by rw [← h.len]; exact hl
  have q := h.at_ i p μ[i] hi (List.getElem?_eq_getElem hl')
  cases e : μ[i] with
  | lst xs =>
    rw [e] at q
    obtain ⟨_, vs, z, _⟩ := q
    rw [hp] at z
    cases z
  | frz xs =>
    rw [e] at q
    obtain ⟨vs, z, _⟩ := q
    rw [h.ex _ _ z] at hp
    cases hp
  | dic kvs =>
    rw [e] at q
    obtain ⟨_, _, xs, z, _⟩ := q
    rw [hp] at z
    cases z
  | fdc kvs =>
    rw [e] at q
    obtain ⟨_, xs, o, z, _⟩ := q
    rw [h.ex _ _ z] at hp
    cases hp
theorem same_upd {p : Addr} {o : HO} (h : G p = none) : Same G (upd G p o) := fun b u e => by
  rw [upd_ne (ne_of_none e h)]
  exact e
theorem same_upd2 {p : Addr} {o : HO} (e : Same G H) (h : G p = none) : Same G (upd H p o) := fun b u q => by
  rw [upd_ne (ne_of_none q h)]
  exact e b u q
theorem MO.mono {a : Addr} {o : M} (e : Same G G') (hg : mutM o = true → G' a = none) (hh : ∀ u, H a = some u → H' a = some u) (h : MO K G H a o) : MO K G' H' a o := by
  cases o with
  | lst xs =>
    obtain ⟨_, vs, h2, h3⟩ := h
    exact ⟨hg rfl, vs, hh _ h2, DqAll.mono e _ _ h3⟩
  | frz xs =>
    obtain ⟨vs, h2, h3⟩ := h
    exact ⟨vs, e _ _ h2, DqAll.mono e _ _ h3⟩
  | dic kvs =>
    obtain ⟨_, h0, xs, h2, h3, h4⟩ := h
    exact ⟨hg rfl, h0, xs, hh _ h2, h3, h4.mono e⟩
  | fdc kvs =>
    obtain ⟨h0, xs, o, h2, h3, h4⟩ := h
    exact ⟨h0, xs, o, e _ _ h2, h3, h4.mono e⟩
/-- a new object, known and standing -/
theorem MemR.push (h : MemR K G H m μ) {p : Addr} {o : HO} (hp : H p = none) : MemR K (upd G p o) (upd H p o) m μ ∧ Stp G H m (upd G p o) (upd H p o) m := by
  obtain ⟨g0, nm⟩ := h.dead hp
  refine ⟨⟨fun b u e => ?_, h.len, h.nd, fun i a t hi ht => ?_, h.tb.push hp⟩, Stp.new hp g0⟩
  · by_cases hb : b = p
    · subst hb
      rw [upd_same] at e ⊢
      exact e
    · rw [upd_ne hb] at e ⊢
      exact h.ex b u e
  · have ha : a ≠ p := fun z => nm (z ▸ List.mem_of_getElem? hi)
    have q := h.at_ i a t hi ht
    refine MO.mono (same_upd g0) (fun z => ?_) (fun u z => ?_) q
    · rw [upd_ne ha]
      exact MO.gn q z
    · rw [upd_ne ha]
      exact z
/-- a new list, to be changed -/
theorem MemR.alloc (h : MemR K G H m μ) {p : Addr} {vs : List V} {xs : List PyData} (hp : H p = none) (r : DqAll K G vs xs) : MemR K G (upd H p (.lst vs)) (m ++ [p]) (μ ++ [.lst xs]) ∧ Stp G H m G (upd H p (.lst vs)) (m ++ [p]) := by
  obtain ⟨g0, nm⟩ := h.dead hp
  refine ⟨⟨same_upd2 h.ex g0, by rw [List.length_append, List.length_append, h.len]; rfl, ?_, fun i a t hi ht => ?_, h.tb.grow hp⟩, ⟨⟨Same.refl _, [p], rfl⟩, fun b u e _ _ => by rw [upd_ne (ne_of_none e hp)]; exact e, fun b e _ => upd_th e, fun a ha n => ?_, fun _ e _ _ => e⟩⟩
  · rw [List.nodup_append]
    refine ⟨h.nd, by simp, fun a ha b hb => ?_⟩
    simp only [List.mem_singleton] at hb
    subst hb
    exact fun z => nm (z ▸ ha)
  · by_cases hl : i < m.length
    · rw [List.getElem?_append_left hl] at hi
      rw [List.getElem?_append_left (by rw [← h.len]; exact hl)] at ht
      have ha : a ≠ p := fun z => nm (z ▸ List.mem_of_getElem? hi)
      have q := h.at_ i a t hi ht
      refine MO.mono (Same.refl _) (fun z => ?_) (fun u z => ?_) q
      · exact MO.gn q z
      · rw [upd_ne ha]
        exact z
    · have e : i = m.length := by
        obtain ⟨hl2, _⟩ := List.getElem?_eq_some_iff.mp hi
        simp only [List.length_append, List.length_singleton] at hl2
        omega
      subst e
      rw [List.getElem?_append_right (Nat.le_refl _)] at hi
      rw [h.len, List.getElem?_append_right (Nat.le_refl _)] at ht
      simp only [Nat.sub_self, List.getElem?_cons_zero] at hi ht
      cases hi
      cases ht
      exact ⟨g0, vs, upd_same, r⟩
  · rcases List.mem_append.mp ha with z | z
    · exact absurd z n
    · rw [List.mem_singleton.mp z]
      exact hp
/-- a list is changed -/
theorem MemR.put (h : MemR K G H m μ) {n : Nat} {a : Addr} {vs : List V} {xs ys : List PyData} (hn : m[n]? = some a) (hx : μ[n]? = some (.lst xs)) (r : DqAll K G vs ys) : MemR K G (upd H a (.lst vs)) m (μ.set n (.lst ys)) ∧ Stp G H m G (upd H a (.lst vs)) m := by
  have q := h.at_ n a _ hn hx
  obtain ⟨g0, _⟩ := q
  refine ⟨?_, ⟨Gr.refl, fun b u e nb _ => by rw [upd_ne (fun z => nb (by rw [z]; exact List.mem_of_getElem? hn))]; exact e, fun b e _ => upd_th e, fun a h n => absurd h n, fun _ e _ _ => e⟩⟩
  refine ⟨same_upd2 h.ex g0, by rw [List.length_set]; exact h.len, h.nd, fun i b t hi ht => ?_, h.tb.put (List.mem_of_getElem? hn)⟩
  by_cases hin : n = i
  · subst hin
    rw [hn] at hi
    cases hi
    obtain ⟨hl, _⟩ := List.getElem?_eq_some_iff.mp hx
    rw [List.getElem?_set_self hl] at ht
    cases ht
    exact ⟨g0, vs, upd_same, r⟩
  · rw [List.getElem?_set_ne hin] at ht
    have hb : b ≠ a := fun z => hin (by
      subst z
      obtain ⟨h1, e1⟩ := List.getElem?_eq_some_iff.mp hn
      obtain ⟨h2, e2⟩ := List.getElem?_eq_some_iff.mp hi
      exact (List.getElem_inj h.nd).mp (e1.trans e2.symm))
    refine MO.mono (Same.refl _) (fun z => ?_) (fun u z => ?_) (h.at_ i b t hi ht)
    · exact MO.gn (h.at_ i b _ hi ht) z
    · rw [upd_ne hb]
      exact z
/-- what is read of a value -/
theorem rd_dq (h : MemR K G H m μ) {s : S} {v : V} {x : PyData} (e : rd μ s = some x) (r : RpS K G m s v) : Dq K H v x := by
  cases s with
  | d y =>
    cases e
    exact Dq.mono h.ex _ _ r
  | m n =>
    obtain ⟨a, h1, rfl⟩ := r
    unfold rd at e
    simp only at e
    cases q : μ[n]? with
    | none => rw [q] at e; cases e
    | some o =>
      rw [q] at e
      have z := h.at_ n a o h1 q
      cases o with
      | lst xs =>
        cases e
        obtain ⟨_, vs, z1, z2⟩ := z
        exact .lst z1 (DqAll.mono h.ex _ _ z2)
      | frz xs =>
        cases e
        obtain ⟨vs, z1, z2⟩ := z
        exact .lst (h.ex _ _ z1) (DqAll.mono h.ex _ _ z2)
      | dic kvs => cases e
      | fdc kvs => cases e
/-- a list or tuple that is read: where it stands, its items stand known -/
theorem rd_list (h : MemR K G H m μ) {s : S} {v : V} {xs : List PyData} (e : rd μ s = some (.list xs)) (r : RpS K G m s v) : ∃ a vs, v = .ref a ∧ H a = some (.lst vs) ∧ DqAll K G vs xs := by
  cases s with
  | d y =>
    cases e
    cases r with
    | lst h1 h2 => exact ⟨_, _, rfl, h.ex _ _ h1, h2⟩
  | m n =>
    obtain ⟨a, h1, rfl⟩ := r
    unfold rd at e
    simp only at e
    cases q : μ[n]? with
    | none => rw [q] at e; cases e
    | some o =>
      rw [q] at e
      have z := h.at_ n a o h1 q
      cases o with
      | lst xs =>
        cases e
        obtain ⟨_, vs, z1, z2⟩ := z
        exact ⟨a, vs, rfl, z1, z2⟩
      | frz xs =>
        cases e
        obtain ⟨vs, z1, z2⟩ := z
        exact ⟨a, vs, rfl, h.ex _ _ z1, z2⟩
      | dic kvs => cases e
      | fdc kvs => cases e
theorem rd_tup (h : MemR K G H m μ) {s : S} {v : V} {xs : List PyData} (e : rd μ s = some (.tuple xs)) (r : RpS K G m s v) : ∃ a vs, v = .ref a ∧ SqT K H a vs ∧ DqAll K G vs xs := by
  cases s with
  | d y =>
    cases e
    cases r with
    | tup h1 h2 => exact ⟨_, _, rfl, SqT.same h.ex h1, h2⟩
  | m n =>
    unfold rd at e
    simp only at e
    cases q : μ[n]? with
    | none => rw [q] at e; cases e
    | some o =>
      rw [q] at e
      cases o <;> cases e
theorem rd_int (h : MemR K G H m μ) {s : S} {v : V} {i : Int} (e : rd μ s = some (.int i)) (r : RpS K G m s v) : v = .int i := by
  have z := rd_dq h e r
  cases z
  rfl
theorem rd_str (h : MemR K G H m μ) {s : S} {v : V} {i : Str} (e : rd μ s = some (.str i)) (r : RpS K G m s v) : v = .str i := by
  have z := rd_dq h e r
  cases z
  rfl
theorem rd_bool (h : MemR K G H m μ) {s : S} {v : V} {i : Bool} (e : rd μ s = some (.bool i)) (r : RpS K G m s v) : v = .bl i := by
  have z := rd_dq h e r
  cases z
  rfl
theorem rd_none (h : MemR K G H m μ) {s : S} {v : V} (e : rd μ s = some .none) (r : RpS K G m s v) : v = .non := by
  have z := rd_dq h e r
  cases z
  rfl
end

/-! ### the wish of exceptions -/
variable [Wd]
structure Wish where
  on : Bool
  W : WX
  cx : Nat → Option Addr
abbrev Wish.off (w : Wish) : Wish := { w with on := false }
/-- how an exception is told -/
def ErrR (cx : Nat → Option Addr) (G : Hp) (e : Exn) (cls : Value) (d : Option Addr) : Prop := ∃ C, cx e.cls = some C ∧ cls = .ref C ∧
  match e.place with
  | none => d = none
  | some p => ∃ dd, d = some dd ∧ G dd = some (.xd [("place", .int p)])
def ErrP (K : PySem.W.Frag) (w : Wish) (G H : Hp) (m : List Addr) (e : Exn) (μ : Mem) (σ : St) : Prop :=
  w.on = true ∧ ∀ cls d G' H' m', Stp G H m G' H' m' → MemR K G' H' m' μ → ErrR w.cx G' e cls d → w.W cls d σ H'
/-- in a block of statements the slots may have changed -/
def ErrS (K : PySem.W.Frag) (w : Wish) (G H : Hp) (m : List Addr) (e : Exn) (μ : Mem) : Prop :=
  w.on = true ∧ ∀ cls d σ' G' H' m', Stp G H m G' H' m' → MemR K G' H' m' μ → ErrR w.cx G' e cls d → w.W cls d σ' H'

/-! ### what a reading does -/
inductive RpL (K : PySem.W.Frag) (G : Hp) (m : List Addr) : List S → List V → Prop
  | nil : RpL K G m [] []
  | cons {s : S} {v : V} {ss : List S} {vs : List V} : RpS K G m s v → RpL K G m ss vs → RpL K G m (s :: ss) (v :: vs)
/-- r, told to what is wanted behind it: k of the value, the later state -/
def Post (K : PySem.W.Frag) (w : Wish) (σ : St) (G H : Hp) (m : List Addr) {α : Type} (r : R α) (k : α → Hp → Hp → List Addr → Prop) : Prop := match r with
  | .ok a μ' => ∀ G' H' m', Stp G H m G' H' m' → MemR K G' H' m' μ' → k a G' H' m'
  | .err e μ' => ErrP K w G H m e μ' σ
  | .no => False
abbrev EPost (K : PySem.W.Frag) (w : Wish) (σ : St) (G H : Hp) (m : List Addr) (r : R S) (Q : VK) : Prop := Post K w σ G H m r fun s G' H' m' => ∀ v, RpS K G' m' s v → Q v H'
abbrev TPost (K : PySem.W.Frag) (w : Wish) (σ : St) (G H : Hp) (m : List Addr) (r : R Bool) (Q : Bool → Hp → Prop) : Prop := Post K w σ G H m r fun b _ H' _ => Q b H'
abbrev APost (K : PySem.W.Frag) (w : Wish) (σ : St) (G H : Hp) (m : List Addr) (r : R (List S)) (Q : List V → Hp → Prop) : Prop := Post K w σ G H m r fun s G' H' m' => ∀ vs, RpL K G' m' s vs → Q vs H'
def SimE (K : PySem.W.Frag) (w : Wish) (te : TE) (δ : DE) : Prop := ∀ ρ μ σ G H m, EnvR K G m ρ σ → MemR K G H m μ → ∀ Q, EPost K w σ G H m (δ ρ μ) Q → te σ H Q
def SimT (K : PySem.W.Frag) (w : Wish) (tt : TT) (δ : DT) : Prop := ∀ ρ μ σ G H m, EnvR K G m ρ σ → MemR K G H m μ → ∀ Q, TPost K w σ G H m (δ ρ μ) Q → tt σ H Q
def SimA (K : PySem.W.Frag) (w : Wish) (ta : TA) (δ : DA) : Prop := ∀ ρ μ σ G H m, EnvR K G m ρ σ → MemR K G H m μ → ∀ Q, APost K w σ G H m (δ ρ μ) Q → ta σ H Q
section
variable {K : PySem.W.Frag} {w : Wish} {G G' H H' : Hp} {m m' : List Addr} {μ : Mem} {σ : St} {ρ : Env}
theorem ErrP.mono {e : Exn} (g : Stp G H m G' H' m') (h : ErrP K w G H m e μ σ) : ErrP K w G' H' m' e μ σ := ⟨h.1, fun cls d G1 H1 m1 g1 => h.2 cls d G1 H1 m1 (g.trans g1)⟩
theorem ErrS.mono {e : Exn} (g : Stp G H m G' H' m') (h : ErrS K w G H m e μ) : ErrS K w G' H' m' e μ := ⟨h.1, fun cls d s1 G1 H1 m1 g1 => h.2 cls d s1 G1 H1 m1 (g.trans g1)⟩
theorem ErrS.at_ {e : Exn} (h : ErrS K w G H m e μ) : ErrP K w G H m e μ σ := ⟨h.1, fun cls d G1 H1 m1 g1 => h.2 cls d σ G1 H1 m1 g1⟩
theorem Post.mono {α : Type} {r : R α} {k : α → Hp → Hp → List Addr → Prop} (g : Stp G H m G' H' m') (h : Post K w σ G H m r k) : Post K w σ G' H' m' r k := by
  cases r with
  | ok s μ' => exact fun G1 H1 m1 g1 => h G1 H1 m1 (g.trans g1)
  | err e μ' => exact ErrP.mono g h
  | no => exact h
theorem RpL.mono (g : Gr G G' m m') : ∀ {ss : List S} {vs : List V}, RpL K G m ss vs → RpL K G' m' ss vs
  | _, _, .nil => .nil
  | _, _, .cons r t => .cons (r.mono g) (RpL.mono g t)
/-- r first, then f: what is wanted of r -/
theorem Post.of_bind {α β : Type} {r : R α} {f : α → Mem → R β} {k : β → Hp → Hp → List Addr → Prop} {k1 : α → Hp → Hp → List Addr → Prop} (q : Post K w σ G H m (r.bind f) k)
    (hk : ∀ a μ1 G1 H1 m1, r = .ok a μ1 → Stp G H m G1 H1 m1 → MemR K G1 H1 m1 μ1 → Post K w σ G1 H1 m1 (f a μ1) k → k1 a G1 H1 m1) : Post K w σ G H m r k1 := by
  cases r with
  | ok a μ1 => exact fun G1 H1 m1 g me => hk a μ1 G1 H1 m1 rfl g me (Post.mono g q)
  | err e μ1 => exact q
  | no => exact q
theorem Post.here {α : Type} {a : α} {k : α → Hp → Hp → List Addr → Prop} (q : Post K w σ G H m (.ok a μ) k) (me : MemR K G H m μ) : k a G H m := q G H m Stp.refl me
end
end Bz
set_option Elab.async false
set_option linter.all false
set_option maxRecDepth 100000
set_option maxHeartbeats 2000000
/-! The rules: a piece of syntax, its reading over the heap, and what it means over data. -/
namespace Bz
open PySem PySem.Spec PyProof.Rows L2
variable [Wd]

structure CE (X : Cx) (w : Wish) (e : Expr) (δ : DE) : Prop where
  ex : ∃ te, PE X e te ∧ SimE X.K w te δ
structure CT (X : Cx) (w : Wish) (e : Expr) (δ : DT) : Prop where
  ex : ∃ te, PT X e te ∧ SimT X.K w te δ
structure CW (X : Cx) (w : Wish) (e : Expr) (δ : DT) : Prop where
  ex : ∃ te, PW X e te ∧ SimT X.K w te δ
structure CA (X : Cx) (w : Wish) (es : List Expr) (δ : DA) : Prop where
  ex : ∃ te, PA X es te ∧ SimA X.K w te δ
/-- what every rule asks of where it stands -/
structure Ctx (A : Around) (N : List Str) (calm : Bool) : Prop where
  calm : calm = true
  hu : A.units + 100 < cLine
  nd : N.Nodup

/-! ### operations by values -/
/-- a two-place operation: f of the data -/
def OpD (K : PySem.W.Frag) (r : R2) (f : D2) : Prop := ∀ G H m μ x y v u a b z, MemR K G H m μ → rd μ x = some a → rd μ y = some b → RpS K G m x v → RpS K G m y u → f a b = some z →
  ∀ Q : VK, (∀ v' G' H', Stp G H m G' H' m → MemR K G' H' m μ → Dq K G' v' z → Q v' H') → r v u H Q
def UnD (K : PySem.W.Frag) (r : V → Hp → VK → Prop) (f : PyData → Option PyData) : Prop := ∀ G H m μ x v a z, MemR K G H m μ → rd μ x = some a → RpS K G m x v → f a = some z →
  ∀ Q : VK, (∀ v' G' H', Stp G H m G' H' m → MemR K G' H' m μ → Dq K G' v' z → Q v' H') → r v H Q
/-- a call of a built-in -/
def CbD (K : PySem.W.Frag) (r : List V → Hp → VK → Prop) (f : DF) : Prop := ∀ G H m μ xs vs as z, MemR K G H m μ → rdL μ xs = some as → RpL K G m xs vs → f as = some z →
  ∀ Q : VK, (∀ v' G' H', Stp G H m G' H' m → MemR K G' H' m μ → Dq K G' v' z → Q v' H') → r vs H Q

section
variable {K : PySem.W.Frag} {w : Wish} {G G' H H' : Hp} {m m' : List Addr} {μ μ' : Mem} {σ : St} {ρ : Env}
theorem dq_tup {p : Addr} {vs : List V} {xs : List PyData} (g0 : G p = none) (h : DqAll K G vs xs) : Dq K (upd G p (.tup vs)) (.ref p) (.tuple xs) := .tup (SqT.of upd_same) (DqAll.mono (same_upd g0) _ _ h)
theorem dq_lst {p : Addr} {vs : List V} {xs : List PyData} (g0 : G p = none) (h : DqAll K G vs xs) : Dq K (upd G p (.lst vs)) (.ref p) (.list xs) := .lst upd_same (DqAll.mono (same_upd g0) _ _ h)
theorem small_le {n : Nat} (h : small n = true) : n ≤ 1000000 := of_decide_eq_true h
theorem small_sz {n : Nat} (h : small n = true) : n ≤ sizeLine := by
  rw [sizeLine_eq]
  have := small_le h
  omega
theorem small_lt {n : Nat} (h : small n = true) : n < sizeLine := by
  rw [sizeLine_eq]
  have := small_le h
  omega
/-- a new object behind an operation -/
theorem newD (me : MemR K G H m μ) {Q : VK} {o : HO} {z : PyData} (hz : ∀ p, G p = none → Dq K (upd G p o) (.ref p) z) (q : ∀ v' G' H', Stp G H m G' H' m → MemR K G' H' m μ → Dq K G' v' z → Q v' H') :
    ∀ p, H p = none → Q (.ref p) (upd H p o) := fun p hp => q _ _ _ (me.push (o := o) hp).2 (me.push (o := o) hp).1 (hz p (me.dead hp).1)
theorem hereD (me : MemR K G H m μ) {Q : VK} {v : V} {z : PyData} (hz : Dq K G v z) (q : ∀ v' G' H', Stp G H m G' H' m → MemR K G' H' m μ → Dq K G' v' z → Q v' H') : Q v H := q _ _ _ Stp.refl me hz
end

def R2.or (r r' : R2) : R2 := fun x y H Q => r x y H Q ∨ r' x y H Q
theorem opr_or {X : Cx} {f : Value → Value → Sem Value} {r r' : R2} (h : OpR X f r) (h' : OpR X f r') : OpR X f (R2.or r r') := OpR.or h h'
def rAdd (K : PySem.W.Frag) : R2 := R2.or (rI0 fun i j => .int (i + j)) (R2.or (fun x y H Q => ∃ i j, x = .str i ∧ y = .str j ∧ i.length + j.length ≤ sizeLine ∧ Q (.str (i ++ j)) H) (R2.or (rCatA K) rCat))
theorem op_addD {X : Cx} : OpR X (binaryOp .Add) (rAdd X.K) := opr_or op_add (opr_or op_add_str (opr_or op_catA op_cat))
theorem addD {K : PySem.W.Frag} : OpD K (rAdd K) fAdd := by
  intro G H m μ x y v u a b z me ra rb rx ry hf Q q
  unfold fAdd at hf
  split at hf
  · cases hf
    exact .inl ⟨_, _, rd_int me ra rx, rd_int me rb ry, hereD me (.int _) q⟩
  · split at hf
    · rename_i hs
      cases hf
      exact .inr (.inl ⟨_, _, rd_str me ra rx, rd_str me rb ry, small_sz hs, hereD me (.str _) q⟩)
    · cases hf
  · split at hf
    · rename_i xs ys hs
      cases hf
      obtain ⟨a1, v1, rfl, s1, d1⟩ := rd_tup me ra rx
      obtain ⟨a2, v2, rfl, s2, d2⟩ := rd_tup me rb ry
      have l1 := DqAll.length d1
      have l2 := DqAll.length d2
      refine .inr (.inr (.inl ⟨a1, a2, v1, v2, rfl, rfl, s1, s2, by rw [l1, l2]; exact small_sz hs, fun e => ?_, fun _ e => ?_, fun _ _ => newD me (fun p g0 => dq_tup g0 (DqAll.append d1 d2)) q⟩))
      · subst e
        have : xs = [] := by
          cases d1
          rfl
        subst this
        rw [List.nil_append] at q
        refine hereD me ?_ q
        cases y with
        | d yy =>
          cases rb
          exact ry
        | m n =>
          exfalso
          unfold rd at rb
          simp only at rb
          split at rb <;> cases rb
      · subst e
        have : ys = [] := by
          cases d2
          rfl
        subst this
        rw [List.append_nil] at q
        refine hereD me ?_ q
        cases x with
        | d yy =>
          cases ra
          exact rx
        | m n =>
          exfalso
          unfold rd at ra
          simp only at ra
          split at ra <;> cases ra
    · cases hf
  · split at hf
    · rename_i xs ys hs
      cases hf
      obtain ⟨a1, v1, rfl, s1, d1⟩ := rd_list me ra rx
      obtain ⟨a2, v2, rfl, s2, d2⟩ := rd_list me rb ry
      have l1 := DqAll.length d1
      have l2 := DqAll.length d2
      exact .inr (.inr (.inr ⟨a1, a2, v1, v2, rfl, rfl, s1, s2, by rw [l1, l2]; exact small_sz hs, newD me (fun p g0 => dq_lst g0 (DqAll.append d1 d2)) q⟩))
    · cases hf
  · cases hf
theorem subD {K : PySem.W.Frag} : OpD K (rI0 fun i j => .int (i - j)) fSub := by
  intro G H m μ x y v u a b z me ra rb rx ry hf Q q
  unfold fSub at hf
  split at hf
  · cases hf
    exact ⟨_, _, rd_int me ra rx, rd_int me rb ry, hereD me (.int _) q⟩
  · cases hf
theorem divD {K : PySem.W.Frag} : OpD K (rI CDiv fun i j => .int (i / j)) fDiv := by
  intro G H m μ x y v u a b z me ra rb rx ry hf Q q
  unfold fDiv at hf
  split at hf
  · split at hf
    · rename_i c
      cases hf
      exact ⟨_, _, rd_int me ra rx, rd_int me rb ry, (by have c' := of_decide_eq_true c; exact c'), hereD me (.int _) q⟩
    · cases hf
  · cases hf
theorem modD {K : PySem.W.Frag} : OpD K (rI (fun _ j => 0 < j) fun i j => .int (i % j)) fMod := by
  intro G H m μ x y v u a b z me ra rb rx ry hf Q q
  unfold fMod at hf
  split at hf
  · split at hf
    · rename_i c
      cases hf
      exact ⟨_, _, rd_int me ra rx, rd_int me rb ry, of_decide_eq_true c, hereD me (.int _) q⟩
    · cases hf
  · cases hf
theorem powD {K : PySem.W.Frag} : OpD K (rI CPow fun i j => .int (i ^ j.toNat)) fPow := by
  intro G H m μ x y v u a b z me ra rb rx ry hf Q q
  unfold fPow at hf
  split at hf
  · split at hf
    · rename_i c
      cases hf
      rw [Bool.and_eq_true, decide_eq_true_iff, decide_eq_true_iff] at c
      exact ⟨_, _, rd_int me ra rx, rd_int me rb ry, ⟨c.1.1, by have := c.1.2; omega, Nat.lt_of_le_of_lt c.2 (by decide)⟩, hereD me (.int _) q⟩
    · cases hf
  · cases hf
theorem cmpD {K : PySem.W.Frag} {p : Int → Int → Bool} {f : D2} (hf : ∀ a b z, f a b = some z → ∃ i j, a = .int i ∧ b = .int j ∧ z = .bool (p i j)) : OpD K (rI0 fun i j => .bl (p i j)) f := by
  intro G H m μ x y v u a b z me ra rb rx ry h Q q
  obtain ⟨i, j, rfl, rfl, rfl⟩ := hf a b z h
  exact ⟨_, _, rd_int me ra rx, rd_int me rb ry, hereD me (.bl _) q⟩
/-- order of tuples of data -/
def rLtD (K : PySem.W.Frag) : R2 := fun x y H Q => ∃ a b, Dp K H x a ∧ Dp K H y b ∧ ordOk a b = true ∧ Q (.bl (PySem.W.dataLt a b)) H
def rGtD (K : PySem.W.Frag) : R2 := fun x y H Q => ∃ a b, Dp K H x a ∧ Dp K H y b ∧ ordOk a b = true ∧ Q (.bl (PySem.W.dataLt b a)) H
theorem ordOk_of {a b : PyData} (h : ordOk a b = true) : a.canLay0 = true ∧ b.canLay0 = true ∧ PySem.W.alike a b = true ∧ min a.depth b.depth ≤ 64 ∧ a ≠ .none := by
  unfold ordOk at h
  rw [Bool.and_eq_true, Bool.and_eq_true, Bool.and_eq_true, Bool.and_eq_true, decide_eq_true_iff] at h
  exact ⟨h.1.1.1.1, h.1.1.1.2, h.1.1.2, h.1.2, fun z => by rw [z] at h; simp at h⟩
theorem op_ltT {X : Cx} (hu : X.A.units + 64 < cLine) : OpR X (compareOp .Lt) (rLtD X.K) := by
  intro pins s σ H x y v u Q I rx ry h
  obtain ⟨a, b, ha, hb, ho, q⟩ := h
  obtain ⟨_, _, h3, h4, h5⟩ := ordOk_of ho
  obtain ⟨as, r1⟩ := Dp.reads I a x v ha rx
  obtain ⟨bs, r2⟩ := Dp.reads I b y u hb ry
  exact PySem.W.lt_data r1 r2 h3 h5 (by omega) ⟨.bl _, H, I, rfl, q⟩
theorem op_gtT {X : Cx} (hu : X.A.units + 64 < cLine) : OpR X (compareOp .Gt) (rGtD X.K) := by
  intro pins s σ H x y v u Q I rx ry h
  obtain ⟨a, b, ha, hb, ho, q⟩ := h
  obtain ⟨_, _, h3, h4, h5⟩ := ordOk_of ho
  obtain ⟨as, r1⟩ := Dp.reads I a x v ha rx
  obtain ⟨bs, r2⟩ := Dp.reads I b y u hb ry
  exact PySem.W.gt_data r1 r2 h3 h5 (by omega) ⟨.bl _, H, I, rfl, q⟩
def rLtA (K : PySem.W.Frag) : R2 := R2.or (rI0 fun i j => .bl (decide (i < j))) (rLtD K)
def rGtA (K : PySem.W.Frag) : R2 := R2.or (rI0 fun i j => .bl (decide (j < i))) (rGtD K)
theorem op_ltA {X : Cx} (hu : X.A.units + 64 < cLine) : OpR X (compareOp .Lt) (rLtA X.K) := opr_or op_lt (op_ltT hu)
theorem op_gtA {X : Cx} (hu : X.A.units + 64 < cLine) : OpR X (compareOp .Gt) (rGtA X.K) := opr_or op_gt (op_gtT hu)
theorem ltD {K : PySem.W.Frag} : OpD K (rLtA K) fLt := by
  intro G H m μ x y v u a b z me ra rb rx ry h Q q
  have gen : gLt a b = some z → rLtA K v u H Q := fun h => by
    unfold gLt at h
    split at h
    · rename_i ho
      cases h
      obtain ⟨h1, h2, _⟩ := ordOk_of ho
      exact .inr ⟨a, b, Dq.dp _ _ h1 (rd_dq me ra rx), Dq.dp _ _ h2 (rd_dq me rb ry), ho, hereD me (.bl _) q⟩
    · cases h
  unfold fLt at h
  split at h
  · cases h
    exact .inl ⟨_, _, rd_int me ra rx, rd_int me rb ry, hereD me (.bl _) q⟩
  · exact gen h
theorem leD {K : PySem.W.Frag} : OpD K (rI0 fun i j => .bl (decide (i ≤ j))) fLe := cmpD fun a b z h => by
  unfold fLe at h
  split at h
  · cases h
    exact ⟨_, _, rfl, rfl, rfl⟩
  · cases h
theorem gtD {K : PySem.W.Frag} : OpD K (rGtA K) fGt := by
  intro G H m μ x y v u a b z me ra rb rx ry h Q q
  have gen : gGt a b = some z → rGtA K v u H Q := fun h => by
    unfold gGt at h
    split at h
    · rename_i ho
      cases h
      obtain ⟨h1, h2, _⟩ := ordOk_of ho
      exact .inr ⟨a, b, Dq.dp _ _ h1 (rd_dq me ra rx), Dq.dp _ _ h2 (rd_dq me rb ry), ho, hereD me (.bl _) q⟩
    · cases h
  unfold fGt at h
  split at h
  · cases h
    exact .inl ⟨_, _, rd_int me ra rx, rd_int me rb ry, hereD me (.bl _) q⟩
  · exact gen h
theorem geD {K : PySem.W.Frag} : OpD K (rI0 fun i j => .bl (decide (j ≤ i))) fGe := cmpD fun a b z h => by
  unfold fGe at h
  split at h
  · cases h
    exact ⟨_, _, rfl, rfl, rfl⟩
  · cases h
theorem scal_of {K : PySem.W.Frag} {H : Hp} {x y : V} {a b : PyData} {c : Bool} (hx : Dq K H x a) (hy : Dq K H y b) (h : scalD a b = some c) : scal x y = true ∧ decide (x = y) = c := by
  cases hx <;> cases hy <;> first | (cases h; done) | (simp only [scalD, Option.some.injEq] at h; subst h; simp [scal])
def rEqM (K : PySem.W.Frag) : R2 := fun x y H Q => ∃ d e, Dp K H x d ∧ Dp K H y e ∧ d.canLay0 = true ∧ e.canLay0 = true ∧ min d.depth e.depth ≤ 64 ∧ Q (.bl (PyData.eqv d e)) H
def rNeM (K : PySem.W.Frag) : R2 := fun x y H Q => ∃ d e, Dp K H x d ∧ Dp K H y e ∧ d.canLay0 = true ∧ e.canLay0 = true ∧ min d.depth e.depth ≤ 64 ∧ Q (.bl (!PyData.eqv d e)) H
theorem op_eqM {X : Cx} (hu : X.A.units + 64 < cLine) : OpR X (compareOp .Eq) (rEqM X.K) := by
  intro pins s σ H x y v u Q I rx ry h
  obtain ⟨d, e, hd, he, cd, ce, hm, q⟩ := h
  obtain ⟨as, r1⟩ := Dp.reads I d x v hd rx
  obtain ⟨bs, r2⟩ := Dp.reads I e y u he ry
  exact SeqAt.compareEq_reads r1 r2 cd ce (by omega) ⟨.bl _, H, I, rfl, q⟩
theorem op_neM {X : Cx} (hu : X.A.units + 64 < cLine) : OpR X (compareOp .NotEq) (rNeM X.K) := by
  intro pins s σ H x y v u Q I rx ry h
  obtain ⟨d, e, hd, he, cd, ce, hm, q⟩ := h
  obtain ⟨as, r1⟩ := Dp.reads I d x v hd rx
  obtain ⟨bs, r2⟩ := Dp.reads I e y u he ry
  exact SeqAt.compareNe_reads r1 r2 cd ce (by omega) ⟨.bl _, H, I, rfl, q⟩
def rEqA (K : PySem.W.Frag) : R2 := R2.or rEq (rEqM K)
def rNeA (K : PySem.W.Frag) : R2 := R2.or rNe (rNeM K)
theorem op_eqA {X : Cx} (hu : X.A.units + 64 < cLine) : OpR X (compareOp .Eq) (rEqA X.K) := opr_or op_eq (op_eqM hu)
theorem op_neA {X : Cx} (hu : X.A.units + 64 < cLine) : OpR X (compareOp .NotEq) (rNeA X.K) := opr_or op_ne (op_neM hu)
theorem eqD {K : PySem.W.Frag} : OpD K (rEqA K) fEq := by
  intro G H m μ x y v u a b z me ra rb rx ry hf Q q
  unfold fEq eqD2 at hf
  cases e : scalD a b with
  | some c =>
    simp only [e, Option.map_some, Option.some.injEq] at hf
    subst hf
    obtain ⟨h1, h2⟩ := scal_of (rd_dq me ra rx) (rd_dq me rb ry) e
    exact .inl ⟨h1, by rw [h2]; exact hereD me (.bl _) q⟩
  | none =>
    simp only [e] at hf
    split at hf
    · rename_i c
      rw [Bool.and_eq_true, Bool.and_eq_true, decide_eq_true_iff] at c
      cases hf
      exact .inr ⟨a, b, Dq.dp _ _ c.1.1 (rd_dq me ra rx), Dq.dp _ _ c.1.2 (rd_dq me rb ry), c.1.1, c.1.2, c.2, hereD me (.bl _) q⟩
    · cases hf
theorem neD {K : PySem.W.Frag} : OpD K (rNeA K) fNe := by
  intro G H m μ x y v u a b z me ra rb rx ry hf Q q
  unfold fNe eqD2 at hf
  cases e : scalD a b with
  | some c =>
    simp only [e, Option.map_some, Option.some.injEq] at hf
    subst hf
    obtain ⟨h1, h2⟩ := scal_of (rd_dq me ra rx) (rd_dq me rb ry) e
    exact .inl ⟨h1, by rw [h2]; exact hereD me (.bl _) q⟩
  | none =>
    simp only [e] at hf
    split at hf
    · rename_i c
      rw [Bool.and_eq_true, Bool.and_eq_true, decide_eq_true_iff] at c
      cases hf
      exact .inr ⟨a, b, Dq.dp _ _ c.1.1 (rd_dq me ra rx), Dq.dp _ _ c.1.2 (rd_dq me rb ry), c.1.1, c.1.2, c.2, hereD me (.bl _) q⟩
    · cases hf
section
variable {K : PySem.W.Frag} {H : Hp}
theorem flat_of {v : V} {d : PyData} (h : Dq K H v d) (f : flatD d = true) : flatV v = true := by
  cases h <;> first | rfl | (simp [flatD] at f)
theorem flat_eqv {x y : V} {d e : PyData} (h1 : Dq K H x d) (h2 : Dq K H y e) (f1 : flatD d = true) (f2 : flatD e = true) : eqV x y = PyData.eqv d e := by
  cases h1 <;> cases h2 <;> first | rfl | (simp [flatD] at f1 f2; done) | (simp [eqV, PyData.eqv]; done)
theorem flat_all : ∀ {vs : List V} {ds : List PyData}, DqAll K H vs ds → ds.all flatD = true → vs.all flatV = true
  | _, _, .nil, _ => rfl
  | _, _, .cons r t, f => by
    rw [List.all_cons, Bool.and_eq_true] at f ⊢
    exact ⟨flat_of r f.1, flat_all t f.2⟩
theorem inV_of {x : V} {d : PyData} (hx : Dq K H x d) (fx : flatD d = true) : ∀ {vs : List V} {ds : List PyData}, DqAll K H vs ds → ds.all flatD = true → inV x vs = inD d ds
  | _, _, .nil, _ => rfl
  | _, _, .cons (v := v) (d := e) r t, f => by
    rw [List.all_cons, Bool.and_eq_true] at f
    have ih := inV_of hx fx t f.2
    unfold inV inD at ih ⊢
    rw [List.any_cons, List.any_cons, ih, flat_eqv r hx f.1 fx]
end
/-- x in a tuple of data -/
def rInDT (K : PySem.W.Frag) : R2 := fun x y H Q => ∃ d ds, Dp K H x d ∧ Dp K H y (.tuple ds) ∧ SeqAt.shaped d = true ∧ SeqAt.shaped (.tuple ds) = true ∧ Q (.bl (inD d ds)) H
def rNotInDT (K : PySem.W.Frag) : R2 := fun x y H Q => ∃ d ds, Dp K H x d ∧ Dp K H y (.tuple ds) ∧ SeqAt.shaped d = true ∧ SeqAt.shaped (.tuple ds) = true ∧ Q (.bl (!inD d ds)) H
theorem op_inDT {X : Cx} (hu : X.A.units + 65 < cLine) : OpR X (compareOp .In) (rInDT X.K) := by
  intro pins s σ H x y v u Q I rx ry h
  obtain ⟨d, ds, hd, he, sd, se, q⟩ := h
  obtain ⟨as, r1⟩ := Dp.reads I d x v hd rx
  obtain ⟨bs, r2⟩ := Dp.reads I (.tuple ds) y u he ry
  exact SeqAt.in_tuple_reads r2 r1 (by simpa [PyData.canLay0] using SeqAt.canLay_of_shaped se) (SeqAt.canLay_of_shaped sd) (room_in_shaped sd hu) ⟨.bl _, H, I, rfl, q⟩
theorem op_notInDT {X : Cx} (hu : X.A.units + 65 < cLine) : OpR X (compareOp .NotIn) (rNotInDT X.K) := by
  intro pins s σ H x y v u Q I rx ry h
  obtain ⟨d, ds, hd, he, sd, se, q⟩ := h
  obtain ⟨as, r1⟩ := Dp.reads I d x v hd rx
  obtain ⟨bs, r2⟩ := Dp.reads I (.tuple ds) y u he ry
  exact SeqAt.notIn_tuple_reads r2 r1 (by simpa [PyData.canLay0] using SeqAt.canLay_of_shaped se) (SeqAt.canLay_of_shaped sd) (room_in_shaped sd hu) ⟨.bl _, H, I, rfl, q⟩
def rInA (K : PySem.W.Frag) : R2 := R2.or (rIn K false) (R2.or (rInD K) (rInDT K))
def rNotInA (K : PySem.W.Frag) : R2 := R2.or (rIn K true) (R2.or (rNotInD K) (rNotInDT K))
theorem op_inA {X : Cx} (hu : X.A.units + 100 < cLine) : OpR X (compareOp .In) (rInA X.K) := opr_or op_in_seq (opr_or (op_inD (by omega)) (op_inDT (by omega)))
theorem op_notInA {X : Cx} (hu : X.A.units + 100 < cLine) : OpR X (compareOp .NotIn) (rNotInA X.K) := opr_or op_notIn_seq (opr_or (op_notInD (by omega)) (op_notInDT (by omega)))
theorem inDD {K : PySem.W.Frag} : OpD K (rInA K) fIn := by
  intro G H m μ x y v u a b z me ra rb rx ry hf Q q
  unfold fIn at hf
  split at hf
  · split at hf
    · rename_i xs c
      rw [Bool.and_eq_true] at c
      cases hf
      obtain ⟨a2, v2, rfl, s2, d2⟩ := rd_tup me rb ry
      have hx := rd_dq me ra rx
      have d2' := DqAll.mono me.ex _ _ d2
      refine .inl ⟨a2, v2, rfl, .inr s2, flat_of hx c.1, flat_all d2' c.2, ?_⟩
      rw [if_neg Bool.false_ne_true, inV_of hx c.1 d2' c.2]
      exact hereD me (.bl _) q
    · split at hf
      · rename_i xs _ c
        rw [Bool.and_eq_true] at c
        cases hf
        exact .inr (.inr ⟨a, xs, Dq.dp _ _ (SeqAt.canLay_of_shaped c.1) (rd_dq me ra rx), Dq.dp _ _ (SeqAt.canLay_of_shaped c.2) (rd_dq me rb ry), c.1, c.2, hereD me (.bl _) q⟩)
      · cases hf
  · split at hf
    · rename_i xs c
      rw [Bool.and_eq_true] at c
      cases hf
      exact .inr (.inl ⟨a, xs, Dq.dp _ _ (SeqAt.canLay_of_shaped c.1) (rd_dq me ra rx), Dq.dp _ _ (SeqAt.canLay_of_shaped c.2) (rd_dq me rb ry), c.1, c.2, hereD me (.bl _) q⟩)
    · cases hf
  · cases hf
theorem notInDD {K : PySem.W.Frag} : OpD K (rNotInA K) fNotIn := by
  intro G H m μ x y v u a b z me ra rb rx ry hf Q q
  unfold fNotIn at hf
  split at hf
  · split at hf
    · rename_i xs c
      rw [Bool.and_eq_true] at c
      cases hf
      obtain ⟨a2, v2, rfl, s2, d2⟩ := rd_tup me rb ry
      have hx := rd_dq me ra rx
      have d2' := DqAll.mono me.ex _ _ d2
      refine .inl ⟨a2, v2, rfl, .inr s2, flat_of hx c.1, flat_all d2' c.2, ?_⟩
      rw [if_pos rfl, inV_of hx c.1 d2' c.2]
      exact hereD me (.bl _) q
    · split at hf
      · rename_i xs _ c
        rw [Bool.and_eq_true] at c
        cases hf
        exact .inr (.inr ⟨a, xs, Dq.dp _ _ (SeqAt.canLay_of_shaped c.1) (rd_dq me ra rx), Dq.dp _ _ (SeqAt.canLay_of_shaped c.2) (rd_dq me rb ry), c.1, c.2, hereD me (.bl _) q⟩)
      · cases hf
  · split at hf
    · rename_i xs c
      rw [Bool.and_eq_true] at c
      cases hf
      exact .inr (.inl ⟨a, xs, Dq.dp _ _ (SeqAt.canLay_of_shaped c.1) (rd_dq me ra rx), Dq.dp _ _ (SeqAt.canLay_of_shaped c.2) (rd_dq me rb ry), c.1, c.2, hereD me (.bl _) q⟩)
    · cases hf
  · cases hf
def rIsA : R2 := R2.or (fun x y H Q => y = .non ∧ Q (.bl (decide (x = .non))) H) rIsB
theorem op_isA {X : Cx} : OpR X (compareOp .Is) rIsA := opr_or op_isN op_isBl
def rIsNotA : R2 := R2.or (fun x y H Q => y = .non ∧ Q (.bl (!decide (x = .non))) H) rNotB
theorem op_isNotA {X : Cx} : OpR X (compareOp .IsNot) rIsNotA := opr_or op_notN op_notBl
theorem isD {K : PySem.W.Frag} : OpD K rIsA fIs := by
  intro G H m μ x y v u a b z me ra rb rx ry hf Q q
  unfold fIs at hf
  split at hf
  · cases hf
    refine .inl ⟨rd_none me rb ry, ?_⟩
    have hx := rd_dq me ra rx
    have e : decide (v = V.non) = isNone a := by cases hx <;> simp [isNone]
    rw [e]
    exact hereD me (.bl _) q
  · cases hf
    exact .inr ⟨_, _, rd_bool me ra rx, rd_bool me rb ry, hereD me (.bl _) q⟩
  · cases hf
theorem isNotD {K : PySem.W.Frag} : OpD K rIsNotA fIsNot := by
  intro G H m μ x y v u a b z me ra rb rx ry hf Q q
  unfold fIsNot at hf
  split at hf
  · cases hf
    refine .inl ⟨rd_none me rb ry, ?_⟩
    have hx := rd_dq me ra rx
    have e : decide (v = V.non) = isNone a := by cases hx <;> simp [isNone]
    rw [e]
    exact hereD me (.bl _) q
  · cases hf
    exact .inr ⟨_, _, rd_bool me ra rx, rd_bool me rb ry, hereD me (.bl _) q⟩
  · cases hf

/-! ### a tuple times an int: nothing, once, more -/
theorem tuple_mul1 (l : Addr) (items : Array Value) (n : Nat) (dd : Option Addr) (sl : Array (Option Value)) (x : Int) (u : Tok) (c0 : (decide (x < -(2 ^ 63)) || decide (x ≥ 2 ^ 63)) = false) (c1 : (items.isEmpty || x == 1) = true) :
    Meets (Builtin.«tuple.__mul__» ⟨[.ref l, .int x u], []⟩) (fun _ R s => s.heap.get? l = some { cls := .type "tuple", dict := dd, data := .seq items n, slots := sl } ∧ R (.ok (.ret (Value.ref l))) s) :=
  .of_wp fun prog w A R s h => by
    obtain ⟨hp, g, d, tk, os⟩ := s
    obtain ⟨hl, h⟩ := h
    have f1 := AutoSeq1.idx_int
    have f3 : ∀ {A : Around} {E : Value → Shared → Prop} {s : Shared} {Q : Bool → Shared → Prop}, s.heap.get? l = some { cls := .type "tuple", dict := dd, data := .seq items n, slots := sl } → Q true s → wpAny (model prog w) A (Builtin.Tuple.tupleIsExact (.ref l)) Q E s := by
      intro A E s Q e q
      unfold Builtin.Tuple.tupleIsExact
      wp_walk using wpAny_loadPart' e
      try exact q
    wp_walk using wpAny_loadPart' hl
    repeat (first
      | (refine wpAny_ite_false (decide_eq_false (by rw [c0]; exact Bool.false_ne_true)) ?_; wp_walk using wpAny_loadPart' hl)
      | (refine wpAny_ite_true (decide_eq_true c1) ?_; wp_walk using wpAny_loadPart' hl, f3 hl))
    exact ⟨_, rfl, h⟩
theorem tuple_mul0 (l : Addr) (items : Array Value) (n : Nat) (dd : Option Addr) (sl : Array (Option Value)) (x : Int) (u : Tok) (c0 : (decide (x < -(2 ^ 63)) || decide (x ≥ 2 ^ 63)) = false) (c1 : (items.isEmpty || x == 1) = false) (c2 : (decide (x ≤ 0) || items.isEmpty) = true) :
    Meets (Builtin.«tuple.__mul__» ⟨[.ref l, .int x u], []⟩) (fun _ R s => s.heap.get? l = some { cls := .type "tuple", dict := dd, data := .seq items n, slots := sl } ∧
      R (.ok (.ret (Value.ref s.heap.objs.size))) { s with heap := s.heap.push { cls := Value.type "tuple", data := Data.seq #[] }, toks := s.toks }) :=
  .of_wp fun prog w A R s h => by
    obtain ⟨hp, g, d, tk, os⟩ := s
    obtain ⟨hl, h⟩ := h
    have f1 := AutoSeq1.idx_int
    wp_walk using wpAny_loadPart' hl
    repeat (first
      | (refine wpAny_ite_false (decide_eq_false (by rw [c0]; exact Bool.false_ne_true)) ?_; wp_walk using wpAny_loadPart' hl)
      | (refine wpAny_ite_false (decide_eq_false (by rw [c1]; exact Bool.false_ne_true)) ?_; wp_walk using wpAny_loadPart' hl)
      | (refine wpAny_ite_true (decide_eq_true c2) ?_; wp_walk using wpAny_loadPart' hl))
    exact ⟨_, rfl, h⟩
def rRepA (K : PySem.W.Frag) : R2 := fun x y H Q => ∃ l k xs, x = .ref l ∧ y = .int k ∧ SqT K H l xs ∧ 0 ≤ k ∧ k ≤ 1000 ∧ xs.length ≤ 1000 ∧
  (Q (.ref l) H ∨ xs = [] → False ∨ (xs = [] ∨ k = 1 → Q (.ref l) H)) ∧ ((xs = [] ∨ k = 1) → Q (.ref l) H) ∧ (¬ (xs = [] ∨ k = 1) → ∀ p, H p = none → Q (.ref p) (upd H p (.tup (List.replicate k.toNat xs).flatten)))
theorem op_repA {X : Cx} : OpR X (binaryOp .Mult) (rRepA X.K) := by
  intro pins s σ H x y v u Q I rx ry h
  obtain ⟨l, k, xs, rfl, rfl, hT, h0, h1, hz, _, qa, qb⟩ := h
  by_cases hk : 2 ≤ k ∧ xs ≠ []
  · exact op_repT pins s σ H (.ref l) (.int k) v u Q I rx ry ⟨l, k, xs, rfl, rfl, hT, hk.2, hk.1, h1, hz, qb (by rintro (e | e); exact hk.2 e; omega)⟩
  cases rx
  obtain ⟨t, rfl⟩ := ry
  obtain ⟨its, r, ⟨⟨cls, dd, data, sl⟩, ho, hc, n, hd⟩, hs⟩ := I.tuple hT
  simp only at hc hd
  subst hc hd
  have hle : its.length = xs.length := r.length.symm
  have c0 : (decide (k < -(2 ^ 63)) || decide (k ≥ 2 ^ 63)) = false := by
    rw [decide_eq_false (by omega), decide_eq_false (by omega)] <;> rfl
  by_cases hsame : xs = [] ∨ k = 1
  · have c1 : (its.toArray.isEmpty || k == 1) = true := by
      rcases hsame with e | e
      · have : its = [] := List.eq_nil_of_length_eq_zero (by rw [hle, e]; rfl)
        subst this
        rfl
      · subst e
        rw [beq_self_eq_true, Bool.or_true]
    refine wpAny_binaryOp_repeat_ref (T := "tuple") (U := "int") (by decide) ⟨_, ho, rfl⟩ (fun s' => typeIs_int s' k t) noFill_tuple_mul F.fills_int_mul F.slot_int_rmul repeat_tuple F.slot_int_index.lookup
      (call_meets F.slot_int_rmul (typeIs_int s k t) F.entry_int_rmul (F.args_int_rmul_2 _ _) (int_rmul_tuple k t l its.toArray n dd sl)
        ⟨ho, rfl, ⟨_, ho, rfl⟩, call_meets F.slot_tuple_mul ⟨_, ho, rfl⟩ F.entry_tuple_mul (F.args_tuple_mul_2 _ _) (tuple_mul1 l its.toArray n dd sl k t c0 c1) ⟨ho, ?_⟩⟩)
    exact ⟨.ref l, H, I, rfl, qa hsame⟩
  · have hk0 : k = 0 := by
      have : k ≠ 1 := fun e => hsame (.inr e)
      have : ¬ (2 ≤ k) := fun e => hk ⟨e, fun z => hsame (.inl z)⟩
      omega
    have hi : its.toArray.isEmpty = false := by
      cases its with
      | nil => exact absurd (List.eq_nil_of_length_eq_zero (by rw [← hle]; rfl)) (fun z => hsame (.inl z))
      | cons a b => rfl
    have c1 : (its.toArray.isEmpty || k == 1) = false := by
      rw [hi, hk0]
      rfl
    have c2 : (decide (k ≤ 0) || its.toArray.isEmpty) = true := by
      rw [hk0]
      rfl
    refine wpAny_binaryOp_repeat_ref (T := "tuple") (U := "int") (by decide) ⟨_, ho, rfl⟩ (fun s' => typeIs_int s' k t) noFill_tuple_mul F.fills_int_mul F.slot_int_rmul repeat_tuple F.slot_int_index.lookup
      (call_meets F.slot_int_rmul (typeIs_int s k t) F.entry_int_rmul (F.args_int_rmul_2 _ _) (int_rmul_tuple k t l its.toArray n dd sl)
        ⟨ho, rfl, ⟨_, ho, rfl⟩, call_meets F.slot_tuple_mul ⟨_, ho, rfl⟩ F.entry_tuple_mul (F.args_tuple_mul_2 _ _) (tuple_mul0 l its.toArray n dd sl k t c0 c1 c2) ⟨ho, ?_⟩⟩)
    have e : (List.replicate k.toNat xs).flatten = [] := by
      rw [hk0]
      rfl
    have q := qb hsame
    rw [e] at q
    refine ⟨.ref s.heap.objs.size, _, I.laid (t' := s.toks) (o := .tup []) (fun b ob q => Heap.get?_push_of_some _ q) (Nat.le_refl _) ?_, rfl, q _ (I.hok.fresh (Nat.le_refl _))⟩
    exact ⟨Nat.zero_le _, [], .nil, IsTup.new _ _⟩
def rMulA (K : PySem.W.Frag) : R2 := R2.or (rI CMul fun i j => .int (i * j)) (R2.or (rRepA K) rRep)
theorem op_mulA {X : Cx} : OpR X (binaryOp .Mult) (rMulA X.K) := opr_or op_mul (opr_or op_repA op_rep)
theorem rd_tupS {K : PySem.W.Frag} {G : Hp} {m : List Addr} {μ : Mem} {s : S} {v : V} {xs : List PyData} (e : rd μ s = some (.tuple xs)) (r : RpS K G m s v) : Dq K G v (.tuple xs) := by
  cases s with
  | d y =>
    cases e
    exact r
  | m n =>
    exfalso
    unfold rd at e
    simp only at e
    split at e <;> cases e
theorem flat_rep1 {α : Type} (xs : List α) : (List.replicate (1 : Int).toNat xs).flatten = xs := by simp
theorem flat_repNil {α : Type} : ∀ k : Nat, (List.replicate k ([] : List α)).flatten = []
  | 0 => rfl
  | k + 1 => by
    rw [List.replicate_succ, List.flatten_cons, flat_repNil k]
    rfl
theorem mulD {K : PySem.W.Frag} : OpD K (rMulA K) fMul := by
  intro G H m μ x y v u a b z me ra rb rx ry hf Q q
  unfold fMul at hf
  split at hf
  · split at hf
    · rename_i c
      cases hf
      refine .inl ⟨_, _, rd_int me ra rx, rd_int me rb ry, ?_, hereD me (.int _) q⟩
      rw [Bool.or_eq_true, decide_eq_true_iff, decide_eq_true_iff] at c
      exact c
    · cases hf
  · split at hf
    · rename_i xs k c
      cases hf
      rw [Bool.and_eq_true, decide_eq_true_iff, decide_eq_true_iff] at c
      obtain ⟨a1, v1, e1, s1, d1⟩ := rd_tup me ra rx
      have hx := rd_tupS ra rx
      have l1 := DqAll.length d1
      subst e1
      have same : (v1 = [] ∨ k = 1) → Q (.ref a1) H := by
        rintro (e | e)
        · subst e
          have : xs = [] := by
            cases d1
            rfl
          subst this
          rw [flat_repNil] at q
          exact hereD me hx q
        · subst e
          rw [flat_rep1] at q
          exact hereD me hx q
      exact .inr (.inl ⟨a1, k, v1, rfl, rd_int me rb ry, s1, c.1.1, c.1.2, by rw [l1]; exact c.2, fun _ => .inr same, same, fun _ => newD me (fun p g0 => dq_tup g0 (DqAll.rep d1 _)) q⟩)
    · cases hf
  · split at hf
    · rename_i xs k c
      cases hf
      rw [Bool.and_eq_true, decide_eq_true_iff, decide_eq_true_iff] at c
      obtain ⟨a1, v1, rfl, s1, d1⟩ := rd_list me ra rx
      have l1 := DqAll.length d1
      refine .inr (.inr ⟨a1, k, v1, rfl, rd_int me rb ry, s1, by have := c.1.1; omega, by have := c.1.2; omega, ?_, newD me (fun p g0 => dq_lst g0 (DqAll.rep d1 _)) q⟩)
      rw [l1, sizeLine_eq]
      have a1 : xs.length * k.toNat ≤ 1000 * 1000 := Nat.mul_le_mul c.2 (by have := c.1.2; omega)
      omega
    · cases hf
  · cases hf

/-! ### subscripts, slices -/
theorem atI_map {α β : Type} {f : α → β} {xs : List α} {i : Int} {y : β} (h : atI (xs.map f) i = some y) : ∃ x, atI xs i = some x ∧ f x = y := by
  unfold atI at h ⊢
  rw [List.length_map] at h
  cases e : ixN xs.length i with
  | none => rw [e] at h; cases h
  | some j =>
    rw [e] at h
    simp only [Option.bind_some, List.getElem?_map] at h ⊢
    cases q : xs[j]? with
    | none => rw [q] at h; cases h
    | some x =>
      rw [q] at h
      exact ⟨x, rfl, by simpa using h⟩
theorem DqAll.atI {K : PySem.W.Frag} {H : Hp} {vs : List V} {ds : List PyData} {i : Int} {d : PyData} (h : DqAll K H vs ds) (e : atI ds i = some d) : ∃ v, L2.atI vs i = some v ∧ Dq K H v d := by
  unfold L2.atI at e ⊢
  rw [DqAll.length h]
  cases q : ixN ds.length i with
  | none => rw [q] at e; cases e
  | some j =>
    rw [q] at e
    exact DqAll.get h e
theorem no_none {K : PySem.W.Frag} {H : Hp} {kvs : List (Key × V)} {d : PyData} {ds : List (PyData × PyData)} (h : DqKv K H kvs ((.none, d) :: ds)) : False := by
  generalize e : ((PyData.none, d) :: ds) = z at h
  cases h with
  | nil => cases e
  | cons h1 h2 =>
    rename_i k _ _ _ _
    injection e with e1 _
    injection e1 with e2 _
    cases k <;> cases e2
theorem ixD {K : PySem.W.Frag} : OpD K (rIx K) fIx := by
  intro G H m μ x y v u a b z me ra rb rx ry hf Q q
  unfold fIx at hf
  split at hf
  · obtain ⟨a1, v1, rfl, s1, d1⟩ := rd_list me ra rx
    obtain ⟨w1, e1, e2⟩ := DqAll.atI d1 hf
    exact .inl ⟨a1, v1, _, w1, rfl, rd_int me rb ry, SqL.of s1, e1, hereD me e2 q⟩
  · obtain ⟨a1, v1, rfl, s1, d1⟩ := rd_tup me ra rx
    obtain ⟨w1, e1, e2⟩ := DqAll.atI d1 hf
    exact .inr (.inl ⟨a1, v1, _, w1, rfl, rd_int me rb ry, s1, e1, hereD me e2 q⟩)
  · have hx := rd_dq me ra rx
    cases hx with
    | scr h1 =>
      rename_i i ad xs
      obtain ⟨n, e1, e2⟩ := atI_map hf
      subst e2
      refine .inl ⟨ad, _, _, .int n, rfl, rd_int me rb ry, h1, ?_, hereD me (.int _) q⟩
      unfold atI at e1 ⊢
      rw [List.length_map]
      cases p : ixN xs.length i with
      | none => rw [p] at e1; cases e1
      | some j =>
        rw [p] at e1
        simp only [Option.bind_some] at e1 ⊢
        rw [List.getElem?_map, e1]
        rfl
    | dct h1 h2 => exact (no_none h2).elim
  · split at hf
    · rename_i z0 i hs
      cases e : atI z0.cps.toList i with
      | none => rw [e] at hf; cases hf
      | some c =>
        rw [e] at hf
        cases hf
        exact .inr (.inr ⟨_, _, c, rd_str me ra rx, rd_int me rb ry, small_sz hs, e, hereD me (.str _) q⟩)
    · cases hf
  · cases hf
def Sl.or (r r' : V → Option Int → Option Int → Hp → VK → Prop) : V → Option Int → Option Int → Hp → VK → Prop := fun x lo hi H Q => r x lo hi H Q ∨ r' x lo hi H Q
def rSlD (K : PySem.W.Frag) : V → Option Int → Option Int → Hp → VK → Prop := Sl.or (rSlL K) (Sl.or (rSlA K) rSlS)
theorem sl_any {X : Cx} : SlR X (rSlD X.K) := SlR.or sl_list (SlR.or sl_tupA sl_str)
theorem cut_all {K : PySem.W.Frag} {H : Hp} {vs : List V} {ds : List PyData} (h : DqAll K H vs ds) (lo hi : Option Int) : DqAll K H (cutV vs lo hi) (cutD ds lo hi) := by
  unfold cutV cutD
  rw [DqAll.length h]
  exact DqAll.take _ (DqAll.drop _ h)
theorem cut_whole {xs : List PyData} {lo hi : Option Int} (h : HT.sIx xs.length 0 lo = 0 ∧ HT.sIx xs.length xs.length hi = xs.length) : cutD xs lo hi = xs := by
  unfold cutD
  rw [h.1, h.2, List.drop_zero, Nat.sub_zero, List.take_length]
theorem slD {K : PySem.W.Frag} {G H : Hp} {m : List Addr} {μ : Mem} {x : S} {v : V} {lo hi : Option Int} {a z : PyData} (me : MemR K G H m μ) (ra : rd μ x = some a) (rx : RpS K G m x v) (hf : fSl lo hi a = some z)
    (Q : VK) (q : ∀ v' G' H', Stp G H m G' H' m → MemR K G' H' m μ → Dq K G' v' z → Q v' H') : rSlD K v lo hi H Q := by
  unfold fSl at hf
  split at hf
  · cases hf
    obtain ⟨a1, v1, rfl, s1, d1⟩ := rd_list me ra rx
    exact .inl ⟨a1, v1, rfl, SqL.of s1, newD me (fun p g0 => dq_lst g0 (cut_all d1 lo hi)) q⟩
  · cases hf
    obtain ⟨a1, v1, e1, s1, d1⟩ := rd_tup me ra rx
    have hx := rd_tupS ra rx
    subst e1
    have l1 := DqAll.length d1
    refine .inr (.inl ⟨a1, v1, rfl, s1, fun h => ?_, fun h => newD me (fun p g0 => dq_tup g0 (cut_all d1 lo hi)) q⟩)
    rw [l1] at h
    rw [cut_whole h] at q
    exact hereD me hx q
  · split at hf
    · rename_i hs
      cases hf
      exact .inr (.inr ⟨_, rd_str me ra rx, small_sz hs, hereD me (.str _) q⟩)
    · cases hf
  · cases hf

/-! ### calls of built-ins -/
theorem RpL.one {K : PySem.W.Frag} {G : Hp} {m : List Addr} {μ : Mem} {xs : List S} {vs : List V} {a : PyData} (h : rdL μ xs = some [a]) (r : RpL K G m xs vs) : ∃ s v, xs = [s] ∧ vs = [v] ∧ rd μ s = some a ∧ RpS K G m s v := by
  cases r with
  | nil => cases h
  | cons r0 rt =>
    rename_i s v ss ws
    unfold rdL at h
    cases e : rd μ s with
    | none => rw [e] at h; cases h
    | some x =>
      rw [e] at h
      cases e2 : rdL μ ss with
      | none => rw [e2] at h; cases h
      | some ys =>
        rw [e2] at h
        cases h
        cases rt with
        | nil => exact ⟨s, v, rfl, rfl, e, r0⟩
        | cons r1 r2 =>
          unfold rdL at e2
          split at e2 <;> cases e2
def Cb.or (r r' : List V → Hp → VK → Prop) : List V → Hp → VK → Prop := fun x H Q => r x H Q ∨ r' x H Q
def rLenD (K : PySem.W.Frag) : List V → Hp → VK → Prop := fun xs H Q => ∃ x n, xs = [x] ∧ LenV K x H n ∧ Q (.int n) H
theorem lenD {K : PySem.W.Frag} : CbD K (rLenD K) bLen := by
  intro G H m μ xs vs as z me ra rx hf Q q
  unfold bLen at hf
  split at hf
  · cases hf
    obtain ⟨s, v, rfl, rfl, h1, h2⟩ := RpL.one ra rx
    obtain ⟨a1, v1, rfl, s1, d1⟩ := rd_list me h1 h2
    exact ⟨_, _, rfl, .inl ⟨_, SqL.of s1, (DqAll.length d1).symm⟩, hereD me (.int _) q⟩
  · cases hf
    obtain ⟨s, v, rfl, rfl, h1, h2⟩ := RpL.one ra rx
    obtain ⟨a1, v1, rfl, s1, d1⟩ := rd_tup me h1 h2
    exact ⟨_, _, rfl, .inr ⟨_, s1, (DqAll.length d1).symm⟩, hereD me (.int _) q⟩
  · cases hf
    obtain ⟨s, v, rfl, rfl, h1, h2⟩ := RpL.one ra rx
    have hx := rd_dq me h1 h2
    cases hx with
    | scr h3 => exact ⟨_, _, rfl, .inl ⟨_, h3, by rw [List.length_map, List.length_map]⟩, hereD me (.int _) q⟩
    | dct h3 h4 => exact (no_none h4).elim
  · split at hf
    · rename_i hs
      cases hf
      obtain ⟨s, v, rfl, rfl, h1, h2⟩ := RpL.one ra rx
      rw [rd_str me h1 h2]
      exact ⟨_, _, rfl, ⟨small_sz hs, rfl⟩, hereD me (.int _) q⟩
    · cases hf
  · cases hf
def rTupD (K : PySem.W.Frag) : List V → Hp → VK → Prop := fun xs H Q => ∃ p ys, xs = [.ref p] ∧ ((SqL K H p ys ∧ ∀ l, H l = none → Q (.ref l) (upd H l (.tup ys))) ∨ (SqT K H p ys ∧ Q (.ref p) H))
theorem tupD {K : PySem.W.Frag} : CbD K (rTupD K) bTup := by
  intro G H m μ xs vs as z me ra rx hf Q q
  unfold bTup at hf
  split at hf
  · cases hf
    obtain ⟨s, v, rfl, rfl, h1, h2⟩ := RpL.one ra rx
    obtain ⟨a1, v1, rfl, s1, d1⟩ := rd_list me h1 h2
    exact ⟨_, _, rfl, .inl ⟨SqL.of s1, newD me (fun p g0 => dq_tup g0 d1) q⟩⟩
  · cases hf
    obtain ⟨s, v, rfl, rfl, h1, h2⟩ := RpL.one ra rx
    obtain ⟨a1, v1, e1, s1, d1⟩ := rd_tup me h1 h2
    have hx := rd_tupS h1 h2
    subst e1
    exact ⟨_, _, rfl, .inr ⟨s1, hereD me hx q⟩⟩
  · cases hf
def rLstD (K : PySem.W.Frag) : List V → Hp → VK → Prop := fun xs H Q => ∃ p ys, xs = [.ref p] ∧ (SqL K H p ys ∨ SqT K H p ys) ∧ ∀ l, H l = none → Q (.ref l) (upd H l (.lst ys))
theorem lstD {K : PySem.W.Frag} : CbD K (rLstD K) bLst := by
  intro G H m μ xs vs as z me ra rx hf Q q
  unfold bLst at hf
  split at hf
  · cases hf
    obtain ⟨s, v, rfl, rfl, h1, h2⟩ := RpL.one ra rx
    obtain ⟨a1, v1, rfl, s1, d1⟩ := rd_list me h1 h2
    exact ⟨_, _, rfl, .inl (SqL.of s1), newD me (fun p g0 => dq_lst g0 d1) q⟩
  · cases hf
    obtain ⟨s, v, rfl, rfl, h1, h2⟩ := RpL.one ra rx
    obtain ⟨a1, v1, rfl, s1, d1⟩ := rd_tup me h1 h2
    exact ⟨_, _, rfl, .inr s1, newD me (fun p g0 => dq_lst g0 d1) q⟩
  · cases hf
def rIntD : List V → Hp → VK → Prop := fun xs H Q => (∃ i, xs = [.int i] ∧ Q (.int i) H) ∨ ∃ k, xs = [.bl k] ∧ Q (.int (if k then 1 else 0)) H
theorem intD {K : PySem.W.Frag} : CbD K rIntD bInt := by
  intro G H m μ xs vs as z me ra rx hf Q q
  unfold bInt at hf
  split at hf
  · cases hf
    obtain ⟨s, v, rfl, rfl, h1, h2⟩ := RpL.one ra rx
    rw [rd_int me h1 h2]
    exact .inl ⟨_, rfl, hereD me (.int _) q⟩
  · cases hf
    obtain ⟨s, v, rfl, rfl, h1, h2⟩ := RpL.one ra rx
    rw [rd_bool me h1 h2]
    exact .inr ⟨_, rfl, hereD me (.int _) q⟩
  · cases hf
def rAbsD : List V → Hp → VK → Prop := fun xs H Q => ∃ i, xs = [.int i] ∧ Q (.int (if i < 0 then -i else i)) H
theorem absD {K : PySem.W.Frag} : CbD K rAbsD bAbs := by
  intro G H m μ xs vs as z me ra rx hf Q q
  unfold bAbs at hf
  split at hf
  · cases hf
    obtain ⟨s, v, rfl, rfl, h1, h2⟩ := RpL.one ra rx
    rw [rd_int me h1 h2]
    exact ⟨_, rfl, hereD me (.int _) q⟩
  · cases hf
end Bz
set_option Elab.async false
set_option linter.all false
set_option maxRecDepth 100000
set_option maxHeartbeats 2000000
/-! Rules of expressions. -/
namespace Bz
open PySem PySem.Spec PyProof.Rows L2
variable [Wd]

section
variable {X : Cx} {w : Wish} {e a b c : Expr} {es : List Expr} {δ δa δb δc : DE} {δs : DA} {τ τ' : DT} {pos : Pos}

theorem ce_var (i : Nat) {x : Str} {pos : Pos} (hN : X.N[i]? = some x := by rfl) (hv : Vis X.env.scope x := by first | exact Or.inl rfl | exact Or.inr (Or.inl rfl) | exact Or.inr (Or.inr rfl)) (hd : (x == ("__debug__" : Str)) = false := by decide)
    (hcd : (x == ("__classdict__" : Str)) = false := by decide) : CE X w (.Name x pos) (eVar i) := by
  refine ⟨_, pe_var hN hv hd hcd, fun ρ μ σ G H m en me Q q => ?_⟩
  unfold eVar at q
  split at q
  · rename_i s e
    obtain ⟨v, h1, h2⟩ := en.2 i s e
    exact ⟨v, h1, q G H m Stp.refl me v h2⟩
  · exact q.elim
theorem ce_const {d : PyData} {v : V} {e : Expr} (h : PE X e (tC v)) (hd : ∀ G, Dq X.K G v d) : CE X w e (eC d) := by
  refine ⟨_, h, fun ρ μ σ G H m en me Q q => ?_⟩
  exact q G H m Stp.refl me v (hd G)
theorem ce_int {i j pos} : CE X w (.Constant (.int i) j pos) (eC (.int i)) := ce_const pe_int fun _ => .int _
theorem ce_bl {i j pos} : CE X w (.Constant (.bool i) j pos) (eC (.bool i)) := ce_const pe_bl fun _ => .bl _
theorem ce_str {i j pos} : CE X w (.Constant (.str i) j pos) (eC (.str i)) := ce_const pe_str fun _ => .str _
theorem ce_non {j pos} : CE X w (.Constant .none j pos) (eC .none) := ce_const pe_non fun _ => .non
/-- a module's constant -/
theorem ce_glob {x : Str} {v : V} {u : Value} {pos : Pos} {d : PyData} (h : X.mg x = some u ∧ RelV v u ∧ ∀ G, Dq X.K G v d) (hg : Gl X x := by rfl) (hd : (x == ("__debug__" : Str)) = false := by decide) : CE X w (.Name x pos) (eC d) :=
  ce_const (pe_glob hg h.1 h.2.1 hd) h.2.2

/-- behind two values -/
theorem fin2 {K : PySem.W.Frag} {w : Wish} {σ : St} {G H : Hp} {m : List Addr} {μ : Mem} {o : Option PyData} {Q : VK} (q : EPost K w σ G H m (R.of o μ) Q) : ∃ z, o = some z ∧ ∀ v' G' H', Stp G H m G' H' m → MemR K G' H' m μ → Dq K G' v' z → Q v' H' := by
  cases o with
  | none => exact q.elim
  | some z => exact ⟨z, rfl, fun v' G' H' st me r => q G' H' m st me v' r⟩
theorem sim_op {K : PySem.W.Frag} {ta tb : TE} {r : R2} {f : D2} (hr : OpD K r f) (ha : SimE K w ta δa) (hb : SimE K w tb δb) : SimE K w (tOp r ta tb) (eOp f δa δb) := by
  intro ρ μ σ G H m en me Q q
  refine ha ρ μ σ G H m en me _ (Post.of_bind q fun x μ1 G1 H1 m1 _ st1 me1 q1 v rv => ?_)
  refine hb ρ μ1 σ G1 H1 m1 (en.mono st1.gr) me1 _ (Post.of_bind q1 fun y μ2 G2 H2 m2 _ st2 me2 q2 u ru => ?_)
  cases e1 : rd μ2 x with
  | none =>
    simp only [e1] at q2
    exact q2.elim
  | some u1 =>
    cases e2 : rd μ2 y with
    | none =>
      simp only [e1, e2] at q2
      exact q2.elim
    | some u2 =>
      simp only [e1, e2] at q2
      obtain ⟨z, hz, k⟩ := fin2 q2
      exact hr G2 H2 m2 μ2 x y v u u1 u2 z me2 e1 e2 (rv.mono st2.gr) ru hz Q k
theorem ce_op {op : Operator} {r : R2} {f : D2} (ho : OpR X (binaryOp op) r) (hr : OpD X.K r f) (ha : CE X w a δa) (hb : CE X w b δb) : CE X w (.BinOp a op b pos) (eOp f δa δb) := by
  obtain ⟨ta, p1, s1⟩ := ha
  obtain ⟨tb, p2, s2⟩ := hb
  exact ⟨_, pe_op ho p1 p2, sim_op hr s1 s2⟩
theorem ce_cmp {op : CmpOp} {r : R2} {f : D2} (ho : OpR X (compareOp op) r) (hr : OpD X.K r f) (ha : CE X w a δa) (hb : CE X w b δb) (hm : behindInMarks op b = false) : CE X w (.Compare a [op] [b] pos) (eOp f δa δb) := by
  obtain ⟨ta, p1, s1⟩ := ha
  obtain ⟨tb, p2, s2⟩ := hb
  exact ⟨_, pe_cmpR ho p1 p2 hm, sim_op hr s1 s2⟩
theorem sim_test {K : PySem.W.Frag} {ta : TE} (ha : SimE K w ta δa) : SimT K w (tTest ta) (bVal δa) := by
  intro ρ μ σ G H m en me Q q
  refine ha ρ μ σ G H m en me _ (Post.of_bind q fun x μ1 G1 H1 m1 _ st1 me1 q1 v rv => ?_)
  split at q1
  · cases rv
    exact ⟨_, rfl, q1 G1 H1 m1 Stp.refl me1⟩
  · exact q1.elim
theorem ct_cmp {op : CmpOp} {r : R2} {f : D2} (ho : OpR X (compareOp op) r) (hr : OpD X.K r f) (ha : CE X w a δa) (hb : CE X w b δb) (hm : behindInMarks op b = false) : CT X w (.Compare a [op] [b] pos) (bVal (eOp f δa δb)) := by
  obtain ⟨ta, p1, s1⟩ := ha
  obtain ⟨tb, p2, s2⟩ := hb
  exact ⟨_, pt_cmpR ho p1 p2 hm, sim_test (sim_op hr s1 s2)⟩
/-- an expression that gives True or False -/
theorem ct_val (h : CE X w e δ) (he : ∀ whole, isTrue e X.env whole = (do let v ← whole; standAt e.pos; holding [v] (truthy v)) := by intro _; rfl) : CT X w e (bVal δ) := by
  obtain ⟨ta, p1, s1⟩ := h
  exact ⟨_, pt_val p1 he, sim_test s1⟩
theorem ct_not (h : CT X w e τ) : CT X w (.UnaryOp .Not e pos) (bNot τ) := by
  obtain ⟨ta, p1, s1⟩ := h
  refine ⟨_, pt_not p1, fun ρ μ σ G H m en me Q q => ?_⟩
  exact s1 ρ μ σ G H m en me _ (Post.of_bind q fun x μ1 G1 H1 m1 _ st1 me1 q1 => q1 G1 H1 m1 Stp.refl me1)
theorem sim_and {K : PySem.W.Frag} {t u : TT} (h1 : SimT K w t τ) (h2 : SimT K w u τ') : SimT K w (L2.tAnd t u) (bAnd τ τ') := by
  intro ρ μ σ G H m en me Q q
  refine h1 ρ μ σ G H m en me _ (Post.of_bind q fun x μ1 G1 H1 m1 _ st1 me1 q1 => ?_)
  cases x with
  | true => exact h2 ρ μ1 σ G1 H1 m1 (en.mono st1.gr) me1 _ q1
  | false => exact q1 G1 H1 m1 Stp.refl me1
theorem sim_or {K : PySem.W.Frag} {t u : TT} (h1 : SimT K w t τ) (h2 : SimT K w u τ') : SimT K w (L2.tOr t u) (bOr τ τ') := by
  intro ρ μ σ G H m en me Q q
  refine h1 ρ μ σ G H m en me _ (Post.of_bind q fun x μ1 G1 H1 m1 _ st1 me1 q1 => ?_)
  cases x with
  | false => exact h2 ρ μ1 σ G1 H1 m1 (en.mono st1.gr) me1 _ q1
  | true => exact q1 G1 H1 m1 Stp.refl me1
theorem cw_and1 (h : CT X w a τ) : CW X w (.BoolOp .And [a] pos) τ := by
  obtain ⟨t, p1, s1⟩ := h
  exact ⟨_, pw_and1 p1, s1⟩
theorem cw_or1 (h : CT X w a τ) : CW X w (.BoolOp .Or [a] pos) τ := by
  obtain ⟨t, p1, s1⟩ := h
  exact ⟨_, pw_or1 p1, s1⟩
theorem cw_and (h : CT X w a τ) (h2 : CW X w (.BoolOp .And (b :: es) pos) τ') : CW X w (.BoolOp .And (a :: b :: es) pos) (bAnd τ τ') := by
  obtain ⟨t, p1, s1⟩ := h
  obtain ⟨u, p2, s2⟩ := h2
  exact ⟨_, pw_and p1 p2, sim_and s1 s2⟩
theorem cw_or (h : CT X w a τ) (h2 : CW X w (.BoolOp .Or (b :: es) pos) τ') : CW X w (.BoolOp .Or (a :: b :: es) pos) (bOr τ τ') := by
  obtain ⟨t, p1, s1⟩ := h
  obtain ⟨u, p2, s2⟩ := h2
  exact ⟨_, pw_or p1 p2, sim_or s1 s2⟩
theorem ct_w (h : CW X w e τ) : CT X w e τ := by
  obtain ⟨t, p1, s1⟩ := h
  exact ⟨_, p1.pt, s1⟩
/-! as values -/
theorem ce_one {op} (h : CE X w a δ) : CE X w (.BoolOp op [a] pos) δ := by
  obtain ⟨t, p1, s1⟩ := h
  exact ⟨_, pe_one p1, s1⟩
theorem ce_and (ha : CE X w a δa) (hb : CE X w (.BoolOp .And (b :: es) pos) δb) : CE X w (.BoolOp .And (a :: b :: es) pos) (eAnd δa δb) := by
  obtain ⟨ta, p1, s1⟩ := ha
  obtain ⟨tb, p2, s2⟩ := hb
  refine ⟨_, pe_and p1 p2, fun ρ μ σ G H m en me Q q => ?_⟩
  refine s1 ρ μ σ G H m en me _ (Post.of_bind q fun x μ1 G1 H1 m1 _ st1 me1 q1 v rv => ?_)
  split at q1
  · rename_i c _
    cases rv
    refine ⟨c, rfl, ?_⟩
    cases c with
    | true =>
      rw [if_pos rfl] at q1 ⊢
      exact s2 ρ μ1 σ G1 H1 m1 (en.mono st1.gr) me1 _ q1
    | false =>
      rw [if_neg Bool.false_ne_true] at q1 ⊢
      exact q1 G1 H1 m1 Stp.refl me1 _ (.bl _)
  · exact q1.elim
theorem ce_or (ha : CE X w a δa) (hb : CE X w (.BoolOp .Or (b :: es) pos) δb) : CE X w (.BoolOp .Or (a :: b :: es) pos) (eOr δa δb) := by
  obtain ⟨ta, p1, s1⟩ := ha
  obtain ⟨tb, p2, s2⟩ := hb
  refine ⟨_, pe_or p1 p2, fun ρ μ σ G H m en me Q q => ?_⟩
  refine s1 ρ μ σ G H m en me _ (Post.of_bind q fun x μ1 G1 H1 m1 _ st1 me1 q1 v rv => ?_)
  split at q1
  · rename_i c _
    cases rv
    refine ⟨c, rfl, ?_⟩
    cases c with
    | false =>
      rw [if_neg Bool.false_ne_true] at q1 ⊢
      exact s2 ρ μ1 σ G1 H1 m1 (en.mono st1.gr) me1 _ q1
    | true =>
      rw [if_pos rfl] at q1 ⊢
      exact q1 G1 H1 m1 Stp.refl me1 _ (.bl _)
  · exact q1.elim
theorem ce_not (ha : CE X w a δa) : CE X w (.UnaryOp .Not a pos) (eNot δa) := by
  obtain ⟨ta, p1, s1⟩ := ha
  refine ⟨_, pe_not p1, fun ρ μ σ G H m en me Q q => ?_⟩
  refine s1 ρ μ σ G H m en me _ (Post.of_bind q fun x μ1 G1 H1 m1 _ st1 me1 q1 v rv => ?_)
  split at q1
  · cases rv
    exact ⟨_, rfl, q1 G1 H1 m1 Stp.refl me1 _ (.bl _)⟩
  · exact q1.elim
theorem ce_if (hc : CT X w c τ) (ha : CE X w a δa) (hb : CE X w b δb) : CE X w (.IfExp c a b pos) (eIf τ δa δb) := by
  obtain ⟨tc, p0, s0⟩ := hc
  obtain ⟨ta, p1, s1⟩ := ha
  obtain ⟨tb, p2, s2⟩ := hb
  refine ⟨_, pe_ifExp p0 p1 p2, fun ρ μ σ G H m en me Q q => ?_⟩
  refine s0 ρ μ σ G H m en me _ (Post.of_bind q fun x μ1 G1 H1 m1 _ st1 me1 q1 => ?_)
  cases x with
  | true => exact s1 ρ μ1 σ G1 H1 m1 (en.mono st1.gr) me1 _ q1
  | false => exact s2 ρ μ1 σ G1 H1 m1 (en.mono st1.gr) me1 _ q1
/-- a op1 b op2 c -/
theorem sim_chain {K : PySem.W.Frag} {ta tb tc : TE} {r r' : R2} {f g : D2} (hr : OpD K r f) (hr' : OpD K r' g) (ha : SimE K w ta δa) (hb : SimE K w tb δb) (hc : SimE K w tc δc) : SimE K w (tChain r r' ta tb tc) (eChain f g δa δb δc) := by
  intro ρ μ σ G H m en me Q q
  refine ha ρ μ σ G H m en me _ (Post.of_bind q fun x μ1 G1 H1 m1 _ st1 me1 q1 v rv => ?_)
  refine hb ρ μ1 σ G1 H1 m1 (en.mono st1.gr) me1 _ (Post.of_bind q1 fun y μ2 G2 H2 m2 _ st2 me2 q2 u ru => ?_)
  cases e1 : rd μ2 x with
  | none =>
    simp only [e1] at q2
    exact q2.elim
  | some u1 =>
    cases e2 : rd μ2 y with
    | none =>
      simp only [e1, e2] at q2
      exact q2.elim
    | some u2 =>
      simp only [e1, e2] at q2
      cases e3 : f u1 u2 with
      | none =>
        simp only [e3] at q2
        exact q2.elim
      | some z =>
        refine hr G2 H2 m2 μ2 x y v u u1 u2 z me2 e1 e2 (rv.mono st2.gr) ru e3 _ fun v' G3 H3 st3 me3 dz => ?_
        rw [e3] at q2
        split at q2
        · rename_i hq
          cases hq
          cases dz
          refine ⟨true, rfl, ?_⟩
          rw [if_pos rfl]
          have q2' := Post.mono st3 q2
          refine hc ρ μ2 σ G3 H3 m2 ((en.mono st1.gr).mono (st2.trans st3).gr) me3 _ (Post.of_bind q2' fun t μ4 G4 H4 m4 _ st4 me4 q4 v4 r4 => ?_)
          cases e4 : rd μ4 y with
          | none =>
            simp only [e4] at q4
            exact q4.elim
          | some w1 =>
            cases e5 : rd μ4 t with
            | none =>
              simp only [e4, e5] at q4
              exact q4.elim
            | some w2 =>
              simp only [e4, e5] at q4
              obtain ⟨z', hz', k⟩ := fin2 q4
              exact hr' G4 H4 m4 μ4 y t u v4 w1 w2 z' me4 e4 e5 (ru.mono (st3.trans st4).gr) r4 hz' Q k
        · rename_i hq
          cases hq
          cases dz
          refine ⟨false, rfl, ?_⟩
          rw [if_neg Bool.false_ne_true]
          exact q2 G3 H3 m2 st3 me3 _ (.bl _)
        · exact q2.elim
theorem ce_chain {op op' : CmpOp} {r r' : R2} {f g : D2} (ho : OpR X (compareOp op) r) (hr : OpD X.K r f) (ho' : OpR X (compareOp op') r') (hr' : OpD X.K r' g) (ha : CE X w a δa) (hb : CE X w b δb) (hc : CE X w c δc)
    (hm : lastMarks [op, op'] [b, c] = false := by with_unfolding_all rfl) : CE X w (.Compare a [op, op'] [b, c] pos) (eChain f g δa δb δc) := by
  obtain ⟨ta, p1, s1⟩ := ha
  obtain ⟨tb, p2, s2⟩ := hb
  obtain ⟨tc, p3, s3⟩ := hc
  exact ⟨_, pe_chain ho ho' p1 p2 p3 hm, sim_chain hr hr' s1 s2 s3⟩
theorem ct_chain {op op' : CmpOp} {r r' : R2} {f g : D2} (ho : OpR X (compareOp op) r) (hr : OpD X.K r f) (ho' : OpR X (compareOp op') r') (hr' : OpD X.K r' g) (ha : CE X w a δa) (hb : CE X w b δb) (hc : CE X w c δc)
    (hm : lastMarks [op, op'] [b, c] = false := by with_unfolding_all rfl) : CT X w (.Compare a [op, op'] [b, c] pos) (bVal (eChain f g δa δb δc)) := by
  obtain ⟨ta, p1, s1⟩ := ha
  obtain ⟨tb, p2, s2⟩ := hb
  obtain ⟨tc, p3, s3⟩ := hc
  exact ⟨_, pt_chain ho ho' p1 p2 p3 hm, sim_test (sim_chain hr hr' s1 s2 s3)⟩

/-! ### arguments, displays -/
theorem ca_nil : CA X w [] aNil := ⟨_, pa_nil, fun ρ μ σ G H m en me Q q => q G H m Stp.refl me [] .nil⟩
theorem ca_cons (h : CE X w e δ) (hr : CA X w es δs) (hs : starEach (e :: es) X.env = (false, eval e X.env) :: starEach es X.env := by rfl) : CA X w (e :: es) (aCons δ δs) := by
  obtain ⟨ta, p1, s1⟩ := h
  obtain ⟨tb, p2, s2⟩ := hr
  refine ⟨_, pa_cons p1 p2 hs, fun ρ μ σ G H m en me Q q => ?_⟩
  refine s1 ρ μ σ G H m en me _ (Post.of_bind q fun x μ1 G1 H1 m1 _ st1 me1 q1 v rv => ?_)
  refine s2 ρ μ1 σ G1 H1 m1 (en.mono st1.gr) me1 _ (Post.of_bind q1 fun y μ2 G2 H2 m2 _ st2 me2 q2 u ru => ?_)
  exact q2 G2 H2 m2 Stp.refl me2 _ (.cons (rv.mono st2.gr) ru)
theorem pure_all {K : PySem.W.Frag} {G : Hp} {m : List Addr} : ∀ {ss : List S} {vs : List V} {xs : List PyData}, RpL K G m ss vs → pureL ss = some xs → DqAll K G vs xs
  | _, _, _, .nil, h => by
    cases h
    exact .nil
  | _, _, _, .cons (s := s) (ss := ss) r t, h => by
    cases s with
    | d x =>
      unfold pureL at h
      cases e : pureL ss with
      | none => rw [e] at h; cases h
      | some ys =>
        rw [e] at h
        cases h
        exact .cons r (pure_all t e)
    | m n => cases h
theorem ce_tup {x1} (h : CA X w es δs) : CE X w (.Tuple es x1 pos) (eTup δs) := by
  obtain ⟨ta, p1, s1⟩ := h
  refine ⟨_, pe_tup p1, fun ρ μ σ G H m en me Q q => ?_⟩
  refine s1 ρ μ σ G H m en me _ (Post.of_bind q fun x μ1 G1 H1 m1 _ st1 me1 q1 v rv => ?_)
  cases e1 : pureL x with
  | none =>
    simp only [e1] at q1
    exact q1.elim
  | some xs =>
    simp only [e1] at q1
    split at q1
    · rename_i hs
      have d := pure_all rv e1
      refine ⟨by rw [DqAll.length d]; exact small_sz hs, newD me1 (fun p g0 => dq_tup g0 d) fun v' G' H' st me' r => q1 G' H' m1 st me' v' r⟩
    · exact q1.elim
theorem ce_lst (h : CA X w es δs) : CE X w (.List es pos) (eLst δs) := by
  obtain ⟨ta, p1, s1⟩ := h
  refine ⟨_, pe_lst p1, fun ρ μ σ G H m en me Q q => ?_⟩
  refine s1 ρ μ σ G H m en me _ (Post.of_bind q fun x μ1 G1 H1 m1 _ st1 me1 q1 v rv => ?_)
  cases e1 : pureL x with
  | none =>
    simp only [e1] at q1
    exact q1.elim
  | some xs =>
    simp only [e1] at q1
    split at q1
    · rename_i hs
      have d := pure_all rv e1
      refine ⟨by rw [DqAll.length d]; exact small_sz hs, newD me1 (fun p g0 => dq_lst g0 d) fun v' G' H' st me' r => q1 G' H' m1 st me' v' r⟩
    · exact q1.elim
/-- a list display, to be changed -/
theorem ce_new (h : CA X w es δs) : CE X w (.List es pos) (eNew (eLst δs)) := by
  obtain ⟨ta, p1, s1⟩ := h
  refine ⟨_, pe_lst p1, fun ρ μ σ G H m en me Q q => ?_⟩
  have q0 : EPost X.K w σ G H m ((δs ρ μ).bind fun ss μ1 => (match pureL ss with | some xs => if small xs.length then R.ok (.m μ1.length) (μ1 ++ [.lst xs]) else .no | none => .no)) Q := by
    have e : eNew (eLst δs) ρ μ = ((δs ρ μ).bind fun ss μ1 => (match pureL ss with | some xs => if small xs.length then R.ok (.m μ1.length) (μ1 ++ [.lst xs]) else .no | none => .no)) := by
      unfold eNew eLst
      cases δs ρ μ with
      | no => rfl
      | err a b => rfl
      | ok ss μ1 =>
        simp only [R.bind]
        cases pureL ss with
        | none => rfl
        | some xs =>
          simp only
          cases small xs.length <;> rfl
    rw [← e]
    exact q
  refine s1 ρ μ σ G H m en me _ (Post.of_bind q0 fun x μ1 G1 H1 m1 _ st1 me1 q1 v rv => ?_)
  cases e1 : pureL x with
  | none =>
    simp only [e1] at q1
    exact q1.elim
  | some xs =>
    simp only [e1] at q1
    split at q1
    · rename_i hs
      have d := pure_all rv e1
      refine ⟨by rw [DqAll.length d]; exact small_sz hs, fun p hp => ?_⟩
      obtain ⟨me2, st2⟩ := me1.alloc hp d
      refine q1 _ _ _ st2 me2 _ ⟨p, ?_, rfl⟩
      rw [← me1.len]
      simp
    · exact q1.elim

/-! ### subscripts, slices -/
theorem ce_ix (ha : CE X w a δa) (hb : CE X w b δb) (hs : PlainIx b := by exact (fun _ _ => rfl)) : CE X w (.Subscript a b pos) (eOp fIx δa δb) := by
  obtain ⟨ta, p1, s1⟩ := ha
  obtain ⟨tb, p2, s2⟩ := hb
  exact ⟨_, pe_ix ix_seq p1 p2 hs, sim_op ixD s1 s2⟩
structure CO (X : Cx) (w : Wish) (e : Option Expr) (δ : DO) : Prop where
  ex : ∃ to, PO X e to ∧ ∀ ρ μ σ G H m, EnvR X.K G m ρ σ → MemR X.K G H m μ → ∀ Q : Option Int → Hp → Prop, Post X.K w σ G H m (δ ρ μ) (fun o _ H' _ => Q o H') → to σ H Q
theorem co_no : CO X w none oNo := ⟨_, po_none, fun ρ μ σ G H m en me Q q => q G H m Stp.refl me⟩
theorem co_yes (h : CE X w e δ) : CO X w (some e) (oYes δ) := by
  obtain ⟨ta, p1, s1⟩ := h
  refine ⟨_, po_some p1, fun ρ μ σ G H m en me Q q => ?_⟩
  refine s1 ρ μ σ G H m en me _ (Post.of_bind q fun x μ1 G1 H1 m1 _ st1 me1 q1 v rv => ?_)
  split at q1
  · cases rv
    exact ⟨_, rfl, q1 G1 H1 m1 Stp.refl me1⟩
  · exact q1.elim
theorem ce_sl {lo hi : Option Expr} {δl δh : DO} {p2 : Pos} (h : CE X w e δ) (hl : CO X w lo δl) (hh : CO X w hi δh) : CE X w (.Subscript e (.Slice lo hi none p2) pos) (eSl δ δl δh) := by
  obtain ⟨ta, p1, s1⟩ := h
  obtain ⟨tl, p2, s2⟩ := hl
  obtain ⟨th, p3, s3⟩ := hh
  refine ⟨_, pe_slice sl_any p1 p2 p3, fun ρ μ σ G H m en me Q q => ?_⟩
  refine s1 ρ μ σ G H m en me _ (Post.of_bind q fun x μ1 G1 H1 m1 _ st1 me1 q1 v rv => ?_)
  refine s2 ρ μ1 σ G1 H1 m1 (en.mono st1.gr) me1 _ (Post.of_bind q1 fun y μ2 G2 H2 m2 _ st2 me2 q2 => ?_)
  refine s3 ρ μ2 σ G2 H2 m2 ((en.mono st1.gr).mono st2.gr) me2 _ (Post.of_bind q2 fun t μ3 G3 H3 m3 _ st3 me3 q3 => ?_)
  cases e1 : rd μ3 x with
  | none =>
    simp only [e1] at q3
    exact q3.elim
  | some u1 =>
    simp only [e1] at q3
    obtain ⟨z, hz, k⟩ := fin2 q3
    exact slD me3 e1 (rv.mono (st2.trans st3).gr) hz Q k

/-! ### calls of built-ins -/
theorem sim_cb {K : PySem.W.Frag} {ta : TA} {r : List V → Hp → VK → Prop} {f : DF} (hr : CbD K r f) (ha : SimA K w ta δs) : SimE K w (tCB r ta) (eCB f δs) := by
  intro ρ μ σ G H m en me Q q
  refine ha ρ μ σ G H m en me _ (Post.of_bind q fun x μ1 G1 H1 m1 _ st1 me1 q1 v rv => ?_)
  cases e1 : rdL μ1 x with
  | none =>
    simp only [e1] at q1
    exact q1.elim
  | some xs =>
    simp only [e1] at q1
    obtain ⟨z, hz, k⟩ := fin2 q1
    exact hr G1 H1 m1 μ1 x v xs z me1 e1 rv hz Q k
theorem ce_callB {x : Str} {p : Pos} {id : String} {r : List V → Hp → VK → Prop} {f : DF} (hc : CallR X (.builtin id) r) (hr : CbD X.K r f) (hm : X.mg x = none) (hv : bootBuiltins x = some (.builtin id)) (ha : CA X w (e :: es) δs) (hg : Gl X x := by rfl) (hn : x ≠ "__name__" := by decide)
    (hdb : (x == ("__debug__" : Str)) = false := by decide) (he : starEach (e :: es) X.env = (false, eval e X.env) :: starEach es X.env := by rfl) (hpl : (backTo pos (starEach es X.env)).any (·.1) = false := by rfl) : CE X w (.Call (.Name x p) (e :: es) [] pos) (eCB f δs) := by
  obtain ⟨ta, p1, s1⟩ := ha
  exact ⟨_, pe_callB hc hg hm hv p1 hn hdb he hpl, sim_cb hr s1⟩
theorem ce_callTy {x : Str} {p : Pos} {T : String} {r : List V → Hp → VK → Prop} {f : DF} (hc : CallR X (.type T) r) (hr : CbD X.K r f) (hm : X.mg x = none) (hv : bootBuiltins x = some (.type T)) (ha : CA X w (e :: es) δs) (hg : Gl X x := by rfl) (hn : x ≠ "__name__" := by decide)
    (hdb : (x == ("__debug__" : Str)) = false := by decide) (he : starEach (e :: es) X.env = (false, eval e X.env) :: starEach es X.env := by rfl) (hpl : (backTo pos (starEach es X.env)).any (·.1) = false := by rfl) : CE X w (.Call (.Name x p) (e :: es) [] pos) (eCB f δs) := by
  obtain ⟨ta, p1, s1⟩ := ha
  exact ⟨_, pe_callTy hc hg hm hv p1 hn hdb he hpl, sim_cb hr s1⟩

/-! ### calls of defs -/
/-- what a def promises: F -/
def FPost (K : PySem.W.Frag) (cx : Nat → Option Addr) (G H : Hp) (m : List Addr) (r : R S) (Q : VK) (E : XK) : Prop := match r with
  | .ok s μ' => ∀ v G' H', Stp G H m G' H' m → MemR K G' H' m μ' → RpS K G' m s v → Q v H'
  | .err e μ' => ∀ cls d G' H', Stp G H m G' H' m → MemR K G' H' m μ' → ErrR cx G' e cls d → E cls d H'
  | .no => False
def spF (K : PySem.W.Frag) (cx : Nat → Option Addr) (n : Nat) (F : Fn) : Sp := fun vs H Q E => ∃ G m μ ss, ss.length = n ∧ RpL K G m ss vs ∧ MemR K G H m μ ∧ FPost K cx G H m (F ss μ) Q E
theorem RpL.length {K : PySem.W.Frag} {G : Hp} {m : List Addr} : ∀ {ss : List S} {vs : List V}, RpL K G m ss vs → ss.length = vs.length
  | _, _, .nil => rfl
  | _, _, .cons _ t => congrArg (· + 1) (RpL.length t)
/-- how its arguments bind -/
def SB (fd : FuncData) (ps : List Str) : Prop := ∀ us : List Value, us.length = ps.length → bindArgs fd ⟨us, []⟩ = pure (ps.zip us)
/-- a def of the text, where it stands -/
structure Def (P : Program) (w : World) (K : PySem.W.Frag) (mg : Str → Option Value) (base : Heap) (cx : Nat → Option Addr) (x : Str) (k n : Nat) (F : Fn) : Prop where
  no : ∀ ss μ, ss.length ≠ n → F ss μ = .no
  ex : ∃ (f : Addr) (fd : FuncData) (ps : List Str), mg x = some (.ref f) ∧ PySem.W.keepIn K (.ref f) = true ∧ SB fd ps ∧ ps.length = n ∧ FnOk P w K mg base (L2.CX P w) k f fd ps (spF K cx n F)
theorem sim_call {K : PySem.W.Frag} {ta : TA} {n : Nat} {F : Fn} (hn : ∀ ss μ, ss.length ≠ n → F ss μ = .no) (ha : SimA K w ta δs) : SimE K w (tCallS (spF K w.cx n F) (WE w.W) ta) (eCall F δs) := by
  intro ρ μ σ G H m en me Q q
  refine ha ρ μ σ G H m en me _ (Post.of_bind q fun x μ1 G1 H1 m1 _ st1 me1 q1 v rv => ?_)
  by_cases hl : x.length = n
  · refine ⟨G1, m1, μ1, x, hl, rv, me1, ?_⟩
    cases e : F x μ1 with
    | ok s μ2 =>
      simp only [e] at q1
      exact fun v' G' H' st me' r => q1 G' H' m1 st me' v' r
    | err ex μ2 =>
      simp only [e] at q1
      exact fun cls d G' H' st me' r => q1.2 cls d G' H' m1 st me' r
    | no =>
      simp only [e] at q1
      exact q1
  · simp only [hn x μ1 hl] at q1
    exact q1.elim
theorem sim_callB {K : PySem.W.Frag} {ta : TA} {n : Nat} {F : Fn} (hw : w.on = false) (hn : ∀ ss μ, ss.length ≠ n → F ss μ = .no) (ha : SimA K w ta δs) : SimE K w (tCall (spF K w.cx n F) [] E0 ta) (eCall F δs) := by
  intro ρ μ σ G H m en me Q q
  refine ha ρ μ σ G H m en me _ (Post.of_bind q fun x μ1 G1 H1 m1 _ st1 me1 q1 v rv => ?_)
  by_cases hl : x.length = n
  · refine ⟨G1, m1, μ1, x, hl, by rw [List.append_nil]; exact rv, me1, ?_⟩
    cases e : F x μ1 with
    | ok s μ2 =>
      simp only [e] at q1
      exact fun v' G' H' st me' r => q1 G' H' m1 st me' v' r
    | err ex μ2 =>
      simp only [e] at q1
      have := q1.1
      rw [hw] at this
      cases this
    | no =>
      simp only [e] at q1
      exact q1
  · simp only [hn x μ1 hl] at q1
    exact q1.elim
/-- f(e, ..) where an exception may leave -/
theorem ce_call {x : Str} {p : Pos} {k j n : Nat} {F : Fn} (D : Def X.prog X.w X.K X.mg X.base w.cx x j n F) (hr : Room k X.A) (tk : Takes X w.W) (ha : CA X w (e :: es) δs) (hj : j ≤ k := by first | decide | omega) (hg : Gl X x := by rfl)
    (hdb : (x == ("__debug__" : Str)) = false := by decide) (he : starEach (e :: es) X.env = (false, eval e X.env) :: starEach es X.env := by rfl) (hpl : (backTo pos (starEach es X.env)).any (·.1) = false := by rfl) : CE X w (.Call (.Name x p) (e :: es) [] pos) (eCall F δs) := by
  obtain ⟨f, fd, ps, h1, h2, h3, h4, h5⟩ := D.ex
  obtain ⟨ta, p1, s1⟩ := ha
  exact ⟨_, pe_callS h5 (hr.mono hj) hg h1 h2 (.all h3) (fun σ => passAt tk σ) p1 hdb he hpl, sim_call D.no s1⟩
/-- f(e, ..) in a comprehension's block -/
theorem ce_callC {x : Str} {p : Pos} {k j n : Nat} {F : Fn} (D : Def X.prog X.w X.K X.mg X.base w.cx x j n F) (hr : Room k X.A) (hw : w.on = false) (ha : CA X w (e :: es) δs) (hj : j ≤ k := by first | decide | omega) (hg : Gl X x := by rfl)
    (hdb : (x == ("__debug__" : Str)) = false := by decide) (he : starEach (e :: es) X.env = (false, eval e X.env) :: starEach es X.env := by rfl) (hpl : (backTo pos (starEach es X.env)).any (·.1) = false := by rfl) : CE X w (.Call (.Name x p) (e :: es) [] pos) (eCall F δs) := by
  obtain ⟨f, fd, ps, h1, h2, h3, h4, h5⟩ := D.ex
  obtain ⟨ta, p1, s1⟩ := ha
  exact ⟨_, pe_call h5 (hr.mono hj) hg h1 h2 (.all h3) .nil passL p1 hdb he hpl, sim_callB hw D.no s1⟩
end
end Bz
set_option Elab.async false
set_option linter.all false
set_option maxRecDepth 100000
set_option maxHeartbeats 2000000
/-! zip of two things walked by iterators of any kinds: what is asked of the iterators stands in Feed. -/
namespace RZ
open PySem
open PySem.Sem (wp)
section
variable {prog : Program} {w : World} {E : Value → Shared → Prop} {s : Shared}
/-- one of the two iterators: J i how it stands after i turns, live: what it gives -/
structure Feed (prog : Program) (w : World) (z TO it other : Addr) (xs : Array Value) (J : Nat → Heap → Prop) : Prop where
  give : ∀ {A : Around} {E : Value → Shared → Prop} {s : Shared} {i : Nat} {x : Value} {Q : Value → Shared → Prop}, J i s.heap → xs[i]? = some x → (∀ h', J (i + 1) h' → Heap.SameBut it s.heap h' → Q x { s with heap := h' }) → wpAny (model prog w) A (Builtin.SmallTypes.nextOf (.ref it)) Q E s
  stop : ∀ {A : Around} {E : Value → Shared → Prop} {s : Shared} {i : Nat} {Q : Value → Shared → Prop}, A.handled = none → J i s.heap → xs[i]? = none → (∀ h' e, Heap.ExtBut it s.heap h' → (∃ o, h'.get? e = some o ∧ o.cls = .type "StopIteration") → E (.ref e) { s with heap := h' }) → wpAny (model prog w) A (Builtin.SmallTypes.nextOf (.ref it)) Q E s
  keep : ∀ {h h' : Heap} {i : Nat} {c : Addr}, (c = z ∨ c = TO ∨ c = other) → Heap.ExtBut c h h' → J i h → J i h'
  up : ∀ {h h' : Heap} {i : Nat}, (∀ c o, c ≠ z → h.get? c = some o → h'.get? c = some o) → J i h → J i h'
  live : ∀ {h : Heap} {i : Nat}, J i h → it < h.objs.size
theorem feed_list {z TO it other l : Addr} {xs : Array Value} (d1 : it ≠ z ∧ it ≠ TO ∧ it ≠ other) (d2 : l ≠ z ∧ l ≠ TO ∧ l ≠ other ∧ l ≠ it) : Feed prog w z TO it other xs fun i h => h.IsListIter it l i ∧ h.IsList l xs where
  give := fun hj hx hQ => wpAny_nextOf_list_item hj.1 hj.2 hx fun h' a b => hQ h' ⟨a, hj.2.extBut b.extBut d2.2.2.2⟩ b
  stop := fun hh hj hx hE => wpAny_nextOf_list_end hh hj.1 hj.2 hx hE
  keep := fun hc k hj => by
    rcases hc with rfl | rfl | rfl
    · exact ⟨hj.1.extBut k d1.1, hj.2.extBut k d2.1⟩
    · exact ⟨hj.1.extBut k d1.2.1, hj.2.extBut k d2.2.1⟩
    · exact ⟨hj.1.extBut k d1.2.2, hj.2.extBut k d2.2.2.1⟩
  up := fun k hj => ⟨hj.1.at fun o e => k _ o d1.1 e, hj.2.at fun o e => k _ o d2.1 e⟩
  live := fun hj => by obtain ⟨⟨_, e, _⟩, _⟩ := hj; exact Heap.lt_size e
theorem feed_tuple {z TO it other l : Addr} {xs : Array Value} (d1 : it ≠ z ∧ it ≠ TO ∧ it ≠ other) (d2 : l ≠ z ∧ l ≠ TO ∧ l ≠ other ∧ l ≠ it) : Feed prog w z TO it other xs fun i h => h.IsTupleIter it l i ∧ h.IsTuple l xs where
  give := fun hj hx hQ => nextOf_tuple_item hj.1 hj.2 hx fun h' a b => hQ h' ⟨a, hj.2.extBut b.extBut d2.2.2.2⟩ b
  stop := fun hh hj hx hE => nextOf_tuple_end hh hj.1 hj.2 hx hE
  keep := fun hc k hj => by
    rcases hc with rfl | rfl | rfl
    · exact ⟨hj.1.extBut k d1.1, hj.2.extBut k d2.1⟩
    · exact ⟨hj.1.extBut k d1.2.1, hj.2.extBut k d2.2.1⟩
    · exact ⟨hj.1.extBut k d1.2.2, hj.2.extBut k d2.2.2.1⟩
  up := fun k hj => ⟨hj.1.at fun o e => k _ o d1.1 e, hj.2.at fun o e => k _ o d2.1 e⟩
  live := fun hj => by obtain ⟨⟨_, e, _⟩, _⟩ := hj; exact Heap.lt_size e
variable {A : Around} {z TI TO i1 i2 : Addr} {k1 k2 : Nat} {xs ys : Array Value} {J1 J2 : Nat → Heap → Prop} {a b : Value}
/-- all that a zip of two feeds is -/
structure ZipAt (z TI TO i1 i2 : Addr) (J1 J2 : Nat → Heap → Prop) (k1 k2 : Nat) (f0 : Value) (a b : Value) (h : Heap) : Prop where
  zip : IsZip h z TI TO f0
  src : IsPair h TI (.ref i1) (.ref i2)
  own : IsPair h TO a b
  one : J1 k1 h
  two : J2 k2 h
structure Ap (z TI TO i1 i2 : Addr) : Prop where
  a1 : TI ≠ z
  a2 : TO ≠ z
  a3 : i1 ≠ z
  a4 : i2 ≠ z
  a5 : TI ≠ TO
  a6 : TI ≠ i1
  a7 : TI ≠ i2
  a8 : TO ≠ i1
  a9 : TO ≠ i2
  a10 : i1 ≠ i2
theorem ZipAt.step (D : Ap z TI TO i1 i2) (F1 : Feed prog w z TO i1 i2 xs J1) (F2 : Feed prog w z TO i2 i1 ys J2) {f0 : Value} {h h' : Heap} (Z : ZipAt z TI TO i1 i2 J1 J2 k1 k2 f0 a b h) (k : Heap.SameBut z h h') {f1 : Value} (hz : IsZip h' z TI TO f1) : ZipAt z TI TO i1 i2 J1 J2 k1 k2 f1 a b h' :=
  ⟨hz, k.extBut _ _ D.a1 Z.src, k.extBut _ _ D.a2 Z.own, F1.keep (.inl rfl) k.extBut Z.one, F2.keep (.inl rfl) k.extBut Z.two⟩
def Far (z TO i1 i2 : Addr) (h h' : Heap) : Prop := ∀ c o, c ≠ z → c ≠ TO → c ≠ i1 → c ≠ i2 → h.get? c = some o → h'.get? c = some o
theorem zipF_item (D : Ap z TI TO i1 i2) (F1 : Feed prog w z TO i1 i2 xs J1) (F2 : Feed prog w z TO i2 i1 ys J2) {x y : Value} {Q : Value → Shared → Prop} (Z : ZipAt z TI TO i1 i2 J1 J2 k1 k2 .none a b s.heap) (hx : xs[k1]? = some x) (hy : ys[k2]? = some y)
    (hQ : ∀ h', ZipAt z TI TO i1 i2 J1 J2 (k1 + 1) (k2 + 1) (rawInt s.heap.objs.size) x y h' → IsPair h' s.heap.objs.size x y → h'.objs.size = s.heap.objs.size + 1 → Far z TO i1 i2 s.heap h' → Q (.ref s.heap.objs.size) { s with heap := h' }) :
    wpAny (model prog w) A (Builtin.«zip.__next__» ⟨[.ref z], []⟩) (fun fin s' => ∃ v, fin = .done (.ret v) ∧ Q v s') E s := by
  have hz := Z.zip
  show wpAny _ _ (field (.ref z) 2 >>= _) _ _ _
  refine wpAny_bind (wpAny_field hz rfl (x := .bool false) rfl ?_)
  show wpAny _ _ (field (.ref z) 3 >>= _) _ _ _
  refine wpAny_bind (wpAny_field hz rfl (x := .ref TI) rfl (wpAny_bind (wpAny_seqItems Z.src rfl ?_)))
  show wpAny _ _ (Builtin.SmallTypes.ownedTupleIsFree (.ref z) >>= _) _ _ _
  refine wpAny_bind ?_
  unfold Builtin.SmallTypes.ownedTupleIsFree
  refine wpAny_bind (wpAny_field hz rfl (x := .none) rfl (wpAny_pure ?_))
  simp only [if_true]
  refine wpAny_bind (wpAny_rule (wpAny_bind (wpAny_field hz rfl (x := .ref TO) rfl ?_)))
  refine wpAny_bind (wpAny_setField_rec hz (by simp) fun g1 z1 e1 => ?_)
  have Z1 : ZipAt z TI TO i1 i2 J1 J2 k1 k2 .ellipsis a b g1 := Z.step D F1 F2 e1 z1
  refine wpAny_bind ?_
  simp only [List.zipIdx_cons, List.zipIdx_nil, List.forIn_cons, List.forIn_nil]
  refine wpAny_bind (wpAny_bind (wpAny_onRaise ?_))
  show wpAny _ _ (Builtin.SmallTypes.nextOf (.ref i1) >>= _) _ _ _
  refine wpAny_bind (F1.give Z1.one hx fun g2 j2 e2 => wpAny_pure ?_)
  have o2 : IsPair g2 TO a b := e2.extBut _ _ D.a8 Z1.own
  refine wpAny_bind (wpAny_seqItems o2 rfl (wpAny_bind (wpAny_updateSeq_pair o2 fun g3 o3 e3 => ?_)))
  replace o3 : IsPair g3 TO x b := o3
  refine wpAny_bind (wpAny_letGo (wpAny_pure ?_))
  refine wpAny_bind (wpAny_bind (wpAny_onRaise ?_))
  show wpAny _ _ (Builtin.SmallTypes.nextOf (.ref i2) >>= _) _ _ _
  refine wpAny_bind (F2.give (F2.keep (.inr (.inl rfl)) e3.extBut (F2.keep (.inr (.inr rfl)) e2.extBut Z1.two)) hy fun g4 j4 e4 => wpAny_pure ?_)
  have o4 : IsPair g4 TO x b := e4.extBut _ _ D.a9 o3
  refine wpAny_bind (wpAny_seqItems o4 rfl (wpAny_bind (wpAny_updateSeq_pair o4 fun g5 o5 e5 => ?_)))
  replace o5 : IsPair g5 TO x y := o5
  refine wpAny_bind (wpAny_letGo (wpAny_pure (wpAny_pure ?_)))
  refine wpAny_bind (wpAny_seqItems o5 rfl (wpAny_bind (wpAny_newTuple ?_)))
  have sz : g5.objs.size = s.heap.objs.size := by rw [e5.1, e4.1, e3.1, e2.1, e1.1]
  have far : ∀ {c o}, c ≠ TO → c ≠ i1 → c ≠ i2 → g1.get? c = some o → g5.get? c = some o := fun c1 c2 c3 e => e5.extBut _ _ c1 (e4.extBut _ _ c3 (e3.extBut _ _ c1 (e2.extBut _ _ c2 e)))
  have z5 : IsZip g5 z TI TO .ellipsis := far D.a2.symm D.a3.symm D.a4.symm Z1.zip
  have s5 : IsPair g5 TI (.ref i1) (.ref i2) := far D.a5 D.a6 D.a7 Z1.src
  have j15 : J1 (k1 + 1) g5 := F1.keep (.inr (.inl rfl)) e5.extBut (F1.keep (.inr (.inr rfl)) e4.extBut (F1.keep (.inr (.inl rfl)) e3.extBut j2))
  have j25 : J2 (k2 + 1) g5 := F2.keep (.inr (.inl rfl)) e5.extBut j4
  have zlt : z < g5.objs.size := Heap.lt_size z5
  show wpAny _ _ (Builtin.SmallTypes.ownedTupleHandOut (.ref z) (.ref g5.objs.size) >>= _) _ _ _
  refine wpAny_bind ?_
  unfold Builtin.SmallTypes.ownedTupleHandOut
  have z6 : IsZip (g5.push { cls := .type "tuple", data := .seq #[x, y] }) z TI TO .ellipsis := Heap.get?_push_of_some _ z5
  refine wpAny_bind (wpAny_setField_rec z6 (by simp) fun g7 z7 e7 => ?_)
  replace z7 : IsZip g7 z TI TO (rawInt g5.objs.size) := z7
  refine wpAny_setField_rec z7 (by simp) fun g8 z8 e8 => ?_
  replace z8 : IsZip g8 z TI TO (rawInt g5.objs.size) := z8
  have up : ∀ c o, c ≠ z → g5.get? c = some o → g8.get? c = some o := fun c o c1 e => e8.extBut _ _ c1 (e7.extBut _ _ c1 (Heap.get?_push_of_some _ e))
  have t8 : IsPair g8 g5.objs.size x y := e8.extBut _ _ (Nat.ne_of_gt zlt) (e7.extBut _ _ (Nat.ne_of_gt zlt) (Heap.get?_push_size _ rfl))
  have sz8 : g8.objs.size = g5.objs.size + 1 := by rw [e8.1, e7.1, Heap.size_push]
  rw [sz] at z8 t8 sz8
  refine wpAny_pure ⟨_, rfl, ?_⟩
  show Q (.ref g5.objs.size) _
  rw [sz]
  exact hQ g8 ⟨z8, up _ _ D.a1 s5, up _ _ D.a2 o5, F1.up up j15, F2.up up j25⟩ t8 sz8 fun c o c1 c2 c3 c4 e => up c o c1 (far c2 c3 c4 (e1.extBut _ _ c1 e))
theorem zipF_end (hh : A.handled = none) (D : Ap z TI TO i1 i2) (F1 : Feed prog w z TO i1 i2 xs J1) (F2 : Feed prog w z TO i2 i1 ys J2) {Q : Fin → Shared → Prop} (Z : ZipAt z TI TO i1 i2 J1 J2 k1 k2 .none a b s.heap) (hend : xs[k1]? = none ∨ ys[k2]? = none)
    (hE : ∀ h' e, Far z TO i1 i2 s.heap h' → (∃ o, h'.get? e = some o ∧ o.cls = .type "StopIteration") → E (.ref e) { s with heap := h' }) :
    wpAny (model prog w) A (Builtin.«zip.__next__» ⟨[.ref z], []⟩) Q E s := by
  have hz := Z.zip
  show wpAny _ _ (field (.ref z) 2 >>= _) _ _ _
  refine wpAny_bind (wpAny_field hz rfl (x := .bool false) rfl ?_)
  show wpAny _ _ (field (.ref z) 3 >>= _) _ _ _
  refine wpAny_bind (wpAny_field hz rfl (x := .ref TI) rfl (wpAny_bind (wpAny_seqItems Z.src rfl ?_)))
  show wpAny _ _ (Builtin.SmallTypes.ownedTupleIsFree (.ref z) >>= _) _ _ _
  refine wpAny_bind ?_
  unfold Builtin.SmallTypes.ownedTupleIsFree
  refine wpAny_bind (wpAny_field hz rfl (x := .none) rfl (wpAny_pure ?_))
  simp only [if_true]
  refine wpAny_bind (wpAny_rule (wpAny_bind (wpAny_field hz rfl (x := .ref TO) rfl ?_)))
  refine wpAny_bind (wpAny_setField_rec hz (by simp) fun g1 z1 e1 => ?_)
  have Z1 : ZipAt z TI TO i1 i2 J1 J2 k1 k2 .ellipsis a b g1 := Z.step D F1 F2 e1 z1
  refine wpAny_bind ?_
  simp only [List.zipIdx_cons, List.zipIdx_nil, List.forIn_cons, List.forIn_nil]
  refine wpAny_bind (wpAny_bind (wpAny_onRaise ?_))
  show wpAny _ _ (Builtin.SmallTypes.nextOf (.ref i1) >>= _) _ _ _
  have fin : ∀ (g g' : Heap) (e : Addr), IsZip g z TI TO .ellipsis → (∀ c o, c ≠ z → c ≠ TO → c ≠ i1 → c ≠ i2 → s.heap.get? c = some o → g.get? c = some o) → (∃ o, g.get? e = some o ∧ o.cls = .type "StopIteration") → Heap.SameBut z g g' → Far z TO i1 i2 s.heap g' ∧ ∃ o, g'.get? e = some o ∧ o.cls = .type "StopIteration" := fun g g' e hzg hf ⟨o, ho, hc⟩ sb => by
    have ne : e ≠ z := fun q => by subst q; rw [hzg] at ho; cases ho; simp at hc
    exact ⟨fun c o c1 c2 c3 c4 q => sb.extBut _ _ c1 (hf c o c1 c2 c3 c4 q), o, sb.extBut _ _ ne ho, hc⟩
  cases hx : xs[k1]? with
  | none =>
    refine wpAny_bind (F1.stop hh Z1.one hx fun g2 e e2 he => ?_)
    have z2 : IsZip g2 z TI TO .ellipsis := e2 _ _ D.a3.symm Z1.zip
    refine wpAny_setField_rec z2 (by simp) fun g3 _ e3 => ?_
    obtain ⟨f1, f2⟩ := fin g2 g3 e z2 (fun c o c1 _ c3 _ q => e2 _ _ c3 (e1.extBut _ _ c1 q)) he e3
    exact hE g3 e f1 f2
  | some x =>
    have hy : ys[k2]? = none := by
      rcases hend with q | q
      · rw [hx] at q; cases q
      · exact q
    refine wpAny_bind (F1.give Z1.one hx fun g2 j2 e2 => wpAny_pure ?_)
    have o2 : IsPair g2 TO a b := e2.extBut _ _ D.a8 Z1.own
    refine wpAny_bind (wpAny_seqItems o2 rfl (wpAny_bind (wpAny_updateSeq_pair o2 fun g3 o3 e3 => ?_)))
    refine wpAny_bind (wpAny_letGo (wpAny_pure ?_))
    refine wpAny_bind (wpAny_bind (wpAny_onRaise ?_))
    show wpAny _ _ (Builtin.SmallTypes.nextOf (.ref i2) >>= _) _ _ _
    refine wpAny_bind (F2.stop hh (F2.keep (.inr (.inl rfl)) e3.extBut (F2.keep (.inr (.inr rfl)) e2.extBut Z1.two)) hy fun g4 e e4 he => ?_)
    have z4 : IsZip g4 z TI TO .ellipsis := e4 _ _ D.a4.symm (e3.extBut _ _ D.a2.symm (e2.extBut _ _ D.a3.symm Z1.zip))
    refine wpAny_setField_rec z4 (by simp) fun g5 _ e5 => ?_
    obtain ⟨f1, f2⟩ := fin g4 g5 e z4 (fun c o c1 c2 c3 c4 q => e4 _ _ c4 (e3.extBut _ _ c2 (e2.extBut _ _ c3 (e1.extBut _ _ c1 q)))) he e5
    exact hE g5 e f1 f2
theorem Ap.of {l1 l2 : Addr} (D : ZipApart z TI TO i1 i2 l1 l2) : Ap z TI TO i1 i2 := ⟨D.TIz, D.TOz, D.i1z, D.i2z, D.TITO, D.TIi1, D.TIi2, D.TOi1, D.TOi2, D.i12⟩
theorem feedA {l1 l2 : Addr} (D : ZipApart z TI TO i1 i2 l1 l2) : Feed prog w z TO i1 i2 xs fun i h => h.IsTupleIter i1 l1 i ∧ h.IsTuple l1 xs := feed_tuple ⟨D.i1z, D.TOi1.symm, D.i12⟩ ⟨D.l1z, D.l1TO, D.l1i2, D.l1i1⟩
theorem feedB {l1 l2 : Addr} (D : ZipApart z TI TO i1 i2 l1 l2) : Feed prog w z TO i2 i1 ys fun i h => h.IsListIter i2 l2 i ∧ h.IsList l2 ys := feed_list ⟨D.i2z, D.TOi2.symm, D.i12.symm⟩ ⟨D.l2z, D.l2TO, D.l2i1, D.l2i2⟩
theorem pyF_item {Q : Option Value → Shared → Prop} (D : Ap z TI TO i1 i2) (F1 : Feed prog w z TO i1 i2 xs J1) (F2 : Feed prog w z TO i2 i1 ys J2) {x y : Value} (Z : ZipAt z TI TO i1 i2 J1 J2 k1 k2 .none a b s.heap) (hx : xs[k1]? = some x) (hy : ys[k2]? = some y)
    (hQ : ∀ h', ZipAt z TI TO i1 i2 J1 J2 (k1 + 1) (k2 + 1) (rawInt s.heap.objs.size) x y h' → IsPair h' s.heap.objs.size x y → h'.objs.size = s.heap.objs.size + 1 → Far z TO i1 i2 s.heap h' → Q (some (.ref s.heap.objs.size)) { s with heap := h' }) :
    wpAny (model prog w) A (pyNext (.ref z)) Q E s := by
  have hT : s.TypeIs (.ref z) "zip" := ⟨_, Z.zip, rfl⟩
  unfold pyNext
  exact wpAny_bind (wpAny_attempt (wpAny_callSpecial?_slot (name := Str.ofString "__next__") hT F.slot_zip_next
    (wpAny_call_entry F.slot_zip_next hT F.entry_zip_next (zipF_item D F1 F2 Z hx hy fun h' a1 a2 a3 a4 => wpAny_pure (hQ h' a1 a2 a3 a4)) (F.args_zip_next_1 _))))
theorem pyF_end {Q : Option Value → Shared → Prop} (hh : A.handled = none) (D : Ap z TI TO i1 i2) (F1 : Feed prog w z TO i1 i2 xs J1) (F2 : Feed prog w z TO i2 i1 ys J2) (Z : ZipAt z TI TO i1 i2 J1 J2 k1 k2 .none a b s.heap) (hend : xs[k1]? = none ∨ ys[k2]? = none)
    (hQ : ∀ h', Far z TO i1 i2 s.heap h' → Q none { s with heap := h' }) : wpAny (model prog w) A (pyNext (.ref z)) Q E s := by
  have hT : s.TypeIs (.ref z) "zip" := ⟨_, Z.zip, rfl⟩
  unfold pyNext
  refine wpAny_bind (wpAny_attempt (wpAny_callSpecial?_slot (name := Str.ofString "__next__") hT F.slot_zip_next
    (wpAny_call_entry F.slot_zip_next hT F.entry_zip_next (zipF_end (A := A.in1) hh D F1 F2 Z hend fun h' e hk he => ?_) (F.args_zip_next_1 _))))
  obtain ⟨o, ho, hc⟩ := he
  refine wpAny_bind (wpAny_isInstance (T := "StopIteration") (b := true) ⟨o, ho, hc⟩ isSubtype_stop ?_)
  exact wpAny_pure (hQ _ hk)
end
/-! made of a tuple and a list -/
abbrev zh1 (h : Heap) (l1 : Addr) : Heap := h.push { cls := .type "tuple_iterator", data := .fields #[.ref l1, .int 0 0] }
abbrev zh2 (h : Heap) (l1 l2 : Addr) : Heap := (zh1 h l1).push { cls := .type "list_iterator", data := .fields #[.ref l2, .int 0 0] }
abbrev zh3 (h : Heap) (l1 l2 : Addr) : Heap := (zh2 h l1 l2).push { cls := .type "tuple", data := .seq #[.ref h.objs.size, .ref (zh1 h l1).objs.size] }
abbrev zh4 (h : Heap) (l1 l2 : Addr) : Heap := (zh3 h l1 l2).push { cls := .type "tuple", data := .seq #[.none, .none] }
abbrev zh5 (h : Heap) (l1 l2 : Addr) : Heap := (zh4 h l1 l2).push { cls := .type "zip", data := .fields #[.none, .bool false, .bool false, .ref (zh2 h l1 l2).objs.size, .ref (zh3 h l1 l2).objs.size] }
theorem newX (l1 l2 : Addr) (xs ys : Array Value) :
    Meets (Builtin.«zip.__new__» ⟨[.type "zip", .ref l1, .ref l2], []⟩) (fun _ R s => s.heap.IsTuple l1 xs ∧ s.heap.IsList l2 ys ∧ R (.ok (.ret (.ref (zh4 s.heap l1 l2).objs.size))) { s with heap := zh5 s.heap l1 l2 }) :=
  .of_wp fun prog w A R s h => by
    obtain ⟨hp, g, d, tk, os⟩ := s
    obtain ⟨hl1, hl2, h⟩ := h
    have hsub := sub_zip
    have hL1 : Heap.IsTuple (Shared.heap ⟨hp, g, d, tk, os⟩) l1 xs := hl1
    have hL2 : Heap.IsList (Shared.heap ⟨hp.push { cls := .type "tuple_iterator", data := .fields #[.ref l1, .int 0 0] }, g, d, tk, os⟩) l2 ys := Heap.IsList.push hl2 _
    wp_walk using wpAny_pyIter_tuple hL1, wpAny_pyIter_list hL2
    exact ⟨_, rfl, h⟩
section
variable {prog : Program} {w : World} {A : Around} {E : Value → Shared → Prop} {s : Shared}
theorem callX {l1 l2 : Addr} {xs ys : Array Value} {Q : Value → Shared → Prop} (hl1 : s.heap.IsTuple l1 xs) (hl2 : s.heap.IsList l2 ys)
    (h : ∀ h', IsZip h' (s.heap.objs.size + 4) (s.heap.objs.size + 2) (s.heap.objs.size + 3) .none → IsPair h' (s.heap.objs.size + 2) (.ref s.heap.objs.size) (.ref (s.heap.objs.size + 1)) →
      IsPair h' (s.heap.objs.size + 3) .none .none → h'.IsTupleIter s.heap.objs.size l1 0 → h'.IsListIter (s.heap.objs.size + 1) l2 0 → h'.objs.size = s.heap.objs.size + 5 →
      (∀ c o, s.heap.get? c = some o → h'.get? c = some o) → Q (.ref (s.heap.objs.size + 4)) { s with heap := h' }) :
    wpAny (model prog w) A (call (.type "zip") [.ref l1, .ref l2]) Q E s := by
  refine callType_new F.called_zip (by decide) (F.typeCall_zip_2 _ _) (F.newCall_zip_2 _ _) (fun obj => F.args_object_init_3 obj _ _) F.entry_zip_new (newX l1 l2 xs ys) ⟨hl1, hl2, ?_⟩
  have z1 : (zh1 s.heap l1).objs.size = s.heap.objs.size + 1 := Heap.size_push ..
  have z2 : (zh2 s.heap l1 l2).objs.size = s.heap.objs.size + 2 := by rw [Heap.size_push, z1]
  have z3 : (zh3 s.heap l1 l2).objs.size = s.heap.objs.size + 3 := by rw [Heap.size_push, z2]
  have z4 : (zh4 s.heap l1 l2).objs.size = s.heap.objs.size + 4 := by rw [Heap.size_push, z3]
  have z5 : (zh5 s.heap l1 l2).objs.size = s.heap.objs.size + 5 := by rw [Heap.size_push, z4]
  have q5 : (zh5 s.heap l1 l2).get? (zh4 s.heap l1 l2).objs.size = some _ := Heap.get?_push_size _ rfl
  have q4 : (zh5 s.heap l1 l2).get? (zh3 s.heap l1 l2).objs.size = some _ := Heap.get?_push_of_some _ (Heap.get?_push_size _ rfl)
  have q3 : (zh5 s.heap l1 l2).get? (zh2 s.heap l1 l2).objs.size = some _ := Heap.get?_push_of_some _ (Heap.get?_push_of_some _ (Heap.get?_push_size _ rfl))
  have q2 : (zh5 s.heap l1 l2).get? (zh1 s.heap l1).objs.size = some _ := Heap.get?_push_of_some _ (Heap.get?_push_of_some _ (Heap.get?_push_of_some _ (Heap.get?_push_size _ rfl)))
  have q1 : (zh5 s.heap l1 l2).get? s.heap.objs.size = some _ := Heap.get?_push_of_some _ (Heap.get?_push_of_some _ (Heap.get?_push_of_some _ (Heap.get?_push_of_some _ (Heap.get?_push_size _ rfl))))
  show _ ∧ _
  rw [z2, z3, z4] at q5
  rw [z1, z2] at q3
  rw [z3] at q4
  rw [z1] at q2
  rw [z4]
  exact ⟨⟨_, q5, rfl⟩, h _ q5 q3 q4 ⟨_, q1, rfl, rfl⟩ ⟨_, q2, rfl, rfl⟩ z5 fun c o x =>
    Heap.get?_push_of_some _ (Heap.get?_push_of_some _ (Heap.get?_push_of_some _ (Heap.get?_push_of_some _ (Heap.get?_push_of_some _ x))))⟩
end
open PySem.Spec PyProof.Rows L2
/-- the tuple at a, the list at b as they stand at each turn -/
def ItzX (K : PySem.W.Frag) (a b : Addr) : It :=
  ⟨fun i H => ∃ (xs ys : List V) (x y : V), SqT K H a xs ∧ SqL K H b ys ∧ xs[i]? = some x ∧ ys[i]? = some y,
    fun i H v H' => ∃ T x y, v = .ref T ∧ H T = none ∧ H' = upd H T (.tup [x, y]) ∧ (∀ xs, SqT K H a xs → xs[i]? = some x) ∧ ∀ ys, SqL K H b ys → ys[i]? = some y,
    fun i H => ∃ xs ys : List V, SqT K H a xs ∧ SqL K H b ys ∧ (xs.length ≤ i ∨ ys.length ≤ i)⟩
theorem turnX {P : Program} {w : World} {K : PySem.W.Frag} {elts : List Expr} {kk : Nat} {tpos : Pos} {a b z TI TO i1 i2 : Addr} (D : ZipApart z TI TO i1 i2 a b) :
    Turn P w K (.Tuple elts kk tpos) (ItzX K a b) [z, TI, TO, i1, i2] z (fun i h => IsZip h z TI TO .none ∧ IsPair h TI (.ref i1) (.ref i2) ∧ (∃ x y, IsPair h TO x y) ∧ h.IsTupleIter i1 a i ∧ h.IsListIter i2 b i) where
  mem := by simp
  obj := fun i h st c hc => by
    obtain ⟨hz, hTI, ⟨x, y, hTO⟩, ⟨o1, e1, _, d1⟩, ⟨o2, e2, _, d2⟩⟩ := st
    have e' : c = z ∨ c = TI ∨ c = TO ∨ c = i1 ∨ c = i2 := by simpa using hc
    rcases e' with q | q | q | q | q
    · rw [q]; exact ⟨_, hz, fun v q => nomatch q⟩
    · rw [q]; exact ⟨_, hTI, fun v q => nomatch q⟩
    · rw [q]; exact ⟨_, hTO, fun v q => nomatch q⟩
    · rw [q]; exact ⟨o1, e1, fun v q => by rw [d1] at q; cases q⟩
    · rw [q]; exact ⟨o2, e2, fun v q => by rw [d2] at q; cases q⟩
  keep := fun i h h' st k => by
    obtain ⟨hz, hTI, ⟨x, y, hTO⟩, h1, h2⟩ := st
    exact ⟨k z (by simp) _ hz, k TI (by simp) _ hTI, ⟨x, y, k TO (by simp) _ hTO⟩, h1.at fun o q => k i1 (by simp) o q, h2.at fun o q => k i2 (by simp) o q⟩
  item := by
    intro X hP hw hK hc i pins s σ H E I hf st hg
    subst hP hw hK
    obtain ⟨hz, hTI, ⟨x0, y0, hTO⟩, h1, h2⟩ := st
    obtain ⟨xs, ys, x, y, hqx, hqy, hx, hy⟩ := hg
    obtain ⟨its, rv, p, _⟩ := I.tuple hqx
    obtain ⟨its2, rv2, p2, _⟩ := I.list hqy
    obtain ⟨u, hu, ru⟩ := rv.get hx
    obtain ⟨u2, hu2, ru2⟩ := rv2.get hy
    have hzl : z < s.heap.objs.size := Heap.lt_size hz
    refine pyF_item (xs := its.toArray) (ys := its2.toArray) (Ap.of D) (feedA D) (feedB D) ⟨hz, hTI, hTO, ⟨h1, p⟩, ⟨h2, p2.isList⟩⟩ (x := u) (y := u2) (by simpa using hu) (by simpa using hu2) fun h' Z hT hsz hk => ?_
    refine ⟨_, rfl, wpAny_letOwnedTupleGo_zip (s := { s with heap := h' }) Z.zip fun h'' z'' sb => ?_⟩
    have hT2 : h''.get? s.heap.objs.size = some { cls := .type "tuple", data := .seq #[u, u2] } := (sb.2 _ (Nat.ne_of_gt hzl)).trans hT
    have new : ObjOk X.prog X.w (upd H s.heap.objs.size (.tup [x, y])) h'' s.heap.objs.size (.tup [x, y]) :=
      ⟨by show 2 ≤ sizeLine; decide, [u, u2], .cons ru (.cons ru2 .nil), ⟨_, hT2, rfl, _, rfl⟩⟩
    have I1 : Inv X pins σ (upd H s.heap.objs.size (.tup [x, y])) { s with heap := h'' } :=
      I.turnedNew (t' := s.toks) (ch := [z, TI, TO, i1, i2]) (fun c o hb q => (sb.2 c (fun q' => hb (by simp [q']))).trans (hk c o (fun q' => hb (by simp [q'])) (fun q' => hb (by simp [q'])) (fun q' => hb (by simp [q'])) (fun q' => hb (by simp [q'])) q)) hf (Nat.le_refl _) new
    refine ⟨.ref s.heap.objs.size, _, I1, rfl, ⟨_, x, y, rfl, I.hok.fresh (Nat.le_refl _), rfl, fun l hl => by rw [I.tuple_inj hl hqx]; exact hx, fun l hl => by rw [I.list_inj hl hqy]; exact hy⟩, ⟨z'', (sb.2 _ D.TIz).trans Z.src, ⟨u, u2, (sb.2 _ D.TOz).trans Z.own⟩, Z.one.1.at fun o q => (sb.2 _ D.i1z).trans q, Z.two.1.at fun o q => (sb.2 _ D.i2z).trans q⟩, fun c hcm => ?_⟩
    have hlt : c < s.heap.objs.size := by
      have e' : c = z ∨ c = TI ∨ c = TO ∨ c = i1 ∨ c = i2 := by simpa using hcm
      rcases e' with q | q | q | q | q
      · rw [q]; exact hzl
      · rw [q]; exact Heap.lt_size hTI
      · rw [q]; exact Heap.lt_size hTO
      · rw [q]; obtain ⟨_, e1, _⟩ := h1; exact Heap.lt_size e1
      · rw [q]; obtain ⟨_, e2, _⟩ := h2; exact Heap.lt_size e2
    rw [upd_ne (Nat.ne_of_lt hlt)]
    exact (hf c hcm).1
  done := by
    intro X hP hw hK hc i pins s σ H E I hf st hg
    subst hP hw hK
    obtain ⟨hz, hTI, ⟨x0, y0, hTO⟩, h1, h2⟩ := st
    obtain ⟨xs, ys, hqx, hqy, hend⟩ := hg
    obtain ⟨its, rv, p, _⟩ := I.tuple hqx
    obtain ⟨its2, rv2, p2, _⟩ := I.list hqy
    have l1 := rv.length
    have l2 := rv2.length
    have he : its.toArray[i]? = none ∨ its2.toArray[i]? = none := by
      rcases hend with q | q
      · exact .inl (by simp; omega)
      · exact .inr (by simp; omega)
    exact pyF_end (I.ok.hd hc) (Ap.of D) (feedA D) (feedB D) ⟨hz, hTI, hTO, ⟨h1, p⟩, ⟨h2, p2.isList⟩⟩ he fun h' hk => ⟨rfl, I.turnedL (t' := s.toks) (ch := [z, TI, TO, i1, i2]) (fun c o hb q =>
      hk c o (fun q' => hb (by simp [q'])) (fun q' => hb (by simp [q'])) (fun q' => hb (by simp [q'])) (fun q' => hb (by simp [q'])) q) hf⟩
  self := fun A i s Q E st h => wpAny_pyIter_zip st.1 h
/-- zip of two lists, of two tuples, of a tuple and a list -/
def iZipX (K : PySem.W.Frag) (ta : TA) : TI := fun σ H R => ta σ H fun vs H1 => ∃ a b xs ys, vs = [.ref a, .ref b] ∧ ((SqL K H1 a xs ∧ SqL K H1 b ys ∧ R (Itz K a b) H1) ∨ (SqT K H1 a xs ∧ SqT K H1 b ys ∧ R (ItzT K a b) H1) ∨ (SqT K H1 a xs ∧ SqL K H1 b ys ∧ R (ItzX K a b) H1))
theorem pi_zipX {X : Cx} {e e2 : Expr} {ta : TA} {p pos tpos : Pos} {elts : List Expr} {kk : Nat} (hg : Gl X "zip") (hm : X.mg "zip" = none) (ha : PA X [e, e2] ta)
    (hs : starEach [e, e2] X.env = (false, eval e X.env) :: starEach [e2] X.env := by rfl) (hpl : (backTo pos (starEach [e2] X.env)).any (·.1) = false := by rfl) :
    PI X (.Tuple elts kk tpos) (.Call (.Name "zip" p) [e, e2] [] pos) (iZipX X.K ta) := by
  refine ⟨fun pins s σ H R I h => ?_⟩
  refine Call_ (ld_blt I hg hm PyProof.Rows.boot_zip (PyProof.Rows.callWith_type1 (thn (ha.run pos pins s σ H _ I h) fun us s1 ⟨vs, H1, I1, r1, q1⟩ => ?_) hs hpl))
  obtain ⟨a, b, xs, ys, ex, q1⟩ := q1
  subst ex
  cases r1 with
  | cons r rr =>
    cases rr with
    | cons r' rr =>
      cases rr
      cases r
      cases r'
      have fresh5 : ∀ c, c ∈ [s1.heap.objs.size + 4, s1.heap.objs.size + 2, s1.heap.objs.size + 3, s1.heap.objs.size, s1.heap.objs.size + 1] → FpOk X pins H1 c := fun c hcm => by
        have e' : c = s1.heap.objs.size + 4 ∨ c = s1.heap.objs.size + 2 ∨ c = s1.heap.objs.size + 3 ∨ c = s1.heap.objs.size ∨ c = s1.heap.objs.size + 1 := by simpa using hcm
        have hle : s1.heap.objs.size ≤ c := by omega
        exact I1.fpOk hle (I1.hok.fresh hle)
      rcases q1 with ⟨hqx, hqy, q⟩ | ⟨hqx, hqy, q⟩ | ⟨hqx, hqy, q⟩
      · obtain ⟨its, rv, p1, _⟩ := I1.list hqx
        obtain ⟨its2, rv2, p2, _⟩ := I1.list hqy
        refine call_zip_2 p1.isList p2.isList fun h' hz hTI hTO h1 h2 hsz hk => wpAny_pyIter_zip hz ?_
        exact ⟨s1.heap.objs.size + 4, [s1.heap.objs.size + 4, s1.heap.objs.size + 2, s1.heap.objs.size + 3, s1.heap.objs.size, s1.heap.objs.size + 1], _, _, H1, rfl, I1.kept (t' := s1.toks) hk, turn_zip (PySem.W.ktu_apart s1.heap.objs.size a b p1.lt p2.lt), ⟨hz, hTI, ⟨_, _, hTO⟩, h1, h2⟩, fresh5, q⟩
      · obtain ⟨its, rv, p1, _⟩ := I1.tuple hqx
        obtain ⟨its2, rv2, p2, _⟩ := I1.tuple hqy
        obtain ⟨o1, ho1, _⟩ := id p1
        obtain ⟨o2, ho2, _⟩ := id p2
        refine call_zipT (show s1.heap.IsTuple a its.toArray from p1) (show s1.heap.IsTuple b its2.toArray from p2) fun h' hz hTI hTO h1 h2 hsz hk => wpAny_pyIter_zip hz ?_
        exact ⟨s1.heap.objs.size + 4, [s1.heap.objs.size + 4, s1.heap.objs.size + 2, s1.heap.objs.size + 3, s1.heap.objs.size, s1.heap.objs.size + 1], _, _, H1, rfl, I1.kept (t' := s1.toks) hk, turn_zipT (PySem.W.ktu_apart s1.heap.objs.size a b (Heap.lt_size ho1) (Heap.lt_size ho2)), ⟨hz, hTI, ⟨_, _, hTO⟩, h1, h2⟩, fresh5, q⟩
      · obtain ⟨its, rv, p1, _⟩ := I1.tuple hqx
        obtain ⟨its2, rv2, p2, _⟩ := I1.list hqy
        obtain ⟨o1, ho1, _⟩ := id p1
        refine callX (show s1.heap.IsTuple a its.toArray from p1) p2.isList fun h' hz hTI hTO h1 h2 hsz hk => wpAny_pyIter_zip hz ?_
        exact ⟨s1.heap.objs.size + 4, [s1.heap.objs.size + 4, s1.heap.objs.size + 2, s1.heap.objs.size + 3, s1.heap.objs.size, s1.heap.objs.size + 1], _, _, H1, rfl, I1.kept (t' := s1.toks) hk, turnX (PySem.W.ktu_apart s1.heap.objs.size a b (Heap.lt_size ho1) p2.lt), ⟨hz, hTI, ⟨_, _, hTO⟩, h1, h2⟩, fresh5, q⟩
end RZ
set_option Elab.async false
set_option linter.all false
set_option maxRecDepth 100000
set_option maxHeartbeats 2000000
/-! Rules of targets, of what is walked, of comprehensions, of statements, of defs. -/
namespace Bz
open PySem PySem.Spec PyProof.Rows L2
variable [Wd]

/-- the list of a handle -/
theorem lst_at {K : PySem.W.Frag} {G H : Hp} {m : List Addr} {μ : Mem} (me : MemR K G H m μ) {h : Nat} {v : V} {xs : List PyData} (r : RpS K G m (.m h) v) (e : μ[h]? = some (.lst xs)) : ∃ a vs, v = .ref a ∧ m[h]? = some a ∧ H a = some (.lst vs) ∧ DqAll K G vs xs := by
  obtain ⟨a, h1, rfl⟩ := r
  obtain ⟨_, vs, h2, h3⟩ := me.at_ h a _ h1 e
  exact ⟨a, vs, rfl, h1, h2, h3⟩
theorem MemR.freezeH {K : PySem.W.Frag} {G H : Hp} {m : List Addr} {μ : Mem} {h : Nat} {ad : Addr} {xs : List PyData} {vs : List V} (me : MemR K G H m μ) (ha : m[h]? = some ad) (hx : μ[h]? = some (.lst xs)) (hv : H ad = some (.lst vs)) (dv : DqAll K G vs xs) :
    MemR K (upd G ad (.lst vs)) H m (μ.set h (.frz xs)) ∧ Stp G H m (upd G ad (.lst vs)) H m := by
  obtain ⟨g0, _⟩ := me.at_ h ad _ ha hx
  have am := List.mem_of_getElem? ha
  refine ⟨⟨fun b u e => ?_, by rw [List.length_set]; exact me.len, me.nd, fun i b t hi ht => ?_, me.tb.lstG hv⟩, ⟨⟨same_upd g0, [], by simp⟩, fun _ _ e _ _ => e, fun _ e _ => e, fun b z n => absurd z n, fun b h1 h2 h3 => ?_⟩⟩
  · by_cases hb : b = ad
    · subst hb
      rw [upd_same] at e
      cases e
      exact hv
    · rw [upd_ne hb] at e
      exact me.ex b u e
  · by_cases hin : h = i
    · subst hin
      rw [ha] at hi
      cases hi
      obtain ⟨hl, _⟩ := List.getElem?_eq_some_iff.mp hx
      rw [List.getElem?_set_self hl] at ht
      cases ht
      exact ⟨vs, upd_same, DqAll.mono (same_upd g0) _ _ dv⟩
    · rw [List.getElem?_set_ne hin] at ht
      have hb : b ≠ ad := fun z => hin (by
        subst z
        obtain ⟨h1, e1⟩ := List.getElem?_eq_some_iff.mp ha
        obtain ⟨h2, e2⟩ := List.getElem?_eq_some_iff.mp hi
        exact (List.getElem_inj me.nd).mp (e1.trans e2.symm))
      refine MO.mono (same_upd g0) (fun z => ?_) (fun u z => z) (me.at_ i b t hi ht)
      rw [upd_ne hb]
      exact MO.gn (me.at_ i b t hi ht) z
  · rw [upd_ne (fun z => h3 (by rw [z]; exact am))]
    exact h1
/-! ### targets -/
/-- only the slots at is change -/
def Tch (is : List Nat) (σ σ' : St) : Prop := ∀ vs : List Nat, (∀ i ∈ is, i ∈ vs) → wipe σ' vs = wipe σ vs
def SimG (K : PySem.W.Frag) (is : List Nat) (g : TG) (γ : DG) : Prop := ∀ s ρ ρ1 σ G H m μ v, γ s ρ = some ρ1 → EnvR K G m ρ σ → MemR K G H m μ → RpS K G m s v →
  ∀ Q : St → Hp → Prop, (∀ σ', EnvR K G m ρ1 σ' → Tch is σ σ' → Q σ' H) → g v σ H Q
def SimGs (K : PySem.W.Frag) (is : List Nat) (g : TGs) (gs : List DG) : Prop := ∀ xs ρ ρ1 σ G H m μ vs, gSeq gs xs ρ = some ρ1 → EnvR K G m ρ σ → MemR K G H m μ → DqAll K G vs xs →
  ∀ Q : St → Hp → Prop, (∀ σ', EnvR K G m ρ1 σ' → Tch is σ σ' → Q σ' H) → g vs σ H Q
structure CG (X : Cx) (is : List Nat) (e : Expr) (γ : DG) : Prop where
  ex : ∃ g, PG X e g ∧ SimG X.K is g γ
structure CGs (X : Cx) (is : List Nat) (es : List Expr) (gs : List DG) : Prop where
  ex : ∃ g, PGs X es g ∧ SimGs X.K is g gs
theorem wipe_set {σ : St} {i : Nat} {v : Option V} : ∀ {vs : List Nat}, i ∈ vs → wipe (σ.set i v) vs = wipe σ vs
  | [], h => by cases h
  | u :: vs, h => by
    have e1 : wipe (σ.set i v) (u :: vs) = (wipe (σ.set i v) vs).set u none := rfl
    have e2 : wipe σ (u :: vs) = (wipe σ vs).set u none := rfl
    rw [e1, e2]
    by_cases hv : i ∈ vs
    · rw [wipe_set hv]
    · have hu : i = u := by
        rcases List.mem_cons.mp h with e | e
        · exact e
        · exact absurd e hv
      subst hu
      have q : ∀ ws : List Nat, i ∉ ws → wipe (σ.set i v) ws = (wipe σ ws).set i v := by
        intro ws
        induction ws with
        | nil => intro _; rfl
        | cons a r ih =>
          intro hn
          have ha : i ≠ a := fun z => hn (by simp [z])
          have e3 : wipe (σ.set i v) (a :: r) = (wipe (σ.set i v) r).set a none := rfl
          have e4 : wipe σ (a :: r) = (wipe σ r).set a none := rfl
          rw [e3, e4, ih (fun z => hn (List.mem_cons_of_mem _ z)), List.set_comm _ _ ha]
      rw [q vs hv, List.set_set]
theorem wipe_wipe_of {σ : St} {vs : List Nat} : ∀ us : List Nat, (∀ i ∈ us, i ∈ vs) → wipe (wipe σ us) vs = wipe σ vs
  | [], _ => rfl
  | u :: us, h => by
    have e1 : wipe σ (u :: us) = (wipe σ us).set u none := rfl
    rw [e1, wipe_set (h u (by simp)), wipe_wipe_of us fun i hi => h i (List.mem_cons_of_mem _ hi)]
theorem wipe_wipe (σ : St) (vs : List Nat) : wipe (wipe σ vs) vs = wipe σ vs := wipe_wipe_of vs fun _ h => h
theorem Tch.set {σ : St} {i : Nat} {v : V} : Tch [i] σ (σ.set i (some v)) := fun vs h => wipe_set (h i (by simp))
section
variable {X : Cx} {w : Wish} {e a b c : Expr} {es : List Expr} {δ δa δb δc : DE} {δs : DA} {τ τ' : DT} {pos : Pos}
theorem cg_name (i : Nat) {x : Str} (hN : X.N.Nodup) (hi : X.N[i]? = some x := by rfl) (hx : Loc X.env.scope x := by first | exact Or.inl rfl | exact Or.inr rfl) (hf : X.fn x = true ∨ X.env.scope.names.lookup x = some .local := by first | exact .inl rfl | exact .inr rfl) : CG X [i] (.Name x pos) (gNm i) := by
  refine ⟨_, pg_name hN hi hx hf, fun s ρ ρ1 σ G H m μ v h en me r Q q => ?_⟩
  cases h
  exact q _ (en.set r) Tch.set
theorem cgs_nil : CGs X [] [] [] := by
  refine ⟨_, pgs_nil, fun xs ρ ρ1 σ G H m μ vs h en me r Q q => ?_⟩
  cases xs with
  | nil =>
    cases h
    cases r
    exact ⟨rfl, q _ en fun _ _ => rfl⟩
  | cons x xs => cases h
theorem cgs_cons {is js : List Nat} {γ : DG} {gs : List DG} (h1 : CG X is e γ) (h2 : CGs X js es gs) (hs : (assignEach (e :: es) X.env).map (·.2) = assign e X.env :: (assignEach es X.env).map (·.2) := by rfl) : CGs X (is ++ js) (e :: es) (γ :: gs) := by
  obtain ⟨g, p1, s1⟩ := h1
  obtain ⟨g2, p2, s2⟩ := h2
  refine ⟨_, pgs_cons p1 p2 hs, fun xs ρ ρ1 σ G H m μ vs h en me r Q q => ?_⟩
  cases xs with
  | nil => cases h
  | cons x xs =>
    unfold gSeq at h
    cases e1 : γ (.d x) ρ with
    | none => rw [e1] at h; cases h
    | some ρ2 =>
      rw [e1] at h
      cases r with
      | cons r1 r2 =>
        refine ⟨_, _, rfl, s1 (.d x) ρ ρ2 σ G H m μ _ e1 en me r1 _ fun σ1 en1 t1 => ?_⟩
        refine s2 xs ρ2 ρ1 σ1 G H m μ _ h en1 me r2 _ fun σ2 en2 t2 => q σ2 en2 fun vs hv => ?_
        rw [t2 vs fun i hi => hv i (List.mem_append_right _ hi), t1 vs fun i hi => hv i (List.mem_append_left _ hi)]
theorem cg_tup {is : List Nat} {k : Nat} {gs : List DG} (hc : X.calm = true) (h : CGs X is es gs) (hn : (assignEach es X.env).length = gs.length := by rfl) (hst : (assignEach es X.env).findIdx? (·.1) = none := by rfl) : CG X is (.Tuple es k pos) (gTp gs) := by
  obtain ⟨g, p1, s1⟩ := h
  refine ⟨_, pg_tup (n := gs.length) hc p1 hn hst, fun s ρ ρ1 σ G H m μ v h en me r Q q => ?_⟩
  unfold gTp at h
  split at h
  · rename_i xs
    have hl : ∀ (gs : List DG) (xs : List PyData) (ρ ρ1 : Env), gSeq gs xs ρ = some ρ1 → xs.length = gs.length := by
      intro gs
      induction gs with
      | nil =>
        intro xs ρ ρ1 h
        cases xs with
        | nil => rfl
        | cons _ _ => cases h
      | cons g gs ih =>
        intro xs ρ ρ1 h
        cases xs with
        | nil => cases h
        | cons x xs =>
          unfold gSeq at h
          split at h
          · rw [List.length_cons, List.length_cons, ih _ _ _ h]
          · cases h
    cases r with
    | tup h1 h2 => exact ⟨_, _, rfl, SqT.same me.ex h1, by rw [DqAll.length h2]; exact hl _ _ _ _ h, s1 xs ρ ρ1 σ G H m μ _ h en me h2 Q q⟩
  · cases h
end

/-! ### what is walked -/
def Wk (K : PySem.W.Frag) (J : It) (G : Hp) (m : List Addr) (xs : List PyData) : Prop := ∀ G2 H m2 μ2, Gr G G2 m m2 → MemR K G2 H m2 μ2 → ∀ i : Nat,
  (∀ d, xs[i]? = some d → J.go i H ∧ ∀ v H', J.yld i H v H' → ∃ G3, Stp G2 H m2 G3 H' m2 ∧ MemR K G3 H' m2 μ2 ∧ Dq K G3 v d) ∧ (xs.length ≤ i → J.stop i H)
def SimI (K : PySem.W.Frag) (w : Wish) (wi : TI) (δ : DI) : Prop := ∀ ρ μ σ G H m, EnvR K G m ρ σ → MemR K G H m μ → ∀ R : It → Hp → Prop, Post K w σ G H m (δ ρ μ) (fun xs G' H' m' => ∀ J, Wk K J G' m' xs → R J H') → wi σ H R
structure CI (X : Cx) (w : Wish) (tg it : Expr) (δ : DI) : Prop where
  ex : ∃ wi, PI X tg it wi ∧ SimI X.K w wi δ
section
variable {X : Cx} {w : Wish} {tg e a b c : Expr} {es : List Expr} {δ δa δb δc : DE} {δs : DA} {τ τ' : DT} {pos : Pos}
theorem pos_inj {xs ys : List V} {i : Nat} {v : V} (h : xs = ys) (e : xs[i]? = some v) : ys[i]? = some v := h ▸ e
theorem wk_lst {K : PySem.W.Frag} {G : Hp} {m : List Addr} {a : Addr} {vs : List V} {xs : List PyData} (h : G a = some (.lst vs)) (d : DqAll K G vs xs) : Wk K (Itl K a) G m xs := by
  intro G2 H m2 μ2 g me i
  have hH : H a = some (.lst vs) := me.ex _ _ (g.ex _ _ h)
  refine ⟨fun y hy => ?_, fun hi => ⟨vs, SqL.of hH, by rw [DqAll.length d]; exact hi⟩⟩
  obtain ⟨v, h1, h2⟩ := DqAll.get (DqAll.mono g.ex _ _ d) hy
  refine ⟨⟨vs, v, SqL.of hH, h1⟩, fun v' H' hv => ?_⟩
  obtain ⟨rfl, q⟩ := hv
  have e := q vs (SqL.of hH)
  rw [h1] at e
  cases e
  exact ⟨G2, Stp.refl, me, h2⟩
theorem wk_tup {K : PySem.W.Frag} {G : Hp} {m : List Addr} {a : Addr} {vs : List V} {xs : List PyData} (h : SqT K G a vs) (d : DqAll K G vs xs) : Wk K (Itt K a) G m xs := by
  intro G2 H m2 μ2 g me i
  have hH : SqT K H a vs := SqT.same me.ex (SqT.same g.ex h)
  refine ⟨fun y hy => ?_, fun hi => ⟨vs, hH, by rw [DqAll.length d]; exact hi⟩⟩
  obtain ⟨v, h1, h2⟩ := DqAll.get (DqAll.mono g.ex _ _ d) hy
  refine ⟨⟨vs, v, hH, h1⟩, fun v' H' hv => ?_⟩
  obtain ⟨rfl, q⟩ := hv
  have e := q vs hH
  rw [h1] at e
  cases e
  exact ⟨G2, Stp.refl, me, h2⟩
theorem ints_get {lo : Int} {n i : Nat} {d : PyData} (h : (upFrom lo n)[i]? = some d) : i < n ∧ d = .int (lo + (i : Int)) := by
  unfold upFrom at h
  rw [List.getElem?_map] at h
  by_cases hi : i < n
  · rw [List.getElem?_range hi] at h
    cases h
    exact ⟨hi, rfl⟩
  · rw [List.getElem?_eq_none (by simpa using hi)] at h
    cases h
theorem wk_rng {K : PySem.W.Frag} {G : Hp} {m : List Addr} {lo : Int} {n : Nat} : Wk K (Itr lo n) G m (upFrom lo n) := by
  intro G2 H m2 μ2 g me i
  refine ⟨fun y hy => ?_, fun hi => ?_⟩
  · obtain ⟨h1, rfl⟩ := ints_get hy
    refine ⟨h1, fun v' H' hv => ?_⟩
    obtain ⟨rfl, rfl⟩ := hv
    exact ⟨G2, Stp.refl, me, .int _⟩
  · show n ≤ i
    unfold upFrom at hi
    simpa using hi
/-- over a list or a tuple -/
def iSq (K : PySem.W.Frag) (tl : TE) : TI := fun σ H R => tl σ H fun x H1 => (∃ a, x = .ref a ∧ (∃ xs, SqL K H1 a xs) ∧ R (Itl K a) H1) ∨ ∃ a, x = .ref a ∧ (∃ xs, SqT K H1 a xs) ∧ R (Itt K a) H1
theorem pi_seq {l : Expr} {tl : TE} (hl : PE X l tl) : PI X tg l (iSq X.K tl) := by
  refine ⟨fun pins s σ H R I h => ?_⟩
  refine thn (hl.run pins s σ H _ I h) fun v s1 ⟨x, H1, I1, r1, q1⟩ => ?_
  rcases q1 with q1 | q1
  · obtain ⟨a, e, ⟨xs, hq⟩, q⟩ := q1
    subst e
    cases r1
    obtain ⟨its, rv, p, hz⟩ := I1.list hq
    refine wpAny_pyIter_list p.isList ?_
    refine ⟨s1.heap.objs.size, [s1.heap.objs.size], _, _, H1, rfl, I1.kept (t' := s1.toks) fun b o e => Heap.get?_push_of_some _ e, turn_list a _, ⟨_, Heap.get?_push_size _ rfl, rfl, rfl⟩, fun b hb => ?_, q⟩
    have e : b = s1.heap.objs.size := by simpa using hb
    subst e
    exact I1.fpOk (Nat.le_refl _) (I1.hok.fresh (Nat.le_refl _))
  · obtain ⟨a, e, ⟨xs, hq⟩, q⟩ := q1
    subst e
    cases r1
    obtain ⟨its, rv, p, hz⟩ := I1.tuple hq
    refine wpAny_pyIter_tuple (show s1.heap.IsTuple a its.toArray from p) ?_
    refine ⟨s1.heap.objs.size, [s1.heap.objs.size], _, _, H1, rfl, I1.kept (t' := s1.toks) fun b o e => Heap.get?_push_of_some _ e, turn_tuple a _, ⟨_, Heap.get?_push_size _ rfl, rfl, rfl⟩, fun b hb => ?_, q⟩
    have e : b = s1.heap.objs.size := by simpa using hb
    subst e
    exact I1.fpOk (Nat.le_refl _) (I1.hok.fresh (Nat.le_refl _))
theorem ci_seq (h : CE X w e δ) : CI X w tg e (iSeq δ) := by
  obtain ⟨te, p1, s1⟩ := h
  refine ⟨_, pi_seq p1, fun ρ μ σ G H m en me R q => ?_⟩
  refine s1 ρ μ σ G H m en me _ (Post.of_bind q fun x μ1 G1 H1 m1 _ st1 me1 q1 v rv => ?_)
  cases x with
  | m h =>
    simp only at q1
    split at q1
    · rename_i xs e1
      obtain ⟨ad, vs, rfl, hx, hv, dv⟩ := lst_at me1 rv e1
      obtain ⟨me2, st2⟩ := me1.freezeH hx e1 hv dv
      exact .inl ⟨_, rfl, ⟨_, SqL.of hv⟩, q1 _ H1 m1 st2 me2 _ (wk_lst upd_same (DqAll.mono st2.gr.ex _ _ dv))⟩
    · rename_i xs e1
      obtain ⟨ad, hx, rfl⟩ := rv
      obtain ⟨vs, hv, dv⟩ := me1.at_ h ad _ hx e1
      exact .inl ⟨_, rfl, ⟨_, SqL.of (me1.ex _ _ hv)⟩, q1 G1 H1 m1 Stp.refl me1 _ (wk_lst hv dv)⟩
    · exact q1.elim
  | d x =>
    simp only at q1
    cases x with
    | list xs =>
      simp only [seqOf] at q1
      cases rv with
      | lst h1 h2 => exact .inl ⟨_, rfl, ⟨_, SqL.of (me1.ex _ _ h1)⟩, q1 G1 H1 m1 Stp.refl me1 _ (wk_lst h1 h2)⟩
    | tuple xs =>
      simp only [seqOf] at q1
      cases rv with
      | tup h1 h2 => exact .inr ⟨_, rfl, ⟨_, SqT.same me1.ex h1⟩, q1 G1 H1 m1 Stp.refl me1 _ (wk_tup h1 h2)⟩
    | none => exact q1.elim
    | bool _ => exact q1.elim
    | int _ => exact q1.elim
    | str _ => exact q1.elim
    | dict _ => exact q1.elim
theorem ci_rng1 {p : Pos} (hm : X.mg "range" = none) (ha : CA X w [a] δs) (hg : Gl X "range" := by rfl) (hs : starEach [a] X.env = [(false, eval a X.env)] := by rfl) : CI X w tg (.Call (.Name "range" p) [a] [] pos) (iRng1 δs) := by
  obtain ⟨te, p1, s1⟩ := ha
  refine ⟨_, pi_range1 hg hm p1 hs, fun ρ μ σ G H m en me R q => ?_⟩
  refine s1 ρ μ σ G H m en me _ (Post.of_bind q fun x μ1 G1 H1 m1 _ st1 me1 q1 v rv => ?_)
  split at q1
  · split at q1
    · rename_i hj
      have hj' := of_decide_eq_true hj
      unfold lim at hj'
      cases rv with
      | cons r1 r2 =>
        cases r2
        cases r1
        exact ⟨_, rfl, by omega, by omega, q1 G1 H1 m1 Stp.refl me1 _ wk_rng⟩
    · exact q1.elim
  · exact q1.elim
theorem ci_rng2 {p : Pos} (hm : X.mg "range" = none) (ha : CA X w [a, b] δs) (hg : Gl X "range" := by rfl) (hs : starEach [a, b] X.env = [(false, eval a X.env), (false, eval b X.env)] := by rfl) (hs2 : starEach [b] X.env = [(false, eval b X.env)] := by rfl) : CI X w tg (.Call (.Name "range" p) [a, b] [] pos) (iRng2 δs) := by
  obtain ⟨te, p1, s1⟩ := ha
  refine ⟨_, pi_range2 hg hm p1 hs hs2, fun ρ μ σ G H m en me R q => ?_⟩
  refine s1 ρ μ σ G H m en me _ (Post.of_bind q fun x μ1 G1 H1 m1 _ st1 me1 q1 v rv => ?_)
  split at q1
  · split at q1
    · rename_i hj
      have hj' := of_decide_eq_true hj
      unfold lim at hj'
      cases rv with
      | cons r1 r2 =>
        cases r1
        cases r2 with
        | cons r3 r4 =>
          cases r3
          cases r4
          exact ⟨_, _, rfl, ⟨by omega, by omega, by omega, by omega⟩, q1 G1 H1 m1 Stp.refl me1 _ wk_rng⟩
    · exact q1.elim
  · exact q1.elim
theorem zip_get : ∀ {xs ys : List PyData} {i : Nat} {d : PyData}, (zipD xs ys)[i]? = some d → ∃ x y, xs[i]? = some x ∧ ys[i]? = some y ∧ d = .tuple [x, y]
  | [], _, i, d, h => by simp [zipD] at h
  | _ :: _, [], i, d, h => by simp [zipD] at h
  | x :: xs, y :: ys, 0, d, h => by
    simp [zipD] at h
    exact ⟨x, y, rfl, rfl, h.symm⟩
  | x :: xs, y :: ys, i + 1, d, h => by
    have h' : (zipD xs ys)[i]? = some d := by simpa [zipD] using h
    obtain ⟨x', y', h1, h2, h3⟩ := zip_get h'
    exact ⟨x', y', by simpa using h1, by simpa using h2, h3⟩
theorem zip_len : ∀ {xs ys : List PyData}, (zipD xs ys).length = min xs.length ys.length
  | [], _ => by simp [zipD]
  | _ :: _, [] => by simp [zipD]
  | x :: xs, y :: ys => by
    rw [show zipD (x :: xs) (y :: ys) = .tuple [x, y] :: zipD xs ys from rfl, List.length_cons, zip_len, List.length_cons, List.length_cons]
    omega
theorem wk_zipL {K : PySem.W.Frag} {G : Hp} {m : List Addr} {a b : Addr} {vs ws : List V} {xs ys : List PyData} (h : G a = some (.lst vs)) (d : DqAll K G vs xs) (h' : G b = some (.lst ws)) (d' : DqAll K G ws ys) : Wk K (Itz K a b) G m (zipD xs ys) := by
  intro G2 H m2 μ2 g me i
  have hH : H a = some (.lst vs) := me.ex _ _ (g.ex _ _ h)
  have hH' : H b = some (.lst ws) := me.ex _ _ (g.ex _ _ h')
  refine ⟨fun y hy => ?_, fun hi => ⟨vs, ws, SqL.of hH, SqL.of hH', by rw [DqAll.length d, DqAll.length d']; rw [zip_len] at hi; omega⟩⟩
  obtain ⟨x1, y1, e1, e2, rfl⟩ := zip_get hy
  obtain ⟨v, h1, h2⟩ := DqAll.get (DqAll.mono g.ex _ _ d) e1
  obtain ⟨v', h1', h2'⟩ := DqAll.get (DqAll.mono g.ex _ _ d') e2
  refine ⟨⟨vs, ws, v, v', SqL.of hH, SqL.of hH', h1, h1'⟩, fun u H' hv => ?_⟩
  obtain ⟨T, x, y, rfl, hT, rfl, q1, q2⟩ := hv
  have e3 := q1 vs (SqL.of hH)
  have e4 := q2 ws (SqL.of hH')
  rw [h1] at e3
  rw [h1'] at e4
  cases e3
  cases e4
  obtain ⟨me', st'⟩ := me.push (o := .tup [v, v']) hT
  exact ⟨_, st', me', dq_tup (me.dead hT).1 (.cons h2 (.cons h2' .nil))⟩
theorem wk_zipT {K : PySem.W.Frag} {G : Hp} {m : List Addr} {a b : Addr} {vs ws : List V} {xs ys : List PyData} (h : SqT K G a vs) (d : DqAll K G vs xs) (h' : SqT K G b ws) (d' : DqAll K G ws ys) : Wk K (RZ.ItzT K a b) G m (zipD xs ys) := by
  intro G2 H m2 μ2 g me i
  have hH : SqT K H a vs := SqT.same me.ex (SqT.same g.ex h)
  have hH' : SqT K H b ws := SqT.same me.ex (SqT.same g.ex h')
  refine ⟨fun y hy => ?_, fun hi => ⟨vs, ws, hH, hH', by rw [DqAll.length d, DqAll.length d']; rw [zip_len] at hi; omega⟩⟩
  obtain ⟨x1, y1, e1, e2, rfl⟩ := zip_get hy
  obtain ⟨v, h1, h2⟩ := DqAll.get (DqAll.mono g.ex _ _ d) e1
  obtain ⟨v', h1', h2'⟩ := DqAll.get (DqAll.mono g.ex _ _ d') e2
  refine ⟨⟨vs, ws, v, v', hH, hH', h1, h1'⟩, fun u H' hv => ?_⟩
  obtain ⟨T, x, y, rfl, hT, rfl, q1, q2⟩ := hv
  have e3 := q1 vs hH
  have e4 := q2 ws hH'
  rw [h1] at e3
  rw [h1'] at e4
  cases e3
  cases e4
  obtain ⟨me', st'⟩ := me.push (o := .tup [v, v']) hT
  exact ⟨_, st', me', dq_tup (me.dead hT).1 (.cons h2 (.cons h2' .nil))⟩
theorem wk_zipX {K : PySem.W.Frag} {G : Hp} {m : List Addr} {a b : Addr} {vs ws : List V} {xs ys : List PyData} (h : SqT K G a vs) (d : DqAll K G vs xs) (h' : G b = some (.lst ws)) (d' : DqAll K G ws ys) : Wk K (RZ.ItzX K a b) G m (zipD xs ys) := by
  intro G2 H m2 μ2 g me i
  have hH : SqT K H a vs := SqT.same me.ex (SqT.same g.ex h)
  have hH' : SqL K H b ws := SqL.of (me.ex _ _ (g.ex _ _ h'))
  refine ⟨fun y hy => ?_, fun hi => ⟨vs, ws, hH, hH', by rw [DqAll.length d, DqAll.length d']; rw [zip_len] at hi; omega⟩⟩
  obtain ⟨x1, y1, e1, e2, rfl⟩ := zip_get hy
  obtain ⟨v, h1, h2⟩ := DqAll.get (DqAll.mono g.ex _ _ d) e1
  obtain ⟨v', h1', h2'⟩ := DqAll.get (DqAll.mono g.ex _ _ d') e2
  refine ⟨⟨vs, ws, v, v', hH, hH', h1, h1'⟩, fun u H' hv => ?_⟩
  obtain ⟨T, x, y, rfl, hT, rfl, q1, q2⟩ := hv
  have e3 := q1 vs hH
  have e4 := q2 ws hH'
  rw [h1] at e3
  rw [h1'] at e4
  cases e3
  cases e4
  obtain ⟨me', st'⟩ := me.push (o := .tup [v, v']) hT
  exact ⟨_, st', me', dq_tup (me.dead hT).1 (.cons h2 (.cons h2' .nil))⟩
theorem ci_zip {p tpos : Pos} {elts : List Expr} {kk : Nat} (hm : X.mg "zip" = none) (ha : CA X w [a, b] δs) (hg : Gl X "zip" := by rfl)
    (hs : starEach [a, b] X.env = (false, eval a X.env) :: starEach [b] X.env := by rfl) (hpl : (backTo pos (starEach [b] X.env)).any (·.1) = false := by rfl) : CI X w (.Tuple elts kk tpos) (.Call (.Name "zip" p) [a, b] [] pos) (iZip δs) := by
  obtain ⟨te, p1, s1⟩ := ha
  refine ⟨_, RZ.pi_zipX hg hm p1 hs hpl, fun ρ μ σ G H m en me R q => ?_⟩
  refine s1 ρ μ σ G H m en me _ (Post.of_bind q fun x μ1 G1 H1 m1 _ st1 me1 q1 v rv => ?_)
  split at q1
  · cases rv with
    | cons r1 r2 =>
      cases r2 with
      | cons r3 r4 =>
        cases r4
        cases r1 with
        | lst h1 h2 =>
          cases r3 with
          | lst h3 h4 => exact ⟨_, _, _, _, rfl, .inl ⟨SqL.of (me1.ex _ _ h1), SqL.of (me1.ex _ _ h3), q1 G1 H1 m1 Stp.refl me1 _ (wk_zipL h1 h2 h3 h4)⟩⟩
  · cases rv with
    | cons r1 r2 =>
      cases r2 with
      | cons r3 r4 =>
        cases r4
        cases r1 with
        | tup h1 h2 =>
          cases r3 with
          | tup h3 h4 => exact ⟨_, _, _, _, rfl, .inr (.inl ⟨SqT.same me1.ex h1, SqT.same me1.ex h3, q1 G1 H1 m1 Stp.refl me1 _ (wk_zipT h1 h2 h3 h4)⟩)⟩
  · cases rv with
    | cons r1 r2 =>
      cases r2 with
      | cons r3 r4 =>
        cases r4
        cases r1 with
        | tup h1 h2 =>
          cases r3 with
          | lst h3 h4 => exact ⟨_, _, _, _, rfl, .inr (.inr ⟨SqT.same me1.ex h1, SqL.of (me1.ex _ _ h3), q1 G1 H1 m1 Stp.refl me1 _ (wk_zipX h1 h2 h3 h4)⟩)⟩
  · exact q1.elim
end
/-! ### comprehensions -/
/-- the tests of a clause -/
structure CTs (X : Cx) (w : Wish) (ifs : List Expr) (δ : DT) : Prop where
  ex : ∃ tt, PTs X ifs tt ∧ SimT X.K w tt δ
section
variable {X : Cx} {w : Wish} {tg e a b c elt iter : Expr} {es ifs : List Expr} {δ δa δb δc δe : DE} {δs : DA} {δi : DI} {γ : DG} {τ τ' : DT} {pos : Pos}
theorem cts_nil : CTs X w [] bYes := ⟨_, pts_nil, fun ρ μ σ G H m en me Q q => q G H m Stp.refl me⟩
theorem cts_one (h : CT X w c τ) : CTs X w [c] τ := by
  obtain ⟨t, p1, s1⟩ := h
  exact ⟨_, pts_one p1, s1⟩
/-- the end of a comprehension: the list at D is known -/
def CPost (K : PySem.W.Frag) (G H : Hp) (m : List Addr) (D : Addr) (r : R (List PyData)) (Q : Hp → Prop) : Prop := match r with
  | .ok ys μ' => ∀ G' H' m' yv, Stp G H m G' H' m' → MemR K G' H' m' μ' → H' D = some (.lst yv) → G' D = none → D ∉ m' → DqAll K G' yv ys → Q H'
  | _ => False
/-- where a comprehension stands: behind the items ahead of i -/
structure CAt (K : PySem.W.Frag) (Gs Hs : Hp) (ms : List Addr) (D : Addr) (γ : DG) (τ : DT) (δe : DE) (ρ : Env) (xs : List PyData) (Q : Hp → Prop) (i : Nat) (H : Hp) : Prop where
  ex : ∃ G m μ acc av, Stp Gs Hs ms G H m ∧ MemR K G H m μ ∧ H D = some (.lst av) ∧ G D = none ∧ D ∉ m ∧ DqAll K G av acc ∧ CPost K Gs Hs ms D (compGo γ τ δe ρ (xs.drop i) acc μ) Q
theorem post_bindN {K : PySem.W.Frag} {w : Wish} {σ : St} {G H : Hp} {m : List Addr} {α : Type} {r : R α} {k : α → Hp → Hp → List Addr → Prop} {Gs Hs : Hp} {ms : List Addr} {D : Addr} {f : α → Mem → R (List PyData)} {Q : Hp → Prop} (q : CPost K Gs Hs ms D (r.bindN f) Q)
    (hk : ∀ a μ1 G1 H1 m1, Stp G H m G1 H1 m1 → MemR K G1 H1 m1 μ1 → CPost K Gs Hs ms D (f a μ1) Q → k a G1 H1 m1) : Post K w σ G H m r k := by
  cases r with
  | ok a μ1 => exact fun G1 H1 m1 st me => hk a μ1 G1 H1 m1 st me q
  | err e μ1 => exact q.elim
  | no => exact q.elim
theorem comp_turn {K : PySem.W.Frag} {w : Wish} {J : It} {g : TG} {tt : TT} {te : TE} {is vs : List Nat} {D : Addr} {Q : Hp → Prop} {ρ : Env} {σ : St} {xs : List PyData} (hg : SimG K is g γ) (hi : ∀ i ∈ is, i ∈ vs) (ht : SimT K w tt τ) (he : SimE K w te δe)
    {Gs Hs : Hp} {ms : List Addr} (hDs : Hs D = none) (wk : Wk K J Gs ms xs) (en0 : EnvR K Gs ms ρ (wipe σ vs)) {i : Nat} {H : Hp} (c : CAt K Gs Hs ms D γ τ δe ρ xs Q i H) :
    (xs.length ≤ i → J.stop i H ∧ Q H) ∧ (i < xs.length → J.go i H ∧ ∀ x H', J.yld i H x H' → g x (wipe σ vs) H' fun σ2 H2 => wipe σ2 vs = wipe σ vs ∧ tt σ2 H2 fun b H3 =>
        if b = true then te σ2 H3 fun y H4 => ∃ acc, H4 D = some (.lst acc) ∧ acc.length < sizeLine ∧ CAt K Gs Hs ms D γ τ δe ρ xs Q (i + 1) (upd H4 D (.lst (acc ++ [y]))) else CAt K Gs Hs ms D γ τ δe ρ xs Q (i + 1) H3) := by
  obtain ⟨G, m, μ, acc, av, st, me, hD, hG, hm, hd, q⟩ := c.ex
  obtain ⟨wgo, wstop⟩ := wk G H m μ st.gr me i
  refine ⟨fun hl => ⟨wstop hl, ?_⟩, fun hl => ?_⟩
  · have ex : xs.drop i = [] := List.drop_eq_nil_of_le hl
    rw [ex] at q
    exact q G H m av st me hD hG hm hd
  · have ex : xs.drop i = xs[i] :: xs.drop (i + 1) := List.drop_eq_getElem_cons hl
    obtain ⟨h1, h2⟩ := wgo xs[i] (List.getElem?_eq_getElem hl)
    refine ⟨h1, fun x H' hy => ?_⟩
    obtain ⟨G1, st1, me1, dx⟩ := h2 x H' hy
    rw [ex] at q
    unfold compGo at q
    have stA := st.trans st1
    have hD1 := st1.kp D _ hD hm (fun _ z => nomatch z)
    have hG1 := st1.gn D hG (by rw [hD]; intro z; cases z) hm
    cases e1 : γ (.d xs[i]) ρ with
    | none =>
      simp only [e1] at q
      exact q.elim
    | some ρ1 =>
      simp only [e1] at q
      refine hg (.d xs[i]) _ ρ1 (wipe σ vs) G1 H' m μ x e1 (en0.mono stA.gr) me1 dx _ fun σ2 en2 tc => ⟨(tc vs hi).trans (wipe_wipe σ vs), ?_⟩
      refine ht ρ1 μ σ2 G1 H' m en2 me1 _ (post_bindN q fun bb μ1 G2 H2 m2 st2 me2 q2 => ?_)
      have stB := stA.trans st2
      have hD2 := st2.kp D _ hD1 hm (fun _ z => nomatch z)
      have hG2 := st2.gn D hG1 (by rw [hD1]; intro z; cases z) hm
      have hm2 : D ∉ m2 := fun z => by
        have := st2.fr D z hm
        rw [hD1] at this
        cases this
      show (if bb = true then te σ2 H2 fun y H4 => ∃ acc, H4 D = some (.lst acc) ∧ acc.length < sizeLine ∧ CAt K Gs Hs ms D γ τ δe ρ xs Q (i + 1) (upd H4 D (.lst (acc ++ [y]))) else CAt K Gs Hs ms D γ τ δe ρ xs Q (i + 1) H2)
      cases bb with
      | false =>
        rw [if_neg Bool.false_ne_true] at q2 ⊢
        exact ⟨G2, m2, μ1, acc, av, stB, me2, hD2, hG2, hm2, DqAll.mono (st1.gr.trans st2.gr).ex _ _ hd, q2⟩
      | true =>
        rw [if_pos rfl] at q2 ⊢
        refine he ρ1 μ1 σ2 G2 H2 m2 (en2.mono st2.gr) me2 _ (post_bindN q2 fun s μ2 G3 H3 m3 st3 me3 q3 yv ry => ?_)
        cases s with
        | m n => exact q3.elim
        | d y =>
          simp only at q3
          split at q3
          · rename_i hsm
            have stC := stB.trans st3
            have hD3 := st3.kp D _ hD2 hm2 (fun _ z => nomatch z)
            have hG3 := st3.gn D hG2 (by rw [hD2]; intro z; cases z) hm2
            have hm3 : D ∉ m3 := fun z => by
              have := st3.fr D z hm2
              rw [hD2] at this
              cases this
            have hd3 := DqAll.mono ((st1.gr.trans st2.gr).trans st3.gr).ex _ _ hd
            refine ⟨av, hD3, by rw [DqAll.length hd3]; exact small_lt hsm, ⟨G3, m3, μ2, acc ++ [y], av ++ [yv], ?_, ?_, upd_same, hG3, hm3, DqAll.append hd3 (.cons ry .nil), q3⟩⟩
            · refine ⟨stC.gr, fun b o e n t => ?_, fun b e n => upd_th (stC.th b e n), stC.fr, stC.gn⟩
              have hb : b ≠ D := fun z => by
                subst z
                rw [hDs] at e
                cases e
              rw [upd_ne hb]
              exact stC.kp b o e n t
            · refine ⟨same_upd2 me3.ex hG3, me3.len, me3.nd, fun j a o h1 h2 => ?_, me3.tb.lst hD3⟩
              have ha : a ≠ D := fun z => hm3 (z ▸ List.mem_of_getElem? h1)
              refine MO.mono (Same.refl _) (fun z => ?_) (fun u z => ?_) (me3.at_ j a o h1 h2)
              · exact MO.gn (me3.at_ j a _ h1 h2) z
              · rw [upd_ne ha]
                exact z
          · exact q3.elim
end
end Bz
set_option Elab.async false
set_option linter.all false
set_option maxRecDepth 100000
set_option maxHeartbeats 2000000
/-! Rules of comprehensions, of statements, of defs. -/
namespace Bz
open PySem PySem.Spec PyProof.Rows L2
variable [Wd]

/-! ### the widest readings -/
def wE (K : PySem.W.Frag) (w : Wish) (δ : DE) : TE := fun σ H Q => ∃ ρ μ G m, EnvR K G m ρ σ ∧ MemR K G H m μ ∧ EPost K w σ G H m (δ ρ μ) Q
def wT (K : PySem.W.Frag) (w : Wish) (δ : DT) : TT := fun σ H Q => ∃ ρ μ G m, EnvR K G m ρ σ ∧ MemR K G H m μ ∧ TPost K w σ G H m (δ ρ μ) Q
def wG (K : PySem.W.Frag) (is : List Nat) (γ : DG) : TG := fun v σ H Q => ∃ s ρ ρ1 G m μ, γ s ρ = some ρ1 ∧ EnvR K G m ρ σ ∧ MemR K G H m μ ∧ RpS K G m s v ∧ ∀ σ', EnvR K G m ρ1 σ' → Tch is σ σ' → Q σ' H
section
variable {X : Cx} {w : Wish} {tg e a b c elt iter : Expr} {es ifs : List Expr} {δ δa δb δc δe : DE} {δs : DA} {δi : DI} {γ : DG} {τ τ' : DT} {pos : Pos} {is : List Nat}
theorem CE.wide (h : CE X w e δ) : PE X e (wE X.K w δ) := by
  obtain ⟨te, p, s⟩ := h
  exact ⟨fun pins st σ H Q I ⟨ρ, μ, G, m, en, me, q⟩ => p.run pins st σ H Q I (s ρ μ σ G H m en me Q q)⟩
theorem CTs.wide (h : CTs X w ifs τ) : PTs X ifs (wT X.K w τ) := by
  obtain ⟨te, p, s⟩ := h
  exact ⟨fun pins st σ H Q I ⟨ρ, μ, G, m, en, me, q⟩ => p.run pins st σ H Q I (s ρ μ σ G H m en me Q q)⟩
theorem CG.wide (h : CG X is e γ) : PG X e (wG X.K is γ) := by
  obtain ⟨g, p, sg⟩ := h
  exact ⟨fun pins st σ H v u Q I r ⟨s, ρ, ρ1, G, m, μ, e1, en, me, rs, q⟩ => p.run pins st σ H v u Q I r (sg s ρ ρ1 σ G H m μ v e1 en me rs Q q)⟩
theorem sim_wE {K : PySem.W.Frag} : SimE K w (wE K w δ) δ := fun ρ μ σ G H m en me Q q => ⟨ρ, μ, G, m, en, me, q⟩
theorem sim_wT {K : PySem.W.Frag} : SimT K w (wT K w τ) τ := fun ρ μ σ G H m en me Q q => ⟨ρ, μ, G, m, en, me, q⟩
theorem sim_wG {K : PySem.W.Frag} : SimG K is (wG K is γ) γ := fun s ρ ρ1 σ G H m μ v e1 en me rs Q q => ⟨s, ρ, ρ1, G, m, μ, e1, en, me, rs, q⟩

/-! ### comprehensions -/
theorem comp_end {K : PySem.W.Frag} {w : Wish} {σ : St} {G H : Hp} {m : List Addr} {r : R (List PyData)} {Q : VK} {D : Addr} (hDs : H D = none) (q : EPost K w σ G H m (r.bindN fun ys μ2 => .ok (.d (.list ys)) μ2) Q) :
    CPost K G H m D r fun H' => Q (.ref D) H' := by
  cases r with
  | ok ys μ2 =>
    intro G' H' m' yv st me hD hG hm hd
    refine q (upd G' D (.lst yv)) H' m' ⟨⟨st.gr.ex.trans (same_upd hG), st.gr.pre⟩, st.kp, st.th, st.fr, fun b h1 h2 h3 => ?_⟩ ⟨fun b u e => ?_, me.len, me.nd, fun i a o h1 h2 => ?_, me.tb.lstG hD⟩ _ (dq_lst hG hd)
    · rw [upd_ne (fun z => h2 (by rw [z]; exact hDs))]
      exact st.gn b h1 h2 h3
    · by_cases hb : b = D
      · subst hb
        rw [upd_same] at e
        cases e
        exact hD
      · rw [upd_ne hb] at e
        exact me.ex b u e
    · have ha : a ≠ D := fun z => hm (z ▸ List.mem_of_getElem? h1)
      refine MO.mono (same_upd hG) (fun z => ?_) (fun u z => z) (me.at_ i a o h1 h2)
      rw [upd_ne ha]
      exact MO.gn (me.at_ i a _ h1 h2) z
  | err e μ => exact q.elim
  | no => exact q.elim
theorem sim_comp {K : PySem.W.Frag} {w : Wish} {wi : TI} {vs : List Nat} (hi : ∀ i ∈ is, i ∈ vs) (s : SimI K w wi δi) : SimE K w (tLc wi (wG K is γ) (wT K w.off τ) (wE K w.off δe) vs) (eComp δi γ τ δe vs) := by
  intro ρ μ σ G H m en me Q q
  refine s ρ μ σ G H m en me _ (Post.of_bind q fun xs μ1 G1 H1 m1 _ st1 me1 q1 J wk => ?_)
  intro D hD
  have en1 := (en.mono st1.gr).wipe vs
  have cp := comp_end hD q1
  obtain ⟨g0, nm⟩ := me1.dead hD
  have start : CAt K G1 H1 m1 D γ τ δe (wipeD ρ vs) xs (fun H' => Q (.ref D) H') 0 (upd H1 D (.lst [])) := by
    refine ⟨G1, m1, μ1, [], [], ⟨Gr.refl, fun b o e n _ => ?_, fun b e _ => upd_th e, fun a ha n => absurd ha n, fun _ e _ _ => e⟩, ⟨same_upd2 me1.ex g0, me1.len, me1.nd, fun i a o h1 h2 => ?_, me1.tb.new hD⟩, upd_same, g0, nm, .nil, cp⟩
    · rw [upd_ne (ne_of_none e hD)]
      exact e
    · have ha : a ≠ D := fun z => nm (z ▸ List.mem_of_getElem? h1)
      refine MO.mono (Same.refl _) (fun z => ?_) (fun u z => ?_) (me1.at_ i a o h1 h2)
      · exact MO.gn (me1.at_ i a _ h1 h2) z
      · rw [upd_ne ha]
        exact z
  refine ⟨fun i n H' => n = xs.length - i ∧ CAt K G1 H1 m1 D γ τ δe (wipeD ρ vs) xs (fun H' => Q (.ref D) H') i H', ⟨xs.length, rfl, start⟩, ?_⟩
  rintro i n H' ⟨rfl, c⟩
  obtain ⟨t1, t2⟩ := comp_turn (σ := σ) (w := w.off) (sim_wG (is := is)) hi sim_wT sim_wE hD wk en1 c
  by_cases hl : xs.length ≤ i
  · exact .inl (t1 hl)
  · obtain ⟨h1, h2⟩ := t2 (by omega)
    exact .inr ⟨h1, fun H2 => CAt K G1 H1 m1 D γ τ δe (wipeD ρ vs) xs (fun H' => Q (.ref D) H') (i + 1) H2, fun H2 c2 => ⟨xs.length - (i + 1), by omega, rfl, c2⟩, h2⟩
theorem ce_comp {scope : Scope} {own : List (Str × Nat)} {vs : List Nat} (hc : X.calm = true) (hN : X.N.Nodup) (hi : CI X w tg iter δi) (ok : BlkOk X.N X.env.scope scope own) (his : ∀ i ∈ is, i ∈ own.map (·.2))
    (hg : ∀ (s : Shared) (H : Hp) (C : Addr) (cl : List (Str × Addr)) (fp : List Addr), CG (X.blk s H scope (compEnvC scope cl C X.env) fp) is tg γ) (ht : ∀ (s : Shared) (H : Hp) (C : Addr) (cl : List (Str × Addr)) (fp : List Addr), CTs (X.blk s H scope (compEnvC scope cl C X.env) fp) w.off ifs τ)
    (he : ∀ (s : Shared) (H : Hp) (C : Addr) (cl : List (Str × Addr)) (fp : List Addr), CE (X.blk s H scope (compEnvC scope cl C X.env) fp) w.off elt δe) (hs : ∀ x, foldedSetIterable iter X.env x = pure x := by intro _; rfl) (hvs : vs = own.map (·.2) := by rfl) :
    CE X w (.ListComp elt [⟨tg, iter, ifs, 0⟩] scope pos) (eComp δi γ τ δe vs) := by
  subst hvs
  obtain ⟨wi, p1, s1⟩ := hi
  exact ⟨_, pe_lc hc hN p1 ok (fun s H C cl fp => (hg s H C cl fp).wide) (fun s H C cl fp => (ht s H C cl fp).wide) (fun s H C cl fp => (he s H C cl fp).wide) hs, sim_comp his s1⟩
end

/-! ### statements -/
def SPost (K : PySem.W.Frag) (w : Wish) (G H : Hp) (m : List Addr) (o : Out) (D : Ends) : Prop := match o with
  | .nx ρ μ => ∀ σ' G' H' m', Stp G H m G' H' m' → MemR K G' H' m' μ → EnvR K G' m' ρ σ' → D.nx σ' H'
  | .rt s μ => ∀ v G' H' m', Stp G H m G' H' m' → MemR K G' H' m' μ → RpS K G' m' s v → D.rt v H'
  | .bk ρ μ => ∀ σ' G' H' m', Stp G H m G' H' m' → MemR K G' H' m' μ → EnvR K G' m' ρ σ' → D.bk σ' H'
  | .ct ρ μ => ∀ σ' G' H' m', Stp G H m G' H' m' → MemR K G' H' m' μ → EnvR K G' m' ρ σ' → D.ct σ' H'
  | .err e μ => ErrS K w G H m e μ
  | .no => False
def SimS (K : PySem.W.Frag) (w : Wish) (ts : TS) (β : DS) : Prop := ∀ ρ μ σ G H m, EnvR K G m ρ σ → MemR K G H m μ → ∀ D, SPost K w G H m (β ρ μ) D → ts D σ H
structure CS (X : Cx) (w : Wish) (st : Stmt) (β : DS) : Prop where
  ex : ∃ ts, PS X st ts ∧ SimS X.K w ts β
structure CSs (X : Cx) (w : Wish) (st : List Stmt) (β : DS) : Prop where
  ex : ∃ ts, PSs X st ts ∧ SimS X.K w ts β
section
variable {K : PySem.W.Frag} {w : Wish} {G G' H H' : Hp} {m m' : List Addr} {μ : Mem} {σ : St} {ρ : Env} {D : Ends}
theorem SPost.mono {o : Out} (g : Stp G H m G' H' m') (h : SPost K w G H m o D) : SPost K w G' H' m' o D := by
  cases o with
  | nx ρ μ => exact fun σ1 G1 H1 m1 g1 => h σ1 G1 H1 m1 (g.trans g1)
  | rt s μ => exact fun v G1 H1 m1 g1 => h v G1 H1 m1 (g.trans g1)
  | bk ρ μ => exact fun σ1 G1 H1 m1 g1 => h σ1 G1 H1 m1 (g.trans g1)
  | ct ρ μ => exact fun σ1 G1 H1 m1 g1 => h σ1 G1 H1 m1 (g.trans g1)
  | err e μ => exact ErrS.mono g h
  | no => exact h
/-- an expression first -/
theorem SPost.of_out {α : Type} {r : R α} {f : α → Mem → Out} {k : α → Hp → Hp → List Addr → Prop} (q : SPost K w G H m (r.out f) D)
    (hk : ∀ a μ1 G1 H1 m1, r = .ok a μ1 → Stp G H m G1 H1 m1 → MemR K G1 H1 m1 μ1 → SPost K w G1 H1 m1 (f a μ1) D → k a G1 H1 m1) : Post K w σ G H m r k := by
  cases r with
  | ok a μ1 => exact fun G1 H1 m1 st me => hk a μ1 G1 H1 m1 rfl st me (SPost.mono st q)
  | err e μ1 => exact ErrS.at_ q
  | no => exact q
end
section
variable {X : Cx} {w : Wish} {tg e a b c elt iter : Expr} {es ifs : List Expr} {δ δa δb δc δe : DE} {δs : DA} {δi : DI} {γ : DG} {τ τ' : DT} {pos : Pos} {is : List Nat} {st : Stmt} {sts body : List Stmt} {β β' : DS}
theorem css_nil : CSs X w [] sNx := ⟨_, pss_nil, fun ρ μ σ G H m en me D q => q σ G H m Stp.refl me en⟩
theorem sim_seq {K : PySem.W.Frag} {t u : TS} (h1 : SimS K w t β) (h2 : SimS K w u β') : SimS K w (tSeq t u) (sSeq β β') := by
  intro ρ μ σ G H m en me D q
  refine h1 ρ μ σ G H m en me _ ?_
  unfold sSeq at q
  cases e : β ρ μ with
  | nx ρ1 μ1 =>
    rw [e] at q
    exact fun σ' G' H' m' st me' en' => h2 ρ1 μ1 σ' G' H' m' en' me' D (SPost.mono st q)
  | rt s μ1 =>
    rw [e] at q
    exact q
  | bk ρ1 μ1 =>
    rw [e] at q
    exact q
  | ct ρ1 μ1 =>
    rw [e] at q
    exact q
  | err ex μ1 =>
    rw [e] at q
    exact q
  | no =>
    rw [e] at q
    exact q
theorem css_cons (h1 : CS X w st β) (h2 : CSs X w sts β') : CSs X w (st :: sts) (sSeq β β') := by
  obtain ⟨t, p1, s1⟩ := h1
  obtain ⟨u, p2, s2⟩ := h2
  exact ⟨_, pss_cons p1 p2, sim_seq s1 s2⟩
theorem css_one (h1 : CS X w st β) : CSs X w [st] β := by
  obtain ⟨t, p1, s1⟩ := h1
  exact ⟨_, pss_one p1, s1⟩
theorem cs_pass : CS X w (.Pass pos) sNx := ⟨_, ps_pass, fun ρ μ σ G H m en me D q => q σ G H m Stp.refl me en⟩
theorem cs_break : CS X w (.Break pos) sBk := ⟨_, ps_break, fun ρ μ σ G H m en me D q => q σ G H m Stp.refl me en⟩
theorem cs_continue : CS X w (.Continue pos) sCt := ⟨_, ps_continue, fun ρ μ σ G H m en me D q => q σ G H m Stp.refl me en⟩
/-- what is never come to -/
theorem cs_no : CS X w st sNo := ⟨_, ps_never, fun ρ μ σ G H m en me D q => q⟩
theorem cs_expr (h : CE X w e δ) (hs : swapsWith e none pos.line X.env = pure false := by rfl) : CS X w (.Expr e pos) (sDrop δ) := by
  obtain ⟨te, p1, s1⟩ := h
  refine ⟨_, ps_expr p1 hs, fun ρ μ σ G H m en me D q => ?_⟩
  refine s1 ρ μ σ G H m en me _ (SPost.of_out q fun s μ1 G1 H1 m1 _ st1 me1 q1 v rv => ?_)
  exact q1 σ G1 H1 m1 Stp.refl me1 (en.mono st1.gr)
theorem cs_ret (h : CE X w e δ) : CS X w (.Return (some e) pos) (sRet δ) := by
  obtain ⟨te, p1, s1⟩ := h
  refine ⟨_, ps_ret p1, fun ρ μ σ G H m en me D q => ?_⟩
  refine s1 ρ μ σ G H m en me _ (SPost.of_out q fun s μ1 G1 H1 m1 _ st1 me1 q1 v rv => ?_)
  exact q1 v G1 H1 m1 Stp.refl me1 rv
theorem cs_retN : CS X w (.Return none pos) sRetN := ⟨_, ps_retN, fun ρ μ σ G H m en me D q => q .non G H m Stp.refl me .non⟩
theorem cs_if {sa sb : List Stmt} (hc : CT X w c τ) (ha : CSs X w sa β) (hb : CSs X w sb β') : CS X w (.If c sa sb pos) (sIf τ β β') := by
  obtain ⟨tc, p0, s0⟩ := hc
  obtain ⟨ta, p1, s1⟩ := ha
  obtain ⟨tb, p2, s2⟩ := hb
  refine ⟨_, ps_if p0 p1 p2, fun ρ μ σ G H m en me D q => ?_⟩
  refine s0 ρ μ σ G H m en me _ (SPost.of_out q fun x μ1 G1 H1 m1 _ st1 me1 q1 => ?_)
  cases x with
  | true => exact s1 ρ μ1 σ G1 H1 m1 (en.mono st1.gr) me1 D q1
  | false => exact s2 ρ μ1 σ G1 H1 m1 (en.mono st1.gr) me1 D q1
theorem sim_asg {K : PySem.W.Frag} {te : TE} {g : TG} (s1 : SimE K w te δ) (sg : SimG K is g γ) : SimS K w (tAsg te g) (sAsg δ γ) := by
  intro ρ μ σ G H m en me D q
  refine s1 ρ μ σ G H m en me _ (SPost.of_out q fun s μ1 G1 H1 m1 _ st1 me1 q1 v rv => ?_)
  cases e : γ s ρ with
  | none =>
    simp only [e] at q1
    exact q1.elim
  | some ρ1 =>
    simp only [e] at q1
    exact sg s ρ ρ1 σ G1 H1 m1 μ1 v e (en.mono st1.gr) me1 rv _ fun σ' en' _ => q1 σ' G1 H1 m1 Stp.refl me1 en'
/-- name = e -/
theorem cs_set (i : Nat) {x : Str} {pos' : Pos} (hN : X.N.Nodup) (h : CE X w e δ) (hi : X.N[i]? = some x := by rfl) (hx : Loc X.env.scope x := by first | exact Or.inl rfl | exact Or.inr rfl) (hs : swapsWith e (some (.Name x pos')) pos.line X.env = pure false := by rfl)
    (hf : X.fn x = true ∨ X.env.scope.names.lookup x = some .local := by first | exact .inl rfl | exact .inr rfl) : CS X w (.Assign [.Name x pos'] e pos) (sAsg δ (gNm i)) := by
  obtain ⟨te, p1, s1⟩ := h
  refine ⟨_, ps_set hN hi hx p1 hs hf, sim_asg (is := [i]) s1 fun s ρ ρ1 σ G H m μ v h en me r Q q => ?_⟩
  cases h
  exact q _ (en.set r) Tch.set
/-- target = e -/
theorem cs_asg (h : CE X w e δ) (hg : CG X is tg γ) (hs : swapsWithSole [tg] e pos.line X.env = pure false := by rfl) (hw : swappedStores [tg] e X.env = pure none := by rfl) (h1 : (assignEach [tg] X.env).map (·.2) = [assign tg X.env] := by rfl) : CS X w (.Assign [tg] e pos) (sAsg δ γ) := by
  obtain ⟨te, p1, s1⟩ := h
  obtain ⟨g, p2, s2⟩ := hg
  exact ⟨_, ps_asg p1 p2 hs hw h1, sim_asg s1 s2⟩
/-- name = [..], on one line, the name a local -/
theorem cs_setC (i : Nat) {y : Str} {py spos : Pos} {scope : Scope} {own : List (Str × Nat)} {vs : List Nat} (hc : X.calm = true) (hN : X.N.Nodup) (hi : CI X w tg iter δi) (ok : BlkOk X.N X.env.scope scope own) (his : ∀ i ∈ is, i ∈ own.map (·.2))
    (hg : ∀ (s : Shared) (H : Hp) (C : Addr) (cl : List (Str × Addr)) (fp : List Addr), CG (X.blk s H scope (compEnvC scope cl C X.env) fp) is tg γ) (ht : ∀ (s : Shared) (H : Hp) (C : Addr) (cl : List (Str × Addr)) (fp : List Addr), CTs (X.blk s H scope (compEnvC scope cl C X.env) fp) w.off ifs τ)
    (he : ∀ (s : Shared) (H : Hp) (C : Addr) (cl : List (Str × Addr)) (fp : List Addr), CE (X.blk s H scope (compEnvC scope cl C X.env) fp) w.off elt δe)
    (hsw : swapsWith (.ListComp elt [⟨tg, iter, ifs, 0⟩] scope pos) (some (.Name y py)) spos.line X.env = pure true := by exact sw_true rfl rfl rfl (by decide +kernel))
    (hy : X.N[i]? = some y := by rfl) (hyl : X.env.scope.names.lookup y = some .local := by rfl) (hs : ∀ x, foldedSetIterable iter X.env x = pure x := by intro _; rfl) (hvs : vs = own.map (·.2) := by rfl) :
    CS X w (.Assign [.Name y py] (.ListComp elt [⟨tg, iter, ifs, 0⟩] scope pos) spos) (sAsg (eComp δi γ τ δe vs) (gNm i)) := by
  subst hvs
  obtain ⟨wi, p1, s1⟩ := hi
  refine ⟨_, ps_setLc hc hN hy hyl hsw p1 ok (fun s H C cl fp => (hg s H C cl fp).wide) (fun s H C cl fp => (ht s H C cl fp).wide) (fun s H C cl fp => (he s H C cl fp).wide) hs, sim_asg (is := [i]) (sim_comp his s1) fun s ρ ρ1 σ G H m μ v h en me r Q q => ?_⟩
  cases h
  exact q _ (en.set r) Tch.set
/-- a, b = e1, e2 with plain local names -/
theorem cs_par (i j : Nat) {x y : Str} {px py pt : Pos} {kt k2 pt2} (hc : X.calm = true) (hN : X.N.Nodup) (ha : CE X w a δa) (hb : CE X w b δb) (hi : X.N[i]? = some x := by rfl) (hj : X.N[j]? = some y := by rfl) (hij : i ≠ j := by decide)
    (hx : X.env.scope.names.lookup x = some .local := by rfl) (hy : X.env.scope.names.lookup y = some .local := by rfl)
    (hw : swappedStores [.Tuple [.Name x px, .Name y py] kt pt] (.Tuple [a, b] k2 pt2) X.env = pure (some [x, y]) := by rfl)
    (hs : swapsWithSole [.Tuple [.Name x px, .Name y py] kt pt] (.Tuple [a, b] k2 pt2) pos.line X.env = pure false := by rfl) (ss : starEach (a :: [b]) X.env = (false, eval a X.env) :: starEach [b] X.env := by rfl) (ss2 : starEach (b :: []) X.env = (false, eval b X.env) :: starEach [] X.env := by rfl) :
    CS X w (.Assign [.Tuple [.Name x px, .Name y py] kt pt] (.Tuple [a, b] k2 pt2) pos) (sAsg (eTup (aCons δa (aCons δb aNil))) (gTp [gNm i, gNm j])) := by
  obtain ⟨ta, p1, s1⟩ := ha
  obtain ⟨tb, p2, s2⟩ := hb
  refine ⟨_, ps_par hc hN hi hj hij hx hy (pa_cons p1 (pa_cons p2 pa_nil ss2) ss) hw hs, fun ρ μ σ G H m en me D q => ?_⟩
  have q' : SPost X.K w G H m ((δa ρ μ).out fun s μ1 => (δb ρ μ1).out fun t μ2 => match s, t with | .d x, .d y => .nx ((ρ.set i (some (.d x))).set j (some (.d y))) μ2 | _, _ => .no) D := by
    have e : sAsg (eTup (aCons δa (aCons δb aNil))) (gTp [gNm i, gNm j]) ρ μ = ((δa ρ μ).out fun s μ1 => (δb ρ μ1).out fun t μ2 => match s, t with | .d x, .d y => .nx ((ρ.set i (some (.d x))).set j (some (.d y))) μ2 | _, _ => .no) := by
      unfold sAsg eTup aCons
      cases δa ρ μ with
      | no => rfl
      | err _ _ => rfl
      | ok s μ1 =>
        simp only [R.bind, R.out]
        cases δb ρ μ1 with
        | no => rfl
        | err _ _ => rfl
        | ok t μ2 =>
          cases s <;> cases t <;> rfl
    rw [← e]
    exact q
  refine s1 ρ μ σ G H m en me _ (SPost.of_out q' fun s μ1 G1 H1 m1 _ st1 me1 q1 v rv => ?_)
  refine s2 ρ μ1 σ G1 H1 m1 (en.mono st1.gr) me1 _ (SPost.of_out q1 fun t μ2 G2 H2 m2 _ st2 me2 q2 u ru => ?_)
  split at q2
  · exact ⟨v, u, rfl, q2 _ G2 H2 m2 Stp.refl me2 ((((en.mono st1.gr).mono st2.gr).set (rv.mono st2.gr)).set ru)⟩
  · exact q2.elim

/-- .. of which one may be a list to be changed -/
theorem cs_parS (i j : Nat) {x y : Str} {px py pt : Pos} {kt k2 pt2} (hc : X.calm = true) (hN : X.N.Nodup) (ha : CE X w a δa) (hb : CE X w b δb) (hi : X.N[i]? = some x := by rfl) (hj : X.N[j]? = some y := by rfl) (hij : i ≠ j := by decide)
    (hx : X.env.scope.names.lookup x = some .local := by rfl) (hy : X.env.scope.names.lookup y = some .local := by rfl)
    (hw : swappedStores [.Tuple [.Name x px, .Name y py] kt pt] (.Tuple [a, b] k2 pt2) X.env = pure (some [x, y]) := by rfl)
    (hs : swapsWithSole [.Tuple [.Name x px, .Name y py] kt pt] (.Tuple [a, b] k2 pt2) pos.line X.env = pure false := by rfl) (ss : starEach (a :: [b]) X.env = (false, eval a X.env) :: starEach [b] X.env := by rfl) (ss2 : starEach (b :: []) X.env = (false, eval b X.env) :: starEach [] X.env := by rfl) :
    CS X w (.Assign [.Tuple [.Name x px, .Name y py] kt pt] (.Tuple [a, b] k2 pt2) pos) (sPar δa δb i j) := by
  obtain ⟨ta, p1, s1⟩ := ha
  obtain ⟨tb, p2, s2⟩ := hb
  refine ⟨_, ps_par hc hN hi hj hij hx hy (pa_cons p1 (pa_cons p2 pa_nil ss2) ss) hw hs, fun ρ μ σ G H m en me D q => ?_⟩
  refine s1 ρ μ σ G H m en me _ (SPost.of_out q fun s μ1 G1 H1 m1 _ st1 me1 q1 v rv => ?_)
  refine s2 ρ μ1 σ G1 H1 m1 (en.mono st1.gr) me1 _ (SPost.of_out q1 fun t μ2 G2 H2 m2 _ st2 me2 q2 u ru => ?_)
  exact ⟨v, u, rfl, q2 _ G2 H2 m2 Stp.refl me2 ((((en.mono st1.gr).mono st2.gr).set (rv.mono st2.gr)).set ru)⟩

/-! ### for, while -/
theorem for_go {K : PySem.W.Frag} {g : TG} {tb : TS} {J : It} {xs : List PyData} {D : Ends} (sg : SimG K is g γ) (sb : SimS K w tb β) {ρ : Env} {μ : Mem} {σ : St} {G H : Hp} {m : List Addr} (wk : Wk K J G m xs) (en : EnvR K G m ρ σ) (me : MemR K G H m μ) (q : SPost K w G H m (forGo γ β xs ρ μ) D) :
    ∃ W : Nat → Nat → St → Hp → Prop, (∃ n, W 0 n σ H) ∧ ∀ i n σ H, W i n σ H →
      (J.stop i H ∧ D.nx σ H) ∨ (J.go i H ∧ ∃ N : St → Hp → Prop, (∀ σ' H', N σ' H' → ∃ n', n' < n ∧ W (i + 1) n' σ' H') ∧ ∀ x H', J.yld i H x H' → g x σ H' fun σ2 H2 => tb { D with nx := N, ct := N, bk := D.nx } σ2 H2) := by
  refine ⟨fun i n σ' H' => n = xs.length - i ∧ ∃ ρ' μ' G' m', Gr G G' m m' ∧ EnvR K G' m' ρ' σ' ∧ MemR K G' H' m' μ' ∧ SPost K w G' H' m' (forGo γ β (xs.drop i) ρ' μ') D, ⟨xs.length, rfl, ρ, μ, G, m, Gr.refl, en, me, q⟩, ?_⟩
  rintro i n σ' H' ⟨rfl, ρ', μ', G', m', gr, en', me', q'⟩
  obtain ⟨wgo, wstop⟩ := wk G' H' m' μ' gr me' i
  by_cases hl : i < xs.length
  · have ex : xs.drop i = xs[i] :: xs.drop (i + 1) := List.drop_eq_getElem_cons hl
    obtain ⟨h1, h2⟩ := wgo xs[i] (List.getElem?_eq_getElem hl)
    refine .inr ⟨h1, fun σ2 H2 => ∃ ρ2 μ2 G2 m2, Gr G G2 m m2 ∧ EnvR K G2 m2 ρ2 σ2 ∧ MemR K G2 H2 m2 μ2 ∧ SPost K w G2 H2 m2 (forGo γ β (xs.drop (i + 1)) ρ2 μ2) D, fun σ2 H2 k => ⟨xs.length - (i + 1), by omega, rfl, k⟩, fun x H1 hy => ?_⟩
    obtain ⟨G1, st1, me1, dx⟩ := h2 x H1 hy
    rw [ex] at q'
    unfold forGo at q'
    cases e1 : γ (.d xs[i]) ρ' with
    | none =>
      simp only [e1] at q'
      exact q'.elim
    | some ρ1 =>
      simp only [e1] at q'
      refine sg (.d xs[i]) ρ' ρ1 σ' G1 H1 m' μ' x e1 (en'.mono st1.gr) me1 dx _ fun σ2 en2 _ => ?_
      have q1 := SPost.mono st1 q'
      refine sb ρ1 μ' σ2 G1 H1 m' en2 me1 _ ?_
      cases e2 : β ρ1 μ' with
      | nx ρ2 μ2 =>
        simp only [e2] at q1
        exact fun σ3 G3 H3 m3 st3 me3 en3 => ⟨ρ2, μ2, G3, m3, (gr.trans st1.gr).trans st3.gr, en3, me3, SPost.mono st3 q1⟩
      | ct ρ2 μ2 =>
        simp only [e2] at q1
        exact fun σ3 G3 H3 m3 st3 me3 en3 => ⟨ρ2, μ2, G3, m3, (gr.trans st1.gr).trans st3.gr, en3, me3, SPost.mono st3 q1⟩
      | bk ρ2 μ2 =>
        simp only [e2] at q1
        exact q1
      | rt s μ2 =>
        simp only [e2] at q1
        exact q1
      | err ee μ2 =>
        simp only [e2] at q1
        exact q1
      | no =>
        simp only [e2] at q1
        exact q1
  · have ex : xs.drop i = [] := List.drop_eq_nil_of_le (by omega)
    rw [ex] at q'
    exact .inl ⟨wstop (by omega), q' σ' G' H' m' Stp.refl me' en'⟩
theorem cs_for (hp : PassesOwn (model X.prog X.w) X.A X.env X.xe) (hc : X.calm = true) (hi : CI X w tg iter δi) (hg : CG X is tg γ) (hb : CSs X w body β) (hs : ∀ x, foldedSetIterable iter X.env x = pure x := by intro _; rfl) :
    CS X w (.For tg iter body [] pos) (sFor δi γ β) := by
  obtain ⟨wi, p1, s1⟩ := hi
  obtain ⟨g, p2, s2⟩ := hg
  obtain ⟨tb, p3, s3⟩ := hb
  refine ⟨_, ps_for hp hc p1 p2 p3 hs, fun ρ μ σ G H m en me D q => ?_⟩
  exact s1 ρ μ σ G H m en me _ (SPost.of_out q fun xs μ1 G1 H1 m1 _ st1 me1 q1 J wk => for_go s2 s3 wk (en.mono st1.gr) me1 q1)
theorem cs_while (n : Nat) (hp : PassesOwn (model X.prog X.w) X.A X.env X.xe) (hc : CT X w c τ) (hb : CSs X w body β) : CS X w (.While c body [] pos) (sWh n τ β) := by
  obtain ⟨tc, p1, s1⟩ := hc
  obtain ⟨tb, p2, s2⟩ := hb
  refine ⟨_, ps_while hp p1 p2, fun ρ μ σ G H m en me D q => ?_⟩
  refine ⟨fun k σ' H' => ∃ ρ' μ' G' m', EnvR X.K G' m' ρ' σ' ∧ MemR X.K G' H' m' μ' ∧ SPost X.K w G' H' m' (whGo τ β k ρ' μ') D, ⟨n, ρ, μ, G, m, en, me, q⟩, ?_⟩
  rintro k σ' H' ⟨ρ', μ', G', m', en', me', q'⟩
  cases k with
  | zero => exact q'.elim
  | succ k =>
    unfold whGo at q'
    refine s1 ρ' μ' σ' G' H' m' en' me' _ (SPost.of_out q' fun x μ1 G1 H1 m1 _ st1 me1 q1 => ?_)
    cases x with
    | false => exact q1 σ' G1 H1 m1 Stp.refl me1 (en'.mono st1.gr)
    | true =>
      refine ⟨fun σ2 H2 => ∃ ρ2 μ2 G2 m2, EnvR X.K G2 m2 ρ2 σ2 ∧ MemR X.K G2 H2 m2 μ2 ∧ SPost X.K w G2 H2 m2 (whGo τ β k ρ2 μ2) D, fun σ2 H2 kk => ⟨k, Nat.lt_succ_self k, kk⟩, ?_⟩
      simp only [if_true] at q1
      refine s2 ρ' μ1 σ' G1 H1 m1 (en'.mono st1.gr) me1 _ ?_
      cases e2 : β ρ' μ1 with
      | nx ρ2 μ2 =>
        simp only [e2] at q1
        exact fun σ3 G3 H3 m3 st3 me3 en3 => ⟨ρ2, μ2, G3, m3, en3, me3, SPost.mono st3 q1⟩
      | ct ρ2 μ2 =>
        simp only [e2] at q1
        exact fun σ3 G3 H3 m3 st3 me3 en3 => ⟨ρ2, μ2, G3, m3, en3, me3, SPost.mono st3 q1⟩
      | bk ρ2 μ2 =>
        simp only [e2] at q1
        exact q1
      | rt s μ2 =>
        simp only [e2] at q1
        exact q1
      | err ee μ2 =>
        simp only [e2] at q1
        exact q1
      | no =>
        simp only [e2] at q1
        exact q1

/-! ### lists that are changed -/
/-- xs[i] = e -/
theorem cs_setix {o i : Expr} {δo δi : DE} {posS : Pos} (he : CE X w e δ) (ho : CE X w o δo) (hi : CE X w i δi) (hs : swapsWithSole [.Subscript o i posS] e pos.line X.env = pure false := by rfl) (hw : swappedStores [.Subscript o i posS] e X.env = pure none := by rfl)
    (h1 : (assignEach [.Subscript o i posS] X.env).map (·.2) = [assign (.Subscript o i posS) X.env] := by rfl)
    (ha : ∀ v, assign (.Subscript o i posS) X.env v = (do
      let ov ← holding [v] (eval o X.env)
      let iv ← holding [v, ov] (eval i X.env)
      standAt posS
      holding [v, ov, iv] (setItem ov iv v)
      release [v, ov, iv] []) := by intro _; rfl) : CS X w (.Assign [.Subscript o i posS] e pos) (sSetIx δ δo δi) := by
  obtain ⟨te, p1, s1⟩ := he
  obtain ⟨to, p2, s2⟩ := ho
  obtain ⟨ti, p3, s3⟩ := hi
  refine ⟨_, ps_asg p1 (pg_sub p2 p3 set_list ha) hs hw h1, fun ρ μ σ G H m en me D q => ?_⟩
  refine s1 ρ μ σ G H m en me _ (SPost.of_out q fun s μ1 G1 H1 m1 _ st1 me1 q1 v rv => ?_)
  refine s2 ρ μ1 σ G1 H1 m1 (en.mono st1.gr) me1 _ (SPost.of_out q1 fun l μ2 G2 H2 m2 _ st2 me2 q2 u ru => ?_)
  refine s3 ρ μ2 σ G2 H2 m2 ((en.mono st1.gr).mono st2.gr) me2 _ (SPost.of_out q2 fun k μ3 G3 H3 m3 _ st3 me3 q3 t rt => ?_)
  split at q3
  · rename_i x h j _ _ _
    cases e1 : μ3[h]? with
    | none =>
      simp only [e1] at q3
      exact q3.elim
    | some o1 =>
      cases o1 with
      | frz xs =>
        simp only [e1] at q3
        exact q3.elim
      | dic xs =>
        simp only [e1] at q3
        exact q3.elim
      | fdc xs =>
        simp only [e1] at q3
        exact q3.elim
      | lst xs =>
        simp only [e1] at q3
        cases e2 : ixN xs.length j with
        | none =>
          simp only [e2] at q3
          exact q3.elim
        | some n =>
          simp only [e2] at q3
          have ru' := ru.mono st3.gr
          obtain ⟨ad, ha, rfl⟩ := ru'
          cases rt
          obtain ⟨g0, vs, hv, dv⟩ := me3.at_ h ad _ ha e1
          have rv' : Dq X.K G3 v x := Dq.mono (st2.trans st3).gr.ex _ _ rv
          obtain ⟨me4, st4⟩ := me3.put (vs := vs.set n v) (ys := xs.set n x) ha e1 (DqAll.set rv' n dv)
          exact ⟨ad, vs, j, n, rfl, rfl, hv, by rw [DqAll.length dv]; exact e2, q3 σ G3 _ m3 st4 me4 (((en.mono st1.gr).mono st2.gr).mono st3.gr)⟩
  · exact q3.elim
/-- xs.append(e) -/
theorem ce_append {o : Expr} {δo : DE} {apos cpos : Pos} (ho : CE X w o δo) (he : CE X w e δ) (hbase : attributeBase o "append" X.env (eval o X.env) = eval o X.env := by rfl)
    (hfew : ((backTo cpos (starEach (e :: []) X.env)).all (fun x => !x.1) && (backToKw cpos (keywordEach [] X.env)).all (fun x => x.1.isSome)
      && decide ((e :: []).length + ([] : List Keyword).length + (if ([] : List Keyword).isEmpty then 0 else 1) < 30)) = true := by rfl)
    (hline : (apos.endLine == cpos.line) = true := by rfl) (hs : starEach (e :: []) X.env = (false, eval e X.env) :: starEach [] X.env := by rfl) (hplain : (backTo cpos (starEach [] X.env)).any (·.1) = false := by rfl) :
    CE X w (.Call (.Attribute o "append" apos) (e :: []) [] cpos) (eApp δo δ) := by
  obtain ⟨to, p1, s1⟩ := ho
  obtain ⟨te, p2, s2⟩ := he
  refine ⟨_, pe_bm PySem.F.plainAttrs_list PySem.F.slot_list_append PySem.F.type_list_append mt_append p1 (pa_cons p2 pa_nil hs) hbase hfew hline hs hplain, fun ρ μ σ G H m en me Q q => ?_⟩
  refine s1 ρ μ σ G H m en me _ (Post.of_bind q fun l μ1 G1 H1 m1 _ st1 me1 q1 v rv => ?_)
  cases l with
  | d x => exact q1.elim
  | m h =>
    simp only at q1
    cases e1 : μ1[h]? with
    | none =>
      simp only [e1] at q1
      exact q1.elim
    | some o1 =>
      cases o1 with
      | frz xs =>
        simp only [e1] at q1
        exact q1.elim
      | dic xs =>
        simp only [e1] at q1
        exact q1.elim
      | fdc xs =>
        simp only [e1] at q1
        exact q1.elim
      | lst xs0 =>
        simp only [e1] at q1
        obtain ⟨ad, ha, rfl⟩ := rv
        obtain ⟨_, vs0, hv0, _⟩ := me1.at_ h ad _ ha e1
        refine ⟨.inl ⟨rfl, _, SqL.of hv0⟩, s2 ρ μ1 σ G1 H1 m1 (en.mono st1.gr) me1 _ (Post.of_bind q1 fun s μ2 G2 H2 m2 _ st2 me2 q2 u ru => ?_)⟩
        cases s with
        | m n => exact q2.elim
        | d x =>
          simp only at q2
          cases e2 : μ2[h]? with
          | none =>
            simp only [e2] at q2
            exact q2.elim
          | some o2 =>
            cases o2 with
            | frz xs =>
              simp only [e2] at q2
              exact q2.elim
            | dic xs =>
              simp only [e2] at q2
              exact q2.elim
            | fdc xs =>
              simp only [e2] at q2
              exact q2.elim
            | lst xs =>
              simp only [e2] at q2
              split at q2
              · rename_i hsm
                have ha2 := st2.gr.at_ ha
                obtain ⟨g0, vs, hv, dv⟩ := me2.at_ h ad _ ha2 e2
                obtain ⟨me3, st3⟩ := me2.put (vs := vs ++ [u]) (ys := xs ++ [x]) ha2 e2 (DqAll.append dv (.cons ru .nil))
                exact ⟨ad, vs, u, rfl, rfl, hv, by rw [DqAll.length dv]; exact small_lt hsm, q2 G2 _ m2 st3 me3 .non .non⟩
              · exact q2.elim
end

/-! ### defs -/
theorem start_env {K : PySem.W.Frag} {G : Hp} {m : List Addr} : ∀ {ss : List S} {vs : List V}, RpL K G m ss vs → ∀ (i : Nat) s, (ss.map some)[i]? = some (some s) → ∃ v, (vs.map some)[i]? = some (some v) ∧ RpS K G m s v
  | _, _, .nil, i, s, h => by simp at h
  | _, _, .cons r _, 0, s, h => by
    simp at h
    subst h
    exact ⟨_, rfl, r⟩
  | _, _, .cons _ t, i + 1, s, h => by
    obtain ⟨v, h1, h2⟩ := start_env t i s (by simpa using h)
    exact ⟨v, by simpa using h1, h2⟩
theorem start_ok {K : PySem.W.Frag} {G : Hp} {m : List Addr} {ss : List S} {vs : List V} {N : List Str} (r : RpL K G m ss vs) : EnvR K G m (ss.map some ++ List.replicate (N.length - ss.length) none) (L2.start N vs) := by
  have hl := r.length
  refine ⟨?_, fun i s h => ?_⟩
  · unfold L2.start
    rw [List.length_append, List.length_append, List.length_map, List.length_map, List.length_replicate, List.length_replicate, hl]
  · by_cases hi : i < (ss.map some).length
    · rw [List.getElem?_append_left hi] at h
      obtain ⟨v, h1, h2⟩ := start_env r i s h
      refine ⟨v, ?_, h2⟩
      unfold L2.start
      rw [List.getElem?_append_left (by rw [List.length_map] at hi ⊢; rw [← hl]; exact hi)]
      exact h1
    · rw [List.getElem?_append_right (by omega)] at h
      rw [List.getElem?_replicate] at h
      split at h <;> cases h
theorem MemR.cut {K : PySem.W.Frag} {G H G' H' : Hp} {m m' : List Addr} {μ' : Mem} (st : Stp G H m G' H' m') (me : MemR K G' H' m' μ') : MemR K G' H' m (μ'.take m.length) ∧ Stp G H m G' H' m := by
  obtain ⟨k, e⟩ := st.gr.pre
  subst e
  have hl := me.len
  rw [List.length_append] at hl
  refine ⟨⟨me.ex, by rw [List.length_take]; omega, (List.nodup_append.mp me.nd).1, fun i a o h1 h2 => ?_, me.tb.cut fun a h => List.mem_append_left _ h⟩, ⟨⟨st.gr.ex, [], by simp⟩, st.kp, st.th, fun a h n => absurd h n, st.gn⟩⟩
  obtain ⟨hi, _⟩ := List.getElem?_eq_some_iff.mp h1
  rw [List.getElem?_take_of_lt hi] at h2
  exact me.at_ i a o (by rw [List.getElem?_append_left hi]; exact h1) h2
/-- a list that is handed back is known from then on -/
theorem MemR.freeze {K : PySem.W.Frag} {G H G' H' : Hp} {m m' : List Addr} {μ' : Mem} {h : Nat} {ad : Addr} {xs : List PyData} (st : Stp G H m G' H' m') (me : MemR K G' H' m' μ') (hh : m.length ≤ h) (ha : m'[h]? = some ad) (hx : μ'[h]? = some (.lst xs)) :
    ∃ vs, MemR K (upd G' ad (.lst vs)) H' m (μ'.take m.length) ∧ Stp G H m (upd G' ad (.lst vs)) H' m ∧ Dq K (upd G' ad (.lst vs)) (.ref ad) (.list xs) := by
  obtain ⟨g0, vs, hv, dv⟩ := me.at_ h ad _ ha hx
  obtain ⟨mc, sc⟩ := MemR.cut st me
  have nm : ad ∉ m := fun z => by
    obtain ⟨j, hj⟩ := List.getElem?_of_mem z
    have hj' := st.gr.at_ hj
    obtain ⟨l1, _⟩ := List.getElem?_eq_some_iff.mp hj
    obtain ⟨h1, e1⟩ := List.getElem?_eq_some_iff.mp hj'
    obtain ⟨h2, e2⟩ := List.getElem?_eq_some_iff.mp ha
    have := (List.getElem_inj me.nd).mp (e1.trans e2.symm)
    omega
  refine ⟨vs, ⟨fun b u e => ?_, mc.len, mc.nd, fun i a o h1 h2 => ?_, mc.tb.lstG hv⟩, ⟨⟨st.gr.ex.trans (same_upd g0), [], by simp⟩, sc.kp, sc.th, sc.fr, fun b h1 h2 h3 => ?_⟩, dq_lst g0 dv⟩
  · by_cases hb : b = ad
    · subst hb
      rw [upd_same] at e
      cases e
      exact hv
    · rw [upd_ne hb] at e
      exact me.ex b u e
  · have hne : a ≠ ad := fun z => nm (z ▸ List.mem_of_getElem? h1)
    refine MO.mono (same_upd g0) (fun z => ?_) (fun u z => z) (mc.at_ i a o h1 h2)
    rw [upd_ne hne]
    exact MO.gn (mc.at_ i a _ h1 h2) z
  · have hne : b ≠ ad := fun z => by
      subst z
      have := st.fr b (List.mem_of_getElem? ha) nm
      exact h2 this
    rw [upd_ne hne]
    exact sc.gn b h1 h2 h3
theorem MemR.freeze0 {K : PySem.W.Frag} {G H G' H' : Hp} {m m' : List Addr} {μ' : Mem} {h : Nat} {ad : Addr} {xs : List PyData} (st : Stp G H m G' H' m') (me : MemR K G' H' m' μ') (ha : m'[h]? = some ad) (hx : μ'[h]? = some (.frz xs)) : Dq K G' (.ref ad) (.list xs) := by
  obtain ⟨vs, hv, dv⟩ := me.at_ h ad _ ha hx
  exact .lst hv dv
/-- a body does what its promise asks -/
theorem body_ok {P : Program} {w : World} {K : PySem.W.Frag} {mg : Str → Option Value} {base : Heap} {x : Str} {st : Stmt} {f : Addr} {N ps : List Str} {cx : Nat → Option Addr} {β : DS} {cdv : Value} {A : Around} {outer : List PySem.Env} {s : Shared} {H : Hp} {E : XK}
    (hb : CSs (cxOf (L2.CX P w) P w K mg base N x (defScope st) f cdv A outer s H E) ⟨true, fun cls d _ H => E cls d H, cx⟩ (defBody st) β) {vs : List V} {Q : VK} (h : spF K cx ps.length (callD ps.length N.length β) vs H Q E) :
    ∃ t, PSs (cxOf (L2.CX P w) P w K mg base N x (defScope st) f cdv A outer s H E) (defBody st) t ∧ t { nx := fun _ H' => Q .non H', rt := Q } (start N vs) H := by
  obtain ⟨G, m, μ, ss, h1, h2, me, q⟩ := h
  obtain ⟨t, p, sm⟩ := hb.ex
  have so := start_ok (N := N) h2
  rw [h1] at so
  refine ⟨t, p, sm _ μ _ G H m so me _ ?_⟩
  have hl : μ.length = m.length := me.len.symm
  unfold callD at q
  rw [if_pos h1] at q
  cases e : β (ss.map some ++ List.replicate (N.length - ps.length) none) μ with
  | nx ρ1 μ1 =>
    simp only [e, hl] at q
    intro σ' G' H' m' st' me' _
    obtain ⟨a1, a2⟩ := MemR.cut st' me'
    exact q .non G' H' a2 a1 .non
  | rt s1 μ1 =>
    simp only [e, hl] at q
    intro v G' H' m' st' me' r
    obtain ⟨a1, a2⟩ := MemR.cut st' me'
    cases s1 with
    | d y => exact q v G' H' a2 a1 r
    | m h =>
      obtain ⟨ad, ha, rfl⟩ := r
      unfold retF at q
      simp only at q
      split at q
      · rename_i hlt
        refine q _ G' H' a2 a1 ⟨ad, ?_, rfl⟩
        obtain ⟨kk, ek⟩ := st'.gr.pre
        rw [ek, List.getElem?_append_left hlt] at ha
        exact ha
      · rename_i hge
        cases e1 : μ1[h]? with
        | none =>
          simp only [e1] at q
          exact q.elim
        | some o1 =>
          cases o1 with
          | dic _ =>
            simp only [e1] at q
            exact q.elim
          | fdc _ =>
            simp only [e1] at q
            exact q.elim
          | lst xs =>
            simp only [e1] at q
            obtain ⟨vs', b1, b2, b3⟩ := MemR.freeze st' me' (by omega) ha e1
            exact q _ _ H' b2 b1 b3
          | frz xs =>
            simp only [e1] at q
            exact q _ G' H' a2 a1 (MemR.freeze0 st' me' ha e1)
  | bk ρ1 μ1 =>
    simp only [e] at q
    exact q.elim
  | ct ρ1 μ1 =>
    simp only [e] at q
    exact q.elim
  | err ee μ1 =>
    simp only [e, hl] at q
    refine ⟨rfl, fun cls d σ' G' H' m' st' me' er => ?_⟩
    obtain ⟨a1, a2⟩ := MemR.cut st' me'
    exact q cls d G' H' a2 a1 er
  | no =>
    simp only [e] at q
    exact q.elim
/-- THE RULE for a def: its body's meaning is its promise -/
theorem def_ok {P : Program} {w : World} {K : PySem.W.Frag} {mg : Str → Option Value} {base : Heap} {x : Str} {st : Stmt} {f : Addr} {fd : FuncData} {N ps : List Str} {k : Nat} {cx : Nat → Option Addr} {β : DS} (F : L2.Fun K x x st f fd) (Sc : FnScope N ps (defScope st))
    (hb : ∀ (cdv : Value) (A : Around) (outer : List PySem.Env) (s : Shared) (H : Hp) (E : XK), Room k (A.deeper (envOfC x (defScope st) s.heap.objs.size f cdv)) →
      CSs (cxOf (L2.CX P w) P w K mg base N x (defScope st) f cdv A outer s H E) ⟨true, fun cls d _ H => E cls d H, cx⟩ (defBody st) β) : FnOk P w K mg base (L2.CX P w) (k + 1) f fd ps (spF K cx ps.length (callD ps.length N.length β)) := by
  refine F.okX Sc (fun vs H Q E h => ?_) (fun cdv A outer s H vs Q E hr h => ?_)
  · obtain ⟨G, m, μ, ss, h1, h2, _⟩ := h
    rw [← h2.length]
    exact h1
  · exact body_ok (hb cdv A outer s H E hr) h
/-- .. where it stands -/
theorem def_mk {P : Program} {w : World} {K : PySem.W.Frag} {mg : Str → Option Value} {base : Heap} {x : Str} {st : Stmt} {f : Addr} {fd : FuncData} {N ps : List Str} {k : Nat} {cx : Nat → Option Addr} {β : DS} (F : L2.Fun K x x st f fd) (Sc : FnScope N ps (defScope st)) (hm : mg x = some (.ref f)) (hbd : SB fd ps)
    (hb : ∀ (cdv : Value) (A : Around) (outer : List PySem.Env) (s : Shared) (H : Hp) (E : XK), Room k (A.deeper (envOfC x (defScope st) s.heap.objs.size f cdv)) →
      CSs (cxOf (L2.CX P w) P w K mg base N x (defScope st) f cdv A outer s H E) ⟨true, fun cls d _ H => E cls d H, cx⟩ (defBody st) β) : Def P w K mg base cx x (k + 1) ps.length (callD ps.length N.length β) :=
  ⟨fun _ _ h => callD_no h, f, fd, ps, hm, F.kp, hbd, rfl, def_ok F Sc hb⟩
theorem Def.mono {P : Program} {w : World} {K : PySem.W.Frag} {mg : Str → Option Value} {base : Heap} {cx : Nat → Option Addr} {x : Str} {j k n : Nat} {F : Fn} (D : Def P w K mg base cx x j n F) (h : j ≤ k) : Def P w K mg base cx x k n F := by
  obtain ⟨h0, f, fd, ps, h1, h2, h3, h4, h5⟩ := D
  exact ⟨h0, f, fd, ps, h1, h2, h3, h4, h5.mono h⟩
/-- no call is allowed -/
theorem def_zero {P : Program} {w : World} {K : PySem.W.Frag} {mg : Str → Option Value} {base : Heap} {x : Str} {st : Stmt} {f : Addr} {fd : FuncData} {ps : List Str} {k : Nat} {cx : Nat → Option Addr} (F : L2.Fun K x x st f fd) (hm : mg x = some (.ref f)) (hbd : SB fd ps) :
    Def P w K mg base cx x k ps.length (fun _ _ => .no) :=
  ⟨fun _ _ _ => rfl, f, fd, ps, hm, F.kp, hbd, rfl, ⟨fun vs H Q E ⟨_, _, _, _, _, _, _, q⟩ => q.elim, fun A outer s H args us vs Q E _ _ _ _ ⟨_, _, _, _, _, _, _, q⟩ => q.elim⟩⟩
/-- what leaves a def's body is taken; a loop lets it pass -/
theorem tkOf {P : Program} {w : World} {K : PySem.W.Frag} {mg : Str → Option Value} {base : Heap} {N : List Str} {q : Str} {sc : Scope} {f : Addr} {cdv : Value} {A : Around} {outer : List PySem.Env} {s : Shared} {H : Hp} {E : XK} :
    Takes (cxOf (L2.CX P w) P w K mg base N q sc f cdv A outer s H E) (fun cls d _ H => E cls d H) := takes_of rfl rfl rfl rfl
theorem poOf {P : Program} {w : World} {K : PySem.W.Frag} {mg : Str → Option Value} {base : Heap} {N : List Str} {q : Str} {sc : Scope} {f : Addr} {cdv : Value} {A : Around} {outer : List PySem.Env} {s : Shared} {H : Hp} {E : XK} :
    PassesOwn (model (cxOf (L2.CX P w) P w K mg base N q sc f cdv A outer s H E).prog (cxOf (L2.CX P w) P w K mg base N q sc f cdv A outer s H E).w) (cxOf (L2.CX P w) P w K mg base N q sc f cdv A outer s H E).A (cxOf (L2.CX P w) P w K mg base N q sc f cdv A outer s H E).env (cxOf (L2.CX P w) P w K mg base N q sc f cdv A outer s H E).xe := passes_of rfl
end Bz
set_option Elab.async false
set_option linter.all false
set_option maxRecDepth 100000
set_option maxHeartbeats 2000000
/-! More rules: min of four, -a, dicts with written keys. -/
namespace PySem
open Sem (wp)
section
variable {prog : Program} {w : World} {A : Around} {E : Value → Shared → Prop} {s : Shared}
theorem F.args_min4 (a b c d : Value) : argsOk "min" ⟨[a, b, c, d], []⟩ := by unfold argsOk; kernel_rfl
theorem call_min_four {a b c d : Value} {Q : Value → Shared → Prop}
    (h : wpAny (model prog w) A.in1 (pyIter (.ref s.heap.objs.size)) (fun it s₂ => ∃ I fp wr n P St bt, it = .ref I ∧ Walks prog w A.in1 I fp wr n P St ∧ St 0 s₂.heap ∧ (∀ b ∈ fp, b < s₂.heap.objs.size) ∧ 0 < n ∧ CmpOf prog w A.in1 .Lt P bt ∧
      ∀ v h' tk, P (argBest bt (n - 1)) v → (∀ b o, b ∉ wr → s₂.heap.get? b = some o → h'.get? b = some o) → Q v { s₂ with heap := h', toks := tk }) E
      { s with heap := s.heap.push { cls := .type "tuple", data := .seq #[a, b, c, d] } }) :
    wpAny (model prog w) A (call (.builtin "min") [a, b, c, d]) Q E s := by
  have hname : (toString "min" ++ toString ".loop" : String) = "min.loop" := by decide
  refine call_function_tree F.kind_min F.plain_min F.entry_min (F.args_min4 _ _ _ _) ?_
  show wpAny _ A.in1 (Builtin.Builtins.bindParams "min" ["key", "default"] 0 ⟨[], []⟩ >>= _) _ _ s
  refine wpAny_bind (wpAny_of_eq (show Builtin.Builtins.bindParams "min" ["key", "default"] 0 ⟨[], []⟩ = pure [none, none] from rfl) ?_)
  show wpAny _ A.in1 (newTuple [a, b, c, d] >>= _) _ _ s
  refine wpAny_bind (wpAny_newObj_type ?_)
  refine wpAny_bind (wpAny_mono h (fun it s₂ h₂ => ?_) fun _ _ e => e)
  obtain ⟨I, fp, wr, n, P, St, bt, rfl, W, hst, hfp, hn, hcmp, hQ⟩ := h₂
  refine wpAny_bind (wpAny_newObj_type ?_)
  have hSf : s₂.heap.objs.size ∉ fp := fun hm => Nat.lt_irrefl _ (hfp _ hm)
  rw [hname]
  refine wpAny_pure ⟨plainId_quiet F.plain_min_loop _, codeAny_min_loop_first W bt hcmp s₂.heap.objs.size hSf hn (W.frame _ _ _ hst fun b _ o e => Heap.get?_push_of_some _ e) (Heap.get?_push_size _ rfl) fun v h' tk hP hk => ?_⟩
  exact hQ v h' tk hP fun b o hbw e => hk b o hbw (Nat.ne_of_lt (Heap.lt_size e)) (Heap.get?_push_of_some _ e)
def mnOf (f : Nat → Int) : Nat → Int
  | 0 => f 0
  | n + 1 => min (mnOf f n) (f (n + 1))
theorem argBest_min (f : Nat → Int) : ∀ n, f (argBest (fun i j => decide (f i < f j)) n) = mnOf f n
  | 0 => rfl
  | n + 1 => by
    have ih := argBest_min f n
    unfold argBest mnOf
    by_cases h : f (n + 1) < f (argBest (fun i j => decide (f i < f j)) n)
    · simp only [h, decide_true, if_true]
      omega
    · simp only [h, decide_false, Bool.false_eq_true, if_false]
      omega
theorem min_four_ints {a b c d : Int} {t u v x : Tok} {Q : Value → Shared → Prop} (hh : A.handled = none)
    (h : ∀ h' tk, (∀ c o, s.heap.get? c = some o → h'.get? c = some o) → ∀ t', Q (.int (min (min (min a b) c) d) t') { s with heap := h', toks := tk }) :
    wpAny (model prog w) A (call (.builtin "min") [.int a t, .int b u, .int c v, .int d x]) Q E s := by
  have hT : (s.heap.push { cls := .type "tuple", data := .seq #[.int a t, .int b u, .int c v, .int d x] }).IsTuple s.heap.objs.size (intItems #[(a, t), (b, u), (c, v), (d, x)]) := ⟨_, Heap.get?_push_size _ rfl, rfl, 0, by simp [intItems]⟩
  refine call_min_four (wpAny_pyIter_tuple hT ?_)
  have hsz : (s.heap.push { cls := .type "tuple", data := .seq #[.int a t, .int b u, .int c v, .int d x] }).objs.size = s.heap.objs.size + 1 := Heap.size_push ..
  refine ⟨_, [_, s.heap.objs.size], [_], _, _, _, _, rfl, Walks.tuple (A := A.in1) hh _ s.heap.objs.size (by rw [hsz]; exact Nat.ne_of_lt (Nat.lt_succ_self _)) (intItems #[(a, t), (b, u), (c, v), (d, x)]),
    ⟨⟨_, Heap.get?_push_size _ rfl, rfl, rfl⟩, hT.push _⟩, fun c hc => ?_, by simp [intItems], CmpOf.ints_lt (numAt #[(a, t), (b, u), (c, v), (d, x)]) (fun _ _ => intItems_at), fun y h' tk hP hk => ?_⟩
  · show c < ((s.heap.push _).push _).objs.size
    rw [Heap.size_push, hsz]
    rcases List.mem_cons.mp hc with rfl | hc
    · rw [hsz]; exact Nat.lt_succ_self _
    · rcases List.mem_cons.mp hc with rfl | hc
      · exact Nat.lt_succ_of_lt (Nat.lt_succ_self _)
      · cases hc
  · have hold : ∀ c o, s.heap.get? c = some o → h'.get? c = some o := fun c o e => by
      refine hk c o (fun hm => ?_) (Heap.get?_push_of_some _ (Heap.get?_push_of_some _ e))
      rcases List.mem_cons.mp hm with e1 | hm
      · have := Heap.lt_size e; rw [e1, hsz] at this; exact Nat.lt_irrefl _ (Nat.lt_of_succ_lt this)
      · cases hm
    have hq := h h' tk hold
    obtain ⟨t', e⟩ := intItems_at hP
    rw [argBest_min (numAt #[(a, t), (b, u), (c, v), (d, x)])] at e
    have hsz2 : (intItems #[(a, t), (b, u), (c, v), (d, x)]).size - 1 = 3 := by simp [intItems]
    rw [hsz2] at e
    have e2 : mnOf (numAt #[(a, t), (b, u), (c, v), (d, x)]) 3 = min (min (min a b) c) d := rfl
    rw [e2] at e
    rw [e]; exact hq t'
end
end PySem

namespace Bz
open PySem PySem.Spec PyProof.Rows L2
variable [Wd]
section
variable {X : Cx} {w : Wish} {e a b c : Expr} {es : List Expr} {δ δa δb δc δo δk δz : DE} {δs : DA} {π : DP} {pos : Pos}
theorem ce_un {op : UnaryOp} {r : V → Hp → VK → Prop} {f : PyData → Option PyData} (ho : UnR X (unaryOp op) r) (hr : UnD X.K r f) (ha : CE X w a δa) : CE X w (.UnaryOp op a pos) (eUn f δa) := by
  obtain ⟨ta, p1, s1⟩ := ha
  refine ⟨_, pe_un ho p1, fun ρ μ σ G H m en me Q q => ?_⟩
  refine s1 ρ μ σ G H m en me _ (Post.of_bind q fun x μ1 G1 H1 m1 _ st1 me1 q1 v rv => ?_)
  cases e1 : rd μ1 x with
  | none =>
    simp only [e1] at q1
    exact q1.elim
  | some u1 =>
    simp only [e1] at q1
    obtain ⟨z, hz, k⟩ := fin2 q1
    exact hr G1 H1 m1 μ1 x v u1 z me1 e1 rv hz Q k
theorem negD {K : PySem.W.Frag} : UnD K (rU fun i => .int (-i)) fNeg := by
  intro G H m μ x v a z me ra rx hf Q q
  unfold fNeg at hf
  split at hf
  · cases hf
    exact ⟨_, rd_int me ra rx, hereD me (.int _) q⟩
  · cases hf

/-! ### min of two, of four; min, max, sorted of data -/
theorem depthAll_le {n : Nat} : ∀ ds : List PyData, (∀ d ∈ ds, d.depth ≤ n) → PyData.depthAll ds ≤ n
  | [], _ => by simp [PyData.depthAll]
  | d :: ds, h => by
    have h1 := h d List.mem_cons_self
    have h2 := depthAll_le ds fun e he => h e (List.mem_cons_of_mem _ he)
    simp only [PyData.depthAll]
    omega
theorem canAll_of : ∀ ds : List PyData, (∀ d ∈ ds, d.canLay0 = true) → PyData.canLayAll0 ds = true
  | [], _ => rfl
  | d :: ds, h => by
    rw [PyData.canLayAll0, h d List.mem_cons_self, canAll_of ds fun e he => h e (List.mem_cons_of_mem _ he)]
    rfl
theorem alikeAt_of {xs : List PyData} (h : alikeAt xs = true) : (∀ x ∈ xs, x.canLay0 = true) ∧ (∀ x ∈ xs, x.depth ≤ 30) ∧ ∀ x ∈ xs, ∀ y ∈ xs, PySem.W.alike x y = true := by
  unfold alikeAt at h
  rw [List.all_eq_true] at h
  refine ⟨fun x hx => ?_, fun x hx => ?_, fun x hx y hy => ?_⟩
  all_goals
    have q := h x hx
    rw [Bool.and_eq_true, Bool.and_eq_true, decide_eq_true_iff, List.all_eq_true] at q
  · exact q.1.1
  · exact q.1.2
  · exact q.2 y hy
theorem notNone_of {xs : List PyData} (h : xs.all (fun x => !isNone x) = true) : ∀ x ∈ xs, x ≠ .none := fun x hx z => by
  have := List.all_eq_true.mp h x hx
  rw [z] at this
  cases this
/-- the first of the least, of the greatest -/
def rPick (K : PySem.W.Frag) (f : PyData → List PyData → PyData) (tup : Bool) : List V → Hp → VK → Prop := fun vs H Q => ∃ (a : Addr) (us : List V) (x : PyData) (xs : List PyData), vs = [.ref a] ∧ (if tup then SqT K H a us else SqL K H a us) ∧ DqAll K H us (x :: xs) ∧ alikeAt (x :: xs) = true ∧ (∀ y ∈ x :: xs, y ≠ .none) ∧
  ∀ (i : Nat) v, us[i]? = some v → (x :: xs)[i]? = some (f x xs) → Q v H
theorem pick_fin {pins : List (Addr × Obj)} {σ : St} {H : Hp} {s : Shared} {Q : VK} {us : List V} {its : List Value} {ds : List PyData} {z : PyData} (I : Inv X pins σ H s) (rv : Vals us its) (d : DqAll X.K H us ds) (hc : ∀ y ∈ ds, y.canLay0 = true) (q : ∀ (i : Nat) v, us[i]? = some v → ds[i]? = some z → Q v H)
    (i : Nat) (v : Value) (h' : Heap) (tk : Nat) (bs : List Addr) (hv : its.toArray[i]? = some v) (hr : Reads h' v z bs) (kp : ∀ b o, s.heap.get? b = some o → h'.get? b = some o) : EP X pins σ Q v { s with heap := h', toks := tk } := by
  have hv' : its[i]? = some v := by simpa using hv
  have hl := rv.length
  have hl2 := DqAll.length d
  have lt : i < ds.length := by
    have := (List.getElem?_eq_some_iff.mp hv').1
    omega
  obtain ⟨u, h1, h2⟩ := DqAll.get d (List.getElem?_eq_getElem lt)
  obtain ⟨u', h3, h4⟩ := rv.get h1
  rw [hv'] at h3
  cases h3
  have I2 : Inv X pins σ H { s with heap := h', toks := tk } := I.kept kp
  obtain ⟨as, r1⟩ := Dp.reads I2 _ u v (Dq.dp _ _ (hc _ (List.getElem_mem lt)) h2) h4
  have e := (PySem.Reads.unique r1 _ _ hr).1
  exact ⟨u, H, I2, h4, q i u h1 (by rw [List.getElem?_eq_getElem lt, e])⟩
theorem pick_room {A : Around} {ds : List PyData} (hu : A.units + 100 < cLine) (h : ∀ x ∈ ds, x.depth ≤ 30) : A.units + 1 + PyData.depthAll ds < cLine := by
  have := depthAll_le ds h
  omega
theorem call_minDat (hc : X.calm = true) (hu : X.A.units + 100 < cLine) : CallR X (.builtin "min") (rPick X.K PySem.W.minD false) := by
  intro pins s σ H vs us Q I r h
  obtain ⟨a, ws, x, xs, rfl, hs, d, al, nn, q⟩ := h
  rw [Vals.ref1 r]
  obtain ⟨a1, a2, a3⟩ := alikeAt_of al
  obtain ⟨its, rv, pl, hz⟩ := I.list (show SqL X.K H a ws from hs)
  obtain ⟨as, ra⟩ := Dp.readsAll I _ _ _ (DqAll.dp _ _ (canAll_of _ a1) d) rv
  exact PySem.W.min_list_data (I.ok.hd hc) pl.isList (by simpa using ra) ⟨a3, nn⟩ (pick_room hu a2) fun i v h' tk bs hv hr kp => pick_fin I rv d a1 q i v h' tk bs hv hr kp
theorem call_maxDat (hc : X.calm = true) (hu : X.A.units + 100 < cLine) : CallR X (.builtin "max") (rPick X.K PySem.W.maxD true) := by
  intro pins s σ H vs us Q I r h
  obtain ⟨a, ws, x, xs, rfl, hs, d, al, nn, q⟩ := h
  rw [Vals.ref1 r]
  obtain ⟨a1, a2, a3⟩ := alikeAt_of al
  obtain ⟨its, rv, ⟨o, g1, g2, g3⟩, hz⟩ := I.tuple (show SqT X.K H a ws from hs)
  obtain ⟨as, ra⟩ := Dp.readsAll I _ _ _ (DqAll.dp _ _ (canAll_of _ a1) d) rv
  exact PySem.W.max_tuple_data (I.ok.hd hc) ⟨o, g1, g2, g3⟩ (by simpa using ra) ⟨a3, nn⟩ (pick_room hu a2) fun i v h' tk bs hv hr kp => pick_fin I rv d a1 q i v h' tk bs hv hr kp
/-- sorted(xs) of tuples of data -/
def rSortDat (K : PySem.W.Frag) : List V → Hp → VK → Prop := fun vs H Q => ∃ (a : Addr) (us : List V) (ds : List PyData) (G : Hp), vs = [.ref a] ∧ SqL K H a us ∧ Same G H ∧ DqAll K G us ds ∧ ds.length ≤ sizeLine ∧ alikeAt ds = true ∧ ds.all isTupC = true ∧
  ∀ (p : Addr) (zs : List V), DqAll K G zs (ds.mergeSort dLe) → H p = none → Q (.ref p) (upd H p (.lst zs))
theorem each_zip {K : PySem.W.Frag} {H : Hp} : ∀ {us : List V} {its : List Value} {ds : List PyData}, Vals us its → DqAll K H us ds → PySem.W.EachIs (fun v (b : V × PyData) => RelV b.1 v ∧ Dq K H b.1 b.2) its (us.zip ds)
  | _, _, _, .nil, .nil => .nil
  | _, _, _, .cons r rs, .cons d ds => .cons ⟨r, d⟩ (each_zip rs ds)
theorem zip_snd {K : PySem.W.Frag} {H : Hp} : ∀ {us : List V} {ds : List PyData}, DqAll K H us ds → (us.zip ds).map (·.2) = ds
  | _, _, .nil => rfl
  | _, _, .cons _ t => by rw [List.zip_cons_cons, List.map_cons, zip_snd t]
theorem each_vals {K : PySem.W.Frag} {H : Hp} : ∀ {its : List Value} {bs : List (V × PyData)}, PySem.W.EachIs (fun v (b : V × PyData) => RelV b.1 v ∧ Dq K H b.1 b.2) its bs → Vals (bs.map (·.1)) its ∧ DqAll K H (bs.map (·.1)) (bs.map (·.2))
  | _, _, .nil => ⟨.nil, .nil⟩
  | _, _, .cons r t => ⟨.cons r.1 (each_vals t).1, .cons r.2 (each_vals t).2⟩
theorem each_reads {pins : List (Addr × Obj)} {σ : St} {H : Hp} {s : Shared} (I : Inv X pins σ H s) : ∀ {us : List V} {its : List Value} {ds : List PyData}, Vals us its → DqAll X.K H us ds → (∀ e ∈ ds, e.canLay0 = true) → PySem.W.EachIs (fun v (b : V × PyData) => ∃ as, Reads s.heap v b.2 as) its (us.zip ds)
  | _, _, _, .nil, .nil, _ => .nil
  | _, _, _, .cons r rs, .cons d ds, hc => .cons (Dp.reads I _ _ _ (Dq.dp _ _ (hc _ List.mem_cons_self) d) r) (each_reads I rs ds fun e he => hc e (List.mem_cons_of_mem _ he))
theorem call_sortDat (hu : X.A.units + 100 < cLine) : CallR X (.builtin "sorted") (rSortDat X.K) := by
  intro pins s σ H vs us Q I r h
  obtain ⟨a, ws, ds, G, rfl, hs, ex, d, hz, al, tc, q⟩ := h
  rw [Vals.ref1 r]
  obtain ⟨a1, a2, a3⟩ := alikeAt_of al
  obtain ⟨its, rv, pl, _⟩ := I.list hs
  have ez := each_zip rv d
  have eds := zip_snd d
  have lz : (ws.zip ds).length = ds.length := by rw [List.length_zip, DqAll.length d, Nat.min_self]
  have er : PySem.W.EachIs (fun v (b : V × PyData) => ∃ as, Reads s.heap v b.2 as) its (ws.zip ds) := by
    exact each_reads I rv (DqAll.mono ex _ _ d) a1
  have sb : PySem.W.Sortable ((ws.zip ds).map fun b : V × PyData => b.2) := by
    rw [eds]
    refine .inl fun e he => ?_
    have := List.all_eq_true.mp tc e he
    unfold isTupC at this
    split at this
    · exact ⟨_, _, rfl⟩
    · cases this
  have aa : PySem.W.AllAlike ((ws.zip ds).map fun b : V × PyData => b.2) := by
    rw [eds]
    exact a3
  refine PySem.W.sorted_data (enc := fun b : V × PyData => b.2) pl.isList ez er aa sb (by rw [lz]; exact hz) (fun b hb => ?_) fun out ho eo => ?_
  · have := a2 b.2 (eds ▸ List.mem_map_of_mem (f := fun b : V × PyData => b.2) hb)
    omega
  · obtain ⟨v1, v2⟩ := each_vals eo
    have em : ((ws.zip ds).mergeSort (PySem.W.dataLe false fun b : V × PyData => b.2)).map (·.2) = ds.mergeSort dLe :=
      (List.map_mergeSort (r := PySem.W.dataLe false fun b : V × PyData => b.2) (s := dLe) (f := fun b : V × PyData => b.2) (fun x _ y _ => rfl)).trans (by rw [eds])
    rw [em] at v2
    obtain ⟨ep, he'⟩ := PyProof.Rows.sortedAll_at s.heap its out.toArray
    refine ⟨.ref (s.heap.objs.size + 1), upd H (s.heap.objs.size + 1) (.lst (((ws.zip ds).mergeSort (PySem.W.dataLe false fun b : V × PyData => b.2)).map (·.1))), I.laid (t' := s.toks) (fun _ _ => PyProof.Rows.sortedAll_old) (Nat.le_succ _) ⟨?_, out, ep, v1, he'⟩, rfl, q _ _ v2 (I.hok.fresh (Nat.le_succ _))⟩
    rw [List.length_map, (List.mergeSort_perm _ _).length_eq, lz]
    exact hz
def rMinD (K : PySem.W.Frag) : List V → Hp → VK → Prop := fun xs H Q => (∃ i j, xs = [.int i, .int j] ∧ Q (.int (if j < i then j else i)) H) ∨ (∃ i j k l, xs = [.int i, .int j, .int k, .int l] ∧ Q (.int (min4 i j k l)) H) ∨ rPick K PySem.W.minD false xs H Q
theorem call_minD (hc : X.calm = true) (hu : X.A.units + 100 < cLine) : CallR X (.builtin "min") (rMinD X.K) := by
  intro pins s σ H xs us Q I r h
  rcases h with h | ⟨i, j, k, l, rfl, q⟩ | h
  · exact call_min2 hc pins s σ H xs us Q I r h
  · cases r with
    | cons r1 r =>
      cases r with
      | cons r2 r =>
        cases r with
        | cons r3 r =>
          cases r with
          | cons r4 r =>
            cases r
            obtain ⟨t1, rfl⟩ := r1
            obtain ⟨t2, rfl⟩ := r2
            obtain ⟨t3, rfl⟩ := r3
            obtain ⟨t4, rfl⟩ := r4
            exact min_four_ints (I.ok.hd hc) fun h' tk kp t' => ⟨.int (min4 i j k l), H, I.kept kp, ⟨t', rfl⟩, q⟩
  · exact call_minDat hc hu pins s σ H xs us Q I r h
theorem rdL_vals {K : PySem.W.Frag} {G H : Hp} {m : List Addr} {μ : Mem} (me : MemR K G H m μ) {xs : List Bz.S} {vs : List V} {as : List PyData} (h : rdL μ xs = some as) (r : RpL K G m xs vs) : DqAll K H vs as := by
  induction r generalizing as with
  | nil =>
    cases h
    exact .nil
  | @cons s v ss vs r t ih =>
    unfold rdL at h
    cases e : rd μ s with
    | none => rw [e] at h; cases h
    | some x =>
      rw [e] at h
      cases e2 : rdL μ ss with
      | none => rw [e2] at h; cases h
      | some ys =>
        rw [e2] at h
        cases h
        exact .cons (rd_dq me e r) (ih e2)
theorem minD {K : PySem.W.Frag} : CbD K (rMinD K) bMin := by
  intro G H m μ xs vs as z me ra rx hf Q q
  have d := rdL_vals me ra rx
  unfold bMin at hf
  split at hf
  · cases hf
    cases d with
    | cons d1 d =>
      cases d with
      | cons d2 d =>
        cases d
        cases d1
        cases d2
        exact .inl ⟨_, _, rfl, hereD me (.int _) q⟩
  · cases hf
    cases d with
    | cons d1 d =>
      cases d with
      | cons d2 d =>
        cases d with
        | cons d3 d =>
          cases d with
          | cons d4 d =>
            cases d
            cases d1
            cases d2
            cases d3
            cases d4
            exact .inr (.inl ⟨_, _, _, _, rfl, hereD me (.int _) q⟩)
  · rename_i ds
    obtain ⟨s, v, rfl, rfl, h1, h2⟩ := RpL.one ra rx
    obtain ⟨a1, v1, rfl, s1, d1⟩ := rd_list me h1 h2
    unfold bMinD at hf
    split at hf
    · split at hf
      · rename_i x xs hc
        rw [Bool.and_eq_true, Bool.and_eq_true] at hc
        cases hf
        refine .inr (.inr ⟨a1, v1, x, xs, rfl, SqL.of s1, DqAll.mono me.ex _ _ d1, hc.1.2, notNone_of hc.2, fun i v hv hx => ?_⟩)
        obtain ⟨v', e1, e2⟩ := DqAll.get d1 hx
        rw [hv] at e1
        cases e1
        exact hereD me e2 q
      · cases hf
    · cases hf
  · cases hf
theorem maxDD {K : PySem.W.Frag} : CbD K (rPick K PySem.W.maxD true) bMax := by
  intro G H m μ xs vs as z me ra rx hf Q q
  unfold bMax at hf
  split at hf
  · rename_i ds
    obtain ⟨s, v, rfl, rfl, h1, h2⟩ := RpL.one ra rx
    obtain ⟨a1, v1, rfl, s1, d1⟩ := rd_tup me h1 h2
    unfold bMaxD at hf
    split at hf
    · split at hf
      · rename_i x xs hc
        rw [Bool.and_eq_true, Bool.and_eq_true] at hc
        cases hf
        refine ⟨a1, v1, x, xs, rfl, s1, DqAll.mono me.ex _ _ d1, hc.1.2, notNone_of hc.2, fun i v hv hx => ?_⟩
        obtain ⟨v', e1, e2⟩ := DqAll.get d1 hx
        rw [hv] at e1
        cases e1
        exact hereD me e2 q
      · cases hf
    · cases hf
  · cases hf



/-! ### dicts that are not changed -/
structure CP (X : Cx) (w : Wish) (pos : Pos) (ks : List (Option Expr)) (vs : List Expr) (π : DP) : Prop where
  ex : ∃ trs, PPs X pos ks vs trs ∧ ∀ ρ μ σ G H m, EnvR X.K G m ρ σ → MemR X.K G H m μ → ∀ Q : List (V × V) → Hp → Prop,
    Post X.K w σ G H m (π ρ μ) (fun kvs G' H' _ => ∀ vk : List (Key × V), vk.map (·.1) = kvs.map (·.1) → DqKv X.K G' vk (kvs.map fun p => (kD p.1, p.2)) → Q (vk.map fun p => (kV p.1, p.2)) H') → tPairs trs σ H Q
theorem cp_nil : CP X w pos [] [] pNil := ⟨[], pps_nil, fun ρ μ σ G H m en me Q q => q G H m Stp.refl me [] rfl .nil⟩
theorem kOf_V {K : PySem.W.Frag} {H : Hp} {x : PyData} {k : Key} {v : V} (h : kOf x = some k) (r : Dq K H v x) : v = kV k := by
  cases r <;> cases h <;> rfl
theorem cp_cons {k v : Expr} {ks : List (Option Expr)} {vs : List Expr} (hk : CE X w k δk) (hv : CE X w v δ) (hr : CP X w pos ks vs π) : CP X w pos (some k :: ks) (v :: vs) (pCons δk δ π) := by
  obtain ⟨t1, p1, s1⟩ := hk
  obtain ⟨t2, p2, s2⟩ := hv
  obtain ⟨t3, p3, s3⟩ := hr
  refine ⟨_, pps_cons p1 p2 p3, fun ρ μ σ G H m en me Q q => ?_⟩
  refine s1 ρ μ σ G H m en me _ (Post.of_bind q fun x μ1 G1 H1 m1 _ st1 me1 q1 u ru => ?_)
  refine s2 ρ μ1 σ G1 H1 m1 (en.mono st1.gr) me1 _ (Post.of_bind q1 fun y μ2 G2 H2 m2 _ st2 me2 q2 u2 ru2 => ?_)
  refine s3 ρ μ2 σ G2 H2 m2 ((en.mono st1.gr).mono st2.gr) me2 _ (Post.of_bind q2 fun kvs μ3 G3 H3 m3 _ st3 me3 q3 vk e1 dk => ?_)
  split at q3
  · rename_i x1 y1 _ _
    cases e2 : kOf x1 with
    | none =>
      simp only [e2] at q3
      exact q3.elim
    | some kk =>
      simp only [e2] at q3
      have hu := kOf_V e2 ru
      subst hu
      exact q3 G3 H3 m3 Stp.refl me3 ((kk, u2) :: vk) (by rw [List.map_cons, List.map_cons, e1]) (.cons (Dq.mono st3.gr.ex _ _ ru2) dk)
  · exact q3.elim
theorem merge_self : ∀ (more acc : List (Key × V)), ((acc ++ more).map (·.1)).Nodup → mergeK acc more = acc ++ more
  | [], acc, _ => by rw [List.append_nil]; rfl
  | p :: more, acc, h => by
    have e : mergeK acc (p :: more) = mergeK (putK acc p.1 p.2) more := rfl
    have hn : (acc.any fun kv => decide (kv.1 = p.1)) = false := by
      rw [List.any_eq_false]
      intro kv hkv
      simp only [decide_eq_true_eq]
      intro z
      rw [List.map_append, List.map_cons, List.nodup_append] at h
      exact h.2.2 kv.1 (List.mem_map_of_mem hkv) p.1 (by simp) z
    have e2 : putK acc p.1 p.2 = acc ++ [p] := by
      unfold putK
      rw [hn, if_neg Bool.false_ne_true]
    rw [e, e2, merge_self more (acc ++ [p]) (by rw [List.append_assoc]; exact h), List.append_assoc]
    rfl
theorem ce_dict {keys : List (Option Expr)} {values : List Expr} (h : CP X w pos keys values π) (hall : keys.all (·.isSome) = true := by rfl) (hl : keys.length = values.length := by rfl) (h0 : keys ≠ [] := by exact (fun z => by cases z)) (h15 : keys.length ≤ 15 := by decide) : CE X w (.Dict keys values pos) (eDict π) := by
  obtain ⟨trs, p1, s1⟩ := h
  refine ⟨_, pe_disp p1 hall hl h0 h15, fun ρ μ σ G H m en me Q q p hp => ?_⟩
  obtain ⟨g0, nm⟩ := me.dead hp
  have me0 : MemR X.K G (upd H p (.dK [])) m μ := by
    refine ⟨same_upd2 me.ex g0, me.len, me.nd, fun i a o h1 h2 => ?_, me.tb.new hp⟩
    have ha : a ≠ p := fun z => nm (z ▸ List.mem_of_getElem? h1)
    refine MO.mono (Same.refl _) (fun z => ?_) (fun u z => ?_) (me.at_ i a o h1 h2)
    · exact MO.gn (me.at_ i a _ h1 h2) z
    · rw [upd_ne ha]
      exact z
  have st0 : Stp G H m G (upd H p (.dK [])) m := ⟨Gr.refl, fun b u e _ _ => by rw [upd_ne (ne_of_none e hp)]; exact e, fun b e _ => upd_th e, fun a h n => absurd h n, fun _ e _ _ => e⟩
  refine s1 ρ μ σ G _ m en me0 _ ?_
  unfold eDict at q
  cases e0 : π ρ μ with
  | no =>
    rw [e0] at q
    exact q
  | err ee μe =>
    rw [e0] at q
    exact ErrP.mono st0 q
  | ok kvs μ1 =>
    rw [e0] at q
    intro G1 H1 m1 st1 me1 vk e1 dk
    simp only [R.bind] at q
    split at q
    · rename_i hc
      rw [Bool.and_eq_true, decide_eq_true_iff, decide_eq_true_iff] at hc
      have stO := st0.trans st1
      have hD : H1 p = some (.dK []) := st1.kp p _ upd_same nm (fun _ z => nomatch z)
      have hG1 : G1 p = none := st1.gn p g0 (by rw [upd_same]; intro z; cases z) nm
      have nm1 : p ∉ m1 := fun z => by
        have := st1.fr p z nm
        rw [upd_same] at this
        cases this
      refine ⟨hD, vk, rfl, by have := congrArg List.length e1; rw [List.length_map, List.length_map] at this; omega, ?_⟩
      have em : mergeK [] vk = vk := by
        have := merge_self vk [] (by rw [List.nil_append, e1]; exact hc.1)
        rw [List.nil_append] at this
        exact this
      rw [em]
      refine q (upd G1 p (.dK vk)) _ m1 ⟨⟨stO.gr.ex.trans (same_upd hG1), stO.gr.pre⟩, fun b u e n t => ?_, fun b e n => upd_th (stO.th b e n), stO.fr, fun b h1 h2 h3 => ?_⟩ ⟨fun b u e => ?_, me1.len, me1.nd, fun i a o h1 h2 => ?_, me1.tb.dK hD⟩ _ (.dct upd_same (DqKv.mono (same_upd hG1) _ _ dk))
      · rw [upd_ne (ne_of_none e hp)]
        exact stO.kp b u e n t
      · rw [upd_ne (fun z => h2 (by rw [z]; exact hp))]
        exact stO.gn b h1 h2 h3
      · by_cases hb : b = p
        · subst hb
          rw [upd_same] at e ⊢
          exact e
        · rw [upd_ne hb] at e ⊢
          exact me1.ex b u e
      · have ha : a ≠ p := fun z => nm1 (z ▸ List.mem_of_getElem? h1)
        refine MO.mono (same_upd hG1) (fun z => ?_) (fun u z => ?_) (me1.at_ i a o h1 h2)
        · rw [upd_ne ha]
          exact MO.gn (me1.at_ i a _ h1 h2) z
        · rw [upd_ne ha]
          exact z
    · exact q.elim
theorem kD_inj {a b : Key} (h : kOf (kD a) = some b) : a = b := by
  cases a <;> (cases h; rfl)
theorem kOf_kD (a : Key) : kOf (kD a) = some a := by cases a <;> rfl
theorem look_get {K : PySem.W.Frag} {H : Hp} : ∀ {vk : List (Key × V)} {ds : List (PyData × PyData)} {k : Key}, DqKv K H vk ds → (∀ d, lookK ds k = some d → ∃ v, valV vk k = some v ∧ Dq K H v d) ∧ (lookK ds k = none → valV vk k = none)
  | _, _, k, .nil => ⟨fun d h => (by cases h), fun _ => rfl⟩
  | _, _, k, .cons (k := q) (v := v) (d := d) r t => by
    obtain ⟨i1, i2⟩ := look_get (k := k) t
    unfold lookK
    rw [kOf_kD]
    by_cases h : q = k
    · subst h
      rw [if_pos rfl]
      exact ⟨fun d' e => (by cases e; exact ⟨v, valV_pos rfl, r⟩), fun e => (by cases e)⟩
    · rw [if_neg (fun z => h (Option.some.inj z)), valV_neg h]
      exact ⟨i1, i2⟩
theorem ce_get2 {o k z : Expr} {apos cpos : Pos} (hu : X.A.units + 100 < cLine) (ho : CE X w o δo) (hk : CE X w k δk) (hz : CE X w z δz) (m : M2 X o "get" apos k z cpos := by exact ⟨rfl, rfl, rfl, rfl⟩) : CE X w (.Call (.Attribute o "get" apos) [k, z] [] cpos) (eGet2 δo δk δz) := by
  obtain ⟨t1, p1, s1⟩ := ho
  obtain ⟨t2, p2, s2⟩ := hk
  obtain ⟨t3, p3, s3⟩ := hz
  refine ⟨_, pe_dget2 (by omega) p1 p2 p3 m, fun ρ μ σ G H m en me Q q => ?_⟩
  refine s1 ρ μ σ G H m en me _ (Post.of_bind q fun x μ1 G1 H1 m1 _ st1 me1 q1 u ru => ?_)
  split at q1
  · split at q1
    · rename_i kvs _ hd
      cases ru with
      | scr h1 => cases hd
      | dct h1 h2 =>
        rename_i ad vk
        refine ⟨ad, rfl, .inl ⟨vk, .inl (me1.ex _ _ h1)⟩, ?_⟩
        refine s2 ρ μ1 σ G1 H1 m1 (en.mono st1.gr) me1 _ (Post.of_bind q1 fun y μ2 G2 H2 m2 _ st2 me2 q2 u2 ru2 => ?_)
        refine s3 ρ μ2 σ G2 H2 m2 ((en.mono st1.gr).mono st2.gr) me2 _ (Post.of_bind q2 fun y3 μ3 G3 H3 m3 _ st3 me3 q3 u3 ru3 => ?_)
        split at q3
        · rename_i x1 y1 _ _
          cases e2 : kOf x1 with
          | none =>
            simp only [e2] at q3
            exact q3.elim
          | some kk =>
            simp only [e2] at q3
            have hu2 := kOf_V e2 ru2
            subst hu2
            have hH : H3 ad = some (.dK vk) := me3.ex _ _ ((st2.trans st3).gr.ex _ _ h1)
            have dk := DqKv.mono (st2.trans st3).gr.ex _ _ h2
            refine ⟨_, DGet.k hH, ?_⟩
            obtain ⟨i1, i2⟩ := look_get (k := kk) dk
            cases e3 : lookK kvs kk with
            | none =>
              rw [i2 e3]
              rw [e3] at q3
              exact q3 G3 H3 m3 Stp.refl me3 _ ru3
            | some d =>
              obtain ⟨v, h3, h4⟩ := i1 d e3
              rw [h3]
              rw [e3] at q3
              exact q3 G3 H3 m3 Stp.refl me3 _ h4
        · exact q3.elim
    · exact q1.elim
  · exact q1.elim
end
end Bz

/-! ### what a printed walk leans on -/
namespace Bz
open PySem PySem.Spec PyProof.Rows L2
section
variable [Wd]
theorem gSeq_len : ∀ {gs : List DG} {xs : List PyData} {ρ ρ1 : Env}, gSeq gs xs ρ = some ρ1 → xs.length = gs.length
  | [], [], _, _, _ => rfl
  | [], _ :: _, _, _, h => by cases h
  | _ :: _, [], _, _, h => by cases h
  | g :: gs, x :: xs, ρ, ρ1, h => by
    unfold gSeq at h
    split at h
    · rw [List.length_cons, List.length_cons, gSeq_len h]
    · cases h
theorem cg_lst {X : Cx} {es : List Expr} {pos : Pos} {is : List Nat} {k : Nat} {gs : List DG} (hc : X.calm = true) (h : CGs X is es gs) (hn : (assignEach es X.env).length = gs.length := by rfl) (hst : (assignEach es X.env).findIdx? (·.1) = none := by rfl) : CG X is (.Tuple es k pos) (gLs gs) := by
  obtain ⟨g, p1, s1⟩ := h
  refine ⟨_, pg_unl (n := gs.length) hc p1 hn hst, fun s ρ ρ1 σ G H m μ v h en me r Q q => ?_⟩
  unfold gLs at h
  split at h
  · rename_i xs
    cases r with
    | lst h1 h2 => exact ⟨_, _, rfl, SqL.of (me.ex _ _ h1), by rw [DqAll.length h2]; exact gSeq_len h, s1 xs ρ ρ1 σ G H m μ _ h en me h2 Q q⟩
  · cases h
/-- a def of the text, where it stands -/
structure At (K : PySem.W.Frag) (mg : Str → Option Value) (x : Str) (st : Stmt) (ps : List Str) : Prop where
  ex : ∃ f fd, L2.Fun K x x st f fd ∧ mg x = some (.ref f) ∧ SB fd ps
theorem at_mk {K : PySem.W.Frag} {h : Heap} {mg : Str → Option Value} (X : K.In h) (G : h.Ns mainGlobals mg) {x : Str} {st : Stmt} {ps : List Str} {f : Addr} {od an : Option Addr} {sl : Array (Option Value)} {oc kV doc pm cdv ct : Value}
    (a : PySem.W.nsIn K mainGlobals x = some (some (.ref f))) (l : K.lookup f = some ⟨oc, od, .func (PySem.W.fnOf x x (defArgs st) (defBody st) (defScope st) .none kV doc pm an cdv ct), sl⟩) (c : PySem.W.codeIn K cdv x = true) (k : PySem.W.keepIn K (.ref f) = true)
    (hb : ∀ (kV doc pm : Value) (an : Option Addr) (cdv ct : Value) (us : List Value), us.length = ps.length → bindArgs (PySem.W.fnOf x x (defArgs st) (defBody st) (defScope st) .none kV doc pm an cdv ct) ⟨us, []⟩ = pure (ps.zip us)) : At K mg x st ps :=
  ⟨f, _, fun_mk l c k, PySem.W.mg_of X G a, hb kV doc pm an cdv ct⟩
/-- a constant of the module -/
def GlobC (K : PySem.W.Frag) (mg : Str → Option Value) (x : Str) (d : PyData) : Prop := ∃ u v, mg x = some u ∧ RelV v u ∧ ∀ G, Dq K G v d
theorem ce_globX {X : Cx} {w : Wish} {x : Str} {pos : Pos} {d : PyData} (h : GlobC X.K X.mg x d) (hg : Gl X x := by rfl) (hd : (x == ("__debug__" : Str)) = false := by decide) : CE X w (.Name x pos) (eC d) := by
  obtain ⟨u, v, h1, h2, h3⟩ := h
  exact ce_glob ⟨h1, h2, h3⟩ hg hd
theorem glob_tup {K : PySem.W.Frag} {h : Heap} {mg : Str → Option Value} (X : K.In h) (G : h.Ns mainGlobals mg) {x : Str} {ds : List PyData} {vs : List V} {its : Array Value} {f : Addr} {o : Obj} {n : Nat}
    (a : PySem.W.nsIn K mainGlobals x = some (some (.ref f))) (l : K.lookup f = some o) (hc : o.cls = .type "tuple") (hd : o.data = .seq its n) (hv : Vals vs its.toList) (hs : vs.length ≤ 1000) (hq : ∀ H, DqAll K H vs ds) : GlobC K mg x (.tuple ds) :=
  ⟨_, .ref f, PySem.W.mg_of X G a, rfl, fun H => .tup (.inr ⟨o, its, n, l, hc, hd, (by have e1 := hv.length; have e2 : its.toList.length = its.size := Array.length_toList; rw [sizeLine_eq]; omega), hv⟩) (hq H)⟩
theorem glob_int {K : PySem.W.Frag} {h : Heap} {mg : Str → Option Value} (X : K.In h) (G : h.Ns mainGlobals mg) {x : Str} {i : Int} {t : Tok} (a : PySem.W.nsIn K mainGlobals x = some (some (.int i t))) : GlobC K mg x (.int i) :=
  ⟨_, .int i, PySem.W.mg_of X G a, ⟨t, rfl⟩, fun H => .int i⟩
theorem glob_str {K : PySem.W.Frag} {h : Heap} {mg : Str → Option Value} (X : K.In h) (G : h.Ns mainGlobals mg) {x : Str} {i : Str} {t : Tok} (a : PySem.W.nsIn K mainGlobals x = some (some (.str i t))) : GlobC K mg x (.str i) :=
  ⟨_, .str i, PySem.W.mg_of X G a, ⟨t, rfl⟩, fun H => .str i⟩
theorem r64 {k : Nat} {A : Around} (r : Room k A) : A.units + 64 < cLine := r.units
theorem r100 {k : Nat} {A : Around} (r : Room k A) : A.units + 100 < cLine := by have := r.un; omega
section
variable {P : Program} {w : World} {K : PySem.W.Frag} {mg : Str → Option Value} {base : Heap} {x : Str} {st : Stmt} {N ps : List Str} {k : Nat} {cx : Nat → Option Addr} {β : DS}
theorem At.walk (a : At K mg x st ps) (Sc : FnScope N ps (defScope st))
    (hb : ∀ (f : Addr) (cdv : Value) (A : Around) (outer : List PySem.Env) (s : Shared) (H : Hp) (E : XK), Room k (A.deeper (envOfC x (defScope st) s.heap.objs.size f cdv)) →
      CSs (cxOf (L2.CX P w) P w K mg base N x (defScope st) f cdv A outer s H E) ⟨true, fun cls d _ H => E cls d H, cx⟩ (defBody st) β) : Def P w K mg base cx x (k + 1) ps.length (callD ps.length N.length β) := by
  obtain ⟨f, fd, F, hm, hbd⟩ := a.ex
  exact def_mk F Sc hm hbd (hb f)
theorem At.zero (a : At K mg x st ps) : Def P w K mg base cx x k ps.length (fun _ _ => .no) := by
  obtain ⟨f, fd, F, hm, hbd⟩ := a.ex
  exact def_zero F hm hbd
end
/-! ### the end -/
theorem At.law {P : Program} {w : World} {K : PySem.W.Frag} {mg : Str → Option Value} {x : Str} {st : Stmt} {N ps : List Str} {k : Nat} {cx : Nat → Option Addr} {β : DS} (a : At K mg x st ps) (Sc : FnScope N ps (defScope st))
    (hb : ∀ (base : Heap) (f : Addr) (cdv : Value) (A : Around) (outer : List PySem.Env) (s : Shared) (H : Hp) (E : XK), Room k (A.deeper (envOfC x (defScope st) s.heap.objs.size f cdv)) →
      CSs (cxOf (L2.CX P w) P w K mg base N x (defScope st) f cdv A outer s H E) ⟨true, fun cls d _ H => E cls d H, cx⟩ (defBody st) β) :
    ∃ f fd, mg x = some (.ref f) ∧ SB fd ps ∧ ∀ base : Heap, FnOk P w K mg base (L2.CX P w) (k + 1) f fd ps (spF K cx ps.length (callD ps.length N.length β)) := by
  obtain ⟨f, fd, F, hm, hbd⟩ := a.ex
  exact ⟨f, fd, hm, hbd, fun base => def_ok F Sc (hb base f)⟩
def spTrue (K : PySem.W.Frag) : Sp := fun vs H Q _ => ∃ (a : Addr) (ns : List Int), vs = [.ref a] ∧ ns.length ≤ 63 ∧ SqL K H a (ns.map V.int) ∧ (∀ p ∈ Wd.T, ∃ ps : Array Value, H p.1 = some (.tbl ps) ∧ TriplesOk ps.toList ∧ ∀ (pos : Pos) (cv : Value), codeAmong pos ps.toList = some cv → ∃ c, cv = .ref c ∧ H c = some (LamX.CodeO c p.2)) ∧ ∀ H', Q (.bl true) H'
/-- all but the tables -/
def noTbl (H : Hp) : Hp := fun b => match H b with
  | some (.tbl _) => none
  | o => o
theorem noTbl_of {H : Hp} {b : Addr} {u : HO} (h : noTbl H b = some u) : H b = some u := by
  unfold noTbl at h
  split at h
  · cases h
  · exact h
theorem noTbl_lst {K : PySem.W.Frag} {H : Hp} {a : Addr} {xs : List V} (h : SqL K H a xs) : SqL K (noTbl H) a xs := by
  rcases h with h | h
  · refine .inl ?_
    rcases h with h | ⟨o, h⟩
    · exact .inl (by simp [noTbl, h])
    · exact .inr ⟨o, by simp [noTbl, h]⟩
  · exact .inr h
theorem true_of {K : PySem.W.Frag} {cx : Nat → Option Addr} {F : Fn} (hF : ∀ ns : List Int, ns.length ≤ 63 → F [.d (scrD ns)] [] = .ok (.d (.bool true)) []) (vs : List V) (H : Hp) (Q : VK) (E : XK) (h : spTrue K vs H Q E) : spF K cx 1 F vs H Q E := by
  obtain ⟨a, ns, rfl, hl, hS, hT, q⟩ := h
  refine ⟨noTbl H, [], [], [.d (scrD ns)], rfl, .cons (.scr (noTbl_lst hS)) .nil, ⟨fun b u e => noTbl_of e, rfl, List.nodup_nil, fun i a o h _ => by simp at h, fun p hp => ?_⟩, ?_⟩
  · obtain ⟨ps, h1, h2, h3⟩ := hT p hp
    refine ⟨by simp, by simp [noTbl, h1], ps, h1, h2, fun pos cv hc => ?_⟩
    obtain ⟨c, c1, c2⟩ := h3 pos cv hc
    exact ⟨c, c1, c2, by simp⟩
  rw [hF ns hl]
  intro v G' H' st me r
  cases r
  exact q H'
end
/-- the goal that k_head leaves -/
theorem fin_walk {l : PySem.W.OpenLaw} {k : Nat} {q : Program} {loose : List Str} {XP : (Str → Option Value) → Heap → Prop} {YP : World → Heap → Prop} {d : DefRec} {K : Params → PySem.W.Frag} {x : Str} {F : Fn}
    (hn : l.most = some 63) (hdf : d.params.defaults = []) (hr : Room k callerA) (hY : ∀ (w : World) (h : Heap), YP w h → (K w.params).In h)
    (hF : ∀ ns : List Int, ns.length ≤ 63 → F [.d (scrD ns)] [] = .ok (.d (.bool true)) [])
    (D : ∀ (w : World) (mg : Str → Option Value) (h : Heap), (K w.params).In h → h.Ns mainGlobals mg →
      ∃ (cx : Nat → Option Addr) (f : Addr) (fd : FuncData), mg d.name = some (.ref f) ∧ SB fd [x] ∧ ∀ base : Heap, FnOk l.prog w (K w.params) mg base (L2.CX l.prog w) k f fd [x] (@spF ⟨w, []⟩ (K w.params) cx 1 F)) :
    PySem.W.WalkO q loose XP YP l.row.toRowW d [] (fun f vs => PySem.call f vs) := by
  refine L2.walk_of (n := 63) (k := k) (x := x) (CX := fun w => L2.CX l.prog w) (sp := fun w => @spTrue ⟨w, []⟩ (K w.params)) hn (by decide) hdf hr hY (fun w mg fa h KX G hmg => ?_) (fun w H a ns hl _ hS => ⟨a, ns, rfl, hl, hS, (fun p h => nomatch h), fun _ => rfl⟩) (fun w H s e s' h => ?_)
  · obtain ⟨cx, f, fd, h1, h2, h3⟩ := D w mg h KX G
    have e := hmg.symm.trans h1
    cases e
    exact ⟨fd, fun s u => .of_eq (h2 [u] rfl), fun base _ _ => (h3 base).imp (@true_of ⟨w, []⟩ _ _ _ hF)⟩
  · obtain ⟨_, _, _, _, _, _, _, _, _, _, _, _, z⟩ := h
    exact z.elim
end Bz
set_option Elab.async false
set_option linter.all false
set_option maxRecDepth 100000
set_option maxHeartbeats 2000000
/-! Tuples turned about, places in them, texts sorted. -/
namespace HT
open PySem PySem.Spec PyProof.Rows L2
section
variable {prog : Program} {w : World} {A : Around} {E : Value → Shared → Prop} {s : Shared}
theorem adjust_back (n : Nat) : Builtin.Slice.sliceAdjust none none (-1) (n : Int) = ((n : Int) - 1, -1) := by
  unfold Builtin.Slice.sliceAdjust
  simp
theorem places_back (n : Nat) : Builtin.Slice.slicePlaces ((n : Int) - 1) (-1) (-1) = n := by
  unfold Builtin.Slice.slicePlaces
  have h1 : ¬ ((-1 : Int) > 0) := by omega
  simp only [h1, if_false, Int.neg_neg, Int.ediv_one]
  split <;> omega
theorem filterMap_some {α β : Type} {f : α → Option β} {g : α → β} : ∀ (l : List α), (∀ m ∈ l, f m = some (g m)) → l.filterMap f = l.map g
  | [], _ => rfl
  | a :: l, h => by
    rw [List.filterMap_cons, h a (by simp), List.map_cons, filterMap_some l fun m hm => h m (by simp [hm])]
theorem sliceApplied_back {sl : Addr} {vs : Value} {n : Nat} {Q : Int × Int × Nat → Shared → Prop} (hs : s.heap.IsSliceOf sl .none .none vs) (ps : IsPart vs (some (-1)))
    (h : Q ((n : Int) - 1, -1, n) s) : wpAny (model prog w) A (Builtin.Slice.sliceApplied (.ref sl) (pure (n : Int))) Q E s := by
  obtain ⟨os, hos, hcs, hds⟩ := id hs
  unfold Builtin.Slice.sliceApplied Builtin.Slice.sliceFields
  refine wpAny_bind (wpAny_bind (wpAny_field hos hds (x := .none) rfl (wpAny_bind (wpAny_field hos hds (x := .none) rfl (wpAny_bind (wpAny_field hos hds (x := vs) rfl (wpAny_pure ?_)))))))
  refine wpAny_bind (slicePart_ ps ?_)
  show wpAny _ _ (if ((-1 : Int) == 0) = true then _ else _) _ _ s
  rw [if_neg (by decide)]
  refine wpAny_bind (slicePart_none (wpAny_bind (slicePart_none (wpAny_bind (wpAny_pure ?_)))))
  show wpAny _ _ (match Builtin.Slice.sliceAdjust none none (-1) (n : Int) with | (lo, hi) => pure (lo, (-1 : Int), Builtin.Slice.slicePlaces lo hi (-1))) _ _ s
  rw [adjust_back n]
  show wpAny _ _ (pure ((n : Int) - 1, (-1 : Int), Builtin.Slice.slicePlaces ((n : Int) - 1) (-1) (-1))) _ _ s
  rw [places_back]
  exact wpAny_pure h
theorem pick_back (xs : Array Value) : ((List.range xs.size).filterMap fun (m : Nat) => xs[(((xs.size : Nat) : Int) - 1 + (m : Int) * (-1)).toNat]?).toArray = xs.toList.reverse.toArray := by
  congr 1
  have h : ∀ m ∈ List.range xs.size, xs[(((xs.size : Nat) : Int) - 1 + (m : Int) * (-1)).toNat]? = some (xs.toList.reverse[m]?.getD .none) := fun m hm => by
    have hm' := List.mem_range.mp hm
    have e : (((xs.size : Nat) : Int) - 1 + (m : Int) * (-1)).toNat = xs.size - 1 - m := by omega
    rw [e, List.getElem?_reverse (by simpa using hm'), Array.length_toList, Array.getElem?_toList, Array.getElem?_eq_getElem (by omega)]
    rfl
  rw [filterMap_some _ h]
  apply List.ext_getElem?
  intro i
  simp only [List.getElem?_map, List.getElem?_range]
  by_cases hi : i < xs.size
  · simp [hi]
  · simp [hi]
theorem getItem_tuple_back {t sl : Addr} {items : Array Value} {vs : Value} {Q : Value → Shared → Prop} (ht : IsTup s.heap t items) (hs : s.heap.IsSliceOf sl .none .none vs) (ps : IsPart vs (some (-1)))
    (h : Q (.ref s.heap.objs.size) { s with heap := s.heap.push { cls := .type "tuple", data := .seq items.toList.reverse.toArray } })
    (hsz : items.size ≤ sizeLine) : wpAny (model prog w) A (getItem (.ref t) (.ref sl)) Q E s := by
  have htake : sizeOk (.seq items.toList.reverse.toArray) := by
    show items.toList.reverse.toArray.size ≤ sizeLine
    rw [List.size_toArray, List.length_reverse, Array.length_toList]
    exact hsz
  obtain ⟨os, hos, hcs, hds⟩ := id hs
  have hTs : s.TypeIs (.ref sl) "slice" := ⟨os, hos, hcs⟩
  unfold getItem
  try with_reducible refine wpAny_holding ?_
  first | refine wpAny_bind (wpAny_pure ?_) | skip
  refine wpAny_bind (wpAny_sequenceKey ht.typeIs (by decide) ?_)
  refine wpAny_bind (wpAny_callSpecial?_slot (name := Str.ofString "__getitem__") ht.typeIs PyProof.Rows.slot_tuple_getitem
    (wpAny_call_entry PyProof.Rows.slot_tuple_getitem ht.typeIs entry_tuple_getitem ?_ (args_tuple_getitem _ _)))
  show wpAny _ _ (Builtin.Tuple.tupleItemsOf (.ref t) >>= _) _ _ s
  refine wpAny_bind (tupleItemsOf_ ht ?_)
  refine wpAny_bind (wpAny_typeOf hTs ?_)
  rw [if_pos (by decide)]
  refine wpAny_bind (sliceApplied_back hs ps ?_)
  have hno : ¬ (((((items.size : Nat) : Int) - 1) == 0 && (-1 : Int) == 1 && items.size == items.size) = true) := by
    simp
  show wpAny _ _ (if ((((items.size : Nat) : Int) - 1) == 0 && (-1 : Int) == 1 && items.size == items.size) = true then _ else _) _ _ s
  rw [if_neg hno, pick_back]
  first
    | exact wpAny_bind (m := Builtin.Tuple.tupleExact _) (wpAny_newObj_type (wpAny_pure ⟨_, rfl, wpAny_pure h⟩) htake)
    | exact wpAny_bind (m := Builtin.Tuple.tupleExact _) (wpAny_newObj_type (wpAny_bind (wpAny_pure (wpAny_pure ⟨_, rfl, wpAny_pure h⟩))) htake)
    | exact wpAny_bind (wpAny_bind (m := Builtin.Tuple.tupleExact _) (wpAny_newObj_type (wpAny_pure (wpAny_pure ⟨_, rfl, wpAny_pure h⟩)) htake))
    | exact wpAny_bind (wpAny_bind (m := Builtin.Tuple.tupleExact _) (wpAny_newObj_type (wpAny_pure ⟨_, rfl, wpAny_pure h⟩) htake))
end
end HT
namespace L2
open PySem PySem.Spec PyProof.Rows
section
variable {X : Cx}
/-- t[::-1], xs[::-1] -/
def tRevA (K : PySem.W.Frag) (te : TE) : TE := fun σ H Q => te σ H fun x H1 => ∃ a xs, x = .ref a ∧ ((SqL K H1 a xs ∧ ∀ p, H1 p = none → Q (.ref p) (upd H1 p (.lst xs.reverse))) ∨ (SqT K H1 a xs ∧ ∀ p, H1 p = none → Q (.ref p) (upd H1 p (.tup xs.reverse))))
theorem pe_revA {e : Expr} {te : TE} {k : Nat} {p1 p2 p3 pos : Pos} (he : PE X e te) : PE X (.Subscript e (.Slice none none (some (.UnaryOp .USub (.Constant (.int 1) k p1) p2)) p3) pos) (tRevA X.K te) := by
  refine ⟨fun pins s σ H Q I h => ?_⟩
  refine Subscript_ (thn (he.run pins s σ H _ I h) fun v s1 ⟨x, H1, I1, r1, q1⟩ => ?_)
  obtain ⟨a, xs, ex, q⟩ := q1
  subst ex
  cases r1
  have hst : PO X (some (.UnaryOp .USub (.Constant (.int 1) k p1) p2)) (tPart (tUn (rU fun i => .int (-i)) (tC (.int 1)))) := po_some (pe_un un_neg pe_int)
  refine wpAny_Slice (thn (po_none.run pins s1 σ H1 (fun o H2 => o = none ∧ H2 = H1) I1 ⟨rfl, rfl⟩) fun vl s2 ⟨l, H2, I2, pl, el, e2⟩ => ?_)
  subst el e2
  refine thn (po_none.run pins s2 σ H2 (fun o H3 => o = none ∧ H3 = H2) I2 ⟨rfl, rfl⟩) fun vu s3 ⟨u, H3, I3, pu, eu, e3⟩ => ?_
  subst eu e3
  refine thn (hst.run pins s3 σ H3 (fun o H4 => o = some (-1) ∧ H4 = H3) I3 ⟨1, rfl, -1, rfl, rfl, rfl⟩) fun vs s4 ⟨o, H4, I4, ps, eo, e4⟩ => ?_
  subst eo e4
  have I5 : Inv X pins σ H4 { s4 with heap := s4.heap.push { cls := .type "slice", data := .fields #[vl, vu, vs] } } := I4.kept (t' := s4.toks) fun b ob q => Heap.get?_push_of_some _ q
  rcases q with ⟨hx, q⟩ | ⟨hx, q⟩
  · obtain ⟨its, r, ht, hz⟩ := I5.list hx
    have hlen := r.length
    show wpAny (model X.prog X.w) X.A (subscriptTail e (.Slice none none (some (.UnaryOp .USub (.Constant (.int 1) k p1) p2)) p3) (.ref a) (.ref s4.heap.objs.size)) (EP X pins σ Q) X.xe { s4 with heap := s4.heap.push { cls := .type "slice", data := .fields #[vl, vu, vs] } }
    refine tail_any (ops := [.ref a, .ref s4.heap.objs.size]) ht.isList.typeIs (PySem.slot_list_getitem.lookup) ?_ (by with_unfolding_all rfl)
    refine wpAny_getItem_list_slice ht.isList (Heap.IsSliceOf.new _ vl vu vs) pl pu ps (by decide) ?_ (by rw [List.size_toArray]; omega)
    rw [PySem.W.krv_pick]
    refine ⟨.ref _, _, I5.laid (t' := s4.toks) (o := .lst xs.reverse) (fun b ob q => Heap.get?_push_of_some _ q) (Nat.le_refl _) ?_, rfl, q _ (I5.hok.fresh (Nat.le_refl _))⟩
    exact ⟨by rw [List.length_reverse]; exact hz, _, 0, r.reverse, Heap.get?_push_size _ rfl⟩
  · obtain ⟨its, r, ht, hz⟩ := I5.tuple hx
    have hlen := r.length
    cases pl
    cases pu
    show wpAny (model X.prog X.w) X.A (subscriptTail e (.Slice none none (some (.UnaryOp .USub (.Constant (.int 1) k p1) p2)) p3) (.ref a) (.ref s4.heap.objs.size)) (EP X pins σ Q) X.xe { s4 with heap := s4.heap.push { cls := .type "slice", data := .fields #[.none, .none, vs] } }
    refine tail_any (ops := [.ref a, .ref s4.heap.objs.size]) ht.typeIs (PyProof.Rows.slot_tuple_getitem.lookup) ?_ (by with_unfolding_all rfl)
    refine HT.getItem_tuple_back ht (Heap.IsSliceOf.new _ .none .none vs) ps ?_ (by rw [List.size_toArray]; omega)
    refine ⟨.ref _, _, I5.laid (t' := s4.toks) (o := .tup xs.reverse) (fun b ob q => Heap.get?_push_of_some _ q) (Nat.le_refl _) ?_, rfl, q _ (I5.hok.fresh (Nat.le_refl _))⟩
    exact ⟨by rw [List.length_reverse]; exact hz, _, r.reverse, IsTup.new _ _⟩
end
end L2

/-! sorted of a tuple -/
namespace PyProof.Rows
open PySem PySem.Spec
section
variable {prog : Program} {w : World} {A : Around} {E : Value → Shared → Prop} {s : Shared}
theorem collect_tup {l : Addr} {vs : List Value} {Q : List Value → Shared → Prop} (hl : IsTup s.heap l vs.toArray)
    (h : Q vs { s with heap := (s.heap.push (seqObj "list" #[] 0)).update s.heap.objs.size (Obj.mapSeq (· ++ vs.toArray)) }) (hsz : vs.length ≤ sizeLine) :
    wpAny (model prog w) A (collect (.ref l)) Q E s := by
  obtain ⟨o, ho, hc, n, hd⟩ := id hl
  unfold collect
  refine wpAny_bind (wpAny_runValue (codeAny_builtin entry_proto_collect' ?_))
  show wpAny _ _ (do again (.builtin "list.__iadd__" ⟨[← newList [], .ref l], []⟩)) _ _ s
  refine wpAny_bind (wpAny_newList (wpAny_pure ⟨Code.quiet_builtin _ (by decide +kernel), codeAny_builtin entry_list_iadd' ?_⟩))
  show wpAny _ _ (Builtin.List.listExtendWith (.ref s.heap.objs.size) (.ref l) (.ref s.heap.objs.size)) _ _ { s with heap := s.heap.push (seqObj "list" #[] 0) }
  unfold Builtin.List.listExtendWith
  have ho' : (s.heap.push (seqObj "list" #[] 0)).get? l = some o := Heap.get?_push_of_some _ ho
  refine wpAny_bind (wpAny_typeOf (T := "tuple") ⟨o, ho', hc⟩ ?_)
  have ht : (Value.type "tuple" == Value.type "tuple") = true := by rfl
  rw [if_pos (by rw [ht]; simp)]
  refine wpAny_bind (listItems_at ho' hd ?_)
  refine wpAny_bind (listItems_at (xs := #[]) (n := 0) (Heap.get?_push_size _ rfl) rfl ?_)
  rw [if_neg (by simp)]
  refine wpAny_bind (listUpdate_at (xs := #[]) (n := 0) (Heap.get?_push_size _ rfl) rfl ?_ (Nat.zero_le _) (by show (#[] ++ vs.toArray).size ≤ sizeLine + 1; simp only [Array.size_append, List.size_toArray, List.length_nil]; omega))
  refine wpAny_pure ?_
  show wpAny (model prog w) A (do
      let o ← load s.heap.objs.size
      match o.data with
      | .seq xs _ => pure xs.toList
      | _ => unsupported "internal:collect") Q E { s with heap := (s.heap.push (seqObj "list" #[] 0)).update s.heap.objs.size (Obj.mapSeq (· ++ vs.toArray)) }
  refine wpAny_bind (wpAny_load (get?_update_seq (Heap.get?_push_size _ rfl) _) ?_)
  show wpAny _ _ (pure ((#[] : Array Value) ++ vs.toArray).toList) Q E _
  rw [show ((#[] : Array Value) ++ vs.toArray).toList = vs by simp]
  exact wpAny_pure h
theorem sortedKTup {κ : KeyKind} (hO : κ.OneLt) {l : Addr} {vs : List Value} {Q : Value → Shared → Prop} (hl : IsTup s.heap l vs.toArray) (h0 : KeysOf κ (pairsOf vs)) (hkk : ∀ v₁ v₂ rest, vs = v₁ :: v₂ :: rest → keyKind' (v₁ :: v₂ :: rest).toArray = pure oneType') (hL : vs.length ≤ sizeLine)
    (h : ∀ st' : SortSt, (arrOf st').Perm (pairsOf vs) → SortedToK κ (arrOf st') (pairsOf vs).size → Q (.ref (s.heap.objs.size + 1)) { s with heap := sortedAll s.heap vs ((arrOf st').map (·.2)) }) :
    wpAny (model prog w) A (call (.builtin "sorted") [.ref l]) Q E s := by
  refine Calls.call_function_entry kind_sorted plain_sorted entry_sorted (args_sorted1 _) ?_
  unfold Builtin.«sorted»
  refine wpAny_bind (m := checkCount "sorted" 1 1 _) (wpAny_pure ?_)
  refine wpAny_bind (collect_tup hl ?_ hL)
  refine wpAny_bind (wpAny_newList ?_)
  have hsz : ((s.heap.push (seqObj "list" #[] 0)).update s.heap.objs.size (Obj.mapSeq (· ++ vs.toArray))).objs.size = s.heap.objs.size + 1 := by
    rw [Heap.size_update, size_push']
  have hoL : (((s.heap.push (seqObj "list" #[] 0)).update s.heap.objs.size (Obj.mapSeq (· ++ vs.toArray))).push (seqObj "list" vs.toArray 0)).get? (s.heap.objs.size + 1) = some (seqObj "list" vs.toArray 0) := by
    rw [← hsz]; exact Heap.get?_push_size _ rfl
  show wpAny _ _ _ _ _ { s with heap := ((s.heap.push (seqObj "list" #[] 0)).update s.heap.objs.size (Obj.mapSeq (· ++ vs.toArray))).push (seqObj "list" vs.toArray 0) }
  rw [hsz]
  refine wpAny_bind (wpAny_holding (wpAny_call_entry slot_list_sort ⟨_, hoL, rfl⟩ entry_list_sort (list_sort_treeKAny hO hoL h0 hkk hL fun st' a1 a2 => ⟨_, rfl, ?_⟩) (args_list_sort _)))
  exact wpAny_pure ⟨_, rfl, h st' a1 a2⟩
theorem sorted_strsTup {l : Addr} {vs : List Value} {ss : List Str} {Q : Value → Shared → Prop} (hl : IsTup s.heap l vs.toArray) (hS : StrsAre vs ss) (hL : vs.length ≤ sizeLine)
    (h : ∀ (out : Array Value) (ss' : List Str), StrsAre out.toList ss' → ss'.Perm ss → sortedS ss' = true → Q (.ref (s.heap.objs.size + 1)) { s with heap := sortedAll s.heap vs out }) :
    wpAny (model prog w) A (call (.builtin "sorted") [.ref l]) Q E s := by
  refine sortedKTup strKind_oneLt hl hS.keysOf (fun v₁ v₂ rest e => keyKind_strs (by rw [← e]; exact hS)) hL fun st' hp hs => ?_
  obtain ⟨ss', h1, h2, h3⟩ := sorted_out_str hS hp hs
  exact h _ ss' h1 h2 h3
end
end PyProof.Rows
namespace L2
open PySem PySem.Spec PyProof.Rows
section
variable {X : Cx}
def rSortedSA (K : PySem.W.Frag) : List V → Hp → VK → Prop := fun vs H Q => ∃ (a : Addr) (xs : List Str), vs = [V.ref a] ∧ (SqL K H a (xs.map V.str) ∨ SqT K H a (xs.map V.str)) ∧ xs.length ≤ sizeLine ∧
  ∀ (ys : List Str) (p : Addr), ys.Perm xs → sortedS ys = true → H p = none → Q (.ref p) (upd H p (.lst (ys.map V.str)))
theorem cr_sortedSA : CallR X (.builtin "sorted") (rSortedSA X.K) := by
  intro pins s σ H vs us Q I r h
  obtain ⟨a, xs, rfl, hs, hL, q⟩ := h
  have fin : ∀ (its : List Value), Vals (xs.map V.str) its → ∀ (out : Array Value) (ys : List Str), StrsAre out.toList ys → ys.Perm xs → sortedS ys = true → EP X pins σ Q (.ref (s.heap.objs.size + 1)) { s with heap := sortedAll s.heap its out } := fun its rv out ys h1 h2 h3 => by
    obtain ⟨ep, he'⟩ := PyProof.Rows.sortedAll_at s.heap its out
    have hlen : (ys.map V.str).length ≤ sizeLine := by rw [List.length_map, h2.length_eq]; exact hL
    exact ⟨.ref _, upd H (s.heap.objs.size + 1) (.lst (ys.map V.str)), I.laid (t' := s.toks) (fun _ _ => PyProof.Rows.sortedAll_old) (Nat.le_succ _) ⟨hlen, out.toList, ep, vals_of_strs h1, he'⟩, rfl, q ys _ h2 h3 (I.hok.fresh (Nat.le_succ _))⟩
  rw [Vals.ref1 r]
  rcases hs with hs | hs
  · obtain ⟨its, rv, hl, _⟩ := I.list hs
    have hlen0 := rv.length
    rw [List.length_map] at hlen0
    exact PyProof.Rows.sorted_strsAny hl.isList rv.strs (by rw [← hlen0]; exact hL) (fin its rv)
  · obtain ⟨its, rv, hl, _⟩ := I.tuple hs
    have hlen0 := rv.length
    rw [List.length_map] at hlen0
    exact PyProof.Rows.sorted_strsTup hl rv.strs (by rw [← hlen0]; exact hL) (fin its rv)
end
end L2

namespace Bz
open PySem PySem.Spec PyProof.Rows L2
variable [Wd]
theorem dq_ty {K : PySem.W.Frag} {H : Hp} {v : V} {x : PyData} {t : String} (h : Dq K H v x) (e : tyD x = some t) : TyX K H v (.type t) := by
  cases h with
  | non => cases e; exact .base .non
  | bl b => cases e; exact .base (.bl b)
  | int i => cases e; exact .base (.int i)
  | str x => cases e; exact .base (.str x)
  | lst h1 _ => cases e; exact .base (.lst h1)
  | tup h1 _ =>
    cases e
    rcases h1 with h1 | ⟨o, its, n, h1, h2, _⟩
    · rcases h1 with h1 | ⟨o, h1⟩
      · exact .base (.tup h1)
      · exact .fTuple h1
    · exact .kTuple h1 h2
  | scr h1 => cases e
  | dct h1 h2 => cases e
theorem tyD_six {x : PyData} {t : String} (e : tyD x = some t) : t = "NoneType" ∨ t = "bool" ∨ t = "int" ∨ t = "str" ∨ t = "list" ∨ t = "tuple" := by
  cases x <;> simp [tyD] at e <;> subst e <;> simp
def isC (c : String) : Prop := c = "tuple" ∨ c = "list" ∨ c = "bool" ∨ c = "str" ∨ c = "int"
theorem kit_isB {x : PyData} {t c : String} (e : tyD x = some t) (hc : isC c) : kitB t c = some (isB t c) := by
  rcases tyD_six e with rfl | rfl | rfl | rfl | rfl | rfl <;> rcases hc with rfl | rfl | rfl | rfl | rfl <;> decide +kernel
section
variable {X : Cx} {w : Wish} {a e : Expr} {δ : DE}
theorem ce_rev {k : Nat} {p1 p2 p3 pos : Pos} (h : CE X w e δ) : CE X w (.Subscript e (.Slice none none (some (.UnaryOp .USub (.Constant (.int 1) k p1) p2)) p3) pos) (eUn fRev δ) := by
  obtain ⟨ta, p1, s1⟩ := h
  refine ⟨_, pe_revA p1, fun ρ μ σ G H m en me Q q => ?_⟩
  refine s1 ρ μ σ G H m en me _ (Post.of_bind q fun x μ1 G1 H1 m1 _ st1 me1 q1 v rv => ?_)
  cases e1 : rd μ1 x with
  | none =>
    simp only [e1] at q1
    exact q1.elim
  | some u1 =>
    simp only [e1] at q1
    obtain ⟨z, hz, kk⟩ := fin2 q1
    unfold fRev at hz
    split at hz
    · cases hz
      obtain ⟨a1, v1, rfl, h1, d1⟩ := rd_list me1 e1 rv
      exact ⟨a1, v1, rfl, .inl ⟨SqL.of h1, newD me1 (fun p g0 => dq_lst g0 (DqAll.reverse d1)) kk⟩⟩
    · cases hz
      obtain ⟨a1, v1, rfl, h1, d1⟩ := rd_tup me1 e1 rv
      exact ⟨a1, v1, rfl, .inr ⟨h1, newD me1 (fun p g0 => dq_tup g0 (DqAll.reverse d1)) kk⟩⟩
    · cases hz
/-- isinstance(x, c) -/
theorem ce_isi1 {p p2 pos : Pos} {c : Str} {cn : String} (h : CE X w a δ) (hm : X.mg "isinstance" = none) (hmc : X.mg c = none) (hc : isC cn) (hv : bootBuiltins c = some (.type cn)) (hg : Gl X "isinstance" := by rfl) (hgc : Gl X c := by rfl) (hn : c ≠ "__name__" := by decide) (hd : (c == ("__debug__" : Str)) = false := by decide)
    (hs1 : starEach [a, .Name c p2] X.env = (false, eval a X.env) :: starEach [.Name c p2] X.env := by rfl) (hs2 : starEach [.Name c p2] X.env = (false, eval (.Name c p2) X.env) :: starEach [] X.env := by rfl)
    (hpl : (backTo pos (starEach [.Name c p2] X.env)).any (·.1) = false := by rfl) : CE X w (.Call (.Name "isinstance" p) [a, .Name c p2] [] pos) (eUn (fIsI [cn]) δ) := by
  obtain ⟨ta, p1, s1⟩ := h
  refine ⟨_, pe_callB call_isi hg hm PyProof.Rows.boot_isinstance (pa_cons p1 (pa_cons (pe_bltn (v := .ty cn) hgc hmc hv rfl hn hd) pa_nil hs2) hs1) (by decide) (by decide) hs1 hpl, fun ρ μ σ G H m en me Q q => ?_⟩
  refine s1 ρ μ σ G H m en me _ (Post.of_bind q fun x μ1 G1 H1 m1 _ st1 me1 q1 v rv => ?_)
  cases e1 : rd μ1 x with
  | none =>
    simp only [e1] at q1
    exact q1.elim
  | some u1 =>
    simp only [e1] at q1
    obtain ⟨z, hz, kk⟩ := fin2 q1
    unfold fIsI at hz
    cases ht : tyD u1 with
    | none => rw [ht] at hz; cases hz
    | some t =>
      rw [ht] at hz
      cases hz
      refine ⟨v, .ty cn, .type t, .type cn, isB t cn, rfl, .ty cn, dq_ty (rd_dq me1 e1 rv) ht, kit_ty (kit_isB ht hc), ?_⟩
      have := kk (.bl (isB t cn)) G1 H1 Stp.refl me1
      simp only [List.any_cons, List.any_nil, Bool.or_false] at this
      exact this (.bl _)
/-- isinstance(x, (c1, c2)) -/
theorem ce_isi2 {p p2 p3 tp pos : Pos} {c c' : Str} {cn cn' : String} {k : Nat} (h : CE X w a δ) (hm : X.mg "isinstance" = none) (hmc : X.mg c = none) (hc : isC cn) (hv : bootBuiltins c = some (.type cn)) (hmc' : X.mg c' = none) (hc' : isC cn') (hv' : bootBuiltins c' = some (.type cn'))
    (hg : Gl X "isinstance" := by rfl) (hgc : Gl X c := by rfl) (hgc' : Gl X c' := by rfl) (hn : c ≠ "__name__" := by decide) (hd : (c == ("__debug__" : Str)) = false := by decide) (hn' : c' ≠ "__name__" := by decide) (hd' : (c' == ("__debug__" : Str)) = false := by decide)
    (hs1 : starEach [a, .Tuple [.Name c p2, .Name c' p3] k tp] X.env = (false, eval a X.env) :: starEach [.Tuple [.Name c p2, .Name c' p3] k tp] X.env := by rfl)
    (hs2 : starEach [.Tuple [.Name c p2, .Name c' p3] k tp] X.env = (false, eval (.Tuple [.Name c p2, .Name c' p3] k tp) X.env) :: starEach [] X.env := by rfl)
    (hs3 : starEach [.Name c p2, .Name c' p3] X.env = (false, eval (.Name c p2) X.env) :: starEach [.Name c' p3] X.env := by rfl) (hs4 : starEach [.Name c' p3] X.env = (false, eval (.Name c' p3) X.env) :: starEach [] X.env := by rfl)
    (hpl : (backTo pos (starEach [.Tuple [.Name c p2, .Name c' p3] k tp] X.env)).any (·.1) = false := by rfl) : CE X w (.Call (.Name "isinstance" p) [a, .Tuple [.Name c p2, .Name c' p3] k tp] [] pos) (eUn (fIsI [cn, cn']) δ) := by
  obtain ⟨ta, p1, s1⟩ := h
  refine ⟨_, pe_callB call_isiT hg hm PyProof.Rows.boot_isinstance (pa_cons p1 (pa_cons (pe_tup (pa_cons (pe_bltn (v := .ty cn) hgc hmc hv rfl hn hd) (pa_cons (pe_bltn (v := .ty cn') hgc' hmc' hv' rfl hn' hd') pa_nil hs4) hs3)) pa_nil hs2) hs1) (by decide) (by decide) hs1 hpl, fun ρ μ σ G H m en me Q q => ?_⟩
  refine s1 ρ μ σ G H m en me _ (Post.of_bind q fun x μ1 G1 H1 m1 _ st1 me1 q1 v rv => ?_)
  cases e1 : rd μ1 x with
  | none =>
    simp only [e1] at q1
    exact q1.elim
  | some u1 =>
    simp only [e1] at q1
    obtain ⟨z, hz, kk⟩ := fin2 q1
    unfold fIsI at hz
    cases ht : tyD u1 with
    | none => rw [ht] at hz; cases hz
    | some t =>
      rw [ht] at hz
      cases hz
      refine ⟨by show 2 ≤ sizeLine; rw [sizeLine_eq]; omega, fun pp hp => ?_⟩
      obtain ⟨me2, st2⟩ := me1.push (o := .tup [.ty cn, .ty cn']) hp
      refine ⟨v, pp, [.ty cn, .ty cn'], .type t, [.type cn, .type cn'], (isB t cn || isB t cn'), rfl, upd_same, .cons (.ty cn) (.cons (.ty cn') .nil), dq_ty (rd_dq me2 e1 (rv.mono st2.gr)) ht, ?_, ?_⟩
      · refine kitAny_cons (kit_ty (kit_isB ht hc)) (fun h0 => ?_) (fun h1 => by rw [h1]; rfl)
        rw [h0]
        exact kitAny_cons (kit_ty (kit_isB ht hc')) (fun h0 => by rw [h0]; rfl) (fun h1 => by rw [h1]; rfl)
      · have := kk (.bl (isB t cn || isB t cn')) _ _ st2 me2
        simp only [List.any_cons, List.any_nil, Bool.or_false] at this
        exact this (.bl _)
end
end Bz
namespace Bz
open PySem PySem.Spec PyProof.Rows L2
variable [Wd]
omit [Wd] in
theorem leS_iff (a b : Str) : leS a b = true ↔ a.cps.toList ≤ b.cps.toList := by
  unfold leS
  rw [ltCps_eq]
  simp
omit [Wd] in
theorem leS_trans (a b c : Str) (h1 : leS a b = true) (h2 : leS b c = true) : leS a c = true := by
  rw [leS_iff] at *
  exact List.le_trans h1 h2
omit [Wd] in
theorem leS_total (a b : Str) : (leS a b || leS b a) = true := by
  rw [Bool.or_eq_true, leS_iff, leS_iff]
  exact List.le_total _ _
omit [Wd] in
theorem leS_anti (a b : Str) (h1 : leS a b = true) (h2 : leS b a = true) : a = b := by
  rw [leS_iff] at *
  have := List.le_antisymm h1 h2
  cases a; cases b
  simpa using this
omit [Wd] in
theorem rising_pw : ∀ (l : List Str) (p : Str), risingS p l = true → (p :: l).Pairwise fun a b => leS a b = true
  | [], p, _ => by simp
  | x :: l, p, h => by
    unfold risingS at h
    rw [Bool.and_eq_true] at h
    have h2 := rising_pw l x h.2
    have h1 : leS p x = true := h.1
    refine List.pairwise_cons.mpr ⟨fun y hy => ?_, h2⟩
    rcases List.mem_cons.mp hy with rfl | hy
    · exact h1
    · exact leS_trans _ _ _ h1 ((List.pairwise_cons.mp h2).1 y hy)
omit [Wd] in
theorem sorted_pw {l : List Str} (h : sortedS l = true) : l.Pairwise fun a b => leS a b = true := by
  cases l with
  | nil => simp
  | cons x l => exact rising_pw l x h
omit [Wd] in
theorem sortS_eq {xs ys : List Str} (hp : ys.Perm xs) (hs : sortedS ys = true) : ys = sortS xs := by
  refine List.Perm.eq_of_pairwise (le := fun a b => leS a b = true) (fun a b _ _ h1 h2 => leS_anti a b h1 h2) (sorted_pw hs) (List.pairwise_mergeSort leS_trans leS_total xs) (hp.trans (List.mergeSort_perm xs leS).symm)
omit [Wd] in
theorem sortS_len (xs : List Str) : (sortS xs).length = xs.length := (List.mergeSort_perm xs leS).length_eq
theorem strsOf_all {K : PySem.W.Frag} {H : Hp} : ∀ {ds : List PyData} {ys : List Str} {vs : List V}, strsOf ds = some ys → DqAll K H vs ds → vs = ys.map V.str
  | [], ys, vs, h, d => by cases h; cases d; rfl
  | x :: ds, ys, vs, h, d => by
    cases d with
    | cons r d' =>
      cases x <;> simp only [strsOf] at h <;> try cases h
      split at h
      · rename_i ys' e
        cases h
        cases r
        rw [strsOf_all e d']
        rfl
      · cases h
theorem dqAll_strs {K : PySem.W.Frag} {H : Hp} (ys : List Str) : DqAll K H (ys.map V.str) (ys.map PyData.str) := by
  induction ys with
  | nil => exact .nil
  | cons y ys ih => exact .cons (.str y) ih
def rSortAny (K : PySem.W.Frag) : List V → Hp → VK → Prop := fun vs H Q => rSortedSA K vs H Q ∨ rSortDat K vs H Q
theorem call_sortAny {X : Cx} (hu : X.A.units + 100 < cLine) : CallR X (.builtin "sorted") (rSortAny X.K) := by
  intro pins s σ H vs us Q I r h
  rcases h with h | h
  · exact cr_sortedSA pins s σ H vs us Q I r h
  · exact call_sortDat hu pins s σ H vs us Q I r h
theorem sortedD {K : PySem.W.Frag} : CbD K (rSortAny K) bSorted := by
  intro G H m μ xs vs as z me ra rx hf Q q
  unfold bSorted at hf
  split at hf
  · rename_i ds
    split at hf
    · rename_i ys e
      split at hf
      · rename_i hs
        cases hf
        obtain ⟨s, v, rfl, rfl, h1, h2⟩ := RpL.one ra rx
        obtain ⟨a1, v1, rfl, s1, d1⟩ := rd_list me h1 h2
        cases strsOf_all e d1
        exact .inl ⟨a1, ys, rfl, .inl (SqL.of s1), small_sz hs, fun zs p hp hz hn => by
          rw [sortS_eq hp hz]
          exact newD me (fun p g0 => dq_lst g0 (dqAll_strs _)) q p hn⟩
      · cases hf
    · unfold bSortD at hf
      split at hf
      · rename_i hc
        rw [Bool.and_eq_true, Bool.and_eq_true] at hc
        cases hf
        obtain ⟨s, v, rfl, rfl, h1, h2⟩ := RpL.one ra rx
        obtain ⟨a1, v1, rfl, s1, d1⟩ := rd_list me h1 h2
        exact .inr ⟨a1, v1, ds, G, rfl, SqL.of s1, me.ex, d1, small_sz hc.1.1, hc.1.2, hc.2, fun p zs dz hn => newD me (fun p g0 => dq_lst g0 dz) q p hn⟩
      · cases hf
  · rename_i ds
    split at hf
    · rename_i ys e
      split at hf
      · rename_i hs
        cases hf
        obtain ⟨s, v, rfl, rfl, h1, h2⟩ := RpL.one ra rx
        obtain ⟨a1, v1, rfl, s1, d1⟩ := rd_tup me h1 h2
        cases strsOf_all e d1
        exact .inl ⟨a1, ys, rfl, .inr s1, small_sz hs, fun zs p hp hz hn => by
          rw [sortS_eq hp hz]
          exact newD me (fun p g0 => dq_lst g0 (dqAll_strs _)) q p hn⟩
      · cases hf
    · cases hf
  · cases hf
end Bz
set_option Elab.async false
set_option linter.all false
set_option maxRecDepth 100000
set_option maxHeartbeats 2000000
/-! Dicts whose keys are nested tuples: {}, in, d[k], d[k] = v, walked. -/
namespace Bz
open PySem PySem.Spec PyProof.Rows L2
section
variable {X : Cx} {pins : List (Addr × Obj)} {σ : St} {H : Hp} {s : Shared}
mutual
theorem nk_is (I : Inv X pins σ H s) : ∀ (d : PyData) (k : NestedKey) (v : V) (u : Value), nkOf d = some k → Dq X.K H v d → RelV v u → NestedIs s.heap k u
  | .int i, k, v, u, e, h, r => by
    simp only [nkOf, Option.some.injEq] at e
    subst e
    cases h
    obtain ⟨t, rfl⟩ := r
    exact .int i t
  | .str x, k, v, u, e, h, r => by
    simp only [nkOf, Option.some.injEq] at e
    subst e
    cases h
    obtain ⟨t, rfl⟩ := r
    exact .text x t
  | .tuple ds, k, v, u, e, h, r => by
    unfold nkOf at e
    cases e2 : nkAll ds with
    | none => rw [e2] at e; cases e
    | some ks =>
      rw [e2] at e
      cases e
      cases h with
      | tup h1 h2 =>
        cases r
        obtain ⟨its, rv, ⟨o, g1, g2, n, g3⟩, _⟩ := I.tuple h1
        exact .tup g1 g2 g3 (nk_all I ds ks _ _ e2 h2 (by simpa using rv))
  | .none, k, v, u, e, _, _ => by simp [nkOf] at e
  | .bool _, k, v, u, e, _, _ => by simp [nkOf] at e
  | .list _, k, v, u, e, _, _ => by simp [nkOf] at e
  | .dict _, k, v, u, e, _, _ => by simp [nkOf] at e
theorem nk_all (I : Inv X pins σ H s) : ∀ (ds : List PyData) (ks : List NestedKey) (vs : List V) (us : List Value), nkAll ds = some ks → DqAll X.K H vs ds → Vals vs us → NestedAll s.heap ks us
  | [], ks, vs, us, e, h, r => by
    simp only [nkAll, Option.some.injEq] at e
    subst e
    cases h
    cases r
    exact .nil
  | d :: ds, ks, vs, us, e, h, r => by
    unfold nkAll at e
    cases e1 : nkOf d with
    | none => rw [e1] at e; cases e
    | some k =>
      cases e2 : nkAll ds with
      | none => rw [e1, e2] at e; cases e
      | some ks' =>
        rw [e1, e2] at e
        cases e
        cases h with
        | cons h1 h2 =>
          cases r with
          | cons r1 r2 => exact .cons (nk_is I d k _ _ e1 h1 r1) (nk_all I ds ks' _ _ e2 h2 r2)
end
theorem DR.is (I : Inv X pins σ H s) {G : Hp} (ex : Same G H) : ∀ {kvs : List (PyData × PyData)} {xs : List (NestedKey × Addr × Value)}, DR X.K G kvs xs → ∀ x ∈ xs, (nestedKind X.prog X.w).is s.heap x.1 x.2.1
  | _, _, .nil, x, hx => by cases hx
  | _, _, .cons h1 h2 h3 h4 h5 h6, x, hx => by
    rcases List.mem_cons.mp hx with rfl | hx
    · exact ⟨nk_is I _ _ _ _ h1 (Dq.mono ex _ _ h3) rfl, h2⟩
    · exact DR.is I ex h6 x hx
theorem DR.len {K : PySem.W.Frag} {G : Hp} : ∀ {kvs : List (PyData × PyData)} {xs : List (NestedKey × Addr × Value)}, DR K G kvs xs → kvs.length = xs.length
  | _, _, .nil => rfl
  | _, _, .cons _ _ _ _ _ h => congrArg (· + 1) (DR.len h)
theorem DR.look {K : PySem.W.Frag} {G : Hp} (n : NestedKey) : ∀ {kvs : List (PyData × PyData)} {xs : List (NestedKey × Addr × Value)}, DR K G kvs xs →
    (lookN kvs n = none ∧ atKey xs n = none) ∨ ∃ d q u v, lookN kvs n = some d ∧ atKey xs n = some (q, u) ∧ RelV v u ∧ Dq K G v d
  | _, _, .nil => .inl ⟨rfl, rfl⟩
  | _, _, .cons (k := k) (d := d) (n := m) (q := q) (u := u) (v := v) h1 h2 h3 h4 h5 h6 => by
    by_cases e : m = n
    · subst e
      refine .inr ⟨d, q, u, v, ?_, ?_, h4, h5⟩
      · rw [lookN, if_pos h1]
      · simp [atKey]
    · have e1 : nkOf k ≠ some n := by rw [h1]; exact fun z => e (Option.some.inj z)
      have ih := DR.look n h6
      have a1 : ∀ ys : List (NestedKey × Addr × Value), atKey ((m, q, u) :: ys) n = atKey ys n := fun ys => by simp [atKey, e]
      rw [lookN, if_neg e1, a1]
      exact ih
theorem DR.get {K : PySem.W.Frag} {G : Hp} : ∀ {kvs : List (PyData × PyData)} {xs : List (NestedKey × Addr × Value)} {i : Nat} {p : PyData × PyData}, DR K G kvs xs → kvs[i]? = some p → ∃ x, xs[i]? = some x ∧ Dq K G (.ref x.2.1) p.1
  | _, _, _, _, .nil, e => by simp at e
  | _, _, 0, p, .cons h1 h2 h3 h4 h5 h6, e => by
    simp at e
    subst e
    exact ⟨_, rfl, h3⟩
  | _, _, i + 1, p, .cons h1 h2 h3 h4 h5 h6, e => by
    obtain ⟨x, a, b⟩ := DR.get (i := i) h6 (by simpa using e)
    exact ⟨x, by simpa using a, b⟩
theorem DR.put_new {K : PySem.W.Frag} {G : Hp} {kd d : PyData} {n : NestedKey} {q : Addr} {u : Value} {v : V} (h1 : nkOf kd = some n) (h2 : n.depth ≤ 8) (h3 : Dq K G (.ref q) kd) (h4 : RelV v u) (h5 : Dq K G v d) :
    ∀ {kvs : List (PyData × PyData)} {xs : List (NestedKey × Addr × Value)}, DR K G kvs xs → atKey xs n = none → DR K G (putN kvs kd n d) (xs ++ [(n, q, u)])
  | _, _, .nil, _ => .cons h1 h2 h3 h4 h5 .nil
  | _, _, .cons (k := k) (n := m) (q := p) (u := t) g1 g2 g3 g4 g5 g6, e => by
    have em : m ≠ n := fun z => by
      subst z
      simp [atKey] at e
    have e1 : nkOf k ≠ some n := by rw [g1]; exact fun z => em (Option.some.inj z)
    rw [putN, if_neg e1]
    exact .cons g1 g2 g3 g4 g5 (DR.put_new h1 h2 h3 h4 h5 g6 (by simpa [atKey, em] using e))
theorem DR.put_old {K : PySem.W.Frag} {G : Hp} {kd d : PyData} {n : NestedKey} {u : Value} {v : V} (h4 : RelV v u) (h5 : Dq K G v d) :
    ∀ {kvs : List (PyData × PyData)} {xs : List (NestedKey × Addr × Value)}, DR K G kvs xs → (xs.map (·.1)).Nodup → (atKey xs n).isSome = true → DR K G (putN kvs kd n d) (xs.map (putAt n u))
  | _, _, .nil, _, e => by simp [atKey] at e
  | _, _, .cons (k := k) (n := m) (q := p) (u := t) (xs := xs) g1 g2 g3 g4 g5 g6, nd, e => by
    rw [List.map_cons, List.nodup_cons] at nd
    by_cases em : m = n
    · subst em
      rw [putN, if_pos g1, List.map_cons, map_putAt_of_not_mem xs m u nd.1, putAt, if_pos rfl]
      exact .cons g1 g2 g3 h4 h5 g6
    · have e1 : nkOf k ≠ some n := by rw [g1]; exact fun z => em (Option.some.inj z)
      rw [putN, if_neg e1, List.map_cons, putAt, if_neg em]
      exact .cons g1 g2 g3 g4 g5 (DR.put_old h4 h5 g6 nd.2 (by simpa [atKey, em] using e))
theorem DR.put {K : PySem.W.Frag} {G : Hp} {kd d : PyData} {n : NestedKey} {q : Addr} {u : Value} {v : V} {kvs : List (PyData × PyData)} {xs : List (NestedKey × Addr × Value)} (h1 : nkOf kd = some n) (h2 : n.depth ≤ 8) (h3 : Dq K G (.ref q) kd) (h4 : RelV v u) (h5 : Dq K G v d)
    (h : DR K G kvs xs) (nd : (xs.map (·.1)).Nodup) : DR K G (putN kvs kd n d) (storedH xs n q u) := by
  cases e : atKey xs n with
  | none =>
    rw [storedH_new e]
    exact h.put_new h1 h2 h3 h4 h5 e
  | some p =>
    rw [storedH_old e]
    exact h.put_old h4 h5 nd (by rw [e]; rfl)
/-- where such a dict stands -/
theorem dicO_ok {P : Program} {w : World} {H : Hp} {h : Heap} {a : Addr} {xs : List (NestedKey × Addr × Value)} {o : Obj} {es : Array DictEntry} {ep : Nat} (ho : h.get? a = some o) (hx : o.ExactDict) (hd : o.data = .dict es ep)
    (he : es.toList = xs.map fun x => (⟨x.1.hash w, .ref x.2.1, x.2.2⟩ : DictEntry)) : ObjOk P w H h a (DicO w a xs) :=
  ⟨⟨o, es, ep, ho, hx, hd, he⟩, ⟨o, ho⟩, fun h1 h2 ⟨o1, es1, ep1, g1, g2, g3, g4⟩ k => ⟨o1, es1, ep1, k _ g1, g2, g3, g4⟩⟩
theorem dicO_of {P : Program} {w : World} {H : Hp} {h : Heap} {a : Addr} {xs : List (NestedKey × Addr × Value)} (hk : HOk P w H h) (r : Rd H a (DicO w a xs)) : ∃ o es ep, h.get? a = some o ∧ o.ExactDict ∧ o.data = .dict es ep ∧ es.toList = xs.map fun x => (⟨x.1.hash w, .ref x.2.1, x.2.2⟩ : DictEntry) :=
  (r.ok hk).1
theorem dict_of [Wd] (hw : X.w = Wd.w) (I : Inv X pins σ H s) {G : Hp} (ex : Same G H) {a : Addr} {kvs : List (PyData × PyData)} {xs : List (NestedKey × Addr × Value)} (r : Rd H a (DicO Wd.w a xs)) (nd : (xs.map (·.1)).Nodup) (d : DR X.K G kvs xs) : s.heap.DictOfH (nestedKind X.prog X.w) a xs := by
  rw [← hw] at r
  obtain ⟨o, es, ep, h1, h2, h3, h4⟩ := dicO_of I.hok r
  exact ⟨o, es, ep, h1, h2, h3, h4, d.is I ex, nd⟩
end

variable [Wd]
/-- a dict is read: it may be changed, or it stands -/
def DicR (K : PySem.W.Frag) (G H : Hp) (a : Addr) (kvs : List (PyData × PyData)) : Prop := (a == sysModules) = false ∧ ∃ xs, Rd H a (DicO Wd.w a xs) ∧ (xs.map (·.1)).Nodup ∧ DR K G kvs xs
theorem MO.dicR {K : PySem.W.Frag} {G H : Hp} {a : Addr} {o : M} {kvs : List (PyData × PyData)} (ex : Same G H) (h : MO K G H a o) (e : dicOf o = some kvs) : DicR K G H a kvs := by
  cases o with
  | lst xs => cases e
  | frz xs => cases e
  | dic k =>
    cases e
    obtain ⟨_, h0, xs, h1, h2, h3⟩ := h
    exact ⟨h0, xs, .inl h1, h2, h3⟩
  | fdc k =>
    cases e
    obtain ⟨h0, xs, o, h1, h2, h3⟩ := h
    exact ⟨h0, xs, .inr ⟨o, ex _ _ h1⟩, h2, h3⟩
/-- a key is read -/
def KeyR (K : PySem.W.Frag) (G : Hp) (b : Addr) (n : NestedKey) : Prop := ∃ kd, Dq K G (.ref b) kd ∧ nkOf kd = some n ∧ n.depth ≤ 8
def rInN (K : PySem.W.Frag) : R2 := fun x y H Q => ∃ a b G kvs n, x = .ref b ∧ y = .ref a ∧ Same G H ∧ DicR K G H a kvs ∧ KeyR K G b n ∧ Q (.bl (lookN kvs n).isSome) H
def rNotInN (K : PySem.W.Frag) : R2 := fun x y H Q => ∃ a b G kvs n, x = .ref b ∧ y = .ref a ∧ Same G H ∧ DicR K G H a kvs ∧ KeyR K G b n ∧ Q (.bl (!(lookN kvs n).isSome)) H
def rGetN (K : PySem.W.Frag) : R2 := fun x y H Q => ∃ a b G kvs n d, x = .ref a ∧ y = .ref b ∧ Same G H ∧ DicR K G H a kvs ∧ KeyR K G b n ∧ lookN kvs n = some d ∧ ∀ v, Dq K G v d → Q v H
def rSetN (K : PySem.W.Frag) : V → V → V → Hp → (Hp → Prop) → Prop := fun o i v H Q => ∃ a b G kvs kd n d xs, o = .ref a ∧ i = .ref b ∧ Same G H ∧ (a == sysModules) = false ∧ H a = some (DicO Wd.w a xs) ∧ (xs.map (·.1)).Nodup ∧ DR K G kvs xs ∧
  Dq K G (.ref b) kd ∧ nkOf kd = some n ∧ n.depth ≤ 8 ∧ Dq K G v d ∧ kvs.length ≤ sizeLine ∧ ∀ xs', (xs'.map (·.1)).Nodup → DR K G (putN kvs kd n d) xs' → Q (upd H a (DicO Wd.w a xs'))
section
variable {X : Cx} {w : Wish} {e a b c : Expr} {δ δa δb δc : DE} {pos : Pos}
theorem look_isSome {K : PySem.W.Frag} {G : Hp} {kvs : List (PyData × PyData)} {xs : List (NestedKey × Addr × Value)} (d : DR K G kvs xs) (n : NestedKey) : (atKey xs n).isSome = (lookN kvs n).isSome := by
  rcases d.look n with ⟨h1, h2⟩ | ⟨_, _, _, _, h1, h2, _⟩ <;> rw [h1, h2] <;> rfl
theorem op_inN (hw : X.w = Wd.w) (hu : X.A.units + 100 < cLine) : OpR X (compareOp .In) (rInN X.K) := by
  intro pins s σ H x y v u Q I rx ry h
  obtain ⟨a, b, G, kvs, n, rfl, rfl, ex, ⟨h0, xs, h1, h2, h3⟩, ⟨kd, k1, k2, k3⟩, q⟩ := h
  cases rx
  cases ry
  have D := dict_of hw I ex h1 h2 h3
  refine wpAny_in_heap (knd := nestedKind X.prog X.w) (by show X.A.in1.units + 8 < cLine; simp only [Around.in1_units]; omega) ⟨nk_is I _ _ _ _ k2 (Dq.mono ex _ _ k1) rfl, k3⟩ h0 D ?_
  refine ⟨.bl _, H, I.tok _, rfl, ?_⟩
  rw [look_isSome h3]
  exact q
theorem op_notInN (hw : X.w = Wd.w) (hu : X.A.units + 100 < cLine) : OpR X (compareOp .NotIn) (rNotInN X.K) := by
  intro pins s σ H x y v u Q I rx ry h
  obtain ⟨a, b, G, kvs, n, rfl, rfl, ex, ⟨h0, xs, h1, h2, h3⟩, ⟨kd, k1, k2, k3⟩, q⟩ := h
  cases rx
  cases ry
  have D := dict_of hw I ex h1 h2 h3
  refine notIn_keyed (knd := nestedKind X.prog X.w) (kvs := pairsH xs) (by show X.A.in1.units + 8 < cLine; simp only [Around.in1_units]; omega) ⟨nk_is I _ _ _ _ k2 (Dq.mono ex _ _ k1) rfl, k3⟩ h0 ⟨xs, D, rfl⟩ ?_
  refine ⟨.bl _, H, I.tok _, rfl, ?_⟩
  rw [valueAt_pairsH, Option.isSome_map, look_isSome h3]
  exact q
theorem ix_dicN (hw : X.w = Wd.w) (hu : X.A.units + 100 < cLine) : IxR X (rGetN X.K) := by
  intro value slice pins s σ H x y v u Q I rx ry h hs
  obtain ⟨a, b, G, kvs, n, d, rfl, rfl, ex, ⟨h0, xs, h1, h2, h3⟩, ⟨kd, k1, k2, k3⟩, hl, q⟩ := h
  cases rx
  cases ry
  have D := dict_of hw I ex h1 h2 h3
  rcases h3.look n with ⟨z, _⟩ | ⟨d', p, u', v', l1, l2, rv, dv⟩
  · rw [hl] at z
    cases z
  · rw [hl] at l1
    cases l1
    refine tail_any (ops := [.ref a, .ref b]) D.typeIs (PySem.F.slot_dict_getitem.lookup) ?_ hs
    refine wpAny_getItem_heap (knd := nestedKind X.prog X.w) (by show X.A.in1.units + 8 < cLine; simp only [Around.in1_units]; omega) ⟨nk_is I _ _ _ _ k2 (Dq.mono ex _ _ k1) rfl, k3⟩ D l2 ?_
    exact ⟨v', H, I.tok _, rv, q v' dv⟩
theorem set_dicN (hw : X.w = Wd.w) (hu : X.A.units + 100 < cLine) : PSet X (rSetN X.K) := by
  intro pins s σ H o i v ov iv u Q I ro ri rv h
  obtain ⟨a, b, G, kvs, kd, n, d, xs, rfl, rfl, ex, h0, h1, h2, h3, k1, k2, k3, dv, hz, q⟩ := h
  cases ro
  cases ri
  have D := dict_of hw I ex (.inl h1) h2 h3
  refine wpAny_setItem_heap (knd := nestedKind X.prog X.w) (by show X.A.in1.units + 8 < cLine; simp only [Around.in1_units]; omega) ⟨nk_is I _ _ _ _ k2 (Dq.mono ex _ _ k1) rfl, k3⟩ D (fun h' hm' hs => ?_) (by rw [← h3.len]; exact hz)
  have dp := h3.put k2 k3 k1 rv dv h2
  obtain ⟨o', es, ep, g1, g2, g3, g4, _, g5⟩ := hm'
  refine ⟨upd H a (DicO Wd.w a (storedH xs n b u)), I.write (x := a) (e := a) (by rw [h1]; exact True.intro) (.inl rfl) (fun c o hc ho => (hs.2 c hc).trans ho) ⟨_, g1⟩ (by rw [← hw]; exact dicO_ok g1 g2 g3 g4), q _ g5 dp⟩
theorem nkT_key {x : PyData} {n : NestedKey} (h : nkT x = some n) : (∃ xs, x = .tuple xs) ∧ nkOf x = some n ∧ n.depth ≤ 8 := by
  unfold nkT at h
  split at h
  · split at h
    · rename_i xs k e
      split at h
      · rename_i hd
        cases h
        exact ⟨⟨_, rfl⟩, e, hd⟩
      · cases h
    · cases h
  · cases h
theorem key_of_d {K : PySem.W.Frag} {G : Hp} {v : V} {x : PyData} {n : NestedKey} (r : Dq K G v x) (h : nkT x = some n) : ∃ b, v = .ref b ∧ KeyR K G b n ∧ Dq K G (.ref b) x := by
  obtain ⟨⟨xs, rfl⟩, h1, h2⟩ := nkT_key h
  cases r with
  | tup g1 g2 => exact ⟨_, rfl, ⟨_, .tup g1 g2, h1, h2⟩, .tup g1 g2⟩
theorem KeyR.mono {K : PySem.W.Frag} {G G' : Hp} {b : Addr} {n : NestedKey} (e : Same G G') (h : KeyR K G b n) : KeyR K G' b n := by
  obtain ⟨kd, h1, h2⟩ := h
  exact ⟨kd, Dq.mono e _ _ h1, h2⟩
/-- {} -/
def tNewN (w : World) : TE := fun _ H Q => ∀ p, H p = none → (p == sysModules) = false → Q (.ref p) (upd H p (DicO w p []))
theorem pe_newN : PE X (.Dict [] [] pos) (tNewN X.w) := ⟨fun pins s σ H Q I h =>
  wpAny_Dict_empty ⟨.ref s.heap.objs.size, _, I.laid (a := s.heap.objs.size) (o := DicO X.w s.heap.objs.size []) (t' := s.toks) (fun _ _ q => Heap.get?_push_of_some _ q) (Nat.le_refl _)
    (dicO_ok (es := #[]) (ep := 0) (Heap.get?_push_size _ rfl) ⟨rfl, rfl, rfl⟩ rfl rfl), rfl, h _ (I.hok.fresh (Nat.le_refl _)) (beq_eq_false_iff_ne.mpr (Ne.symm (Nat.ne_of_lt I.big)))⟩⟩
theorem MemR.allocD {K : PySem.W.Frag} {G H : Hp} {m : List Addr} {μ : Mem} (h : MemR K G H m μ) {p : Addr} (hp : H p = none) (hs : (p == sysModules) = false) : MemR K G (upd H p (DicO Wd.w p [])) (m ++ [p]) (μ ++ [.dic []]) ∧ Stp G H m G (upd H p (DicO Wd.w p [])) (m ++ [p]) := by
  obtain ⟨g0, nm⟩ := h.dead hp
  refine ⟨⟨same_upd2 h.ex g0, by rw [List.length_append, List.length_append, h.len]; rfl, ?_, fun i a t hi ht => ?_, h.tb.grow hp⟩, ⟨⟨Same.refl _, [p], rfl⟩, fun b u e _ _ => by rw [upd_ne (ne_of_none e hp)]; exact e, fun b e _ => upd_th e, fun a ha n => ?_, fun _ e _ _ => e⟩⟩
  · rw [List.nodup_append]
    refine ⟨h.nd, by simp, fun a ha b hb => ?_⟩
    simp only [List.mem_singleton] at hb
    subst hb
    exact fun z => nm (z ▸ ha)
  · by_cases hl : i < m.length
    · rw [List.getElem?_append_left hl] at hi
      rw [List.getElem?_append_left (by rw [← h.len]; exact hl)] at ht
      have ha : a ≠ p := fun z => nm (z ▸ List.mem_of_getElem? hi)
      have q := h.at_ i a t hi ht
      refine MO.mono (Same.refl _) (fun z => ?_) (fun u z => ?_) q
      · exact MO.gn q z
      · rw [upd_ne ha]
        exact z
    · have e : i = m.length := by
        obtain ⟨hl2, _⟩ := List.getElem?_eq_some_iff.mp hi
        simp only [List.length_append, List.length_singleton] at hl2
        omega
      subst e
      rw [List.getElem?_append_right (Nat.le_refl _)] at hi
      rw [h.len, List.getElem?_append_right (Nat.le_refl _)] at ht
      simp only [Nat.sub_self, List.getElem?_cons_zero] at hi ht
      cases hi
      cases ht
      exact ⟨g0, hs, [], upd_same, List.nodup_nil, .nil⟩
  · rcases List.mem_append.mp ha with z | z
    · exact absurd z n
    · rw [List.mem_singleton.mp z]
      exact hp
theorem ce_newD (hw : X.w = Wd.w) : CE X w (.Dict [] [] pos) eNewD := by
  refine ⟨_, pe_newN, fun ρ μ σ G H m en me Q q p hp hs => ?_⟩
  rw [hw]
  obtain ⟨me2, st2⟩ := me.allocD hp hs
  refine q _ _ _ st2 me2 _ ⟨p, ?_, rfl⟩
  rw [← me.len]
  simp
/-- a dict is changed -/
theorem MemR.putD {K : PySem.W.Frag} {G H : Hp} {m : List Addr} {μ : Mem} (h : MemR K G H m μ) {n : Nat} {a : Addr} {kvs kvs' : List (PyData × PyData)} {xs : List (NestedKey × Addr × Value)} (hn : m[n]? = some a) (hx : μ[n]? = some (.dic kvs)) (nd : (xs.map (·.1)).Nodup) (d : DR K G kvs' xs) :
    MemR K G (upd H a (DicO Wd.w a xs)) m (μ.set n (.dic kvs')) ∧ Stp G H m G (upd H a (DicO Wd.w a xs)) m := by
  have q := h.at_ n a _ hn hx
  obtain ⟨g0, h0, _⟩ := q
  refine ⟨?_, ⟨Gr.refl, fun b u e nb _ => by rw [upd_ne (fun z => nb (by rw [z]; exact List.mem_of_getElem? hn))]; exact e, fun b e _ => upd_th e, fun a h n => absurd h n, fun _ e _ _ => e⟩⟩
  refine ⟨same_upd2 h.ex g0, by rw [List.length_set]; exact h.len, h.nd, fun i b t hi ht => ?_, h.tb.put (List.mem_of_getElem? hn)⟩
  by_cases hin : n = i
  · subst hin
    rw [hn] at hi
    cases hi
    obtain ⟨hl, _⟩ := List.getElem?_eq_some_iff.mp hx
    rw [List.getElem?_set_self hl] at ht
    cases ht
    exact ⟨g0, h0, xs, upd_same, nd, d⟩
  · rw [List.getElem?_set_ne hin] at ht
    have hb : b ≠ a := fun z => hin (by
      subst z
      obtain ⟨h1, e1⟩ := List.getElem?_eq_some_iff.mp hn
      obtain ⟨h2, e2⟩ := List.getElem?_eq_some_iff.mp hi
      exact (List.getElem_inj h.nd).mp (e1.trans e2.symm))
    refine MO.mono (Same.refl _) (fun z => ?_) (fun u z => ?_) (h.at_ i b t hi ht)
    · exact MO.gn (h.at_ i b _ hi ht) z
    · rw [upd_ne hb]
      exact z
/-- the dict of a handle -/
theorem dic_at {K : PySem.W.Frag} {G H : Hp} {m : List Addr} {μ : Mem} (me : MemR K G H m μ) {h : Nat} {v : V} {kvs : List (PyData × PyData)} (r : RpS K G m (.m h) v) (e : (μ[h]?).bind dicOf = some kvs) : ∃ a, v = .ref a ∧ DicR K G H a kvs := by
  obtain ⟨a, h1, rfl⟩ := r
  cases e1 : μ[h]? with
  | none => rw [e1] at e; cases e
  | some o =>
    rw [e1] at e
    exact ⟨a, rfl, (me.at_ h a o h1 e1).dicR me.ex e⟩
theorem sim_inN {K : PySem.W.Frag} {ta tb : TE} (ha : SimE K w ta δa) (hb : SimE K w tb δb) : SimE K w (tOp (rInN K) ta tb) (eInD δa δb) := by
  intro ρ μ σ G H m en me Q q
  refine ha ρ μ σ G H m en me _ (Post.of_bind q fun x μ1 G1 H1 m1 _ st1 me1 q1 v rv => ?_)
  refine hb ρ μ1 σ G1 H1 m1 (en.mono st1.gr) me1 _ (Post.of_bind q1 fun y μ2 G2 H2 m2 _ st2 me2 q2 u ru => ?_)
  split at q2
  · rename_i x1 h1 _ _
    split at q2
    · rename_i k kvs hk hd
      obtain ⟨a, rfl, dr⟩ := dic_at me2 ru hd
      obtain ⟨b, rfl, kr, _⟩ := key_of_d (Dq.mono st2.gr.ex _ _ rv) hk
      exact ⟨a, b, G2, kvs, k, rfl, rfl, me2.ex, dr, kr, q2 G2 H2 m2 Stp.refl me2 _ (.bl _)⟩
    · exact q2.elim
  · exact q2.elim
theorem sim_notInN {K : PySem.W.Frag} {ta tb : TE} (ha : SimE K w ta δa) (hb : SimE K w tb δb) : SimE K w (tOp (rNotInN K) ta tb) (eNotInD δa δb) := by
  intro ρ μ σ G H m en me Q q
  refine ha ρ μ σ G H m en me _ (Post.of_bind q fun x μ1 G1 H1 m1 _ st1 me1 q1 v rv => ?_)
  refine hb ρ μ1 σ G1 H1 m1 (en.mono st1.gr) me1 _ (Post.of_bind q1 fun y μ2 G2 H2 m2 _ st2 me2 q2 u ru => ?_)
  split at q2
  · rename_i x1 h1 _ _
    split at q2
    · rename_i k kvs hk hd
      obtain ⟨a, rfl, dr⟩ := dic_at me2 ru hd
      obtain ⟨b, rfl, kr, _⟩ := key_of_d (Dq.mono st2.gr.ex _ _ rv) hk
      exact ⟨a, b, G2, kvs, k, rfl, rfl, me2.ex, dr, kr, q2 G2 H2 m2 Stp.refl me2 _ (.bl _)⟩
    · exact q2.elim
  · exact q2.elim
theorem ce_inD (hw : X.w = Wd.w) (hu : X.A.units + 100 < cLine) (ha : CE X w a δa) (hb : CE X w b δb) (hm : behindInMarks .In b = false := by rfl) : CE X w (.Compare a [.In] [b] pos) (eInD δa δb) := by
  obtain ⟨ta, p1, s1⟩ := ha
  obtain ⟨tb, p2, s2⟩ := hb
  exact ⟨_, pe_cmpR (op_inN hw hu) p1 p2 hm, sim_inN s1 s2⟩
theorem ct_inD (hw : X.w = Wd.w) (hu : X.A.units + 100 < cLine) (ha : CE X w a δa) (hb : CE X w b δb) (hm : behindInMarks .In b = false := by rfl) : CT X w (.Compare a [.In] [b] pos) (bVal (eInD δa δb)) := by
  obtain ⟨ta, p1, s1⟩ := ha
  obtain ⟨tb, p2, s2⟩ := hb
  exact ⟨_, pt_cmpR (op_inN hw hu) p1 p2 hm, sim_test (sim_inN s1 s2)⟩
theorem ct_notInD (hw : X.w = Wd.w) (hu : X.A.units + 100 < cLine) (ha : CE X w a δa) (hb : CE X w b δb) (hm : behindInMarks .NotIn b = false := by rfl) : CT X w (.Compare a [.NotIn] [b] pos) (bVal (eNotInD δa δb)) := by
  obtain ⟨ta, p1, s1⟩ := ha
  obtain ⟨tb, p2, s2⟩ := hb
  exact ⟨_, pt_cmpR (op_notInN hw hu) p1 p2 hm, sim_test (sim_notInN s1 s2)⟩
theorem ce_getD (hw : X.w = Wd.w) (hu : X.A.units + 100 < cLine) (ha : CE X w a δa) (hb : CE X w b δb) (hs : PlainIx b := by exact (fun _ _ => rfl)) : CE X w (.Subscript a b pos) (eGetD δa δb) := by
  obtain ⟨ta, p1, s1⟩ := ha
  obtain ⟨tb, p2, s2⟩ := hb
  refine ⟨_, pe_ix (ix_dicN hw hu) p1 p2 hs, fun ρ μ σ G H m en me Q q => ?_⟩
  refine s1 ρ μ σ G H m en me _ (Post.of_bind q fun x μ1 G1 H1 m1 _ st1 me1 q1 v rv => ?_)
  refine s2 ρ μ1 σ G1 H1 m1 (en.mono st1.gr) me1 _ (Post.of_bind q1 fun y μ2 G2 H2 m2 _ st2 me2 q2 u ru => ?_)
  split at q2
  · rename_i x1 h1 _ _
    split at q2
    · rename_i k kvs hk hd
      obtain ⟨a, rfl, dr⟩ := dic_at me2 (rv.mono st2.gr) hd
      obtain ⟨b, rfl, kr, _⟩ := key_of_d ru hk
      obtain ⟨z, hz, kk⟩ := fin2 q2
      exact ⟨a, b, G2, kvs, k, z, rfl, rfl, me2.ex, dr, kr, hz, fun v' dv => kk v' G2 H2 Stp.refl me2 dv⟩
    · exact q2.elim
  · exact q2.elim
/-- d[k] = e -/
theorem cs_setD {o i : Expr} {δo δi : DE} {posS : Pos} (hX : X.w = Wd.w) (hu : X.A.units + 100 < cLine) (he : CE X w e δ) (ho : CE X w o δo) (hi : CE X w i δi) (hs : swapsWithSole [.Subscript o i posS] e pos.line X.env = pure false := by rfl) (hw : swappedStores [.Subscript o i posS] e X.env = pure none := by rfl)
    (h1 : (assignEach [.Subscript o i posS] X.env).map (·.2) = [assign (.Subscript o i posS) X.env] := by rfl)
    (ha : ∀ v, assign (.Subscript o i posS) X.env v = (do
      let ov ← holding [v] (eval o X.env)
      let iv ← holding [v, ov] (eval i X.env)
      standAt posS
      holding [v, ov, iv] (setItem ov iv v)
      release [v, ov, iv] []) := by intro _; rfl) : CS X w (.Assign [.Subscript o i posS] e pos) (sSetD δ δo δi) := by
  obtain ⟨te, p1, s1⟩ := he
  obtain ⟨to, p2, s2⟩ := ho
  obtain ⟨ti, p3, s3⟩ := hi
  refine ⟨_, ps_asg p1 (pg_sub p2 p3 (set_dicN hX hu) ha) hs hw h1, fun ρ μ σ G H m en me D q => ?_⟩
  refine s1 ρ μ σ G H m en me _ (SPost.of_out q fun s μ1 G1 H1 m1 _ st1 me1 q1 v rv => ?_)
  refine s2 ρ μ1 σ G1 H1 m1 (en.mono st1.gr) me1 _ (SPost.of_out q1 fun l μ2 G2 H2 m2 _ st2 me2 q2 u ru => ?_)
  refine s3 ρ μ2 σ G2 H2 m2 ((en.mono st1.gr).mono st2.gr) me2 _ (SPost.of_out q2 fun k μ3 G3 H3 m3 _ st3 me3 q3 t rt => ?_)
  split at q3
  · rename_i y x h _ _ _
    split at q3
    · rename_i n kvs hk hd
      split at q3
      · rename_i hz
        have ru' := ru.mono st3.gr
        obtain ⟨a, ha', rfl⟩ := ru'
        obtain ⟨b, rfl, _, db⟩ := key_of_d rt hk
        obtain ⟨_, k1, k2⟩ := nkT_key hk
        obtain ⟨g0, h0, xs, hx, nd, dr⟩ := me3.at_ h a _ ha' hd
        have rv' : Dq X.K G3 v y := Dq.mono (st2.trans st3).gr.ex _ _ rv
        refine ⟨a, b, G3, kvs, x, n, y, xs, rfl, rfl, me3.ex, h0, hx, nd, dr, db, k1, k2, rv', small_sz hz, fun xs' nd' dr' => ?_⟩
        obtain ⟨me4, st4⟩ := me3.putD ha' hd nd' dr'
        exact q3 σ G3 _ m3 st4 me4 (((en.mono st1.gr).mono st2.gr).mono st3.gr)
      · exact q3.elim
    · exact q3.elim
  · exact q3.elim
end
end Bz
set_option Elab.async false
set_option linter.all false
set_option maxRecDepth 100000
set_option maxHeartbeats 3200000
/-! sets of keys of any kind, made of a list; sorted(set(texts)). -/
namespace BS
open PySem PySem.Spec PyProof.Rows L2
variable {P : Program} {w : World} {K : Type} [DecidableEq K]
/-- no two entries are the same key -/
def Apart (knd : KeyKind P w K) (l : List (Int × Value)) : Prop := l.Pairwise fun e f => ∀ k, knd.is k e.2 = true → knd.is k f.2 = false
def Marked (w : World) (t : SetTable) : Prop := Ris t.place.toList ∧ (w.params.followText "set-order" = true ∨ t.led = true)
/-- the set at a, of the keys that S names; its table can be walked -/
structure SetG (knd : KeyKind P w K) (S : K → Bool) (o : Obj) (es : Array (Int × Value)) (ep : Nat) (t : SetTable) : Prop where
  ex : o.ExactSet
  da : o.data = .set es ep t
  el : ElemsOf knd es.toList
  ap : Apart knd es.toList
  mem : ∀ k, S k = true ↔ ∃ e ∈ es.toList, knd.is k e.2 = true
  few : es.size < scanBound
  fits : t.fits es.size = true
  mkd : Marked w t
def SetO (knd : KeyKind P w K) (h : Heap) (a : Addr) (S : K → Bool) (c : Nat) : Prop := ∃ o es ep t, h.get? a = some o ∧ SetG knd S o es ep t ∧ es.size ≤ c
variable {knd : KeyKind P w K} {A : Around} {E : Value → Shared → Prop} {s : Shared} {a : Addr} {S : K → Bool}
theorem SetO.to {h h' : Heap} {c : Nat} (R : SetO knd h a S c) (k : ∀ o, h.get? a = some o → h'.get? a = some o) : SetO knd h' a S c := by
  obtain ⟨o, es, ep, t, ho, r⟩ := R
  exact ⟨o, es, ep, t, k o ho, r⟩
theorem SetO.same {S' : K → Bool} {h : Heap} {c : Nat} (R : SetO knd h a S c) (e : ∀ k, S k = S' k) : SetO knd h a S' c := by
  have : S = S' := funext e
  subst this
  exact R
theorem SetO.le {h : Heap} {c d : Nat} (R : SetO knd h a S c) (e : c ≤ d) : SetO knd h a S d := by
  obtain ⟨o, es, ep, t, ho, r, q⟩ := R
  exact ⟨o, es, ep, t, ho, r, Nat.le_trans q e⟩
theorem apart_perm {l m : List (Int × Value)} (p : l.Perm m) (h : Apart knd l) : Apart knd m := by
  refine (p.pairwise_iff fun {x y} q k hk => ?_).mp h
  cases e : knd.is k x.2 with
  | false => rfl
  | true =>
    have := q k e
    rw [hk] at this
    cases this
theorem stored_at {h : Heap} {o : Obj} {es es' : Array (Int × Value)} {ep : Nat} {t t' : SetTable} (ho : h.get? a = some o) (hx : o.ExactSet) (hd : o.data = .set es ep t) :
    ∃ o', (h.update a (Obj.putSet es' t')).get? a = some o' ∧ o'.ExactSet ∧ ∃ ep', o'.data = .set es' ep' t' :=
  ⟨_, store_at (es' := es') (t' := t') ho hd, hx, _, rfl⟩
/-- the end of an add of a new key -/
theorem add_tail {g : Bool → Sem Unit} (hg : ∀ (b : Bool) (s1 : Shared) (Q' : Unit → Shared → Prop), Q' () s1 → wpAny (model P w) A (g b) Q' E s1) {o : Obj} {es es1 : Array (Int × Value)} {ep c : Nat} {t t2 : SetTable} {S' : K → Bool}
    (ho : s.heap.get? a = some o) (hx : o.ExactSet) (hd : o.data = .set es ep t) (el : ElemsOf knd es1.toList) (ap : Apart knd es1.toList) (mem : ∀ k, S' k = true ↔ ∃ e ∈ es1.toList, knd.is k e.2 = true) (few : es1.size < scanBound) (hc : es1.size ≤ c)
    (fits : t2.fits es1.size = true) (mk : Marked w t2) {dm : Bool} {R : Option Bool → Shared → Prop} (hR : ∀ h', Heap.SameBut a s.heap h' → SetO knd h' a S' c → R (some true) { s with heap := h' }) :
    wpAny (model P w) A (do
        storeSet a es1 t2
        if (!dm && t2.tooFull) = true then do
            g (relayAll t2 es1 (SetTable.grown es1.size)).2.2
            storeSet a (relayAll t2 es1 (SetTable.grown es1.size)).1 (relayAll t2 es1 (SetTable.grown es1.size)).2.1
            pure (some true)
          else pure (some true)) R E s := by
  refine wpAny_bind (wpAny_storeSet_of ho hd ?_ (fits_of_scanBound few))
  obtain ⟨o1, ho1, hx1, ep1, hd1⟩ := stored_at (es' := es1) (t' := t2) ho hx hd
  have b1 := Heap.SameBut.update s.heap a (Obj.putSet es1 t2)
  by_cases hf : (!dm && t2.tooFull) = true
  · rw [if_pos hf]
    have pm := relayAll_perm t2 es1 (SetTable.grown es1.size)
    have q1 := relayAll_fits t2 es1 (SetTable.grown es1.size)
    have q2 := relayAll_ris t2 es1 (SetTable.grown es1.size)
    have q3 := relayAll_led t2 es1 (SetTable.grown es1.size)
    generalize relayAll t2 es1 (SetTable.grown es1.size) = Z at pm q1 q2 q3 ⊢
    obtain ⟨es2, t3, gv⟩ := Z
    dsimp only at pm q1 q2 q3 ⊢
    have hz : es2.size = es1.size := by
      have := pm.length_eq
      simpa using this
    refine wpAny_bind (hg _ _ _ (wpAny_bind (wpAny_storeSet_of ho1 hd1 ?_ (fits_of_scanBound (by omega)))))
    obtain ⟨o2, ho2, hx2, ep2, hd2⟩ := stored_at (es' := es2) (t' := t3) ho1 hx1 hd1
    refine wpAny_pure (hR _ (b1.trans (Heap.SameBut.update _ a _)) ⟨o2, es2, ep2, t3, ho2, ⟨hx2, hd2, fun e he => el e (pm.mem_iff.mp he), apart_perm pm.symm ap, fun k => (mem k).trans ?_, by omega, q1, q2, ?_⟩, by omega⟩)
    · exact ⟨fun ⟨e, h1, h2⟩ => ⟨e, pm.mem_iff.mpr h1, h2⟩, fun ⟨e, h1, h2⟩ => ⟨e, pm.mem_iff.mp h1, h2⟩⟩
    · rcases mk.2 with z | z
      · exact .inl z
      · exact .inr (q3.trans z)
  · rw [if_neg hf]
    exact wpAny_pure (hR _ b1 ⟨o1, es1, ep1, t2, ho1, ⟨hx1, hd1, el, ap, mem, few, fits, mk⟩, hc⟩)
theorem gave_way (b : Bool) {s1 : Shared} {Q' : Unit → Shared → Prop} (q : Q' () s1) : wpAny (model P w) A (match b with | true => rule "set.scan.the-table-gave-way" | false => pure ()) Q' E s1 := by
  cases b
  · exact wpAny_pure q
  · exact wpAny_rule q
/-- a key is added -/
theorem add_hashed {k : K} {v : Value} {c : Nat} {Q : Bool → Shared → Prop} (R : SetO knd s.heap a S c) (hv : knd.is k v = true) (hs : v.scannable = true) (room : c + 1 < scanBound)
    (hQ : ∀ h' r, Heap.SameBut a s.heap h' → SetO knd h' a (fun j => S j || decide (j = k)) (c + 1) → Q r { s with heap := h' }) : wpAny (model P w) A (setAddHashed a v (knd.hash k)) Q E s := by
  obtain ⟨o, es, ep, t, ho, G, hc⟩ := R
  unfold setAddHashed setAddHashedIn
  refine wpAny_holding (wpAny_bind (wpAny_setState_of ho G.da G.fits ?_))
  dsimp only
  rw [byScan_of hs G.few G.el]
  simp only [↓reduceIte]
  unfold setAddByScan
  refine wpAny_bind (wpAny_bind (wpAny_rule (wpAny_bind (wpAny_setScan_of hv ho G.da G.fits G.el ?_))))
  cases hfi : List.findIdx? (fun e => knd.is k e.2) es.toList with
  | some j =>
    dsimp only
    obtain ⟨hj, pj, _⟩ := List.findIdx?_eq_some_iff_getElem.mp hfi
    have hSk : S k = true := (G.mem k).mpr ⟨_, List.getElem_mem hj, pj⟩
    refine wpAny_pure (wpAny_pure (hQ s.heap _ (Heap.SameBut.refl a s.heap) ⟨o, es, ep, t, ho, { G with mem := fun i => ?_ }, by omega⟩))
    rw [← G.mem i, Bool.or_eq_true, decide_eq_true_eq]
    exact ⟨fun z => z.elim id fun e => by rw [e]; exact hSk, .inl⟩
  | none =>
    dsimp only
    have hno : ∀ e ∈ es.toList, knd.is k e.2 = false := fun e he => List.findIdx?_eq_none_iff.mp hfi e he
    have pm := layNew_perm t es (knd.hash k) v
    have q1 := layNew_fits t es (knd.hash k) v
    have q2 := layNew_ris t es (knd.hash k) v G.mkd.1
    have q3 := layNew_led t es (knd.hash k) v
    generalize layNew t es (knd.hash k) v = Z at pm q1 q2 q3 ⊢
    obtain ⟨es1, t1, dm, gv⟩ := Z
    dsimp only at pm q1 q2 q3 ⊢
    rw [Array.toList_push] at pm
    have pc : es1.toList.Perm ((knd.hash k, v) :: es.toList) := pm.trans (List.perm_append_singleton _ _)
    have el1 : ElemsOf knd es1.toList := fun e he => by
      rcases List.mem_cons.mp (pc.mem_iff.mp he) with z | z
      · rw [z]
        exact ⟨⟨k, hv, rfl⟩, hs⟩
      · exact G.el e z
    have ap1 : Apart knd es1.toList := by
      refine apart_perm pc.symm (List.pairwise_cons.mpr ⟨fun e he i hi => ?_, G.ap⟩)
      rw [knd.inj _ _ _ hi hv]
      exact hno e he
    have mem1 : ∀ i, (S i || decide (i = k)) = true ↔ ∃ e ∈ es1.toList, knd.is i e.2 = true := fun i => by
      rw [Bool.or_eq_true, decide_eq_true_eq, G.mem i]
      constructor
      · rintro (⟨e, h1, h2⟩ | rfl)
        · exact ⟨e, pc.mem_iff.mpr (List.mem_cons_of_mem _ h1), h2⟩
        · exact ⟨_, pc.mem_iff.mpr List.mem_cons_self, hv⟩
      · rintro ⟨e, h1, h2⟩
        rcases List.mem_cons.mp (pc.mem_iff.mp h1) with z | z
        · rw [z] at h2
          exact .inr (knd.inj _ _ _ h2 hv)
        · exact .inl ⟨e, z, h2⟩
    have hz : es1.size = es.size + 1 := by
      have := pc.length_eq
      simpa using this
    have mk1 : Marked w t1 := ⟨q2, G.mkd.2.imp id fun z => q3.trans z⟩
    refine wpAny_bind (gave_way _ ?_)
    split
    · refine wpAny_bind ?_
      rw [hashByValue_scannable 8 hs]
      refine wpAny_pure ?_
      refine add_tail (knd := knd) (c := c + 1) (fun b _ _ q => gave_way b q) ho G.ex G.da el1 ap1 mem1 (by omega) (by omega) ?_ ?_ ?_
      · first | (split <;> first | exact q1 | exact SetTable.fits_plain_off q1) | exact q1
      · first | (split <;> first | exact mk1 | exact ⟨q2, mk1.2⟩) | exact mk1
      · intro h' sb r
        dsimp only
        exact wpAny_pure (hQ h' _ sb r)
    · refine wpAny_bind (wpAny_pure ?_)
      simp only [↓reduceIte]
      refine add_tail (knd := knd) (c := c + 1) (fun b _ _ q => gave_way b q) ho G.ex G.da el1 ap1 mem1 (by omega) (by omega) q1 mk1 ?_
      intro h' sb r
      dsimp only
      exact wpAny_pure (hQ h' _ sb r)
/-- all keys of what is walked are added -/
theorem update_go {I : Addr} {fp wr : List Addr} {G : Array GenState → Array GenState → Prop} {n : Nat} {Pv : Nat → Value → Prop} {St : Nat → Shared → Prop} {R : Result → Shared → Prop} (W : WalksS P w A.in1 I fp wr G n Pv St) (D : Addr) (hD : D ∉ fp)
    (ks : List K) (hn : n = ks.length) (hb : ks.length + 1 < scanBound) (hval : ∀ i v, Pv i v → ∃ k, ks[i]? = some k ∧ knd.is k v = true ∧ v.scannable = true) :
    ∀ (m i : Nat) (s : Shared), i + m = n → St i s → SetO knd s.heap D (fun j => decide (j ∈ ks.take i)) i → (∀ s', Moved (D :: wr) G s s' → SetO knd s'.heap D (fun j => decide (j ∈ ks)) n → R (.ok (.ret .none)) s') →
      codeAny (model P w) A (.builtin "set.update.loop" ⟨[.ref D, .ref I], []⟩) R s := by
  have hDw : D ∉ wr := fun z => hD (W.sub _ z)
  have up : ∀ b ∈ wr, b ∈ D :: wr := fun b z => List.mem_cons_of_mem _ z
  intro m
  induction m with
  | zero =>
    intro i s hi hst hS hR
    have e : i = n := by omega
    subst e
    refine codeAny_builtin F.entry_set_update_loop ?_
    rw [Around.under_plainId F.plain_set_update_loop _]
    refine wpAny_bind (m := pyNext (.ref I)) (W.done s _ _ hst fun s' hm => ?_)
    refine (show wpAny _ A.in1 (ret Value.none) _ _ s' from wpAny_pure (hR s' (hm.mono up) ?_))
    exact (hS.to fun o z => hm.heap D o hDw z).same fun j => by rw [List.take_of_length_le (by omega)]
  | succ m ih =>
    intro i s hi hst hS hR
    have lt : i < n := by omega
    refine codeAny_builtin F.entry_set_update_loop ?_
    rw [Around.under_plainId F.plain_set_update_loop _]
    refine wpAny_bind (m := pyNext (.ref I)) (W.item i s _ _ lt hst fun v s' hP hst' hm => ?_)
    obtain ⟨k, hk, hv, hs⟩ := hval i v hP
    have hS1 := hS.to (h' := s'.heap) fun o z => hm.heap D o hDw z
    show wpAny _ A.in1 (holding [v] (setAdd D v) >>= _) _ _ s'
    refine wpAny_bind (wpAny_holding ?_)
    unfold setAdd
    refine wpAny_holding (wpAny_bind (knd.pyHash (k := k) hv ?_))
    refine add_hashed (knd := knd) (s := { s' with toks := s'.toks + 1 }) hS1 hv hs (by omega) fun h' _ sb hS2 => ?_
    have hS3 : SetO knd h' D (fun j => decide (j ∈ ks.take (i + 1))) (i + 1) := hS2.same fun j => by
      rw [List.take_add_one, hk]
      simp [List.mem_append]
    refine wpAny_pure ⟨plainId_quiet F.plain_set_update_loop _, ih (i + 1) _ (by omega) (W.frame _ s' _ _ hst' (Nat.le_succ _) fun b z o e => ?_) hS3 fun s'' hm' hS' => ?_⟩
    · exact (sb.2 b fun q : b = D => hD (q ▸ z)).trans e
    · exact hR s'' (Moved.trans W.gtrans ((hm.mono up).then_heap (Nat.le_succ _) fun b o z e => (sb.2 b fun q : b = D => z (q ▸ List.mem_cons_self)).trans e) hm') hS'
abbrev new0 (w : World) : Obj := { cls := .type "set", dict := none, data := .set #[] 0 (.fresh 0 0 (!w.params.followText "set-order")) }
theorem setO_new {h : Heap} (ho : h.get? a = some (new0 w)) (ks : List K) : SetO knd h a (fun j => decide (j ∈ ks.take 0)) 0 := by
  refine ⟨_, #[], 0, _, ho, ⟨⟨rfl, rfl, rfl⟩, rfl, fun e he => by simp at he, List.Pairwise.nil, fun k => by simp, by decide, rfl, List.Pairwise.nil, ?_⟩, Nat.le_refl 0⟩
  show _ ∨ (!w.params.followText "set-order") = true
  cases w.params.followText "set-order" <;> simp
/-- set(l) of a list -/
theorem call_set_list {l : Addr} {items : Array Value} (ks : List K) {Q : Value → Shared → Prop} (hh : A.handled = none) (hl : s.heap.IsList l items) (hsz : items.size = ks.length) (hit : ∀ (i : Nat) v, items[i]? = some v → ∃ k, ks[i]? = some k ∧ knd.is k v = true ∧ v.scannable = true)
    (hb : ks.length + 1 < scanBound) (h : ∀ (h' : Heap) (tk : Nat), SetO knd h' s.heap.objs.size (fun j => decide (j ∈ ks)) ks.length → (∀ b o, s.heap.get? b = some o → h'.get? b = some o) → Q (.ref s.heap.objs.size) { s with heap := h', toks := tk }) :
    wpAny (model P w) A (call (.type "set") [.ref l]) Q E s := by
  obtain ⟨c, tl, hmro⟩ := F.called_set.mro
  have z1 := F.called_set.made
  have z2 := F.called_set.sub
  refine wpAny_call (codeAny_of_tree ?_)
  refine (show wpAny _ _ (callAny (.type "set") _) _ _ _ from wpAny_pure ⟨Code.quiet_builtin _ (by decide +kernel), codeAny_builtin F.entry_type_call ?_⟩)
  rw [Around.under_plain (weight_type_call_type "set" [.ref l] []) rfl]
  have z3 := F.called_set.notType
  have z4 := F.called_set.canCreate
  have z5 := F.typeCall_set_1 (.ref l)
  repeat (any_goals (first | assumption | wp_step))
  refine codeAny_mono (code_set_led1 (.ref l) (E := E) (Q₁ := fun v s1 => v = .ref s.heap.objs.size ∧ s1 = { s with heap := s.heap.push (new0 w) }) ⟨rfl, rfl⟩) fun r s1 hr => ?_
  cases r with
  | error e => exact hr
  | ok fl =>
    cases fl with
    | ret v =>
      obtain ⟨rfl, rfl⟩ := hr
      have hN : (s.heap.push (new0 w)).get? s.heap.objs.size = some (new0 w) := Heap.get?_push_size _ rfl
      have hT : Shared.TypeIs { s with heap := s.heap.push (new0 w) } (.ref s.heap.objs.size) "set" := ⟨_, hN, rfl⟩
      have z6 := F.called_set.init.lookup
      have z7 := F.called_set.init.bind (.ref s.heap.objs.size)
      repeat (any_goals (first | assumption | wp_step))
      refine codeAny_mono (codeAny_call_builtin (R := wants (fun r s2 => r = .none ∧ ∃ h' tk, s2 = { s with heap := h', toks := tk } ∧ SetO knd h' s.heap.objs.size (fun j => decide (j ∈ ks)) ks.length ∧ (∀ b o, s.heap.get? b = some o → h'.get? b = some o)) E)
        F.called_set.init.plain F.entry_set_init (check_set_init_1 hT ?_)) fun r2 s2 hr2 => ?_
      · obtain ⟨ol, hol, hcl, hdl⟩ := hl
        have hlS : l < s.heap.objs.size := Heap.lt_size hol
        have hol1 : (s.heap.push (new0 w)).get? l = some ol := Heap.get?_push_of_some _ hol
        have hl1 : (s.heap.push (new0 w)).IsList l items := ⟨ol, hol1, hcl, hdl⟩
        have hTl : Shared.TypeIs { s with heap := s.heap.push (new0 w) } (.ref l) "list" := ⟨ol, hol1, hcl⟩
        have z8 := F.sub_list_set
        have z9 := F.sub_list_frozenset
        have z0 : (Value.type "list" == Value.type "dict") = false := by decide
        unfold Builtin.«set.__init__» noKeywords Builtin.Frozenset.updateFrom
        generalize hPI : pyIter = PI
        wp_walk
        subst hPI
        refine wpAny_pyIter_list hl1 (wpAny_bind (wpAny_runValue ?_))
        have hh3 : A.in1.in1.in1.handled = none := by simp [hh]
        have ez : (s.heap.push (new0 w)).objs.size = s.heap.objs.size + 1 := Heap.size_push ..
        have dI : l ≠ (s.heap.push (new0 w)).objs.size := by rw [ez]; exact Nat.ne_of_lt (Nat.lt_succ_of_lt hlS)
        have dS : s.heap.objs.size ∉ [(s.heap.push (new0 w)).objs.size, l] := by
          rw [ez]
          simp only [List.mem_cons, List.not_mem_nil, or_false, not_or]
          exact ⟨Nat.ne_of_lt (Nat.lt_succ_self _), Nat.ne_of_gt hlS⟩
        refine update_go (knd := knd) ((Walks.list hh3 _ l dI items).toS) s.heap.objs.size dS ks hsz hb hit items.size 0 _ (by omega) ⟨⟨_, Heap.get?_push_size _ rfl, rfl, rfl⟩, hl1.push _⟩ (setO_new (Heap.get?_push_of_some _ hN) ks) ?_
        intro s' hm hS'
        obtain ⟨h', g2, d', tk', os'⟩ := s'
        obtain rfl : g2 = s.gens := hm.gens
        obtain rfl : d' = s.drawn := hm.drawn
        obtain rfl : os' = s.os := hm.os
        refine wpAny_pure (show wpAny _ _ (ret Value.none) _ _ _ from wpAny_pure ⟨rfl, h', tk', rfl, by rw [← hsz]; exact hS', fun b o e => ?_⟩)
        have lb : b < s.heap.objs.size := Heap.lt_size e
        refine hm.heap b o ?_ (Heap.get?_push_of_some _ (Heap.get?_push_of_some _ e))
        rw [ez]
        simp only [List.mem_cons, List.not_mem_nil, or_false, not_or]
        exact ⟨Nat.ne_of_lt lb, Nat.ne_of_lt (Nat.lt_succ_of_lt lb)⟩
      · cases r2 with
        | error e => exact hr2
        | ok f2 =>
          cases f2 with
          | ret r =>
            obtain ⟨rfl, h', tk, rfl, hS', hk'⟩ := hr2
            repeat (any_goals (first | assumption | wp_step))
            exact h _ _ hS' hk'
          | _ => exact hr2.elim
    | _ => exact hr.elim
end BS
set_option Elab.async false
set_option linter.all false
set_option maxRecDepth 100000
set_option maxHeartbeats 2000000
/-! sorted(set(texts)). -/
namespace BS
open PySem PySem.Spec PyProof.Rows L2
variable {P : Program} {w : World} {A : Around} {E : Value → Shared → Prop} {s : Shared} {a : Addr} {S : Str → Bool}
theorem str_of_is {k : Str} {v : Value} (h : (PySem.strKind P w).is k v = true) : ∃ t, v = .str k t := Value.isStrOf_shape h
theorem strs_of : ∀ {vs : List Value}, (∀ v ∈ vs, ∃ x t, v = Value.str x t) → ∃ ss, StrsAre vs ss
  | [], _ => ⟨[], .nil⟩
  | v :: vs, h => by
    obtain ⟨x, t, rfl⟩ := h v List.mem_cons_self
    obtain ⟨ss, hs⟩ := strs_of (vs := vs) fun u hu => h u (List.mem_cons_of_mem _ hu)
    exact ⟨x :: ss, .cons _ _ hs⟩
theorem strs_get : ∀ {vs : List Value} {ss : List Str}, StrsAre vs ss → ∀ (i : Nat) (v : Value), vs[i]? = some v → ∃ x t, ss[i]? = some x ∧ v = .str x t
  | _, _, .nil, i, v, e => by simp at e
  | _, _, .cons y u h, 0, v, e => by
    simp at e
    exact ⟨y, u, rfl, e.symm⟩
  | _, _, .cons y u h, i + 1, v, e => strs_get h i v (by simpa using e)
theorem strs_mem : ∀ {vs : List Value} {ss : List Str}, StrsAre vs ss → ∀ x, x ∈ ss ↔ ∃ t, Value.str x t ∈ vs
  | _, _, .nil, x => by simp
  | _, _, .cons y u h, x => by
    rw [List.mem_cons, strs_mem h x]
    constructor
    · rintro (rfl | ⟨t, q⟩)
      · exact ⟨u, List.mem_cons_self⟩
      · exact ⟨t, List.mem_cons_of_mem _ q⟩
    · rintro ⟨t, q⟩
      rcases List.mem_cons.mp q with e | e
      · cases e
        exact .inl rfl
      · exact .inr ⟨t, e⟩
theorem strs_nodup : ∀ {vs : List Value} {ss : List Str}, StrsAre vs ss → vs.Pairwise (fun u v => ∀ k, (PySem.strKind P w).is k u = true → (PySem.strKind P w).is k v = false) → ss.Nodup
  | _, _, .nil, _ => List.nodup_nil
  | _, _, .cons y u h, p => by
    rw [List.pairwise_cons] at p
    refine List.nodup_cons.mpr ⟨fun hm => ?_, strs_nodup h p.2⟩
    obtain ⟨t, q⟩ := (strs_mem h y).mp hm
    have := p.1 _ q y (strKind_is P w y u)
    rw [strKind_is] at this
    cases this
/-- sorted(s) -/
theorem sorted_setS {c : Nat} {Q : Value → Shared → Prop} (R : SetO (PySem.strKind P w) s.heap a S c) (hh : A.handled = none)
    (hQ : ∀ s' p (out : Array Value) (e : Nat) (ys : List Str), (∀ b o, s.heap.get? b = some o → s'.heap.get? b = some o) → s'.gens = s.gens → s'.os = s.os → s.heap.objs.size ≤ p → s'.heap.get? p = some (seqObj "list" out e) → StrsAre out.toList ys → sortedS ys = true → ys.Nodup → (∀ k, k ∈ ys ↔ S k = true) → ys.length ≤ c → Q (.ref p) s') :
    wpAny (model P w) A (call (.builtin "sorted") [.ref a]) Q E s := by
  obtain ⟨o, es, ep, t, ho, G, hc⟩ := R
  refine Calls.call_function_entry kind_sorted plain_sorted entry_sorted (args_sorted1 _) ?_
  unfold Builtin.«sorted»
  refine wpAny_bind (m := checkCount "sorted" 1 1 _) (wpAny_pure ?_)
  refine wpAny_bind (collect_set (A := A.in1) hh ⟨o, ho, G.ex.1, G.da⟩ G.fits G.few G.mkd.1 G.mkd.2 fun s1 vs k1 hz g1 o1 pm => ?_)
  have few := G.few
  unfold scanBound at few
  have hvl : vs.length = es.size := by
    have := pm.length_eq
    simpa using this
  have vstr : ∀ v ∈ vs, ∃ x t, v = Value.str x t := fun v hv => by
    obtain ⟨e, he, q⟩ := List.mem_map.mp (pm.mem_iff.mp hv)
    obtain ⟨⟨k, hk, _⟩, _⟩ := G.el e he
    obtain ⟨t, ht⟩ := str_of_is hk
    exact ⟨k, t, by rw [← q]; exact ht⟩
  obtain ⟨ss, hS⟩ := strs_of vstr
  have pv : vs.Pairwise fun u v => ∀ k, (PySem.strKind P w).is k u = true → (PySem.strKind P w).is k v = false := by
    refine (pm.pairwise_iff fun {x y} q k hk => ?_).mpr (List.pairwise_map.mpr G.ap)
    cases e : (PySem.strKind P w).is k x with
    | false => rfl
    | true =>
      have := q k e
      rw [hk] at this
      cases this
  have hlz : vs.length ≤ sizeLine := by rw [hvl, sizeLine_eq]; omega
  refine wpAny_bind (wpAny_newList ?_ hlz)
  have hoL : (s1.heap.push (seqObj "list" vs.toArray 0)).get? s1.heap.objs.size = some (seqObj "list" vs.toArray 0) := Heap.get?_push_size _ rfl
  refine wpAny_bind (wpAny_holding (wpAny_call_entry slot_list_sort ⟨_, hoL, rfl⟩ entry_list_sort (list_sort_treeKAny strKind_oneLt hoL hS.keysOf (fun v₁ v₂ rest e => keyKind_strs (by rw [← e]; exact hS)) hlz fun st' a1 a2 => ⟨_, rfl, ?_⟩) (args_list_sort _)))
  obtain ⟨ys, h1, h2, h3⟩ := sorted_out_str hS a1 a2
  obtain ⟨e, he⟩ := sortedHeap_at (vs := vs) (out := (arrOf st').map (·.2)) hoL
  refine wpAny_pure ⟨_, rfl, hQ _ s1.heap.objs.size _ e ys (fun b u z => ?_) g1 o1 hz he h1 h3 (h2.nodup_iff.mpr (strs_nodup hS pv)) (fun k => ?_) ?_⟩
  · have q := k1 b u z
    have hlt := Heap.lt_size q
    show (sortedHeap (s1.heap.push (seqObj "list" vs.toArray 0)) s1.heap.objs.size vs ((arrOf st').map (·.2))).get? b = some u
    rw [sortedHeap_old (Nat.ne_of_lt hlt) (by rw [size_push']; exact Nat.lt_succ_of_lt hlt)]
    exact Heap.get?_push_of_some _ q
  · rw [h2.mem_iff, strs_mem hS, G.mem k]
    constructor
    · rintro ⟨t, q⟩
      obtain ⟨e, he, q2⟩ := List.mem_map.mp (pm.mem_iff.mp q)
      exact ⟨e, he, by rw [q2]; exact strKind_is P w k t⟩
    · rintro ⟨e, he, q⟩
      obtain ⟨t, ht⟩ := str_of_is q
      exact ⟨t, pm.mem_iff.mpr (List.mem_map.mpr ⟨e, he, ht⟩)⟩
  · have l1 := h2.length_eq
    have l2 : ∀ {us : List Value} {zs : List Str}, StrsAre us zs → us.length = zs.length := fun {us zs} h => by
      induction h with
      | nil => rfl
      | cons _ _ _ ih => simp [ih]
    have := l2 hS
    omega
end BS
namespace Bz
open PySem PySem.Spec PyProof.Rows L2
/-- a set of texts that stands -/
def SetSO (P : Program) (w : World) (a : Addr) (ys : List Str) : HO := .ext fun h => BS.SetO (PySem.strKind P w) h a (fun j => decide (j ∈ ys)) ys.length
section
variable {X : Cx}
def rSetS (K : PySem.W.Frag) (P : Program) (w : World) : List V → Hp → VK → Prop := fun vs H Q => ∃ (a : Addr) (ys : List Str), vs = [.ref a] ∧ SqL K H a (ys.map V.str) ∧ ys.length ≤ 4000 ∧ ∀ p, H p = none → Q (.ref p) (upd H p (SetSO P w p ys))
theorem cr_setS (hc : X.calm = true) : CallR X (.type "set") (rSetS X.K X.prog X.w) := by
  intro pins s σ H vs us Q I r h
  obtain ⟨a, ys, rfl, hs, hl, q⟩ := h
  rw [Vals.ref1 r]
  obtain ⟨its, rv, pl, hz⟩ := I.list hs
  have hS := rv.strs
  have hlen := rv.length
  rw [List.length_map] at hlen
  refine BS.call_set_list (knd := PySem.strKind X.prog X.w) ys (I.ok.hd hc) pl.isList (by simp [hlen]) (fun i v hv => ?_) (by unfold scanBound; omega) fun h' tk hS' kp => ?_
  · obtain ⟨x, t, e1, rfl⟩ := BS.strs_get hS i v (by simpa using hv)
    exact ⟨x, e1, strKind_is _ _ _ _, rfl⟩
  · obtain ⟨o, es, ep, t, ho, G, hc2⟩ := id hS'
    exact ⟨.ref _, _, I.laid (t' := tk) (o := SetSO X.prog X.w s.heap.objs.size ys) kp (Nat.le_refl _) ⟨hS', ⟨o, ho⟩, fun h1 h2 r k => r.to k⟩, rfl, q _ (I.hok.fresh (Nat.le_refl _))⟩
def rSortSetS (P : Program) (w : World) : List V → Hp → VK → Prop := fun vs H Q => ∃ (a : Addr) (ys : List Str), vs = [.ref a] ∧ H a = some (SetSO P w a ys) ∧ ys.length ≤ 4000 ∧ ∀ (zs : List Str) (p : Addr), sortedS zs = true → zs.Nodup → (∀ k, k ∈ zs ↔ k ∈ ys) → zs.length ≤ ys.length → H p = none → Q (.ref p) (upd H p (.lst (zs.map V.str)))
theorem cr_sortSetS (hc : X.calm = true) : CallR X (.builtin "sorted") (rSortSetS X.prog X.w) := by
  intro pins s σ H vs us Q I r h
  obtain ⟨a, ys, rfl, ha, hl, q⟩ := h
  rw [Vals.ref1 r]
  have R : BS.SetO (PySem.strKind X.prog X.w) s.heap a (fun j => decide (j ∈ ys)) ys.length := (I.hok a _ ha).1
  refine BS.sorted_setS R (I.ok.hd hc) fun s' p out e zs k g o hp hg hout h1 h2 h3 h4 => ?_
  have hn : H p = none := I.hok.fresh hp
  have hlen : (zs.map V.str).length ≤ sizeLine := by rw [List.length_map, sizeLine_eq]; omega
  have J : Inv X pins σ (upd H p (.lst (zs.map V.str))) { s with heap := s'.heap, gens := s'.gens, drawn := s'.drawn, toks := s'.toks } :=
    I.call (ch := []) (Un.laid k hp hn) (I.hok.laid k hp ⟨hlen, out.toList, e, vals_of_strs hout, hg⟩) (by rw [g]; exact I.bare) (fun _ z => nomatch z)
  have es : s' = { s with heap := s'.heap, gens := s'.gens, drawn := s'.drawn, toks := s'.toks } := by
    cases s'
    cases s
    cases o
    rfl
  rw [es]
  exact ⟨.ref p, _, J, rfl, q zs p h1 h2 (fun k => by rw [h3 k, decide_eq_true_eq]) h4 hn⟩
end
theorem dedup_mem : ∀ (xs : List Str) (k : Str), k ∈ dedupS xs ↔ k ∈ xs
  | [], k => by simp [dedupS]
  | x :: xs, k => by
    rw [dedupS]
    split
    · rename_i h
      rw [dedup_mem xs k, List.mem_cons]
      exact ⟨.inr, fun z => z.elim (fun e => e ▸ h) id⟩
    · rw [List.mem_cons, List.mem_cons, dedup_mem xs k]
theorem dedup_nodup : ∀ xs : List Str, (dedupS xs).Nodup
  | [] => List.nodup_nil
  | x :: xs => by
    rw [dedupS]
    split
    · exact dedup_nodup xs
    · rename_i h
      exact List.nodup_cons.mpr ⟨fun z => h ((dedup_mem xs x).mp z), dedup_nodup xs⟩
theorem nodup_perm : ∀ {xs ys : List Str}, xs.Nodup → ys.Nodup → (∀ k, k ∈ xs ↔ k ∈ ys) → xs.Perm ys
  | [], ys, _, _, h => by
    cases ys with
    | nil => exact .nil
    | cons y ys => exact absurd ((h y).mpr List.mem_cons_self) (by simp)
  | x :: xs, ys, hx, hy, h => by
    have hm : x ∈ ys := (h x).mp List.mem_cons_self
    obtain ⟨a, b, rfl⟩ := List.append_of_mem hm
    rw [List.nodup_cons] at hx
    have hy' : (x :: (a ++ b)).Nodup := (List.perm_middle.nodup_iff).mp hy
    rw [List.nodup_cons] at hy'
    refine .trans (.cons x (nodup_perm hx.2 hy'.2 fun k => ?_)) List.perm_middle.symm
    have := h k
    simp only [List.mem_cons, List.mem_append] at this ⊢
    constructor
    · intro z
      rcases this.mp (.inr z) with q | q | q
      · exact .inl q
      · subst q
        exact absurd z hx.1
      · exact .inr q
    · intro z
      rcases this.mpr (z.elim .inl fun q => .inr (.inr q)) with q | q
      · subst q
        exact absurd (by simpa using z) hy'.1
      · exact q
theorem sortSet_eq {ys zs : List Str} (h1 : sortedS zs = true) (h2 : zs.Nodup) (h3 : ∀ k, k ∈ zs ↔ k ∈ ys) : zs = sortS (dedupS ys) :=
  sortS_eq (nodup_perm h2 (dedup_nodup ys) fun k => (h3 k).trans (dedup_mem ys k).symm) h1
section
variable [Wd]
variable {X : Cx} {w : Wish} {e a : Expr} {δ : DE} {δs : DA} {pos : Pos}
/-- a new object that is not known further on -/
theorem MemR.junk {K : PySem.W.Frag} {G H : Hp} {m : List Addr} {μ : Mem} (me : MemR K G H m μ) {p : Addr} {o : HO} (hp : H p = none) : MemR K G (upd H p o) m μ ∧ Stp G H m G (upd H p o) m := by
  obtain ⟨g0, nm⟩ := me.dead hp
  refine ⟨⟨same_upd2 me.ex g0, me.len, me.nd, fun i a t h1 h2 => ?_, me.tb.new hp⟩, ⟨Gr.refl, fun b u e _ _ => by rw [upd_ne (ne_of_none e hp)]; exact e, fun b e _ => upd_th e, fun a h n => absurd h n, fun _ e _ _ => e⟩⟩
  have ha : a ≠ p := fun z => nm (z ▸ List.mem_of_getElem? h1)
  refine MO.mono (Same.refl _) (fun z => MO.gn (me.at_ i a t h1 h2) z) (fun u z => ?_) (me.at_ i a t h1 h2)
  rw [upd_ne ha]
  exact z
/-- sorted(set(e)) -/
theorem ce_sortSet {p1 p2 pos2 : Pos} (hc : X.calm = true) (hm1 : X.mg "sorted" = none) (hm2 : X.mg "set" = none) (ha : CE X w a δ) (hg1 : Gl X "sorted" := by rfl) (hg2 : Gl X "set" := by rfl)
    (hs1 : starEach [.Call (.Name "set" p2) [a] [] pos2] X.env = (false, eval (.Call (.Name "set" p2) [a] [] pos2) X.env) :: starEach [] X.env := by rfl) (hs2 : starEach [a] X.env = (false, eval a X.env) :: starEach [] X.env := by rfl)
    (hl1 : (backTo pos (starEach [] X.env)).any (·.1) = false := by rfl) (hl2 : (backTo pos2 (starEach [] X.env)).any (·.1) = false := by rfl) :
    CE X w (.Call (.Name "sorted" p1) [.Call (.Name "set" p2) [a] [] pos2] [] pos) (eCB bSortSet (aCons δ aNil)) := by
  obtain ⟨ta, q1, s1⟩ := ha
  refine ⟨_, pe_callB (cr_sortSetS hc) hg1 hm1 (by decide +kernel) (pa_cons (pe_callTy (cr_setS hc) hg2 hm2 (by decide +kernel) (pa_cons q1 pa_nil hs2) (by decide) (by decide) hs2 hl2) pa_nil hs1) (by decide) (by decide) hs1 hl1, fun ρ μ σ G H m en me Q q => ?_⟩
  refine s1 ρ μ σ G H m en me _ ?_
  have q0 : EPost X.K w σ G H m ((δ ρ μ).bind fun x μ1 => match rd μ1 x with | some u => R.of (bSortSet [u]) μ1 | none => .no) Q := by
    have e : eCB bSortSet (aCons δ aNil) ρ μ = ((δ ρ μ).bind fun x μ1 => match rd μ1 x with | some u => R.of (bSortSet [u]) μ1 | none => .no) := by
      unfold eCB aCons aNil
      cases δ ρ μ with
      | no => rfl
      | err a b => rfl
      | ok x μ1 =>
        simp only [R.bind, rdL]
        cases rd μ1 x <;> rfl
    rw [← e]
    exact q
  refine Post.of_bind q0 fun x μ1 G1 H1 m1 _ st1 me1 q1 v rv => ?_
  cases e1 : rd μ1 x with
  | none =>
    simp only [e1] at q1
    exact q1.elim
  | some u =>
    simp only [e1] at q1
    obtain ⟨z, hz, kk⟩ := fin2 q1
    unfold bSortSet at hz
    split at hz
    · rename_i xs heq
      cases heq
      split at hz
      · rename_i ys ey
        split at hz
        · rename_i hl
          cases hz
          obtain ⟨a1, v1, rfl, h1, d1⟩ := rd_list me1 e1 rv
          cases strsOf_all ey d1
          refine ⟨a1, ys, rfl, SqL.of h1, hl, fun p hp => ?_⟩
          obtain ⟨me2, st2⟩ := me1.junk (o := SetSO X.prog X.w p ys) hp
          refine ⟨p, ys, rfl, upd_same, hl, fun zs p2 z1 z2 z3 _ hp2 => ?_⟩
          rw [sortSet_eq z1 z2 z3]
          exact newD me2 (fun p g0 => dq_lst g0 (dqAll_strs _)) (fun v' G' H' st' me' r => kk v' G' H' (st2.trans st') me' r) p2 hp2
        · cases hz
      · cases hz
    · cases hz
end
end Bz
set_option Elab.async false
set_option linter.all false
set_option maxRecDepth 100000
set_option maxHeartbeats 2000000
/-! Lists that are changed: extend, pop, reverse, clear; tuples of data sorted. -/
namespace Bz
open PySem PySem.Spec PyProof.Rows L2
theorem ext_of_tup (l : Addr) (its : Array Value) (n : Nat) (b : Addr) (more : Array Value) (k : Nat) (dd : Option Addr) (sl : Array (Option Value)) (c0 : ¬ (!its.isEmpty && Builtin.List.listTooLong (its.size + more.size)) = true) (c1 : its.size ≤ sizeLine) (c2 : its.size + more.size ≤ sizeLine + 1) :
    Meets (Builtin.«list.extend» ⟨[.ref l, .ref b], []⟩) (fun _ R s => s.heap.get? l = some { cls := .type "list", dict := none, data := .seq its n, slots := #[] } ∧ s.heap.get? b = some { cls := .type "tuple", dict := dd, data := .seq more k, slots := sl } ∧
      R (.ok (.ret .none)) { s with heap := s.heap.update l (Obj.mapSeq fun x => x ++ more) }) :=
  .of_wp fun prog w A R s h => by
    obtain ⟨hp, g, d, tk, os⟩ := s
    obtain ⟨hl, hb, h⟩ := h
    have z1 := AutoSeq1.sub_tuple_tuple
    have z2 := AutoSeq1.sub_list_list
    have z3 := AutoSeq1.sub_tuple_list
    have z4 := AutoSeq1.sub_list_tuple
    have hz : (its ++ more).size ≤ sizeLine + 1 := by rw [Array.size_append]; exact c2
    wp_walk using (wpAny_updateSeq hl rfl (hz := c1) (_hz' := hz)), AutoSeq1.wpAny_loadPart' hl, AutoSeq1.wpAny_loadPart' hb
    exact ⟨_, rfl, h⟩
section
variable {X : Cx}
def rExtT (K : PySem.W.Frag) : V → List V → Hp → VK → Prop := fun x vs H Q => ∃ l b xs zs, x = .ref l ∧ vs = [.ref b] ∧ H l = some (.lst xs) ∧ SqT K H b zs ∧ xs.length + zs.length ≤ sizeLine ∧ Q .non (upd H l (.lst (xs ++ zs)))
theorem mt_extT : MtM X "list.extend" (rExtT X.K) := by
  intro pins s σ H x vs v us Q I rx rv h
  obtain ⟨l, b, xs, zs, rfl, rfl, hH, hB, hz, q⟩ := h
  cases rx
  obtain ⟨u, rfl, ru⟩ := rv.one
  cases ru
  obtain ⟨z, its, n, r, hl, e⟩ := I.lstM hH
  obtain ⟨its2, r2, ⟨⟨cls, dd, data, sl⟩, g1, g2, n2, g3⟩, z2⟩ := I.tuple hB
  simp only at g2 g3
  subst g2 g3
  have hl2 := r2.length
  have hsz : its.toArray.size + its2.toArray.size ≤ sizeLine := by rw [List.size_toArray, List.size_toArray]; omega
  have hlong : ¬ (!its.toArray.isEmpty && Builtin.List.listTooLong (its.toArray.size + its2.toArray.size)) = true := by
    rw [notLongL hsz, Bool.and_false]
    exact Bool.false_ne_true
  refine call_meets F.slot_list_extend ⟨_, e, rfl⟩ F.entry_list_extend (F.args_list_extend_2 _ _) (ext_of_tup l its.toArray n b its2.toArray n2 dd sl hlong (by rw [List.size_toArray]; omega) (by omega)) ⟨e, g1, ?_⟩
  refine ⟨.non, _, I.lset (its' := its ++ its2) hH e (by simp) (r.append r2) ?_, rfl, q⟩
  rw [List.length_append]
  omega
def rExtA (K : PySem.W.Frag) : V → List V → Hp → VK → Prop := fun x vs H Q => rExtend x vs H Q ∨ rExtT K x vs H Q
theorem mt_extA : MtM X "list.extend" (rExtA X.K) := by
  intro pins s σ H x vs v us Q I rx rv h
  rcases h with h | h
  · exact mt_extend pins s σ H x vs v us Q I rx rv h
  · exact mt_extT pins s σ H x vs v us Q I rx rv h
end
variable [Wd]
section
variable {X : Cx} {w : Wish} {e o i : Expr} {δ δo δi : DE} {apos cpos : Pos}
theorem ce_extend (ho : CE X w o δo) (he : CE X w e δ) (hbase : attributeBase o "extend" X.env (eval o X.env) = eval o X.env := by rfl)
    (hfew : ((backTo cpos (starEach (e :: []) X.env)).all (fun x => !x.1) && (backToKw cpos (keywordEach [] X.env)).all (fun x => x.1.isSome)
      && decide ((e :: []).length + ([] : List Keyword).length + (if ([] : List Keyword).isEmpty then 0 else 1) < 30)) = true := by rfl)
    (hline : (apos.endLine == cpos.line) = true := by rfl) (hs : starEach (e :: []) X.env = (false, eval e X.env) :: starEach [] X.env := by rfl) (hplain : (backTo cpos (starEach [] X.env)).any (·.1) = false := by rfl) :
    CE X w (.Call (.Attribute o "extend" apos) (e :: []) [] cpos) (eExt δo δ) := by
  obtain ⟨to, p1, s1⟩ := ho
  obtain ⟨te, p2, s2⟩ := he
  refine ⟨_, pe_bm PySem.F.plainAttrs_list PySem.F.slot_list_extend PySem.F.type_list_extend mt_extA p1 (pa_cons p2 pa_nil hs) hbase hfew hline hs hplain, fun ρ μ σ G H m en me Q q => ?_⟩
  refine s1 ρ μ σ G H m en me _ (Post.of_bind q fun l μ1 G1 H1 m1 _ st1 me1 q1 v rv => ?_)
  cases l with
  | d x => exact q1.elim
  | m h =>
    simp only at q1
    split at q1
    · rename_i xs0 e1
      obtain ⟨ad, vs0, rfl, ha, hv0, _⟩ := lst_at me1 rv e1
      refine ⟨.inl ⟨rfl, _, SqL.of hv0⟩, s2 ρ μ1 σ G1 H1 m1 (en.mono st1.gr) me1 _ (Post.of_bind q1 fun s μ2 G2 H2 m2 _ st2 me2 q2 u ru => ?_)⟩
      cases s with
      | m n => exact q2.elim
      | d x =>
        simp only at q2
        split at q2
        · rename_i ys xs ey e2
          split at q2
          · rename_i hsm
            obtain ⟨ad', vs, ead, ha2, hv, dv⟩ := lst_at me2 (rv.mono st2.gr) e2
            cases ead
            have fin : ∀ (us : List V), DqAll X.K G2 us ys → Q .non (upd H2 ad (.lst (vs ++ us))) := fun us du => by
              obtain ⟨me3, st3⟩ := me2.put (vs := vs ++ us) (ys := xs ++ ys) ha2 e2 (DqAll.append dv du)
              exact q2 G2 _ m2 st3 me3 .non .non
            have hz := small_sz hsm
            have l1 := DqAll.length dv
            cases x with
            | list zs =>
              cases ey
              cases ru with
              | lst h1 h2 =>
                have l2 := DqAll.length h2
                exact .inl ⟨ad, _, vs, _, rfl, rfl, hv, me2.ex _ _ h1, by omega, fin _ h2⟩
            | tuple zs =>
              cases ey
              cases ru with
              | tup h1 h2 =>
                have l2 := DqAll.length h2
                exact .inr ⟨ad, _, vs, _, rfl, rfl, hv, SqT.same me2.ex h1, by omega, fin _ h2⟩
            | none => cases ey
            | bool _ => cases ey
            | int _ => cases ey
            | str _ => cases ey
            | dict _ => cases ey
          · exact q2.elim
        · exact q2.elim
    · exact q1.elim
theorem ce_pop (ho : CE X w o δo) (hbase : attributeBase o "pop" X.env (eval o X.env) = eval o X.env := by rfl)
    (hline : (apos.endLine == cpos.line) = true := by rfl) : CE X w (.Call (.Attribute o "pop" apos) [] [] cpos) (ePop δo) := by
  obtain ⟨to, p1, s1⟩ := ho
  refine ⟨_, pe_bm0 PySem.F.plainAttrs_list PySem.F.slot_list_pop PySem.F.type_list_pop mt_pop p1 hbase hline, fun ρ μ σ G H m en me Q q => ?_⟩
  refine s1 ρ μ σ G H m en me _ (Post.of_bind q fun l μ1 G1 H1 m1 _ st1 me1 q1 v rv => ?_)
  cases l with
  | d x => exact q1.elim
  | m h =>
    simp only at q1
    split at q1
    · rename_i xs e1
      split at q1
      · rename_i x ex
        obtain ⟨ad, vs, rfl, ha, hv, dv⟩ := lst_at me1 rv e1
        have l1 := DqAll.length dv
        obtain ⟨y, hy, dy⟩ := DqAll.get dv ex
        have dd : DqAll X.K G1 vs.dropLast xs.dropLast := by
          rw [List.dropLast_eq_take, List.dropLast_eq_take, l1]
          exact DqAll.take _ dv
        obtain ⟨me2, st2⟩ := me1.put (vs := vs.dropLast) (ys := xs.dropLast) ha e1 dd
        exact ⟨.inl ⟨rfl, _, SqL.of hv⟩, ad, vs, y, rfl, rfl, hv, by rw [l1]; exact hy, q1 G1 _ m1 st2 me2 y dy⟩
      · exact q1.elim
    · exact q1.elim
theorem ce_popAt (ho : CE X w o δo) (he : CE X w e δ) (hbase : attributeBase o "pop" X.env (eval o X.env) = eval o X.env := by rfl)
    (hfew : ((backTo cpos (starEach (e :: []) X.env)).all (fun x => !x.1) && (backToKw cpos (keywordEach [] X.env)).all (fun x => x.1.isSome)
      && decide ((e :: []).length + ([] : List Keyword).length + (if ([] : List Keyword).isEmpty then 0 else 1) < 30)) = true := by rfl)
    (hline : (apos.endLine == cpos.line) = true := by rfl) (hs : starEach (e :: []) X.env = (false, eval e X.env) :: starEach [] X.env := by rfl) (hplain : (backTo cpos (starEach [] X.env)).any (·.1) = false := by rfl) :
    CE X w (.Call (.Attribute o "pop" apos) (e :: []) [] cpos) (ePopAt δo δ) := by
  obtain ⟨to, p1, s1⟩ := ho
  obtain ⟨te, p2, s2⟩ := he
  refine ⟨_, pe_bm PySem.F.plainAttrs_list PySem.F.slot_list_pop PySem.F.type_list_pop mt_popAt p1 (pa_cons p2 pa_nil hs) hbase hfew hline hs hplain, fun ρ μ σ G H m en me Q q => ?_⟩
  refine s1 ρ μ σ G H m en me _ (Post.of_bind q fun l μ1 G1 H1 m1 _ st1 me1 q1 v rv => ?_)
  cases l with
  | d x => exact q1.elim
  | m h =>
    simp only at q1
    split at q1
    · rename_i xs0 e1
      obtain ⟨ad, vs0, rfl, ha, hv0, _⟩ := lst_at me1 rv e1
      refine ⟨.inl ⟨rfl, _, SqL.of hv0⟩, s2 ρ μ1 σ G1 H1 m1 (en.mono st1.gr) me1 _ (Post.of_bind q1 fun s μ2 G2 H2 m2 _ st2 me2 q2 u ru => ?_)⟩
      split at q2
      · rename_i _ _ j xs e2 _
        split at q2
        · rename_i hj
          have hj' := of_decide_eq_true hj
          split at q2
          · rename_i x ex
            cases ru
            obtain ⟨ad', vs, ead, ha2, hv, dv⟩ := lst_at me2 (rv.mono st2.gr) e2
            cases ead
            have l1 := DqAll.length dv
            obtain ⟨y, hy, dy⟩ := DqAll.get dv ex
            have lt : j.toNat < vs.length := by rw [l1]; exact (List.getElem?_eq_some_iff.mp ex).1
            have dd : DqAll X.K G2 (vs.eraseIdx j.toNat) (xs.eraseIdx j.toNat) := by
              rw [List.eraseIdx_eq_take_drop_succ, List.eraseIdx_eq_take_drop_succ]
              exact DqAll.append (DqAll.take _ dv) (DqAll.drop _ dv)
            obtain ⟨me3, st3⟩ := me2.put (vs := vs.eraseIdx j.toNat) (ys := xs.eraseIdx j.toNat) ha2 e2 dd
            refine ⟨ad, vs, j, j.toNat, y, rfl, rfl, hv, by omega, by omega, ?_, hy, q2 G2 _ m2 st3 me3 y dy⟩
            exact seqIndex_of hj'.1 (by omega)
          · exact q2.elim
        · exact q2.elim
      · exact q2.elim
    · exact q1.elim
theorem ce_reverse (ho : CE X w o δo) (hbase : attributeBase o "reverse" X.env (eval o X.env) = eval o X.env := by rfl)
    (hline : (apos.endLine == cpos.line) = true := by rfl) : CE X w (.Call (.Attribute o "reverse" apos) [] [] cpos) (eRevM δo) := by
  obtain ⟨to, p1, s1⟩ := ho
  refine ⟨_, pe_bm0 PySem.F.plainAttrs_list PySem.F.slot_list_reverse PySem.F.type_list_reverse mt_reverse p1 hbase hline, fun ρ μ σ G H m en me Q q => ?_⟩
  refine s1 ρ μ σ G H m en me _ (Post.of_bind q fun l μ1 G1 H1 m1 _ st1 me1 q1 v rv => ?_)
  cases l with
  | d x => exact q1.elim
  | m h =>
    simp only at q1
    split at q1
    · rename_i xs e1
      obtain ⟨ad, vs, rfl, ha, hv, dv⟩ := lst_at me1 rv e1
      obtain ⟨me2, st2⟩ := me1.put (vs := vs.reverse) (ys := xs.reverse) ha e1 (DqAll.reverse dv)
      exact ⟨.inl ⟨rfl, _, SqL.of hv⟩, ad, vs, rfl, rfl, hv, q1 G1 _ m1 st2 me2 .non .non⟩
    · exact q1.elim
theorem ce_clear (ho : CE X w o δo) (hbase : attributeBase o "clear" X.env (eval o X.env) = eval o X.env := by rfl)
    (hline : (apos.endLine == cpos.line) = true := by rfl) : CE X w (.Call (.Attribute o "clear" apos) [] [] cpos) (eClr δo) := by
  obtain ⟨to, p1, s1⟩ := ho
  refine ⟨_, pe_bm0 PySem.F.plainAttrs_list PySem.F.slot_list_clear PySem.F.type_list_clear mt_clear p1 hbase hline, fun ρ μ σ G H m en me Q q => ?_⟩
  refine s1 ρ μ σ G H m en me _ (Post.of_bind q fun l μ1 G1 H1 m1 _ st1 me1 q1 v rv => ?_)
  cases l with
  | d x => exact q1.elim
  | m h =>
    simp only at q1
    split at q1
    · rename_i xs e1
      obtain ⟨ad, vs, rfl, ha, hv, dv⟩ := lst_at me1 rv e1
      obtain ⟨me2, st2⟩ := me1.put (vs := []) (ys := []) ha e1 .nil
      exact ⟨.inl ⟨rfl, _, SqL.of hv⟩, ad, vs, rfl, rfl, hv, q1 G1 _ m1 st2 me2 .non .non⟩
    · exact q1.elim
end
end Bz
set_option Elab.async false
set_option linter.all false
set_option maxRecDepth 100000
set_option maxHeartbeats 2000000
/-! list(zip(a, b)) of two tuples. -/
namespace RZ
open PySem
open PySem.Sem (wp)
section
variable {prog : Program} {w : World} {A : Around} {E : Value → Shared → Prop} {s : Shared}
theorem wpAny_alive {M : Model} {a : Addr} {Q : Option Obj → Shared → Prop} (h : Q (s.heap.get? a) s) : wpAny M A (loadIfAlive a) Q E s := fun _ _ _ => h
/-- the zip's last pair, at a1, still stands -/
abbrev IsZipA (h : Heap) (z TI TO a1 : Addr) (b : Bool) : Prop := h.get? z = some { cls := .type "zip", dict := none, data := .fields #[rawInt a1, .bool b, .bool false, .ref TI, .ref TO], slots := #[] }
theorem free_again {z TI TO a1 : Addr} {b : Bool} (hz : IsZipA s.heap z TI TO a1 b) (hal : ∃ o, s.heap.get? a1 = some o) :
    wpAny (model prog w) A (Builtin.SmallTypes.ownedTupleIsFree (.ref z)) (fun c s' => c = false ∧ ∃ g, s' = { s with heap := g } ∧ IsZipA g z TI TO a1 true ∧ g.objs.size = s.heap.objs.size ∧ ∀ c o, c ≠ z → s.heap.get? c = some o → g.get? c = some o) E s := by
  obtain ⟨oa, hal⟩ := hal
  unfold Builtin.SmallTypes.ownedTupleIsFree
  refine wpAny_bind (wpAny_field hz rfl (x := rawInt a1) rfl ?_)
  show wpAny _ _ (loadIfAlive (a1 : Int).toNat >>= _) _ _ _
  refine wpAny_bind (wpAny_alive ?_)
  rw [Int.toNat_natCast, hal]
  simp only [Option.isNone_some, Bool.false_eq_true, if_false]
  refine wpAny_bind (wpAny_field hz rfl (x := .bool b) rfl ?_)
  cases b with
  | true => exact wpAny_pure ⟨rfl, s.heap, rfl, hz, rfl, fun c o _ e => e⟩
  | false => exact wpAny_bind (wpAny_setField_rec hz (by simp) fun g hg sb => wpAny_pure ⟨rfl, g, rfl, hg, sb.1, fun c o n e => sb.extBut _ _ n e⟩)
theorem again_item {z TI TO i1 i2 l1 l2 a1 : Addr} {b : Bool} {k1 k2 : Nat} {xs ys : Array Value} {x y : Value} {Q : Value → Shared → Prop} (D : ZipApart z TI TO i1 i2 l1 l2) (hz : IsZipA s.heap z TI TO a1 b) (hal : ∃ o, s.heap.get? a1 = some o) (hTI : IsPair s.heap TI (.ref i1) (.ref i2))
    (h1 : s.heap.IsTupleIter i1 l1 k1) (h2 : s.heap.IsTupleIter i2 l2 k2) (hl1 : s.heap.IsTuple l1 xs) (hl2 : s.heap.IsTuple l2 ys) (hx : xs[k1]? = some x) (hy : ys[k2]? = some y)
    (hQ : ∀ h', IsZipA h' z TI TO a1 true → h'.IsTupleIter i1 l1 (k1 + 1) → h'.IsTupleIter i2 l2 (k2 + 1) → IsPair h' s.heap.objs.size x y → h'.objs.size = s.heap.objs.size + 1 →
      (∀ c o, c ≠ z → c ≠ i1 → c ≠ i2 → s.heap.get? c = some o → h'.get? c = some o) → Q (.ref s.heap.objs.size) { s with heap := h' }) :
    wpAny (model prog w) A (Builtin.«zip.__next__» ⟨[.ref z], []⟩) (fun fin s' => ∃ v, fin = .done (.ret v) ∧ Q v s') E s := by
  obtain ⟨oa, hal⟩ := hal
  show wpAny _ _ (field (.ref z) 2 >>= _) _ _ _
  refine wpAny_bind (wpAny_field hz rfl (x := .bool false) rfl ?_)
  show wpAny _ _ (field (.ref z) 3 >>= _) _ _ _
  refine wpAny_bind (wpAny_field hz rfl (x := .ref TI) rfl ?_)
  refine wpAny_bind (wpAny_seqItems hTI rfl ?_)
  show wpAny _ _ (Builtin.SmallTypes.ownedTupleIsFree (.ref z) >>= _) _ _ _
  refine wpAny_bind (wpAny_mono (free_again hz ⟨_, hal⟩) (fun c s' q => ?_) fun _ _ e => e)
  obtain ⟨rfl, g, rfl, zg, sg, fg⟩ := q
  simp only [Bool.false_eq_true, if_false]
  refine wpAny_bind ?_
  simp only [List.forIn_toArray, List.forIn_cons, List.forIn_nil]
  refine wpAny_bind (wpAny_bind (wpAny_holding ?_))
  show wpAny _ _ (Builtin.SmallTypes.nextOf (.ref i1) >>= _) _ _ _
  refine wpAny_bind (nextOf_tuple_item (h1.at fun o e => fg _ o D.i1z e) (hl1.at fun o e => fg _ o D.l1z e) hx fun g2 j2 e2 => wpAny_pure ?_)
  refine wpAny_pure ?_
  refine wpAny_bind (wpAny_bind (wpAny_holding ?_))
  show wpAny _ _ (Builtin.SmallTypes.nextOf (.ref i2) >>= _) _ _ _
  refine wpAny_bind (nextOf_tuple_item ((h2.at fun o e => fg _ o D.i2z e).extBut e2.extBut D.i12.symm) ((hl2.at fun o e => fg _ o D.l2z e).extBut e2.extBut D.l2i1) hy fun g3 j3 e3 => wpAny_pure ?_)
  refine wpAny_pure (wpAny_pure ?_)
  show wpAny _ _ (newTuple [x, y] >>= _) _ _ _
  refine wpAny_bind (wpAny_newTuple ?_)
  have sz : g3.objs.size = s.heap.objs.size := by rw [e3.1, e2.1, sg]
  refine wpAny_pure ⟨_, rfl, ?_⟩
  show Q (.ref g3.objs.size) _
  rw [sz]
  have up : ∀ c o, g3.get? c = some o → (g3.push { cls := .type "tuple", data := .seq #[x, y] }).get? c = some o := fun c o e => Heap.get?_push_of_some _ e
  exact hQ _ (up _ _ (e3.extBut _ _ D.i2z.symm (e2.extBut _ _ D.i1z.symm zg))) ((j2.extBut e3.extBut D.i12).at fun o e => up _ o e) (j3.at fun o e => up _ o e) (by rw [← sz]; exact Heap.get?_push_size _ rfl) (by rw [Heap.size_push, sz]) fun c o c1 c2 c3 e => up _ _ (e3.extBut _ _ c3 (e2.extBut _ _ c2 (fg _ _ c1 e)))
theorem again_end {z TI TO i1 i2 l1 l2 a1 : Addr} {b : Bool} {k1 k2 : Nat} {xs ys : Array Value} {Q : Fin → Shared → Prop} (hh : A.handled = none) (D : ZipApart z TI TO i1 i2 l1 l2) (hz : IsZipA s.heap z TI TO a1 b) (hal : ∃ o, s.heap.get? a1 = some o) (hTI : IsPair s.heap TI (.ref i1) (.ref i2))
    (h1 : s.heap.IsTupleIter i1 l1 k1) (h2 : s.heap.IsTupleIter i2 l2 k2) (hl1 : s.heap.IsTuple l1 xs) (hl2 : s.heap.IsTuple l2 ys) (hend : xs[k1]? = none ∨ ys[k2]? = none)
    (hE : ∀ h' e, (∀ c o, c ≠ z → c ≠ i1 → c ≠ i2 → s.heap.get? c = some o → h'.get? c = some o) → (∃ o, h'.get? e = some o ∧ o.cls = .type "StopIteration") → E (.ref e) { s with heap := h' }) :
    wpAny (model prog w) A (Builtin.«zip.__next__» ⟨[.ref z], []⟩) Q E s := by
  obtain ⟨oa, hal⟩ := hal
  show wpAny _ _ (field (.ref z) 2 >>= _) _ _ _
  refine wpAny_bind (wpAny_field hz rfl (x := .bool false) rfl ?_)
  show wpAny _ _ (field (.ref z) 3 >>= _) _ _ _
  refine wpAny_bind (wpAny_field hz rfl (x := .ref TI) rfl ?_)
  refine wpAny_bind (wpAny_seqItems hTI rfl ?_)
  show wpAny _ _ (Builtin.SmallTypes.ownedTupleIsFree (.ref z) >>= _) _ _ _
  refine wpAny_bind (wpAny_mono (free_again hz ⟨_, hal⟩) (fun c s' q => ?_) fun _ _ e => e)
  obtain ⟨rfl, g, rfl, zg, sg, fg⟩ := q
  simp only [Bool.false_eq_true, if_false]
  refine wpAny_bind ?_
  simp only [List.forIn_toArray, List.forIn_cons, List.forIn_nil]
  refine wpAny_bind (wpAny_bind (wpAny_holding ?_))
  show wpAny _ _ (Builtin.SmallTypes.nextOf (.ref i1) >>= _) _ _ _
  have j1 := h1.at (h' := g) fun o e => fg _ o D.i1z e
  have q1 : g.IsTuple l1 xs := hl1.at fun o e => fg _ o D.l1z e
  cases hx : xs[k1]? with
  | none => exact wpAny_bind (nextOf_tuple_end hh j1 q1 hx fun g2 e e2 he => hE g2 e (fun c o c1 c2 c3 q => e2 _ _ c2 (fg _ _ c1 q)) he)
  | some x =>
    have hy : ys[k2]? = none := by
      rcases hend with q | q
      · rw [hx] at q; cases q
      · exact q
    refine wpAny_bind (nextOf_tuple_item j1 q1 hx fun g2 j2 e2 => wpAny_pure (wpAny_pure ?_))
    refine wpAny_bind (wpAny_bind (wpAny_holding ?_))
    show wpAny _ _ (Builtin.SmallTypes.nextOf (.ref i2) >>= _) _ _ _
    exact wpAny_bind (nextOf_tuple_end hh ((h2.at fun o e => fg _ o D.i2z e).extBut e2.extBut D.i12.symm) ((hl2.at fun o e => fg _ o D.l2z e).extBut e2.extBut D.l2i1) hy fun g3 e e3 he => hE g3 e (fun c o c1 c2 c3 q => e3 _ _ c3 (e2.extBut _ _ c2 (fg _ _ c1 q))) he)
theorem pyAgain_item {z TI TO i1 i2 l1 l2 a1 : Addr} {b : Bool} {k1 k2 : Nat} {xs ys : Array Value} {x y : Value} {Q : Option Value → Shared → Prop} (D : ZipApart z TI TO i1 i2 l1 l2) (hz : IsZipA s.heap z TI TO a1 b) (hal : ∃ o, s.heap.get? a1 = some o) (hTI : IsPair s.heap TI (.ref i1) (.ref i2))
    (h1 : s.heap.IsTupleIter i1 l1 k1) (h2 : s.heap.IsTupleIter i2 l2 k2) (hl1 : s.heap.IsTuple l1 xs) (hl2 : s.heap.IsTuple l2 ys) (hx : xs[k1]? = some x) (hy : ys[k2]? = some y)
    (hQ : ∀ h', IsZipA h' z TI TO a1 true → h'.IsTupleIter i1 l1 (k1 + 1) → h'.IsTupleIter i2 l2 (k2 + 1) → IsPair h' s.heap.objs.size x y → h'.objs.size = s.heap.objs.size + 1 →
      (∀ c o, c ≠ z → c ≠ i1 → c ≠ i2 → s.heap.get? c = some o → h'.get? c = some o) → Q (some (.ref s.heap.objs.size)) { s with heap := h' }) :
    wpAny (model prog w) A (pyNext (.ref z)) Q E s := by
  have hT : s.TypeIs (.ref z) "zip" := ⟨_, hz, rfl⟩
  unfold pyNext
  exact wpAny_bind (wpAny_attempt (wpAny_callSpecial?_slot (name := Str.ofString "__next__") hT F.slot_zip_next
    (wpAny_call_entry F.slot_zip_next hT F.entry_zip_next
      (again_item D hz hal hTI h1 h2 hl1 hl2 hx hy fun h' a1 a2 a3 a4 a5 a6 => wpAny_pure (hQ h' a1 a2 a3 a4 a5 a6)) (F.args_zip_next_1 _))))
theorem pyAgain_end {z TI TO i1 i2 l1 l2 a1 : Addr} {b : Bool} {k1 k2 : Nat} {xs ys : Array Value} {Q : Option Value → Shared → Prop} (hh : A.handled = none) (D : ZipApart z TI TO i1 i2 l1 l2) (hz : IsZipA s.heap z TI TO a1 b) (hal : ∃ o, s.heap.get? a1 = some o) (hTI : IsPair s.heap TI (.ref i1) (.ref i2))
    (h1 : s.heap.IsTupleIter i1 l1 k1) (h2 : s.heap.IsTupleIter i2 l2 k2) (hl1 : s.heap.IsTuple l1 xs) (hl2 : s.heap.IsTuple l2 ys) (hend : xs[k1]? = none ∨ ys[k2]? = none)
    (hQ : ∀ h', (∀ c o, c ≠ z → c ≠ i1 → c ≠ i2 → s.heap.get? c = some o → h'.get? c = some o) → Q none { s with heap := h' }) : wpAny (model prog w) A (pyNext (.ref z)) Q E s := by
  have hT : s.TypeIs (.ref z) "zip" := ⟨_, hz, rfl⟩
  unfold pyNext
  refine wpAny_bind (wpAny_attempt (wpAny_callSpecial?_slot (name := Str.ofString "__next__") hT F.slot_zip_next
    (wpAny_call_entry F.slot_zip_next hT F.entry_zip_next (again_end hh D hz hal hTI h1 h2 hl1 hl2 hend fun h' e hk he => ?_) (F.args_zip_next_1 _))))
  obtain ⟨o, ho, hc⟩ := he
  refine wpAny_bind (wpAny_isInstance (T := "StopIteration") (b := true) ⟨o, ho, hc⟩ isSubtype_stop ?_)
  exact wpAny_pure (hQ _ hk)
theorem nolen_zip : typeLookup (.type "zip") "__len__" = pure none := by rw [typeLookup_type, builtinLookup_eq_fast]; kernel_rfl
theorem nohint_zip : typeLookup (.type "zip") "__length_hint__" = pure none := by rw [typeLookup_type, builtinLookup_eq_fast]; kernel_rfl
end
end RZ
namespace Bz
open PySem PySem.Spec PyProof.Rows L2
variable [Wd]
theorem zipD_get : ∀ {xs ys : List PyData} {j : Nat} {x y : PyData}, xs[j]? = some x → ys[j]? = some y → (zipD xs ys)[j]? = some (.tuple [x, y])
  | x :: xs, y :: ys, 0, a, b, h1, h2 => by
    simp at h1 h2
    subst h1 h2
    rfl
  | x :: xs, y :: ys, j + 1, a, b, h1, h2 => by
    have := zipD_get (xs := xs) (ys := ys) (j := j) (by simpa using h1) (by simpa using h2)
    simpa using this
  | [], ys, j, a, b, h1, h2 => by simp at h1
  | x :: xs, [], j, a, b, h1, h2 => by simp at h2
theorem zip_end : ∀ {xs ys : List PyData} {j : Nat}, xs[j]? = none ∨ ys[j]? = none → (zipD xs ys).take j = zipD xs ys
  | [], ys, j, _ => by simp
  | x :: xs, [], j, _ => by simp
  | x :: xs, y :: ys, 0, h => by simp at h
  | x :: xs, y :: ys, j + 1, h => by
    have := zip_end (xs := xs) (ys := ys) (j := j) (by simpa using h)
    simpa using this
section
variable {X : Cx} {pins : List (Addr × Obj)} {σ : St} {G H : Hp} {m : List Addr} {μ : Mem}
/-- where the loop stands -/
structure LzAt (X : Cx) (pins : List (Addr × Obj)) (σ : St) (G H : Hp) (m : List Addr) (μ : Mem) (S z TI TO i1 i2 a b : Addr) (xs ys : List PyData) (j : Nat) (s : Shared) (G1 H1 : Hp) : Prop where
  inv : Inv X pins σ H1 s
  st : Stp G H m G1 H1 (m ++ [S])
  me : MemR X.K G1 H1 (m ++ [S]) (μ ++ [.lst ((zipD xs ys).take j)])
  fp : ∀ c ∈ [z, TI, TO, i1, i2], FpOk X pins H1 c
  zs : (IsZip s.heap z TI TO .none ∧ ∃ x y, IsPair s.heap TO x y) ∨ ∃ a1 bb vs, RZ.IsZipA s.heap z TI TO a1 bb ∧ H1 a1 = some (.tup vs)
  src : IsPair s.heap TI (.ref i1) (.ref i2)
  one : s.heap.IsTupleIter i1 a j
  two : s.heap.IsTupleIter i2 b j
  toi : ∃ o, s.heap.get? TO = some o
theorem lz_go {S z TI TO i1 i2 a b : Addr} {us ws : List V} {xs ys : List PyData} {A : Around} (hA : A.handled = none) (D : ZipApart z TI TO i1 i2 a b) (hS : S ∉ [z, TI, TO, i1, i2]) (hl : m.length = μ.length) (ha : SqT X.K G a us) (hb : SqT X.K G b ws) (da : DqAll X.K G us xs) (db : DqAll X.K G ws ys) (hsm : xs.length ≤ 1000000)
    {R : Result → Shared → Prop} (hQ : ∀ (s : Shared) (G1 H1 : Hp), Inv X pins σ H1 s → Stp G H m G1 H1 m → MemR X.K G1 H1 m μ → Dq X.K G1 (.ref S) (.list (zipD xs ys)) → R (.ok (.ret .none)) s) :
    ∀ (k j : Nat) (s : Shared) (G1 H1 : Hp), xs.length - j = k → LzAt X pins σ G H m μ S z TI TO i1 i2 a b xs ys j s G1 H1 → codeAny (model X.prog X.w) A (.builtin "list.extend.loop" ⟨[.ref S, .ref z, .none], []⟩) R s := by
  have fin : ∀ (j : Nat) (s : Shared) (G1 H1 : Hp), xs[j]? = none ∨ ys[j]? = none → LzAt X pins σ G H m μ S z TI TO i1 i2 a b xs ys j s G1 H1 → codeAny (model X.prog X.w) A (.builtin "list.extend.loop" ⟨[.ref S, .ref z, .none], []⟩) R s := by
    intro j s G1 H1 hend M
    have hqa : SqT X.K H1 a us := SqT.same M.me.ex (SqT.same M.st.gr.ex ha)
    have hqb : SqT X.K H1 b ws := SqT.same M.me.ex (SqT.same M.st.gr.ex hb)
    obtain ⟨its, rv, p1, _⟩ := M.inv.tuple hqa
    obtain ⟨its2, rv2, p2, _⟩ := M.inv.tuple hqb
    have l1 := rv.length
    have l2 := rv2.length
    have l3 := DqAll.length da
    have l4 := DqAll.length db
    have he : its.toArray[j]? = none ∨ its2.toArray[j]? = none := by
      rcases hend with q | q
      · exact .inl (by simp at q ⊢; omega)
      · exact .inr (by simp at q ⊢; omega)
    have done : ∀ h', (∀ c o, c ≠ z → c ≠ TO → c ≠ i1 → c ≠ i2 → s.heap.get? c = some o → h'.get? c = some o) → R (.ok (.ret .none)) { s with heap := h' } := fun h' k => by
      have I1 : Inv X pins σ H1 { s with heap := h' } := M.inv.turnedL (t' := s.toks) (ch := [z, TI, TO, i1, i2]) (fun c o hc q => k c o (fun e => hc (by simp [e])) (fun e => hc (by simp [e])) (fun e => hc (by simp [e])) (fun e => hc (by simp [e])) q) M.fp
      have me := M.me
      rw [zip_end hend] at me
      obtain ⟨vs, me2, st2, dq⟩ := MemR.freeze (h := m.length) (ad := S) (xs := zipD xs ys) M.st me (Nat.le_refl _) (by simp) (by rw [hl]; simp)
      rw [hl, List.take_left] at me2
      exact hQ _ _ _ I1 st2 me2 dq
    refine codeAny_builtin F.entry_extend_loop ?_
    rw [Around.under_plainId F.plain_extend_loop _]
    show wpAny _ _ (pyNext (.ref z) >>= _) _ _ s
    rcases M.zs with ⟨hz, x0, y0, hTO⟩ | ⟨a1, bb, vs1, hz, h1⟩
    · exact wpAny_bind (RZ.pyNext_zipT_end (A := A.in1) hA D hz M.src hTO M.one M.two p1 p2 he fun h' k => wpAny_pure (done h' k))
    · obtain ⟨_, itt, _, ⟨o, ho, _⟩⟩ := M.inv.hok a1 _ h1
      exact wpAny_bind (RZ.pyAgain_end (A := A.in1) hA D hz ⟨o, ho⟩ M.src M.one M.two p1 p2 he fun h' k => wpAny_pure (done h' fun c o c1 _ c3 c4 e => k c o c1 c3 c4 e))
  intro k
  induction k with
  | zero =>
    intro j s G1 H1 hk M
    exact fin j s G1 H1 (.inl (List.getElem?_eq_none (by omega))) M
  | succ k ih =>
    intro j s G1 H1 hk M
    cases hx : xs[j]? with
    | none => exact fin j s G1 H1 (.inl hx) M
    | some x =>
      cases hy : ys[j]? with
      | none => exact fin j s G1 H1 (.inr hy) M
      | some y =>
        have hqa : SqT X.K H1 a us := SqT.same M.me.ex (SqT.same M.st.gr.ex ha)
        have hqb : SqT X.K H1 b ws := SqT.same M.me.ex (SqT.same M.st.gr.ex hb)
        obtain ⟨its, rv, p1, _⟩ := M.inv.tuple hqa
        obtain ⟨its2, rv2, p2, _⟩ := M.inv.tuple hqb
        obtain ⟨vx, hvx, dx⟩ := DqAll.get (DqAll.mono M.st.gr.ex _ _ da) hx
        obtain ⟨vy, hvy, dy⟩ := DqAll.get (DqAll.mono M.st.gr.ex _ _ db) hy
        obtain ⟨ux, hux, rx⟩ := rv.get hvx
        obtain ⟨uy, huy, ry⟩ := rv2.get hvy
        have hjl : j < xs.length := (List.getElem?_eq_some_iff.mp hx).1
        have hp : H1 s.heap.objs.size = none := M.inv.hok.fresh (Nat.le_refl _)
        have step : ∀ (h' : Heap) (a1 : Addr) (bb : Bool), RZ.IsZipA h' z TI TO a1 bb → (a1 = s.heap.objs.size ∨ ∃ vs, H1 a1 = some (.tup vs)) → h'.IsTupleIter i1 a (j + 1) → h'.IsTupleIter i2 b (j + 1) → IsPair h' s.heap.objs.size ux uy → (∃ o, h'.get? TO = some o) →
            (∀ c o, c ≠ z → c ≠ TO → c ≠ i1 → c ≠ i2 → s.heap.get? c = some o → h'.get? c = some o) →
            wpAny (model X.prog X.w) A.in1 (updateSeq S (·.push (.ref s.heap.objs.size)) >>= fun _ => again (.builtin "list.extend.loop" ⟨[.ref S, .ref z, .none], []⟩)) (fun fin s' => match fin with | .done f => R (.ok f) s' | .again c' => c'.quiet = true ∧ codeAny (model X.prog X.w) A c' R s') (fun e s' => R (.error e) s') { s with heap := h' } := by
          intro h' a1 bb zA ha1 j1 j2 hT hO far
          have new : ObjOk X.prog X.w (upd H1 s.heap.objs.size (.tup [vx, vy])) h' s.heap.objs.size (.tup [vx, vy]) := ⟨by show 2 ≤ sizeLine; decide, [ux, uy], .cons rx (.cons ry .nil), ⟨_, hT, rfl, _, rfl⟩⟩
          have I1 : Inv X pins σ (upd H1 s.heap.objs.size (.tup [vx, vy])) { s with heap := h' } := M.inv.turnedNew (t' := s.toks) (ch := [z, TI, TO, i1, i2]) (fun c o hc q => far c o (fun e => hc (by simp [e])) (fun e => hc (by simp [e])) (fun e => hc (by simp [e])) (fun e => hc (by simp [e])) q) M.fp (Nat.le_refl _) new
          obtain ⟨me2, st2⟩ := M.me.push (o := .tup [vx, vy]) hp
          have hn : (m ++ [S])[m.length]? = some S := by simp
          have hx2 : (μ ++ [Bz.M.lst ((zipD xs ys).take j)])[m.length]? = some (.lst ((zipD xs ys).take j)) := by rw [hl]; simp
          obtain ⟨g0, vs, hv, dv⟩ := me2.at_ m.length S _ hn hx2
          obtain ⟨zl, itl, n, rl, hl2, e⟩ := I1.lstM hv
          have g0p : G1 s.heap.objs.size = none := (M.me.dead hp).1
          have dq := dq_tup g0p (DqAll.cons dx (DqAll.cons dy .nil))
          have hz2 : vs.length < sizeLine := by
            have q := DqAll.length dv
            rw [sizeLine_eq]
            rw [q, List.length_take]
            omega
          obtain ⟨me3, st3⟩ := me2.put (vs := vs ++ [.ref s.heap.objs.size]) (ys := (zipD xs ys).take j ++ [.tuple [x, y]]) hn hx2 (DqAll.append dv (.cons dq .nil))
          have hset : (μ ++ [Bz.M.lst ((zipD xs ys).take j)]).set m.length (.lst ((zipD xs ys).take j ++ [.tuple [x, y]])) = μ ++ [.lst ((zipD xs ys).take (j + 1))] := by
            rw [hl, List.set_append_right _ _ (Nat.le_refl _), Nat.sub_self, List.take_succ, zipD_get hx hy]
            rfl
          rw [hset] at me3
          have hSz : ∀ c ∈ [z, TI, TO, i1, i2], c ≠ S := fun c hc q => hS (q ▸ hc)
          have oth : ∀ c o, c ≠ S → h'.get? c = some o → (h'.update S (Obj.mapSeq (·.push (.ref s.heap.objs.size)))).get? c = some o := fun c o hc q => (Heap.get?_update_other _ _ (Ne.symm hc)).trans q
          have I2 := I1.lset (its' := itl ++ [.ref s.heap.objs.size]) (f := (·.push (.ref s.heap.objs.size))) (t' := s.toks) hv e (by simp) (rl.append (.cons (show RelV (.ref _) (.ref _) from rfl) .nil)) (by rw [List.length_append]; exact hz2)
          refine wpAny_bind (wpAny_updateSeq e rfl ?_ (by rw [List.size_toArray, ← hl2]; exact zl) (by rw [Array.size_push, List.size_toArray, ← hl2]; omega))
          have ne : ∀ c ∈ [z, TI, TO, i1, i2], c ≠ s.heap.objs.size := fun c hc q => by
            have hlt : c < s.heap.objs.size := by
              have e' : c = z ∨ c = TI ∨ c = TO ∨ c = i1 ∨ c = i2 := by simpa using hc
              have lz : z < s.heap.objs.size := by
                rcases M.zs with ⟨w1, _⟩ | ⟨_, _, _, w1, _⟩
                · exact Heap.lt_size w1
                · exact Heap.lt_size w1
              rcases e' with w | w | w | w | w
              · rw [w]; exact lz
              · rw [w]; exact Heap.lt_size M.src
              · rw [w]; obtain ⟨_, w2⟩ := M.toi; exact Heap.lt_size w2
              · rw [w]; obtain ⟨_, w2, _⟩ := M.one; exact Heap.lt_size w2
              · rw [w]; obtain ⟨_, w2, _⟩ := M.two; exact Heap.lt_size w2
            exact Nat.ne_of_lt hlt q
          refine wpAny_pure ⟨plainId_quiet F.plain_extend_loop _, ih (j + 1) _ _ _ (by omega) ⟨I2, (M.st.trans st2).trans st3, me3, fun c hc => ⟨?_, (M.fp c hc).2⟩, .inr ⟨a1, bb, ?_⟩, oth _ _ (hSz TI (by simp)) (far _ _ D.TIz D.TITO D.TIi1 D.TIi2 M.src), j1.at fun o q => oth _ o (hSz i1 (by simp)) q, j2.at fun o q => oth _ o (hSz i2 (by simp)) q, let ⟨o, q⟩ := hO; ⟨o, oth _ o (hSz TO (by simp)) q⟩⟩⟩
          · rw [upd_ne (hSz c hc), upd_ne (ne c hc)]
            exact (M.fp c hc).1
          · have hSp : s.heap.objs.size ≠ S := fun q => by
              rw [q, upd_same] at hv
              cases hv
            rcases ha1 with q | ⟨vs', q⟩
            · subst q
              exact ⟨[vx, vy], oth _ _ (hSz z (by simp)) zA, by rw [upd_ne hSp, upd_same]⟩
            · have n1 : a1 ≠ s.heap.objs.size := fun w => by rw [w, hp] at q; cases q
              have n2 : a1 ≠ S := fun w => by
                subst w
                rw [upd_ne n1, q] at hv
                cases hv
              exact ⟨vs', oth _ _ (hSz z (by simp)) zA, by rw [upd_ne n2, upd_ne n1]; exact q⟩
        refine codeAny_builtin F.entry_extend_loop ?_
        rw [Around.under_plainId F.plain_extend_loop _]
        show wpAny _ _ (pyNext (.ref z) >>= _) _ _ s
        rcases M.zs with ⟨hz, x0, y0, hTO⟩ | ⟨a1, bb, vs1, hz, h1⟩
        · exact wpAny_bind (RZ.pyNext_zipT_item D hz M.src hTO M.one M.two p1 p2 (x := ux) (y := uy) (by simpa using hux) (by simpa using huy) fun h' z' TO' j1 j2 hT _ far => step h' _ false z' (.inl rfl) j1 j2 hT ⟨_, TO'⟩ far)
        · obtain ⟨_, itt, _, ⟨o, ho, _⟩⟩ := M.inv.hok a1 _ h1
          exact wpAny_bind (RZ.pyAgain_item D hz ⟨o, ho⟩ M.src M.one M.two p1 p2 (x := ux) (y := uy) (by simpa using hux) (by simpa using huy) fun h' z' j1 j2 hT _ far => step h' a1 true z' (.inr ⟨vs1, h1⟩) j1 j2 hT (let ⟨o, q⟩ := M.toi; ⟨o, far _ _ D.TOz D.TOi1 D.TOi2 q⟩) fun c o c1 _ c3 c4 e => far c o c1 c3 c4 e)
theorem call_lz {s : Shared} {z TI TO i1 i2 a b : Addr} {us ws : List V} {xs ys : List PyData} {E : Value → Shared → Prop} {Q : Value → Shared → Prop} (hcm : X.calm = true) (I : Inv X pins σ H s) (me : MemR X.K G H m μ) (D : ZipApart z TI TO i1 i2 a b) (fp : ∀ c ∈ [z, TI, TO, i1, i2], FpOk X pins H c)
    (hz : IsZip s.heap z TI TO .none) (hTI : IsPair s.heap TI (.ref i1) (.ref i2)) (hTO : IsPair s.heap TO .none .none) (h1 : s.heap.IsTupleIter i1 a 0) (h2 : s.heap.IsTupleIter i2 b 0)
    (ha : SqT X.K G a us) (hb : SqT X.K G b ws) (da : DqAll X.K G us xs) (db : DqAll X.K G ws ys) (hsm : xs.length ≤ 1000000)
    (hQ : ∀ (s' : Shared) (G1 H1 : Hp) (l : Addr), Inv X pins σ H1 s' → Stp G H m G1 H1 m → MemR X.K G1 H1 m μ → Dq X.K G1 (.ref l) (.list (zipD xs ys)) → Q (.ref l) s') :
    wpAny (model X.prog X.w) X.A (call (.type "list") [.ref z]) Q E s := by
  refine callType_codes (Q₁ := fun obj s₁ => obj = .ref s.heap.objs.size ∧ s₁ = { s with heap := s.heap.push { cls := .type "list", data := .seq #[] } }) F.called_list (F.typeCall_list_1 _) F.entry_list_init
    (code_list_new _ ⟨rfl, rfl⟩) fun obj s₁ h₁ => ?_
  obtain ⟨rfl, rfl⟩ := h₁
  have hS : (s.heap.push { cls := .type "list", data := .seq #[] }).get? s.heap.objs.size = some { cls := .type "list", data := .seq #[] } := Heap.get?_push_size _ rfl
  have zlt : z < s.heap.objs.size := Heap.lt_size hz
  have hSz : s.heap.objs.size ≠ z := Nat.ne_of_gt zlt
  have hS5 : s.heap.objs.size ∉ [z, TI, TO, i1, i2] := fun hc => by
    obtain ⟨_, w1, _⟩ := id h1
    obtain ⟨_, w2, _⟩ := id h2
    have e' : s.heap.objs.size = z ∨ s.heap.objs.size = TI ∨ s.heap.objs.size = TO ∨ s.heap.objs.size = i1 ∨ s.heap.objs.size = i2 := by simpa using hc
    rcases e' with q | q | q | q | q
    · exact hSz q
    · exact Nat.ne_of_gt (Heap.lt_size hTI) q
    · exact Nat.ne_of_gt (Heap.lt_size hTO) q
    · exact Nat.ne_of_gt (Heap.lt_size w1) q
    · exact Nat.ne_of_gt (Heap.lt_size w2) q
  refine ⟨⟨_, hS, rfl⟩, F.args_list_init_2 _ _, ?_⟩
  show wpAny _ _ (do let old ← Builtin.List.listItems (.ref s.heap.objs.size); Builtin.List.listUpdate (.ref s.heap.objs.size) (fun _ => #[]); letGo old.toList.reverse; Builtin.List.listExtendWith (.ref s.heap.objs.size) (.ref z) .none) _ _ _
  refine wpAny_bind ?_
  unfold Builtin.List.listItems
  refine wpAny_bind (wpAny_seqItems hS rfl (wpAny_pure ?_))
  show wpAny _ _ (updateSeq s.heap.objs.size (fun _ => #[]) >>= fun _ => letGo (#[] : Array Value).toList.reverse >>= fun _ => Builtin.List.listExtendWith (.ref s.heap.objs.size) (.ref z) .none) _ _ _
  refine wpAny_bind (wpAny_updateSeq hS rfl (wpAny_bind (wpAny_letGo ?_)))
  have hS2 := Heap.get?_update_self (Obj.mapSeq (fun _ => (#[] : Array Value))) hS rfl
  have up : ∀ b o, s.heap.get? b = some o → ((s.heap.push { cls := .type "list", data := .seq #[] }).update s.heap.objs.size (Obj.mapSeq (fun _ => (#[] : Array Value)))).get? b = some o := fun b o e =>
    (Heap.get?_update_other _ _ (Ne.symm (Nat.ne_of_lt (Heap.lt_size e)))).trans (Heap.get?_push_of_some _ e)
  unfold Builtin.List.listExtendWith
  refine wpAny_bind (wpAny_typeOf (T := "zip") ⟨_, up _ _ hz, rfl⟩ ?_)
  have e1 : Builtin.List.listSameRef (.ref s.heap.objs.size) (.ref z) = false := by simp [Builtin.List.listSameRef, hSz]
  have e2 : (Value.type "zip" == Value.type "list") = false := by decide
  have e3 : (Value.type "zip" == Value.type "tuple") = false := by decide
  simp only [e1, e2, e3, Bool.or_false, Bool.false_eq_true, if_false]
  refine wpAny_bind (wpAny_pyIter_zip (up _ _ hz) ?_)
  refine wpAny_bind (wpAny_holding ?_)
  unfold Builtin.List.listLengthHint
  refine wpAny_bind (wpAny_specialOf (T := "zip") ⟨_, up _ _ hz, rfl⟩ RZ.nolen_zip ?_)
  show wpAny _ _ (specialOf (Value.ref z) (Str.ofString "__length_hint__") >>= _) _ _ _
  refine wpAny_bind (wpAny_specialOf (T := "zip") ⟨_, up _ _ hz, rfl⟩ RZ.nohint_zip ?_)
  refine wpAny_pure ?_
  show wpAny _ _ (rule "list.extend.makes-room" >>= fun _ => Builtin.List.listTouch (.ref s.heap.objs.size) >>= fun _ => again (.builtin "list.extend.loop" ⟨[.ref s.heap.objs.size, .ref z, .none], []⟩)) _ _ _
  refine wpAny_bind (wpAny_rule (wpAny_bind ?_))
  show wpAny _ _ (updateSeq s.heap.objs.size (·.push .none) >>= fun _ => updateSeq s.heap.objs.size (·.pop)) _ _ _
  refine wpAny_bind (wpAny_updateSeq hS2 rfl ?_)
  have hS3 := Heap.get?_update_self (Obj.mapSeq (·.push Value.none)) hS2 rfl
  refine wpAny_updateSeq hS3 rfl ?_
  have hS4 := Heap.get?_update_self (Obj.mapSeq (·.pop)) hS3 rfl
  have hp : H s.heap.objs.size = none := I.hok.fresh (Nat.le_refl _)
  obtain ⟨me1, st1⟩ := me.alloc (vs := []) (xs := []) hp .nil
  let h4 : Heap := ((((s.heap.push { cls := .type "list", data := .seq #[] }).update s.heap.objs.size (Obj.mapSeq (fun _ => (#[] : Array Value)))).update s.heap.objs.size (Obj.mapSeq (·.push Value.none))).update s.heap.objs.size (Obj.mapSeq (·.pop)))
  have up4 : ∀ b o, s.heap.get? b = some o → h4.get? b = some o := fun b o e => by
    have nb : s.heap.objs.size ≠ b := Ne.symm (Nat.ne_of_lt (Heap.lt_size e))
    exact (Heap.get?_update_other _ _ nb).trans ((Heap.get?_update_other _ _ nb).trans (up b o e))
  have I1 : Inv X pins σ (upd H s.heap.objs.size (.lst [])) { s with heap := h4 } := I.laid (t' := s.toks) up4 (Nat.le_refl _) ⟨Nat.zero_le _, [], _, .nil, hS4⟩
  refine wpAny_pure ⟨plainId_quiet F.plain_extend_loop _, lz_go (A := X.A.in1) (S := s.heap.objs.size) (xs := xs) (ys := ys) (I.ok.hd hcm) D hS5 me.len ha hb da db hsm (R := _) (fun s' G1 H1 J st' me' dq => ?_) xs.length 0 _ G _ (Nat.sub_zero _) ⟨I1, st1, by simpa using me1, fun c hc => ⟨?_, (fp c hc).2⟩, .inl ⟨up4 _ _ hz, _, _, up4 _ _ hTO⟩, up4 _ _ hTI, h1.at fun o e => up4 _ o e, h2.at fun o e => up4 _ o e, ⟨_, up4 _ _ hTO⟩⟩⟩
  · exact ⟨rfl, hQ s' G1 H1 _ J st' me' dq⟩
  · rw [upd_ne (fun q => hS5 (by rw [← q]; exact hc))]
    exact (fp c hc).1
end
section
variable {X : Cx} {w : Wish} {a b : Expr} {δs : DA}
def tLz (K : PySem.W.Frag) (ta : TA) : TE := fun σ H Q => ta σ H fun vs H1 => ∃ (p q : Addr) (us ws : List V) (xs ys : List PyData) (G : Hp) (m : List Addr) (μ : Mem), vs = [.ref p, .ref q] ∧ MemR K G H1 m μ ∧ SqT K G p us ∧ SqT K G q ws ∧ DqAll K G us xs ∧ DqAll K G ws ys ∧ xs.length ≤ 1000000 ∧
  ∀ G2 H2 l, Stp G H1 m G2 H2 m → MemR K G2 H2 m μ → Dq K G2 (.ref l) (.list (zipD xs ys)) → Q (.ref l) H2
theorem pe_lz {p1 p2 pos pos2 : Pos} {ta : TA} (hc : X.calm = true) (hml : X.mg "list" = none) (hmz : X.mg "zip" = none) (ha : PA X [a, b] ta) (hgl : Gl X "list") (hgz : Gl X "zip") (hs : starEach [a, b] X.env = (false, eval a X.env) :: starEach [b] X.env) (hpl : (backTo pos2 (starEach [b] X.env)).any (·.1) = false)
    (hs1 : starEach [.Call (.Name "zip" p2) [a, b] [] pos2] X.env = (false, eval (.Call (.Name "zip" p2) [a, b] [] pos2) X.env) :: starEach [] X.env) (hpl1 : (backTo pos (starEach [] X.env)).any (·.1) = false) :
    PE X (.Call (.Name "list" p1) [.Call (.Name "zip" p2) [a, b] [] pos2] [] pos) (tLz X.K ta) := by
  refine ⟨fun pins s σ H Q I h => ?_⟩
  refine Call_ (ld_blt I hgl hml (show bootBuiltins "list" = some (.type "list") from by decide +kernel) (PyProof.Rows.callWith_type1 ?_ hs1 hpl1))
  rw [hs1]
  refine Calls.spliced_cons ?_
  refine Call_ (ld_blt I hgz hmz PyProof.Rows.boot_zip (PyProof.Rows.callWith_type1 (thn (ha.run pos2 pins s σ H _ I h) fun us s1 ⟨vs, H1, I1, r1, q1⟩ => ?_) hs hpl))
  obtain ⟨p, q, vs1, vs2, xs, ys, G, m, μ, ex, me, hqx, hqy, dx, dy, hsm, q1⟩ := q1
  subst ex
  cases r1 with
  | cons r rr =>
    cases rr with
    | cons r' rr =>
      cases rr
      cases r
      cases r'
      have fresh5 : ∀ c, c ∈ [s1.heap.objs.size + 4, s1.heap.objs.size + 2, s1.heap.objs.size + 3, s1.heap.objs.size, s1.heap.objs.size + 1] → FpOk X pins H1 c := fun c hcm => by
        have e' : c = s1.heap.objs.size + 4 ∨ c = s1.heap.objs.size + 2 ∨ c = s1.heap.objs.size + 3 ∨ c = s1.heap.objs.size ∨ c = s1.heap.objs.size + 1 := by simpa using hcm
        have hle : s1.heap.objs.size ≤ c := by omega
        exact I1.fpOk hle (I1.hok.fresh hle)
      obtain ⟨its, rv, pp1, _⟩ := I1.tuple (SqT.same me.ex hqx)
      obtain ⟨its2, rv2, pp2, _⟩ := I1.tuple (SqT.same me.ex hqy)
      obtain ⟨o1, ho1, _⟩ := id pp1
      obtain ⟨o2, ho2, _⟩ := id pp2
      refine RZ.call_zipT (show s1.heap.IsTuple p its.toArray from pp1) (show s1.heap.IsTuple q its2.toArray from pp2) fun h' hz hTI hTO h1 h2 hsz hk => ?_
      refine Calls.spliced_nil ?_
      have I2 : Inv X pins σ H1 { s1 with heap := h' } := I1.kept (t' := s1.toks) hk
      exact call_lz hc I2 me (PySem.W.ktu_apart s1.heap.objs.size p q (Heap.lt_size ho1) (Heap.lt_size ho2)) fresh5 hz hTI hTO h1 h2 hqx hqy dx dy hsm fun s' G1 H2 l J st me' dq => ⟨.ref l, H2, J, rfl, q1 G1 H2 l st me' dq⟩
theorem rd_tupZ {K : PySem.W.Frag} {G : Hp} {m : List Addr} {μ : Mem} {s : S} {v : V} {xs : List PyData} (r : RpS K G m s v) (e : rd μ s = some (.tuple xs)) : ∃ p us, v = .ref p ∧ SqT K G p us ∧ DqAll K G us xs := by
  cases s with
  | d x =>
    simp only [rd, Option.some.injEq] at e
    subst e
    cases r with
    | tup h1 h2 => exact ⟨_, _, rfl, h1, h2⟩
  | m h =>
    simp only [rd] at e
    split at e <;> cases e
theorem two_tups {K : PySem.W.Frag} {G : Hp} {m : List Addr} {μ : Mem} {ss : List S} {vs : List V} {xs ys : List PyData} (r : RpL K G m ss vs) (e : rdL μ ss = some [.tuple xs, .tuple ys]) : ∃ p us q ws, vs = [.ref p, .ref q] ∧ SqT K G p us ∧ SqT K G q ws ∧ DqAll K G us xs ∧ DqAll K G ws ys := by
  cases r with
  | nil => simp at e
  | cons r1 r2 =>
    cases r2 with
    | nil =>
      unfold rdL at e
      split at e
      · rename_i h2
        simp at h2 e
        rw [h2] at e
        simp at e
      · cases e
    | cons r3 r4 =>
      unfold rdL at e
      split at e
      · rename_i x zs e1 e2
        cases e
        unfold rdL at e2
        split at e2
        · rename_i y zs2 e3 e4
          cases e2
          cases r4 with
          | nil =>
            obtain ⟨p, us, rfl, a1, a2⟩ := rd_tupZ r1 e1
            obtain ⟨q, ws, rfl, b1, b2⟩ := rd_tupZ r3 e3
            exact ⟨p, us, q, ws, rfl, a1, b1, a2, b2⟩
          | cons r5 r6 =>
            exfalso
            unfold rdL at e4
            split at e4 <;> cases e4
        · cases e2
      · cases e
/-- list(zip(a, b)), of tuples -/
theorem ce_lstZip {p1 p2 pos pos2 : Pos} (hc : X.calm = true) (hml : X.mg "list" = none) (hmz : X.mg "zip" = none) (ha : CA X w [a, b] δs) (hgl : Gl X "list" := by rfl) (hgz : Gl X "zip" := by rfl) (hs : starEach [a, b] X.env = (false, eval a X.env) :: starEach [b] X.env := by rfl) (hpl : (backTo pos2 (starEach [b] X.env)).any (·.1) = false := by rfl)
    (hs1 : starEach [.Call (.Name "zip" p2) [a, b] [] pos2] X.env = (false, eval (.Call (.Name "zip" p2) [a, b] [] pos2) X.env) :: starEach [] X.env := by rfl) (hpl1 : (backTo pos (starEach [] X.env)).any (·.1) = false := by rfl) :
    CE X w (.Call (.Name "list" p1) [.Call (.Name "zip" p2) [a, b] [] pos2] [] pos) (eCB bLstZip δs) := by
  obtain ⟨ta, q1, s1⟩ := ha
  refine ⟨_, pe_lz hc hml hmz q1 hgl hgz hs hpl hs1 hpl1, fun ρ μ σ G H m en me Q q => ?_⟩
  refine s1 ρ μ σ G H m en me _ (Post.of_bind q fun x μ1 G1 H1 m1 _ st1 me1 q1 v rv => ?_)
  cases e1 : rdL μ1 x with
  | none =>
    simp only [e1] at q1
    exact q1.elim
  | some zs =>
    simp only [e1] at q1
    obtain ⟨z, hz, kk⟩ := fin2 q1
    unfold bLstZip at hz
    split at hz
    · rename_i xs ys
      split at hz
      · rename_i hs2
        cases hz
        obtain ⟨p, us, q, ws, rfl, h1, h2, h3, h4⟩ := two_tups rv e1
        exact ⟨p, q, us, ws, xs, ys, G1, m1, μ1, rfl, me1, h1, h2, h3, h4, small_le hs2, fun G2 H2 l st me' dq => kk (.ref l) G2 H2 st me' dq⟩
      · cases hz
    · cases hz
end
end Bz
set_option Elab.async false
set_option linter.all false
set_option maxRecDepth 100000
set_option maxHeartbeats 2000000
/-! Dicts of tuples walked. -/
namespace Bz
open PySem PySem.Spec PyProof.Rows L2
abbrev XS := List (NestedKey × Addr × Value)
/-- the keys of the dict at a, which stands -/
def ItN (w : World) (a : Addr) (od : Obj) (xs : XS) : It :=
  ⟨fun i H => H a = some (.frz od (DicO w a xs)) ∧ i < xs.length, fun i H v H' => H' = H ∧ ∃ n q u, xs[i]? = some (n, q, u) ∧ v = .ref q, fun i H => H a = some (.frz od (DicO w a xs)) ∧ xs.length ≤ i⟩
section
variable {X : Cx} {pins : List (Addr × Obj)} {σ : St} {H : Hp} {s : Shared} {w : World} {a : Addr} {od : Obj} {xs : XS}
theorem frzN (I : Inv X pins σ H s) (h : H a = some (.frz od (DicO w a xs))) : s.heap.get? a = some od ∧ od.ExactDict ∧ ∃ es ep, od.data = .dict es ep ∧ es.toList = xs.map fun x => (⟨x.1.hash w, .ref x.2.1, x.2.2⟩ : DictEntry) := by
  obtain ⟨e1, ⟨o, es, ep, e2, hx, hd, he⟩, _, _⟩ := I.hok a _ h
  rw [e1] at e2
  cases e2
  exact ⟨e1, hx, es, ep, hd, he⟩
theorem turn_N {P : Program} {w0 : World} {K : PySem.W.Frag} {tg : Expr} {es : Array DictEntry} {ep : Nat} (it : Addr) (hod : od.data = .dict es ep) : Turn P w0 K tg (ItN w a od xs) [it] it (fun i h => h.IsKeyIter it a i xs.length ep) where
  mem := by simp
  obj := fun i h st b hb => by
    have e : b = it := by simpa using hb
    subst e
    obtain ⟨oi, e, c, dd⟩ := st
    exact ⟨oi, e, fun v z => by rw [dd] at z; cases z⟩
  keep := fun i h h' st k => st.at fun oi e => k it (by simp) oi e
  item := by
    intro X hP hw hK hc i pins s σ H E I hf st hg
    obtain ⟨hd, hi⟩ := hg
    obtain ⟨f0, f1, f2, f3, f4, f5⟩ := hf it (by simp)
    obtain ⟨hgd, hx, es', ep', hdt, he⟩ := frzN I hd
    obtain ⟨rfl, rfl⟩ := dict_ep hod hdt
    have hsz : es'.size = xs.length := by rw [← Array.length_toList, he, List.length_map]
    have hen : es'[i]? = some (⟨(xs[i]).1.hash w, .ref (xs[i]).2.1, (xs[i]).2.2⟩ : DictEntry) := by
      rw [← Array.getElem?_toList, he, List.getElem?_map, List.getElem?_eq_getElem hi]
      rfl
    refine next_key_item st hgd hdt hsz hen fun h' st' sb => ?_
    have I1 : Inv X pins σ H { s with heap := h' } := I.turned (t' := s.toks) (fun b ob hb e => (sb.2 b hb).trans e) f0 f1 f3 f4 f5
    obtain ⟨oi, e, c, dd⟩ := id st'
    exact ⟨.ref (xs[i]).2.1, rfl, go_of (s := { s with heap := h' }) e c dd (by decide) ⟨.ref (xs[i]).2.1, H, I1, rfl, ⟨rfl, (xs[i]).1, (xs[i]).2.1, (xs[i]).2.2, List.getElem?_eq_getElem hi, rfl⟩, st', fun b hb => (hf b hb).1⟩⟩
  done := by
    intro X hP hw hK hc i pins s σ H E I hf st hg
    obtain ⟨hd, hi⟩ := hg
    obtain ⟨f0, f1, f2, f3, f4, f5⟩ := hf it (by simp)
    obtain ⟨hgd, hx, es', ep', hdt, he⟩ := frzN I hd
    obtain ⟨rfl, rfl⟩ := dict_ep hod hdt
    have hsz : es'.size = xs.length := by rw [← Array.length_toList, he, List.length_map]
    exact next_key_end (I.ok.hd hc) st hgd hdt hsz hi fun h' eb => ⟨rfl, I.turned (t' := s.toks) (fun b ob hb e => eb b ob hb e) f0 f1 f3 f4 f5⟩
  self := fun A i s Q E st h => by
    refine wpAny_pyIter_slot st.typeIs F.slot_dict_keyiterator_iter (wpAny_call_entry F.slot_dict_keyiterator_iter st.typeIs F.entry_dict_keyiterator_iter ?_ (F.args_dict_keyiterator_iter_1 _))
    show wpAny _ _ (ret (.ref it)) _ _ s
    exact wpAny_pure ⟨_, rfl, "dict_keyiterator", _, st.typeIs, F.slot_dict_keyiterator_next.lookup, h⟩
def iDicT (w : World) (td : TE) : TI := fun σ H R => td σ H fun x H1 => ∃ a xs, x = .ref a ∧ (a == sysModules) = false ∧ H1 a = some (DicO w a xs) ∧ ∀ od, R (ItN w a od xs) (upd H1 a (.frz od (DicO w a xs)))
theorem pi_dic {tg e : Expr} {td : TE} (he : PE X e td) : PI X tg e (iDicT w td) := by
  refine ⟨fun pins s σ H R I h => ?_⟩
  refine thn (he.run pins s σ H _ I h) fun u s1 ⟨x, H1, I1, rx, a, xs, ex, hsys, hd, q⟩ => ?_
  subst ex
  obtain rfl : u = Value.ref a := rx
  obtain ⟨od, I2⟩ := I1.lock hd trivial
  have hd2 : upd H1 a (.frz od (DicO w a xs)) a = some (.frz od (DicO w a xs)) := upd_same
  obtain ⟨hgd, hx, es, ep, hdt, he'⟩ := frzN I2 hd2
  have hsz : es.size = xs.length := by rw [← Array.length_toList, he', List.length_map]
  refine iter_keys hsys hgd hx hdt (pi_one (tk := s1.toks) I2 _ (turn_N _ hdt) ⟨_, Heap.get?_push_size _ rfl, rfl, ?_⟩ (q od))
  rw [hsz] <;> rfl
end
variable [Wd]
theorem MemR.freezeD {K : PySem.W.Frag} {G H : Hp} {m : List Addr} {μ : Mem} {h : Nat} {ad : Addr} {kvs : List (PyData × PyData)} {xs : XS} (od : Obj) (me : MemR K G H m μ) (ha : m[h]? = some ad) (hx : μ[h]? = some (.dic kvs)) (g0 : G ad = none) (hs : (ad == sysModules) = false) (nd : (xs.map (·.1)).Nodup) (dr : DR K G kvs xs) :
    MemR K (upd G ad (.frz od (DicO Wd.w ad xs))) (upd H ad (.frz od (DicO Wd.w ad xs))) m (μ.set h (.fdc kvs)) ∧ Stp G H m (upd G ad (.frz od (DicO Wd.w ad xs))) (upd H ad (.frz od (DicO Wd.w ad xs))) m := by
  have am := List.mem_of_getElem? ha
  refine ⟨⟨fun b u e => ?_, by rw [List.length_set]; exact me.len, me.nd, fun i b t hi ht => ?_, ?_⟩, ⟨⟨same_upd g0, [], by simp⟩, fun b o e n _ => ?_, fun b e n => ?_, fun b z n => absurd z n, fun b h1 h2 h3 => ?_⟩⟩
  · by_cases hb : b = ad
    · subst hb
      rw [upd_same] at e ⊢
      exact e
    · rw [upd_ne hb] at e ⊢
      exact me.ex b u e
  · by_cases hin : h = i
    · subst hin
      rw [ha] at hi
      cases hi
      obtain ⟨hl, _⟩ := List.getElem?_eq_some_iff.mp hx
      rw [List.getElem?_set_self hl] at ht
      cases ht
      exact ⟨hs, xs, od, upd_same, nd, DR.mono (same_upd g0) dr⟩
    · rw [List.getElem?_set_ne hin] at ht
      have hb : b ≠ ad := fun z => hin (by
        subst z
        obtain ⟨h1, e1⟩ := List.getElem?_eq_some_iff.mp ha
        obtain ⟨h2, e2⟩ := List.getElem?_eq_some_iff.mp hi
        exact (List.getElem_inj me.nd).mp (e1.trans e2.symm))
      refine MO.mono (same_upd g0) (fun z => ?_) (fun u z => ?_) (me.at_ i b t hi ht)
      · rw [upd_ne hb]
        exact MO.gn (me.at_ i b t hi ht) z
      · rw [upd_ne hb]
        exact z
  · exact me.tb.via (fun b u e n _ _ => by rw [upd_ne (fun z => n (by rw [z]; exact am))]; exact e) (fun _ _ z => z) fun b ps e n z => by
      rw [upd_ne (fun q => n (by rw [q]; exact am))]
      exact z
  · rw [upd_ne (fun z => n (by rw [z]; exact am))]
    exact e
  · rw [upd_ne (fun z => n (by rw [z]; exact am))]
    exact e
  · rw [upd_ne (fun z => h3 (by rw [z]; exact am))]
    exact h1
theorem DR.leN {K : PySem.W.Frag} {G : Hp} : ∀ {kvs : List (PyData × PyData)} {xs : XS}, DR K G kvs xs → kvs.length = xs.length
  | _, _, .nil => rfl
  | _, _, .cons _ _ _ _ _ t => by simp [DR.leN t]
theorem DR.key {K : PySem.W.Frag} {G : Hp} : ∀ {kvs : List (PyData × PyData)} {xs : XS}, DR K G kvs xs → ∀ (i : Nat) (n : NestedKey) (q : Addr) (u : Value) (k : PyData), xs[i]? = some (n, q, u) → (kvs.map (·.1))[i]? = some k → Dq K G (.ref q) k
  | _, _, .nil, i, n, q, u, k, h, _ => by simp at h
  | _, _, .cons h1 h2 h3 h4 h5 h6, 0, n, q, u, k, h, h' => by
    simp at h h'
    obtain ⟨rfl, rfl, rfl⟩ := h
    subst h'
    exact h3
  | _, _, .cons h1 h2 h3 h4 h5 h6, i + 1, n, q, u, k, h, h' => DR.key h6 i n q u k (by simpa using h) (by simpa using h')
theorem wk_dic {K : PySem.W.Frag} {G : Hp} {m : List Addr} {a : Addr} {kvs : List (PyData × PyData)} {xs : XS} {od : Obj} (h : G a = some (.frz od (DicO Wd.w a xs))) (d : DR K G kvs xs) : Wk K (ItN Wd.w a od xs) G m (kvs.map (·.1)) := by
  intro G2 H m2 μ2 g me i
  have hH : H a = some (.frz od (DicO Wd.w a xs)) := me.ex _ _ (g.ex _ _ h)
  have hl := DR.leN d
  refine ⟨fun y hy => ?_, fun hi => ⟨hH, by rw [← hl]; simpa using hi⟩⟩
  have hi : i < xs.length := by
    obtain ⟨z, _⟩ := List.getElem?_eq_some_iff.mp hy
    rw [← hl]
    simpa using z
  refine ⟨⟨hH, hi⟩, fun v' H' hv => ?_⟩
  obtain ⟨rfl, n, q, u, e, rfl⟩ := hv
  exact ⟨G2, Stp.refl, me, Dq.mono g.ex _ _ (DR.key d i n q u y e hy)⟩
section
variable {X : Cx} {w : Wish} {tg e : Expr} {δ : DE}
/-- for k in d: from there on it stands -/
theorem ci_dic (hX : X.w = Wd.w) (h : CE X w e δ) : CI X w tg e (iDic δ) := by
  obtain ⟨te, p1, s1⟩ := h
  refine ⟨_, pi_dic (w := Wd.w) p1, fun ρ μ σ G H m en me R q => ?_⟩
  refine s1 ρ μ σ G H m en me _ (Post.of_bind q fun x μ1 G1 H1 m1 _ st1 me1 q1 v rv => ?_)
  cases x with
  | d x => exact q1.elim
  | m h =>
    simp only at q1
    split at q1
    · rename_i kvs e1
      obtain ⟨a, ha, rfl⟩ := rv
      obtain ⟨g0, hs, xs, hx, nd, dr⟩ := me1.at_ h a _ ha e1
      refine ⟨a, xs, rfl, hs, hx, fun od => ?_⟩
      obtain ⟨me2, st2⟩ := me1.freezeD od ha e1 g0 hs nd dr
      exact q1 _ _ m1 st2 me2 _ (wk_dic upd_same (DR.mono (same_upd g0) dr))
    · exact q1.elim
end
end Bz
set_option Elab.async false
set_option linter.all false
set_option maxRecDepth 100000
set_option maxHeartbeats 2000000
/-! Lambdas: made, called. -/
namespace Bz
open PySem PySem.Spec PyProof.Rows L2
/-- the lambda at f, its code object at c -/
def LamO (f : Addr) (qual : Str) (params : Arguments) (body : Expr) (scope : Scope) (c : Addr) : HO :=
  .ext fun h => ∃ (od : Option Addr) (sl : Array (Option Value)) (pm ctv : Value), h.get? f = some (⟨.type "function", od, .func (PySem.W.kla_fn "<lambda>" qual params body scope [] pm (.ref c) ctv), sl⟩ : Obj)
abbrev lamF (qual : Str) (params : Arguments) (scope : Scope) (c : Addr) : NdefX.NF := ⟨"<lambda>", qual, params, [], scope, [], c⟩
section
variable {CX : CXT} {P : Program} {w : World} {K : PySem.W.Frag} {mg : Str → Option Value} {base : Heap} {N ps : List Str} {qual : Str} {params : Arguments} {body : Expr} {scope : Scope} {f c : Addr} {k : Nat}
theorem lam_run {A : Around} {outer : List PySem.Env} {s : Shared} {H : Hp} {us : List Value} {vs : List V} {Q : VK} {E : XK} (S : NdefX.NScope N ps [] scope)
    (hb : ∀ (pm ctv : Value) (us : List Value), us.length = ps.length → bindArgs (PySem.W.kla_fn "<lambda>" qual params body scope [] pm (.ref c) ctv) ⟨us, []⟩ = pure (ps.zip us)) (hr : Room (k + 1) A) (e0 : Env0 P w K mg base A outer s H) (hf : H f = some (LamO f qual params body scope c)) (hc : H c = some (LamX.CodeO c qual))
    (r : Vals vs us) (hl : vs.length = ps.length) (hbody : Room k (A.deeper (NdefX.envF (lamF qual params scope c) f s.heap.objs.size)) → ∃ t, PE (NdefX.ncx CX P w K mg base N (lamF qual params scope c) f A outer s H E) body t ∧ t (NdefX.startF N vs []) H Q) :
    codeAny (model P w) A (.call (.ref f) ⟨us, []⟩) (CR CX outer P w H s Q E) s := by
  have lim : s.heap.NoLimit := e0.mod.nolimit.keeps fun b o e => (e0.bs b o e).1
  obtain ⟨⟨od, sl, pm, ctv, ho⟩, _, _⟩ := e0.hok f _ hf
  refine PySem.W.kla_callFunE hr.depth ho rfl S.co S.gen rfl (NdefX.codeO_at e0.hok hc) ?_
  rw [hb pm ctv us (by rw [← r.length]; exact hl)]
  refine wpAny_pure (wpAny_newFunctionEnv S.nocell (fun ⟨n, _⟩ hy => S.par n (List.of_mem_zip hy).1) (fun h₁ hns hsb => ⟨lim.fresh _ hsb, ?_⟩) S.kind)
  refine PySem.W.kla_codeExpr ?_
  have kp : ∀ b o, s.heap.get? b = some o → h₁.get? b = some o := fun b o e => hsb.extBut b o (Nat.ne_of_lt (Heap.lt_size e)) (Heap.get?_push_of_some _ e)
  obtain ⟨t, ht, hq⟩ := hbody (hr.deeper _)
  have C : NdefX.CellsAt (lamF qual params scope c).cl [] [] s.heap H := ⟨rfl, fun y a z => (by cases z), fun x y a z => (by cases z), fun i y z => (by simp at z)⟩
  have I : Inv (NdefX.ncx CX P w K mg base N (lamF qual params scope c) f A outer s H E) [] (NdefX.startF N vs []) H { s with heap := h₁, toks := s.toks + (ps.zip us).length } := NdefX.inv_startN S hr.hd e0 hl r C hns kp
  refine wpAny_mono (ht.run [] _ (NdefX.startF N vs []) H _ I hq) (fun u s' hs => ?_) fun e s' hs => hs
  obtain ⟨v, H', J, rv, q⟩ := hs
  exact ⟨v, H', J.os, J.bare, J.base, J.hok, rv, q⟩
end
section
variable {X : Cx} {pins : List (Addr × Obj)} {σ : St} {G H : Hp} {s : Shared} {T : List (Addr × Str)} {m : List Addr}
theorem lamO_ok {P : Program} {w : World} {H : Hp} {h : Heap} {f : Addr} {qual : Str} {params : Arguments} {body : Expr} {scope : Scope} {c : Addr} {pm ctv : Value} (e : h.get? f = some (PySem.W.kla_obj "<lambda>" qual params body scope [] pm c ctv)) : ObjOk P w H h f (LamO f qual params body scope c) :=
  ⟨⟨_, _, pm, ctv, e⟩, ⟨_, e⟩, fun h1 h2 ⟨od, sl, p, t, z⟩ st => ⟨od, sl, p, t, st _ z⟩⟩
theorem upd_thN {H : Hp} {p : Addr} {o : HO} {b : Addr} (e : H b ≠ none) : upd H p o b ≠ none := by
  by_cases hb : b = p
  · rw [hb, upd_same]
    intro z
    cases z
  · rw [upd_ne hb]
    exact e
theorem codeO_tbl {c : Addr} {q : Str} (ps : Array Value) : LamX.CodeO c q ≠ .tbl ps := fun z => by
  unfold LamX.CodeO at z
  cases z
variable [Wd]
/-- a lambda is made: it is known, its code object too; the table has grown -/
theorem lam_known {c P : Addr} {qual : Str} {params : Arguments} {body : Expr} {scope : Scope} {pos : Pos} {E : Value → Shared → Prop} {Q : Value → Shared → Prop} (I : Inv X pins σ H s) (TB : LamX.TabB X.base X.mg c P) (hcode : X.env.code = .ref c) (hq : X.env.qual ++ "<lambda>" = qual)
    (hm : (P, qual) ∈ T) (hu : ∀ p ∈ T, p.1 = P → p.2 = qual) (hT : TabsM T m G H) (dead : ∀ b, H b = none → b ∉ m) (hdef : defaultsOf params X.env = ([], [])) (hcl : cloFrom X.env.cells scope.names [] = []) (hfree : ∀ y ∈ scope.names, y.2 = .free → ∃ c, X.env.cells.lookup y.1 = some c)
    (h : ∀ (f c' : Addr) (H1 : Hp) (s' : Shared), Inv X pins σ H1 s' → (∀ b o, H b = some o → b ≠ P → H1 b = some o) → (∀ b, H b ≠ none → H1 b ≠ none) → TabsM T m G H1 → H f = none → H1 f = some (LamO f qual params body scope c') → H1 c' = some (LamX.CodeO c' qual) → c' ∉ m → Q (.ref f) s') :
    wpAny (model X.prog X.w) X.A (eval (.Lambda params body scope pos) X.env) Q E s := by
  subst hq
  obtain ⟨hPm, hPG, ps, hP, ht, ha⟩ := hT _ hm
  refine PySem.W.kla_eval hdef ?_
  have bP : s.heap.BuiltinsAt X.mg P := TB.bm.keeps I.bk
  have hP' : s.heap.get? P = some { cls := .none, data := .fields ps } := I.hok P _ hP
  have hclos := closure_ok hfree
  rw [hcl] at hclos
  cases hc : codeAmong pos ps.toList with
  | none =>
    refine PySem.W.kla_makeFunction (mg := X.mg) (c := c) (P := P) (ps := ps) hclos I.ok.glob (I.mod.glob.keeps I.bk) hcode (TB.code.keeps I.bk) hP' ht hc TB.gP bP fun c' ctv h' tk hx hge hlt hrec htb => ?_
    obtain ⟨c2, oc, vs, t, e2, hoc, hd, hv⟩ := hrec
    cases e2
    have nC : H c' = none := I.hok.fresh hge
    have nF : H h'.objs.size = none := I.hok.fresh (Nat.le_trans hge (Nat.le_of_lt hlt))
    have I1 := LamX.inv_table (t' := tk) (more := #[rawInt pos.line, rawInt pos.col, .ref c']) (h' := h') I hP hx htb hge ⟨oc, vs, t, hoc, hd, hv⟩
    have I2 := I1.laid (t' := tk) (a := h'.objs.size) (o := LamO h'.objs.size (X.env.qual ++ "<lambda>") params body scope c') (h' := h'.push (PySem.W.kla_obj "<lambda>" (X.env.qual ++ "<lambda>") params body scope [] ((X.mg "__name__").getD .none) c' ctv)) (fun b o e => Heap.get?_push_of_some _ e) (Nat.le_refl _) (lamO_ok (Heap.get?_push_size _ rfl))
    have nCF : c' ≠ h'.objs.size := Nat.ne_of_lt hlt
    have nPC : P ≠ c' := ne_of_none hP nC
    have nPF : P ≠ h'.objs.size := ne_of_none hP nF
    have kp : ∀ b o, H b = some o → b ≠ P → upd (upd (upd H P (.tbl (ps ++ #[rawInt pos.line, rawInt pos.col, .ref c']))) c' (LamX.CodeO c' (X.env.qual ++ "<lambda>"))) h'.objs.size (LamO h'.objs.size (X.env.qual ++ "<lambda>") params body scope c') b = some o := fun b o e n => by
      rw [upd_ne (ne_of_none e nF), upd_ne (ne_of_none e nC), upd_ne n]
      exact e
    have atP : upd (upd (upd H P (.tbl (ps ++ #[rawInt pos.line, rawInt pos.col, .ref c']))) c' (LamX.CodeO c' (X.env.qual ++ "<lambda>"))) h'.objs.size (LamO h'.objs.size (X.env.qual ++ "<lambda>") params body scope c') P = some (.tbl (ps ++ #[rawInt pos.line, rawInt pos.col, .ref c'])) := by
      rw [upd_ne nPF, upd_ne nPC, upd_same]
    have atC : upd (upd (upd H P (.tbl (ps ++ #[rawInt pos.line, rawInt pos.col, .ref c']))) c' (LamX.CodeO c' (X.env.qual ++ "<lambda>"))) h'.objs.size (LamO h'.objs.size (X.env.qual ++ "<lambda>") params body scope c') c' = some (LamX.CodeO c' (X.env.qual ++ "<lambda>")) := by
      rw [upd_ne nCF, upd_same]
    have eL : (ps ++ #[rawInt pos.line, rawInt pos.col, .ref c']).toList = ps.toList ++ [rawInt pos.line, rawInt pos.col, .ref c'] := by simp
    have notP : ∀ {b : Addr} {q : Str}, H b = some (LamX.CodeO b q) → b ≠ P := fun e z => codeO_tbl ps (by
      rw [z, hP] at e
      exact (Option.some.inj e).symm)
    refine h h'.objs.size c' _ _ I2 kp (fun b e => ?_) (fun p hp => ?_) nF upd_same atC (dead _ nC)
    · by_cases hb : b = P
      · rw [hb, atP]
        intro z
        cases z
      · cases q : H b with
        | none => exact absurd q e
        | some o =>
          rw [kp b o q hb]
          intro z
          cases z
    · by_cases hb : p.1 = P
      · rw [hu p hp hb, hb]
        refine ⟨hPm, hPG, _, atP, by rw [eL]; exact PySem.TriplesOk_snoc _ _ _ _ ht, fun p' cv hcv => ?_⟩
        rw [eL] at hcv
        rcases LamX.among_app _ ht hcv with z | z
        · obtain ⟨c0, e1, e2, e3⟩ := ha p' cv z
          exact ⟨c0, e1, kp _ _ e2 (notP e2), e3⟩
        · exact ⟨c', z, atC, dead _ nC⟩
      · obtain ⟨b1, b2, ps', a1, a2, a3⟩ := hT p hp
        refine ⟨b1, b2, ps', kp _ _ a1 hb, a2, fun p' cv hcv => ?_⟩
        obtain ⟨c0, e1, e2, e3⟩ := a3 p' cv hcv
        exact ⟨c0, e1, kp _ _ e2 (notP e2), e3⟩
  | some cv =>
    obtain ⟨c', e, hco, hcm⟩ := ha pos cv hc
    subst e
    refine PySem.W.kla_makeFunctionHit (mg := X.mg) (c := c) (P := P) (ps := ps) hclos I.ok.glob (I.mod.glob.keeps I.bk) hcode (TB.code.keeps I.bk) hP' ht hc bP fun ctv h' tk hx hsz => ?_
    have I1 : Inv X pins σ H { s with heap := h', toks := tk } := I.kept hx
    have I2 := I1.laid (t' := tk) (a := h'.objs.size) (o := LamO h'.objs.size (X.env.qual ++ "<lambda>") params body scope c') (h' := h'.push (PySem.W.kla_obj "<lambda>" (X.env.qual ++ "<lambda>") params body scope [] ((X.mg "__name__").getD .none) c' ctv)) (fun b o e => Heap.get?_push_of_some _ e) (Nat.le_refl _) (lamO_ok (Heap.get?_push_size _ rfl))
    have nF : H h'.objs.size = none := I.hok.fresh hsz
    refine h h'.objs.size c' _ _ I2 (fun b o e _ => by rw [upd_ne (ne_of_none e nF)]; exact e) (fun b e => upd_thN e) (hT.new nF) nF upd_same (by rw [upd_ne (ne_of_none hco nF)]; exact hco) hcm
end
end Bz
set_option Elab.async false
set_option linter.all false
set_option maxRecDepth 100000
set_option maxHeartbeats 2000000
/-! min(xs, key=lambda ..). -/
namespace Bz
open PySem PySem.Spec PyProof.Rows L2
variable [Wd]
section
variable {X : Cx} {pins : List (Addr × Obj)} {σ : St} {G H : Hp} {m : List Addr} {s : Shared}
theorem fp_frs {b : Addr} (I : Inv X pins σ H s) (f : FpOk X pins H b) : b ∉ frs X.stack := fun z => by
  rcases List.mem_cons.mp (I.stkSub b z) with e | e
  · exact f.2.1 e
  · exact f.2.2.1 e
theorem fp_at {H' : Hp} {b : Addr} (f : FpOk X pins H b) (e : H' b = none) : FpOk X pins H' b := ⟨e, f.2⟩
/-- a call of the lambda -/
def KTurn (X : Cx) (pins : List (Addr × Obj)) (σ : St) (δk : DE) (f : Addr) (LO : HO) (c : Addr) (CO : HO) : Prop := ∀ (s : Shared) (G H : Hp) (m : List Addr) (μ μ1 : Mem) (x : V) (v : Value) (d k : PyData) (E : Value → Shared → Prop) (Q : Value → Shared → Prop), Inv X pins σ H s → MemR X.K G H m μ → H f = some LO → H c = some CO → RelV x v → Dq X.K G x d → δk [some (.d d)] μ = .ok (.d k) μ1 →
  (∀ (u : Value) (y : V) (s' : Shared) (G' H' : Hp) (m' : List Addr), Inv X pins σ H' s' → Stp G H m G' H' m' → MemR X.K G' H' m' μ1 → RelV y u → Dq X.K G' y k → (∀ b o, s.heap.get? b = some o → H b = none → b ∉ frs X.stack → s'.heap.get? b = some o ∧ H' b = none) → Q u s') →
  wpAny (model X.prog X.w) X.A.in1 (call (.ref f) [v]) Q E s
theorem minGo_err {δk : DE} {e : Exn} {μ' : Mem} : ∀ (xs : List PyData) (b bk : PyData) (μ : Mem), minGo δk b bk xs μ ≠ .err e μ' := by
  intro xs
  induction xs with
  | nil => intro b bk μ z; simp [minGo] at z
  | cons x xs ih =>
    intro b bk μ z
    simp only [minGo] at z
    split at z
    · split at z
      · split at z
        · exact ih _ _ _ z
        · exact ih _ _ _ z
      · cases z
    · cases z
theorem minOf_err {δk : DE} {e : Exn} {μ' : Mem} (xs : List PyData) (μ : Mem) : minOf δk xs μ ≠ .err e μ' := by
  intro z
  cases xs with
  | nil => simp [minOf] at z
  | cons x xs =>
    simp only [minOf] at z
    split at z
    · exact minGo_err _ _ _ _ z
    · cases z
theorem ordK_of {k b : PyData} (h : ordK k b = true) : k.canLay0 = true ∧ b.canLay0 = true ∧ PySem.W.alike k b = true ∧ k.depth ≤ 30 ∧ k ≠ .none := by
  unfold ordK at h
  rw [Bool.and_eq_true, Bool.and_eq_true, Bool.and_eq_true, Bool.and_eq_true, decide_eq_true_iff] at h
  exact ⟨h.1.1.1.1, h.1.1.1.2, h.1.1.2, h.1.2, fun z => by rw [z] at h; simp [isNone] at h⟩
/-- where the loop stands -/
structure MinAt (X : Cx) (pins : List (Addr × Obj)) (σ : St) (G H : Hp) (m : List Addr) (l I S f : Addr) (LO : HO) (c : Addr) (CO : HO) (i : Nat) (s : Shared) (G1 H1 : Hp) (m1 : List Addr) (μ1 : Mem) : Prop where
  inv : Inv X pins σ H1 s
  st : Stp G H m G1 H1 m1
  me : MemR X.K G1 H1 m1 μ1
  fI : FpOk X pins H1 I
  fS : FpOk X pins H1 S
  hf : H1 f = some LO
  hc : H1 c = some CO
  it : s.heap.IsListIter I l i
def EndAt (X : Cx) (pins : List (Addr × Obj)) (σ : St) (G H : Hp) (m : List Addr) (r : R PyData) (R : Value → Shared → Prop) : Prop := match r with
  | .ok d μ' => ∀ (s' : Shared) (G' H' : Hp) (m' : List Addr) (v : Value) (y : V), Inv X pins σ H' s' → Stp G H m G' H' m' → MemR X.K G' H' m' μ' → RelV y v → Dq X.K G' y d → R v s'
  | _ => False
theorem min_go {l I S f c : Addr} {LO CO : HO} {us : List V} {ds : List PyData} {δk : DE} (hcm : X.calm = true) (hu : X.A.units + 100 < cLine) (hl : G l = some (.lst us)) (hd : DqAll X.K G us ds) (hIS : S ≠ I) (hlI : l ≠ I)
    (nLO : ∀ ps, LO ≠ .tbl ps) (nCO : ∀ ps, CO ≠ .tbl ps) (hf0 : H f ≠ none) (hfm : f ∉ m) (hc0 : H c ≠ none) (hcm2 : c ∉ m) (turn : KTurn X pins σ δk f LO c CO) {R : Result → Shared → Prop} :
    ∀ (rest : List PyData) (j : Nat) (s : Shared) (G1 H1 : Hp) (m1 : List Addr) (μ1 : Mem) (b bk : PyData) (vb kb : Value) (yb yk : V) (cn : Nat), ds.drop (j + 1) = rest → j + 1 ≤ ds.length → MinAt X pins σ G H m l I S f LO c CO (j + 1) s G1 H1 m1 μ1 →
      s.heap.get? S = some (seqObj "list" #[vb, kb] cn) → RelV yb vb → Dq X.K G1 yb b → RelV yk kb → Dq X.K G1 yk bk → EndAt X pins σ G H m (minGo δk b bk rest μ1) (fun v s' => R (.ok (.ret v)) s') →
      codeAny (model X.prog X.w) X.A (.builtin "min.loop" ⟨[.ref I, .ref f, .ref S], []⟩) R s := by
  have hname : (toString "min" ++ toString ".loop" : String) = "min.loop" := by decide
  have hlen := DqAll.length hd
  intro rest
  induction rest with
  | nil =>
    intro j s G1 H1 m1 μ1 b bk vb kb yb yk cn hdr hj M hS rb db rk dk hQ
    have hjn : j + 1 = ds.length := by
      have := congrArg List.length hdr
      simp at this
      omega
    have hH : H1 l = some (.lst us) := M.me.ex _ _ (M.st.gr.ex _ _ hl)
    obtain ⟨its, rv, pl, hz⟩ := M.inv.list (SqL.of hH)
    have hil := rv.length
    have W := Walks.list (prog := X.prog) (w := X.w) (A := X.A.in1) (M.inv.ok.hd hcm) I l hlI its.toArray
    refine codeAny_builtin PySem.F.entry_min_loop ?_
    rw [Around.under_plainId PySem.F.plain_min_loop _]
    refine (show wpAny _ X.A.in1 (seqItems? (.ref S) >>= _) _ _ _ from wpAny_bind (wpAny_seqItems hS rfl ?_))
    refine (show wpAny _ X.A.in1 (tryCatch (pyNext (.ref I)) _ >>= _) _ _ _ from wpAny_bind (wpAny_tryCatch (W.done _ _ _ ⟨by rw [List.size_toArray, ← hil, hlen, ← hjn]; exact M.it, pl.isList⟩ fun h' tk' hk' => ?_)))
    have I1 : Inv X pins σ H1 { s with heap := h', toks := tk' } := M.inv.turnedL (ch := [I]) (fun a o z e => hk' a o z e) (fun a z => by rw [List.mem_singleton.mp z]; exact M.fI)
    have hS' := hk' S _ (by simpa using hIS) hS
    have sb := Heap.SameBut.update h' S (Obj.mapSeq fun _ => (#[] : Array Value))
    refine (show wpAny _ X.A.in1 (updateSeq S (fun _ => #[]) >>= _) _ _ _ from wpAny_bind (wpAny_updateSeq hS' rfl (wpAny_bind (wpAny_letGo (wpAny_pure ?_)))))
    have I2 := I1.turnedL (t' := tk') (ch := [S]) (h' := h'.update S (Obj.mapSeq fun _ => (#[] : Array Value))) (fun a o z e => (sb.2 a (by simpa using z)).trans e) (fun a z => by rw [List.mem_singleton.mp z]; exact M.fS)
    exact hQ _ G1 H1 m1 vb yb I2 M.st M.me rb db
  | cons d rest ih =>
    intro j s G1 H1 m1 μ1 b bk vb kb yb yk cn hdr hj M hS rb db rk dk hQ
    have hlt : j + 1 < ds.length := by
      have := congrArg List.length hdr
      simp at this
      omega
    have hdj : ds[j + 1]? = some d := by
      have : (ds.drop (j + 1))[0]? = some d := by rw [hdr]; rfl
      simpa using this
    have hdr' : ds.drop (j + 1 + 1) = rest := by
      rw [List.drop_eq_getElem_cons hlt] at hdr
      exact (List.cons.inj hdr).2
    have hH : H1 l = some (.lst us) := M.me.ex _ _ (M.st.gr.ex _ _ hl)
    obtain ⟨its, rv, pl, hz⟩ := M.inv.list (SqL.of hH)
    have hil := rv.length
    obtain ⟨x, hx, dx⟩ := DqAll.get (DqAll.mono M.st.gr.ex _ _ hd) hdj
    obtain ⟨v0, hv0, rx⟩ := rv.get hx
    have W := Walks.list (prog := X.prog) (w := X.w) (A := X.A.in1) (M.inv.ok.hd hcm) I l hlI its.toArray
    unfold minGo at hQ
    cases ek : δk [some (.d d)] μ1 with
    | no => rw [ek] at hQ; exact hQ.elim
    | err a b => rw [ek] at hQ; exact hQ.elim
    | ok sk μ2 =>
      cases sk with
      | m n => rw [ek] at hQ; exact hQ.elim
      | d k =>
        rw [ek] at hQ
        simp only at hQ
        split at hQ
        · rename_i ho
          obtain ⟨o1, o2, o3, o4, o5⟩ := ordK_of ho
          refine codeAny_builtin PySem.F.entry_min_loop ?_
          rw [Around.under_plainId PySem.F.plain_min_loop _]
          refine (show wpAny _ X.A.in1 (seqItems? (.ref S) >>= _) _ _ _ from wpAny_bind (wpAny_seqItems hS rfl ?_))
          refine (show wpAny _ X.A.in1 (tryCatch (pyNext (.ref I)) _ >>= _) _ _ _ from wpAny_bind (wpAny_tryCatch (W.item (j + 1) _ _ _ (by rw [List.size_toArray]; omega) ⟨M.it, pl.isList⟩ fun v h' tk' hP hst' hk' => ?_)))
          have hv : v = v0 := by
            have : its[j + 1]? = some v := by simpa using hP
            rw [hv0] at this
            exact (Option.some.inj this).symm
          subst hv
          have I1 : Inv X pins σ H1 { s with heap := h', toks := tk' } := M.inv.turnedL (ch := [I]) (fun a o z e => hk' a o z e) (fun a z => by rw [List.mem_singleton.mp z]; exact M.fI)
          have hS' := hk' S _ (by simpa using hIS) hS
          refine (show wpAny _ X.A.in1 (tryCatch (holding [v] (call (.ref f) [v])) _ >>= _) _ _ _ from wpAny_bind (wpAny_tryCatch (wpAny_holding (turn _ G1 H1 m1 μ1 μ2 x v d k _ _ I1 M.me M.hf M.hc rx dx ek fun u y s2 G2 H2 m2 I2 st2 me2 ru dk2 kp => ?_))))
          obtain ⟨hS2, nS2⟩ := kp S _ hS' M.fS.1 (fp_frs M.inv M.fS)
          obtain ⟨oI, hoI, hoc, hod⟩ := id hst'.1
          obtain ⟨hI2, nI2⟩ := kp I _ hoI M.fI.1 (fp_frs M.inv M.fI)
          have it2 : s2.heap.IsListIter I l (j + 1 + 1) := ⟨oI, hI2, hoc, hod⟩
          have fS2 := fp_at M.fS nS2
          have fI2 := fp_at M.fI nI2
          have st12 := M.st.trans st2
          have hfm1 : f ∉ m1 := fun z => hf0 (M.st.fr f z hfm)
          have hcm1 : c ∉ m1 := fun z => hc0 (M.st.fr c z hcm2)
          have hf2 := st2.kp f _ M.hf hfm1 nLO
          have hc2 := st2.kp c _ M.hc hcm1 nCO
          have rb2 := Dq.mono st2.gr.ex _ _ db
          have rk2 := Dq.mono st2.gr.ex _ _ dk
          obtain ⟨as, r1⟩ := Dp.reads I2 k y u (Dq.dp _ _ o1 (Dq.mono me2.ex _ _ dk2)) ru
          obtain ⟨bs, r2⟩ := Dp.reads I2 bk yk kb (Dq.dp _ _ o2 (Dq.mono me2.ex _ _ rk2)) rk
          have hroom : X.A.in1.units + min k.depth bk.depth < cLine := by
            simp only [Around.in1_units]
            omega
          refine (show wpAny _ X.A.in1 (tryCatch (holding [v, u] (richCompare .Lt u kb >>= _)) _ >>= _) _ _ _ from wpAny_bind (wpAny_tryCatch (wpAny_holding (wpAny_bind (PySem.W.rcLt_alike k bk _ _ u kb as bs r1 r2 o3 o5 hroom _ _ _ _ ?_)))))
          refine wpAny_bind (wpAny_holding (wpAny_truthy_bool (wpAny_bind (wpAny_letGo (wpAny_pure ?_)))))
          by_cases hb : PySem.W.dataLt k bk = true
          · rw [hb] at hQ ⊢
            simp only [if_true] at hQ ⊢
            have sb := Heap.SameBut.update s2.heap S (Obj.mapSeq fun _ => #[v, u])
            obtain ⟨c2, hc3⟩ : ∃ c2, (s2.heap.update S (Obj.mapSeq fun _ => #[v, u])).get? S = some (seqObj "list" #[v, u] c2) := ⟨_, get?_update_seq hS2 fun _ => #[v, u]⟩
            refine wpAny_bind (wpAny_updateSeq hS2 rfl (wpAny_bind (wpAny_letGo ?_)))
            rw [hname]
            have I3 := I2.turnedL (t' := s2.toks) (ch := [S]) (h' := s2.heap.update S (Obj.mapSeq fun _ => #[v, u])) (fun a o z e => (sb.2 a (by simpa using z)).trans e) (fun a z => by rw [List.mem_singleton.mp z]; exact fS2)
            exact wpAny_pure ⟨plainId_quiet PySem.F.plain_min_loop _, ih (j + 1) _ G2 H2 m2 μ2 d k v u x y c2 hdr' hlt ⟨I3, st12, me2, fI2, fS2, hf2, hc2, ⟨oI, (sb.2 I hIS.symm).trans hI2, hoc, hod⟩⟩ hc3 rx (Dq.mono st2.gr.ex _ _ dx) ru dk2 hQ⟩
          · have hb' : PySem.W.dataLt k bk = false := by simpa using hb
            rw [hb'] at hQ ⊢
            simp only [Bool.false_eq_true, if_false] at hQ ⊢
            refine wpAny_bind (wpAny_letGo ?_)
            rw [hname]
            exact wpAny_pure ⟨plainId_quiet PySem.F.plain_min_loop _, ih (j + 1) _ G2 H2 m2 μ2 b bk vb kb yb yk cn hdr' hlt ⟨I2, st12, me2, fI2, fS2, hf2, hc2, it2⟩ hS2 rb rb2 rk rk2 hQ⟩
        · exact hQ.elim
theorem call_minK {l f c : Addr} {LO CO : HO} {us : List V} {ds : List PyData} {δk : DE} {μ : Mem} {E : Value → Shared → Prop} (hcm : X.calm = true) (hu : X.A.units + 100 < cLine) (I0 : Inv X pins σ H s) (me : MemR X.K G H m μ) (hl : G l = some (.lst us)) (hd : DqAll X.K G us ds)
    (nLO : ∀ ps, LO ≠ .tbl ps) (nCO : ∀ ps, CO ≠ .tbl ps) (hf : H f = some LO) (hfm : f ∉ m) (hc : H c = some CO) (hcm2 : c ∉ m) (turn : KTurn X pins σ δk f LO c CO) {Q : Value → Shared → Prop} (hQ : EndAt X pins σ G H m (minOf δk ds μ) Q) :
    wpAny (model X.prog X.w) X.A (call (.builtin "min") [.ref l] [(Str.ofString "key", .ref f)]) Q E s := by
  have hname : (toString "min" ++ toString ".loop" : String) = "min.loop" := by decide
  have hlen := DqAll.length hd
  cases ds with
  | nil => exact hQ.elim
  | cons d rest =>
    have hH : H l = some (.lst us) := me.ex _ _ hl
    obtain ⟨its, rv, pl, hz⟩ := I0.list (SqL.of hH)
    have hil := rv.length
    obtain ⟨ol, hol, _⟩ := id pl.isList
    have hll : l < s.heap.objs.size := Heap.lt_size hol
    refine kmk_tree PySem.F.kind_min PySem.F.plain_min PySem.F.entry_min (kmk_min_key _ _) ?_
    refine (show wpAny _ X.A.in1 (Builtin.Builtins.bindParams "min" ["key", "default"] 0 ⟨[], [(Str.ofString "key", .ref f)]⟩ >>= _) _ _ s from wpAny_bind (wpAny_of_eq (show Builtin.Builtins.bindParams "min" ["key", "default"] 0 ⟨[], [(Str.ofString "key", .ref f)]⟩ = pure [some (.ref f), none] from rfl) ?_))
    refine wpAny_bind (wpAny_pure (wpAny_bind (wpAny_pyIter_list pl.isList (wpAny_bind (wpAny_newList ?_ (Nat.zero_le _))))))
    rw [hname]
    let oI : Obj := { cls := .type "list_iterator", data := .fields #[.ref l, .int 0 0] }
    have hzS : (s.heap.push oI).objs.size = s.heap.objs.size + 1 := size_push' ..
    have hlI : l ≠ s.heap.objs.size := Nat.ne_of_lt hll
    have hSI : (s.heap.push oI).objs.size ≠ s.heap.objs.size := by rw [hzS]; exact Nat.ne_of_gt (Nat.lt_succ_self _)
    have nI : H s.heap.objs.size = none := I0.hok.fresh (Nat.le_refl _)
    have nS : H (s.heap.push oI).objs.size = none := I0.hok.fresh (by rw [hzS]; exact Nat.le_succ _)
    have fI : FpOk X pins H s.heap.objs.size := I0.fpOk (Nat.le_refl _) nI
    have fS : FpOk X pins H (s.heap.push oI).objs.size := I0.fpOk (by rw [hzS]; exact Nat.le_succ _) nS
    have I1 : Inv X pins σ H { s with heap := (s.heap.push oI).push (seqObj "list" #[] 0) } := I0.kept (t' := s.toks) fun b o e => Heap.get?_push_of_some _ (Heap.get?_push_of_some _ e)
    have gI : ((s.heap.push oI).push (seqObj "list" #[] 0)).get? s.heap.objs.size = some oI := Heap.get?_push_of_some _ (Heap.get?_push_size _ rfl)
    have gS : ((s.heap.push oI).push (seqObj "list" #[] 0)).get? (s.heap.push oI).objs.size = some (seqObj "list" #[] 0) := Heap.get?_push_size _ rfl
    have li : ((s.heap.push oI).push (seqObj "list" #[] 0)).IsList l its.toArray := (pl.isList.push _).push _
    obtain ⟨x, hx, dx⟩ := DqAll.get (i := 0) hd rfl
    obtain ⟨v0, hv0, rx⟩ := rv.get hx
    have W := Walks.list (prog := X.prog) (w := X.w) (A := X.A.in1) (I0.ok.hd hcm) s.heap.objs.size l hlI its.toArray
    refine wpAny_pure ⟨plainId_quiet PySem.F.plain_min_loop _, ?_⟩
    simp only [minOf] at hQ
    cases ek : δk [some (.d d)] μ with
    | no => rw [ek] at hQ; exact hQ.elim
    | err a b => rw [ek] at hQ; exact hQ.elim
    | ok sk μ2 =>
      cases sk with
      | m n => rw [ek] at hQ; exact hQ.elim
      | d k =>
        rw [ek] at hQ
        simp only at hQ
        refine codeAny_builtin PySem.F.entry_min_loop ?_
        rw [Around.under_plainId PySem.F.plain_min_loop _]
        refine (show wpAny _ X.A.in1 (seqItems? (.ref (s.heap.push oI).objs.size) >>= _) _ _ _ from wpAny_bind (wpAny_seqItems gS rfl ?_))
        refine (show wpAny _ X.A.in1 (tryCatch (pyNext (.ref s.heap.objs.size)) _ >>= _) _ _ _ from wpAny_bind (wpAny_tryCatch (W.item 0 _ _ _ (by rw [List.size_toArray, ← hil, hlen]; simp) ⟨⟨_, gI, rfl, rfl⟩, li⟩ fun v h' tk' hP hst' hk' => ?_)))
        have hv : v = v0 := by
          have : its[0]? = some v := by simpa using hP
          rw [hv0] at this
          exact (Option.some.inj this).symm
        subst hv
        have I2 : Inv X pins σ H { s with heap := h', toks := tk' } := by
          have z := I1.turnedL (t' := tk') (ch := [s.heap.objs.size]) (h' := h') (fun a o z e => hk' a o z e) (fun a z => by rw [List.mem_singleton.mp z]; exact fI)
          exact z
        have hS' := hk' _ _ (by simpa using hSI) gS
        refine (show wpAny _ X.A.in1 (tryCatch (holding [v] (call (.ref f) [v])) _ >>= _) _ _ _ from wpAny_bind (wpAny_tryCatch (wpAny_holding (turn _ G H m μ μ2 x v d k _ _ I2 me hf hc rx dx ek fun u y s2 G2 H2 m2 I3 st2 me2 ru dk2 kp => ?_))))
        obtain ⟨hS2, nS2⟩ := kp _ _ hS' nS (fp_frs I0 fS)
        obtain ⟨oI', hoI, hoc, hod⟩ := id hst'.1
        obtain ⟨hI2, nI2⟩ := kp _ _ hoI nI (fp_frs I0 fI)
        have fS2 := fp_at fS nS2
        have fI2 := fp_at fI nI2
        have hf2 := st2.kp f _ hf hfm nLO
        have hc2 := st2.kp c _ hc hcm2 nCO
        have sb := Heap.SameBut.update s2.heap (s.heap.push oI).objs.size (Obj.mapSeq fun _ => #[v, u])
        obtain ⟨c2, hc3⟩ : ∃ c2, (s2.heap.update (s.heap.push oI).objs.size (Obj.mapSeq fun _ => #[v, u])).get? (s.heap.push oI).objs.size = some (seqObj "list" #[v, u] c2) := ⟨_, get?_update_seq hS2 fun _ => #[v, u]⟩
        refine (show wpAny _ X.A.in1 (updateSeq (s.heap.push oI).objs.size (fun _ => #[v, u]) >>= _) _ _ _ from wpAny_bind (wpAny_updateSeq hS2 rfl ?_))
        rw [hname]
        have I4 := I3.turnedL (t' := s2.toks) (ch := [(s.heap.push oI).objs.size]) (h' := s2.heap.update (s.heap.push oI).objs.size (Obj.mapSeq fun _ => #[v, u])) (fun a o z e => (sb.2 a (by simpa using z)).trans e) (fun a z => by rw [List.mem_singleton.mp z]; exact fS2)
        refine wpAny_pure ⟨plainId_quiet PySem.F.plain_min_loop _, min_go hcm hu hl hd hSI hlI nLO nCO (by rw [hf]; intro z; cases z) hfm (by rw [hc]; intro z; cases z) hcm2 turn rest 0 _ G2 H2 m2 μ2 d k v u x y c2 rfl (by simp) ⟨I4, st2, me2, fI2, fS2, hf2, hc2, ⟨oI', (sb.2 _ hSI.symm).trans hI2, hoc, hod⟩⟩ hc3 rx (Dq.mono st2.gr.ex _ _ dx) ru dk2 hQ⟩
end
/-! ### the rule -/
/-- what the text says of a lambda in a def: its code object's maker, its table -/
structure LamK (X : Cx) (qual : Str) (c P : Addr) : Prop where
  tb : LamX.TabB X.base X.mg c P
  code : X.env.code = .ref c
  qn : X.env.qual ++ "<lambda>" = qual
  mem : (P, qual) ∈ Wd.T
  uni : ∀ p ∈ Wd.T, p.1 = P → p.2 = qual
theorem LamO_tbl {f : Addr} {qual : Str} {params : Arguments} {body : Expr} {scope : Scope} {c : Addr} (ps : Array Value) : LamO f qual params body scope c ≠ .tbl ps := fun z => by
  unfold LamO at z
  cases z
section
variable {X : Cx} {w : Wish} {a : Expr} {δ δk : DE}
def rMinK (K : PySem.W.Frag) (δk : DE) (qual : Str) (params : Arguments) (body : Expr) (scope : Scope) : List V → List V → Hp → VK → Prop := fun vs zs H Q => ∃ (l f c : Addr) (us : List V) (ds : List PyData) (G : Hp) (m : List Addr) (μ : Mem), vs = [.ref l] ∧ zs = [.ref f] ∧ MemR K G H m μ ∧ G l = some (.lst us) ∧ DqAll K G us ds ∧
  H f = some (LamO f qual params body scope c) ∧ f ∉ m ∧ H c = some (LamX.CodeO c qual) ∧ c ∉ m ∧ match minOf δk ds μ with
    | .ok d μ' => ∀ G' H' m' v, Stp G H m G' H' m' → MemR K G' H' m' μ' → Dq K G' v d → Q v H'
    | _ => False
/-- f makes the key -/
def BodyOk (P : Program) (w : World) (K : PySem.W.Frag) (mg : Str → Option Value) (base : Heap) (qual : Str) (params : Arguments) (body : Expr) (scope : Scope) (N ps : List Str) (δk : DE) (k : Nat) : Prop := ∀ (c f : Addr) (A : Around) (outer : List PySem.Env) (s : Shared) (H : Hp) (E : XK), Room k (A.deeper (NdefX.envF (lamF qual params scope c) f s.heap.objs.size)) →
  ∀ W cx, CE (NdefX.ncx (L2.CX P w) P w K mg base N (lamF qual params scope c) f A outer s H E) ⟨false, W, cx⟩ body δk
theorem turn_ok {qual : Str} {params : Arguments} {body : Expr} {scope : Scope} {c f : Addr} {y : Str} {k : Nat} {pins : List (Addr × Obj)} {σ : St} (hr : Room (k + 2) X.A) (S : NdefX.NScope [y] [y] [] scope) (hb : ∀ (c : Addr) (pm ctv : Value) (us : List Value), us.length = 1 → bindArgs (PySem.W.kla_fn "<lambda>" qual params body scope [] pm (.ref c) ctv) ⟨us, []⟩ = pure ([y].zip us))
    (hbody : BodyOk X.prog X.w X.K X.mg X.base qual params body scope [y] [y] δk k) : KTurn X pins σ δk f (LamO f qual params body scope c) c (LamX.CodeO c qual) := by
  intro s G H m μ μ1 x v d kd E Q I me hf hc rx dx ek hq
  refine wpAny_call (codeAny_mono (lam_run (CX := L2.CX X.prog X.w) (K := X.K) (mg := X.mg) (base := X.base) (A := X.A.in1) (outer := X.stack) (vs := [x]) (Q := fun y H' => ∃ G' m', Stp G H m G' H' m' ∧ MemR X.K G' H' m' μ1 ∧ Dq X.K G' y kd) (E := fun _ _ _ => False) S (fun pm ctv us h => hb c pm ctv us h) hr.in1 (I.env0.in1) hf hc (.cons rx .nil) rfl fun hr' => ?_) fun r s' hres => ?_)
  · obtain ⟨te, p, sm⟩ := (hbody c f X.A.in1 X.stack s H (fun _ _ _ => False) hr' (fun _ _ _ _ => False) (fun _ => none)).ex
    refine ⟨te, p, sm [some (.d d)] μ _ G H m ⟨rfl, fun i t e => ?_⟩ me _ ?_⟩
    · cases i with
      | zero =>
        simp at e
        subst e
        exact ⟨x, rfl, dx⟩
      | succ i => simp at e
    · unfold EPost
      rw [ek]
      exact fun G' H' m' st me' y ry => ⟨G', m', st, me', ry⟩
  · cases r with
    | error e =>
      obtain ⟨_, _, _, _, _, _, _, _, _, _, _, _, z⟩ := hres
      exact z.elim
    | ok fl =>
      cases fl with
      | ret u =>
        obtain ⟨yv, H', os, bare, un, hok, ru, G', m', st, me', dk⟩ := id hres
        obtain ⟨hp, g, dd, t, os'⟩ := s'
        obtain rfl : os' = s.os := os
        have J : Inv X pins σ H' ⟨hp, g, dd, t, s.os⟩ := I.call (h' := hp) (g' := g) (d' := dd) (t' := t) (ch := []) un hok bare (fun b z => absurd z (by simp))
        exact hq u yv _ G' H' m' J st me' ru dk fun b o e n hb => ⟨un.keep b o e n hb (by simp), un.free b o e n (by simp)⟩
      | next => exact False.elim hres
      | brk => exact False.elim hres
      | cont => exact False.elim hres
theorem cr_minK {qual : Str} {params : Arguments} {body : Expr} {scope : Scope} {y : Str} {k : Nat} (hcm : X.calm = true) (hr : Room (k + 2) X.A) (S : NdefX.NScope [y] [y] [] scope) (hb : ∀ (c : Addr) (pm ctv : Value) (us : List Value), us.length = 1 → bindArgs (PySem.W.kla_fn "<lambda>" qual params body scope [] pm (.ref c) ctv) ⟨us, []⟩ = pure ([y].zip us))
    (hbody : BodyOk X.prog X.w X.K X.mg X.base qual params body scope [y] [y] δk k) : CallRK X (.builtin "min") [Str.ofString "key"] (rMinK X.K δk qual params body scope) := by
  intro pins s σ H xs zs us ws Q I rx rz h
  obtain ⟨l, f, c, vs, ds, G, m, μ, rfl, rfl, me, hl, hd, hf, hfm, hc, hcm2, q⟩ := h
  rw [Vals.ref1 rx, Vals.ref1 rz]
  refine call_minK hcm (r100 hr) I me hl hd LamO_tbl codeO_tbl hf hfm hc hcm2 (turn_ok hr S hb hbody) ?_
  unfold EndAt
  cases e : minOf δk ds μ with
  | no => rw [e] at q; exact q
  | err a b => rw [e] at q; exact q
  | ok d μ' =>
    rw [e] at q
    exact fun s' G' H' m' v yv J st me' rv dv => ⟨yv, H', J, rv, q G' H' m' yv st me' dv⟩
/-- the lambda as an argument -/
def tLamK (T : List (Addr × Str)) (P : Addr) (qual : Str) (params : Arguments) (body : Expr) (scope : Scope) : TE := fun _ H Q => ∃ G m, TabsM T m G H ∧ (∀ b, H b = none → b ∉ m) ∧ ∀ (f c : Addr) (H1 : Hp), (∀ b o, H b = some o → b ≠ P → H1 b = some o) → (∀ b, H b ≠ none → H1 b ≠ none) → TabsM T m G H1 → H f = none → H1 f = some (LamO f qual params body scope c) → H1 c = some (LamX.CodeO c qual) → c ∉ m → Q (.ref f) H1
theorem pe_lamK {qual : Str} {params : Arguments} {body : Expr} {scope : Scope} {c P : Addr} {pos : Pos} (L : LamK X qual c P) (hdef : defaultsOf params X.env = ([], [])) (hcl : cloFrom X.env.cells scope.names [] = []) (hfree : ∀ y ∈ scope.names, y.2 = .free → ∃ c, X.env.cells.lookup y.1 = some c) :
    PE X (.Lambda params body scope pos) (tLamK Wd.T P qual params body scope) := by
  refine ⟨fun pins s σ H Q I h => ?_⟩
  obtain ⟨G, m, hT, dead, q⟩ := h
  exact lam_known I L.tb L.code L.qn L.mem L.uni hT dead hdef hcl hfree fun f c' H1 s' I1 k th hT1 hf e1 e2 hc => ⟨.ref f, H1, I1, rfl, q f c' H1 k th hT1 hf e1 e2 hc⟩
/-- a lambda is made: the memory stands -/
theorem MemR.lam {K : PySem.W.Frag} {G H H1 : Hp} {m : List Addr} {μ : Mem} {P : Addr} {qual : Str} (me : MemR K G H m μ) (hP : (P, qual) ∈ Wd.T) (k : ∀ b o, H b = some o → b ≠ P → H1 b = some o) (th : ∀ b, H b ≠ none → H1 b ≠ none) (hT : TabsM Wd.T m G H1) : MemR K G H1 m μ ∧ Stp G H m G H1 m := by
  obtain ⟨hPm, hPG, ps, hPH, _⟩ := me.tb _ hP
  refine ⟨⟨fun b u e => k b u (me.ex b u e) (fun z => by rw [z, hPG] at e; cases e), me.len, me.nd, fun i a o h1 h2 => ?_, hT⟩, ⟨Gr.refl, fun b o e n t => k b o e (fun z => t ps (by rw [z, hPH] at e; exact (Option.some.inj e).symm)), fun b e _ => th b e, fun a h n => absurd h n, fun _ e _ _ => e⟩⟩
  have ha : a ≠ P := fun z => hPm (z ▸ List.mem_of_getElem? h1)
  exact MO.mono (Same.refl _) (fun z => MO.gn (me.at_ i a o h1 h2) z) (fun u z => k a u z ha) (me.at_ i a o h1 h2)
/-- min(a, key=lambda y: body) -/
theorem ce_minK {p pos lpos kpos : Pos} {qual : Str} {params : Arguments} {body : Expr} {scope : Scope} {y : Str} {k : Nat} {c P : Addr} (hcm : X.calm = true) (hr : Room (k + 2) X.A) (L : LamK X qual c P) (S : NdefX.NScope [y] [y] [] scope)
    (hb : ∀ (c : Addr) (pm ctv : Value) (us : List Value), us.length = 1 → bindArgs (PySem.W.kla_fn "<lambda>" qual params body scope [] pm (.ref c) ctv) ⟨us, []⟩ = pure ([y].zip us)) (hbody : BodyOk X.prog X.w X.K X.mg X.base qual params body scope [y] [y] δk k)
    (hdef : defaultsOf params X.env = ([], [])) (hcl : cloFrom X.env.cells scope.names [] = []) (hfree : ∀ y ∈ scope.names, y.2 = .free → ∃ c, X.env.cells.lookup y.1 = some c) (hm : X.mg "min" = none) (ha : CE X w a δ) (hg : Gl X "min" := by rfl)
    (he : backTo pos (starEach [a] X.env) = (false, eval a X.env) :: backTo pos (starEach [] X.env) := by rfl) (hpl : (backTo pos (starEach [a] X.env)).any (·.1) = false := by rfl)
    (hall : (backToKw pos (keywordEach [⟨some "key", .Lambda params body scope lpos, kpos⟩] X.env)).all (·.1.isSome) = true := by rfl) (hnone : (backToKw pos (keywordEach [⟨some "key", .Lambda params body scope lpos, kpos⟩] X.env)).any (·.1.isNone) = false := by rfl)
    (hks : (backToKw pos (keywordEach [⟨some "key", .Lambda params body scope lpos, kpos⟩] X.env)).filterMap (·.1) = [Str.ofString "key"] := by rfl) (hes : starEach [a] X.env = (false, eval a X.env) :: starEach [] X.env := by rfl) :
    CE X w (.Call (.Name "min" p) [a] [⟨some "key", .Lambda params body scope lpos, kpos⟩] pos) (eMinK δ δk) := by
  obtain ⟨ta, q1, s1⟩ := ha
  refine ⟨_, pe_callBK (cr_minK hcm hr S hb hbody) hg hm (by decide +kernel) (pa_cons q1 pa_nil hes) (pk_cons (pe_lamK L hdef hcl hfree) pk_nil) (by decide) (by decide) he hpl hall hnone hks, fun ρ μ σ G H m en me Q q => ?_⟩
  refine s1 ρ μ σ G H m en me _ (Post.of_bind q fun x μ1 G1 H1 m1 _ st1 me1 q1 v rv => ?_)
  have fin : ∀ (G2 : Hp) (μ2 : Mem) (l : Addr) (us : List V) (ds : List PyData), v = .ref l → MemR X.K G2 H1 m1 μ2 → G2 l = some (.lst us) → DqAll X.K G2 us ds → EPost X.K w σ G2 H1 m1 ((minOf δk ds μ2).toS) Q → tLamK Wd.T P qual params body scope σ H1 (fun x H => tNil σ H fun vs H => rMinK X.K δk qual params body scope [v] (x :: vs) H Q) := by
    intro G2 μ2 l us ds hv me2 hl hd q2
    subst hv
    refine ⟨G2, m1, me2.tb, fun b e => (me2.dead e).2, fun f c' H2 kk th hT nf e1 e2 hc => ?_⟩
    obtain ⟨me3, st3⟩ := me2.lam L.mem kk th hT
    refine ⟨l, f, c', us, ds, G2, m1, μ2, rfl, rfl, me3, hl, hd, e1, (me2.dead nf).2, e2, hc, ?_⟩
    cases e : minOf δk ds μ2 with
    | no => rw [e] at q2; exact q2
    | err a b =>
      exact absurd e (minOf_err _ _)
    | ok d μ' =>
      rw [e] at q2
      exact fun G' H' m' v st me' dv => q2 G' H' m' (st3.trans st) me' v dv
  cases x with
  | d dx =>
    cases dx with
    | list xs =>
      cases rv with
      | lst h1 h2 => exact fin G1 μ1 _ _ xs rfl me1 h1 h2 q1
    | none => exact q1.elim
    | bool _ => exact q1.elim
    | int _ => exact q1.elim
    | str _ => exact q1.elim
    | tuple _ => exact q1.elim
    | dict _ => exact q1.elim
  | m h =>
    simp only at q1
    split at q1
    · rename_i xs e1
      obtain ⟨ad, vs, rfl, hx, hv, dv⟩ := lst_at me1 rv e1
      obtain ⟨me2, st2⟩ := me1.freezeH hx e1 hv dv
      exact fin _ _ ad vs xs rfl me2 upd_same (DqAll.mono st2.gr.ex _ _ dv) (Post.mono st2 q1)
    · rename_i xs e1
      obtain ⟨ad, hx, rfl⟩ := rv
      obtain ⟨vs, hv, dv⟩ := me1.at_ h ad _ hx e1
      exact fin G1 μ1 ad vs xs rfl me1 hv dv q1
    · exact q1.elim
end
end Bz
set_option Elab.async false
set_option linter.all false
set_option maxRecDepth 100000
set_option maxHeartbeats 2000000
/-! Defs that make lambdas; the end of a law that has one. -/
namespace Bz
open PySem PySem.Spec PyProof.Rows L2
variable [Wd]
omit [Wd] in
theorem nofree {cells : List (Str × Addr)} {names : List (Str × NameKind)} (h : (names.all fun y => !decide (y.2 = .free)) = true) : ∀ y ∈ names, y.2 = .free → ∃ c, cells.lookup y.1 = some c := fun y hy hz => by
  have q := List.all_eq_true.mp h y hy
  rw [hz] at q
  simp at q
/-- a def of the text, its code object at c -/
structure AtC (K : PySem.W.Frag) (mg : Str → Option Value) (x : Str) (st : Stmt) (ps : List Str) (c : Addr) : Prop where
  ex : ∃ (f : Addr) (fd : FuncData) (oc : Value) (od : Option Addr) (kV doc pm : Value) (an : Option Addr) (ct : Value) (osl : Array (Option Value)),
    fd = PySem.W.fnOf x x (defArgs st) (defBody st) (defScope st) .none kV doc pm an (.ref c) ct ∧ K.lookup f = some ⟨oc, od, .func fd, osl⟩ ∧ PySem.W.codeIn K (.ref c) x = true ∧ PySem.W.keepIn K (.ref f) = true ∧ mg x = some (.ref f) ∧ SB fd ps
theorem atC_mk {K : PySem.W.Frag} {h : Heap} {mg : Str → Option Value} (X : K.In h) (G : h.Ns mainGlobals mg) {x : Str} {st : Stmt} {ps : List Str} {f c0 : Addr} {od an : Option Addr} {sl : Array (Option Value)} {oc kV doc pm ct : Value}
    (a : PySem.W.nsIn K mainGlobals x = some (some (.ref f))) (l : K.lookup f = some ⟨oc, od, .func (PySem.W.fnOf x x (defArgs st) (defBody st) (defScope st) .none kV doc pm an (.ref c0) ct), sl⟩) (c : PySem.W.codeIn K (.ref c0) x = true) (k : PySem.W.keepIn K (.ref f) = true)
    (hb : ∀ (kV doc pm : Value) (an : Option Addr) (cdv ct : Value) (us : List Value), us.length = ps.length → bindArgs (PySem.W.fnOf x x (defArgs st) (defBody st) (defScope st) .none kV doc pm an cdv ct) ⟨us, []⟩ = pure (ps.zip us)) : AtC K mg x st ps c0 :=
  ⟨f, _, oc, od, kV, doc, pm, an, ct, sl, rfl, l, c, k, PySem.W.mg_of X G a, hb kV doc pm an (.ref c0) ct⟩
theorem AtC.walk {P : Program} {w : World} {K : PySem.W.Frag} {mg : Str → Option Value} {base : Heap} {x : Str} {st : Stmt} {N ps : List Str} {k : Nat} {cx : Nat → Option Addr} {β : DS} {c : Addr} (a : AtC K mg x st ps c) (Sc : FnScope N ps (defScope st))
    (hb : ∀ (f : Addr) (A : Around) (outer : List PySem.Env) (s : Shared) (H : Hp) (E : XK), Room k (A.deeper (envOfC x (defScope st) s.heap.objs.size f (.ref c))) →
      CSs (cxOf (L2.CX P w) P w K mg base N x (defScope st) f (.ref c) A outer s H E) ⟨true, fun cls d _ H => E cls d H, cx⟩ (defBody st) β) : Def P w K mg base cx x (k + 1) ps.length (callD ps.length N.length β) := by
  obtain ⟨f, fd, oc, od, kV, doc, pm, an, ct, osl, rfl, lk, hc, kp, hm, hbd⟩ := a.ex
  refine ⟨fun _ _ h => callD_no h, f, _, ps, hm, kp, hbd, rfl, ?_⟩
  refine fn_of lk hc Sc (fun vs H Q E h => ?_) (fun A outer s H vs Q E hr h => body_ok (hb f A outer s H E hr) h)
  obtain ⟨G, m, μ, ss, h1, h2, _⟩ := h
  rw [← h2.length]
  exact h1
theorem At.lawC {P : Program} {w : World} {K : PySem.W.Frag} {mg : Str → Option Value} {x : Str} {st : Stmt} {N ps : List Str} {k : Nat} {cx : Nat → Option Addr} {β : DS} {C : Heap → Prop} (a : At K mg x st ps) (Sc : FnScope N ps (defScope st))
    (hb : ∀ (base : Heap), C base → ∀ (f : Addr) (cdv : Value) (A : Around) (outer : List PySem.Env) (s : Shared) (H : Hp) (E : XK), Room k (A.deeper (envOfC x (defScope st) s.heap.objs.size f cdv)) →
      CSs (cxOf (L2.CX P w) P w K mg base N x (defScope st) f cdv A outer s H E) ⟨true, fun cls d _ H => E cls d H, cx⟩ (defBody st) β) :
    ∃ f fd, mg x = some (.ref f) ∧ SB fd ps ∧ ∀ base : Heap, C base → FnOk P w K mg base (L2.CX P w) (k + 1) f fd ps (spF K cx ps.length (callD ps.length N.length β)) := by
  obtain ⟨f, fd, F, hm, hbd⟩ := a.ex
  exact ⟨f, fd, hm, hbd, fun base hC => def_ok F Sc (hb base hC f)⟩
omit [Wd] in
/-- the end of a law with one lambda: its table at PT, empty at first, its maker's code object at c -/
theorem fin_walkC {l : PySem.W.OpenLaw} {k : Nat} {q : Program} {loose : List Str} {XP : (Str → Option Value) → Heap → Prop} {YP : World → Heap → Prop} {d : DefRec} {K : Params → PySem.W.Frag} {x qual : Str} {F : Fn} {c PT : Addr}
    (hn : l.most = some 63) (hdf : d.params.defaults = []) (hr : Room k callerA) (hY : ∀ (w : World) (h : Heap), YP w h → (K w.params).In h) (hT : ∀ (w : World) (h : Heap), YP w h → h.get? PT = some { cls := .none, data := .fields #[] }) (nT : ∀ w : World, (K w.params).lookup PT = none) (hC : ∀ w : World, PySem.W.codeHdIn (K w.params) c PT = true)
    (hF : ∀ ns : List Int, ns.length ≤ 63 → F [.d (scrD ns)] [] = .ok (.d (.bool true)) [])
    (D : ∀ (w : World) (mg : Str → Option Value) (h : Heap) (wd : Wd), wd = ⟨w, [(PT, qual)]⟩ → (K w.params).In h → h.Ns mainGlobals mg →
      ∃ (cx : Nat → Option Addr) (f : Addr) (fd : FuncData), mg d.name = some (.ref f) ∧ SB fd [x] ∧ ∀ base : Heap, LamX.TabB base mg c PT → FnOk l.prog wd.w (K w.params) mg base (L2.CX l.prog wd.w) k f fd [x] (@spF wd (K w.params) cx 1 F)) :
    PySem.W.WalkO q loose XP YP l.row.toRowW d [] (fun f vs => PySem.call f vs) := by
  refine LamX.walk_ofTs (n := 63) (k := k) (x := x) (CX := fun w => L2.CX l.prog w) hn (by decide) hdf hr hY (fun w mg fa h Y KX G hmg => ?_) (fun w H s e s' h => ?_)
  · obtain ⟨cx, f, fd, h1, h2, h3⟩ := D w mg h ⟨w, [(PT, qual)]⟩ rfl KX G
    have e := hmg.symm.trans h1
    cases e
    refine ⟨fd, [(c, PT)], @spTrue ⟨w, [(PT, qual)]⟩ (K w.params), fun p hp => ?_, fun p hp => ?_, fun p hp => ?_, fun s u => .of_eq (h2 [u] rfl), fun H a ns hl _ hS hq => ?_, fun base _ _ ht => (h3 base (ht (c, PT) (by simp))).imp (@true_of ⟨w, [(PT, qual)]⟩ _ _ _ hF)⟩
    · rw [List.mem_singleton.mp hp]
      exact hT w h Y
    · rw [List.mem_singleton.mp hp]
      exact nT w
    · rw [List.mem_singleton.mp hp]
      exact PySem.W.codeHd_of_K KX (hC w)
    · refine ⟨a, ns, rfl, hl, hq, fun p hp => ?_, fun _ => rfl⟩
      have e1 : p = (PT, qual) := List.mem_singleton.mp hp
      subst e1
      exact ⟨#[], hS (c, PT) (by simp), by simp [TriplesOk], fun pos cv z => by simp [codeAmong] at z⟩
  · obtain ⟨_, _, _, _, _, _, _, _, _, _, _, _, z⟩ := h
    exact z.elim
end Bz
set_option Elab.async false
set_option linter.all false
set_option maxRecDepth 100000
set_option maxHeartbeats 2000000
/-! Texts split and joined. -/
namespace Bz
open PySem PySem.Spec PyProof.Rows L2
variable [Wd]
section
variable {X : Cx} {w : Wish} {e o : Expr} {δ δo : DE} {apos cpos : Pos}
theorem dq_strs {K : PySem.W.Frag} {G : Hp} : ∀ ys : List Str, DqAll K G (ys.map V.str) (ys.map PyData.str)
  | [] => .nil
  | y :: ys => .cons (.str y) (dq_strs ys)
/-- what a method of a text does -/
def MtD (K : PySem.W.Frag) (r : V → List V → Hp → VK → Prop) (f : Str → PyData → Option PyData) : Prop := ∀ G H m μ a s v y z, MemR K G H m μ → rd μ s = some y → RpS K G m s v → f a y = some z →
  ∀ Q : VK, (∀ v' G' H', Stp G H m G' H' m → MemR K G' H' m μ → Dq K G' v' z → Q v' H') → r (.str a) [v] H Q
theorem sim_strM {K : PySem.W.Frag} {r : V → List V → Hp → VK → Prop} {f : Str → PyData → Option PyData} {to te : TE} (hr : MtD K r f) (s1 : SimE K w to δo) (s2 : SimE K w te δ) : SimE K w (tM1 r to te) (eStrM f δo δ) := by
  intro ρ μ σ G H m en me Q q
  refine s1 ρ μ σ G H m en me _ (Post.of_bind q fun s μ1 G1 H1 m1 _ st1 me1 q1 v rv => ?_)
  cases s with
  | m h => exact q1.elim
  | d x =>
    cases x with
    | str a =>
      cases rv
      refine ⟨⟨a, rfl⟩, ?_⟩
      refine s2 ρ μ1 σ G1 H1 m1 (en.mono st1.gr) me1 _ (Post.of_bind q1 fun t μ2 G2 H2 m2 _ st2 me2 q2 u ru => ?_)
      cases e1 : rd μ2 t with
      | none =>
        simp only [e1] at q2
        exact q2.elim
      | some y =>
        simp only [e1] at q2
        cases e2 : f a y with
        | none =>
          simp only [e2] at q2
          exact q2.elim
        | some z =>
          simp only [e2] at q2
          exact hr G2 H2 m2 μ2 a t u y z me2 e1 ru e2 Q fun v' G' H' st me' dq => q2 G' H' m2 st me' v' dq
    | none => exact q1.elim
    | bool _ => exact q1.elim
    | int _ => exact q1.elim
    | list _ => exact q1.elim
    | tuple _ => exact q1.elim
    | dict _ => exact q1.elim
theorem ce_join (ho : CE X w o δo) (he : CE X w e δ) (hs : starEach [e] X.env = [(false, eval e X.env)] := by rfl) (hbase : attributeBase o "join" X.env (eval o X.env) = eval o X.env := by rfl) (hline : (apos.endLine == cpos.line) = true := by rfl) :
    CE X w (.Call (.Attribute o "join" apos) [e] [] cpos) (eStrM fJoin δo δ) := by
  obtain ⟨to, p1, s1⟩ := ho
  obtain ⟨te, p2, s2⟩ := he
  refine ⟨_, pe_join p1 p2 hs hbase hline, sim_strM (fun G H m μ a s v y z me r1 rv hf Q q => ?_) s1 s2⟩
  unfold fJoin at hf
  split at hf
  · rename_i xs
    cases e1 : strsOf xs with
    | none =>
      simp only [e1] at hf
      cases hf
    | some ys =>
      simp only [e1] at hf
      split at hf
      · rename_i hz
        cases hf
        obtain ⟨p, vs, rfl, h1, h2⟩ := rd_tup me r1 rv
        cases strsOf_all e1 h2
        exact ⟨a, p, ys, rfl, rfl, .inr h1, of_decide_eq_true hz, hereD me (.str _) q⟩
      · cases hf
  · cases hf
theorem ce_split (ho : CE X w o δo) (he : CE X w e δ) (hs : starEach [e] X.env = [(false, eval e X.env)] := by rfl) (hbase : attributeBase o "split" X.env (eval o X.env) = eval o X.env := by rfl) (hline : (apos.endLine == cpos.line) = true := by rfl) :
    CE X w (.Call (.Attribute o "split" apos) [e] [] cpos) (eStrM fSplit δo δ) := by
  obtain ⟨to, p1, s1⟩ := ho
  obtain ⟨te, p2, s2⟩ := he
  refine ⟨_, pe_split p1 p2 hs hbase hline, sim_strM (fun G H m μ a s v y z me r1 rv hf Q q => ?_) s1 s2⟩
  unfold fSplit at hf
  split at hf
  · rename_i b
    split at hf
    · rename_i hz
      cases hf
      rw [Bool.and_eq_true] at hz
      refine ⟨a, b, rfl, congrArg (fun z => [z]) (rd_str me r1 rv), of_decide_eq_true hz.1, ?_, newD me (fun p g0 => dq_lst g0 (dq_strs _)) q⟩
      have := small_le hz.2
      rw [sizeLine_eq]
      omega
    · cases hf
  · cases hf
end
end Bz
set_option Elab.async false
set_option linter.all false
set_option maxRecDepth 100000
set_option maxHeartbeats 2000000
/-! Exceptions of the program: raised, caught. -/
namespace Bz
open PySem PySem.Spec PyProof.Rows L2
variable [Wd]
/-- a class of exceptions, made with a text -/
structure ExC (K : PySem.W.Frag) (mg : Str → Option Value) (cx : Nat → Option Addr) (n : Nat) (x : Str) : Prop where
  ex : ∃ C, mg x = some (.ref C) ∧ cx n = some C ∧ PySem.W.excIn K C [.type "ValueError", .type "Exception", .type "BaseException", .type "object"] "ValueError.__new__" = true ∧ PySem.W.keepIn K (.ref C) = true ∧ PySem.W.subIn K (.ref C) (.type "BaseException") = some true ∧ PySem.W.typeIn K (.ref C) = some (.type "type")
section
variable {X : Cx} {w : Wish} {e : Expr} {δ : DE} {p p2 pos pos' : Pos} {x m0 : Str} {j : Nat}
/-- raise C('..') -/
theorem cs_raise {k : Nat} (hc : X.calm = true) (tk : Takes X w.W) (on : w.on = true) (F : ExC X.K X.mg w.cx k x) (hg : Gl X x := by rfl) (hdb : (x == ("__debug__" : Str)) = false := by decide) :
    CS X w (.Raise (some (.Call (.Name x p) [.Constant (.str m0) j p2] [] pos)) none pos') (sRaise k) := by
  obtain ⟨C, g, c, q, kp, b, t⟩ := F.ex
  refine ⟨_, ps_raise hc tk (pmk_own PySem.F.excBase_ValueError q g kp (raises_own b t) hg hdb), fun ρ μ σ G H m en me D qq => ?_⟩
  exact qq.2 (.ref C) none σ G H m Stp.refl me ⟨C, c, rfl, rfl⟩
/-! ### a class whose __init__ keeps a place -/
/-- what the __init__ keeps -/
def spIni (K : PySem.W.Frag) : Sp := fun vs H Q E => ∃ (a C : Addr) (v : V), vs = [.ref a, v] ∧ OexC K C ∧ PySem.W.findIn K (.ref C) "place" = some none ∧ H a = some (exo a C none) ∧
  ∀ dx, H dx = none → dx ≠ a → Q .non (upd (upd H dx (exd dx [("place", v)])) a (exo a C (some dx)))
/-- ShieldError.__init__(self, ..), the class an own one that has ValueError's -/
theorem pe_base_init {pl : Sem Bool} {B : Addr} {es : List Expr} {ta : TA} {p1 p3 : Pos} {y : Str} (hg : Gl X y) (hm : X.mg y = some (.ref B)) (sg : PySem.W.specialIn X.K (.ref B) "__getattribute__" = some (some (.builtin "type.__getattribute__")))
    (rd : PySem.W.readsIn X.K B (.type "type") = true) (vV : PySem.W.findCls X.K (.ref B) (.type "type") "__init__" = some (.val (.builtin "ValueError.__init__"))) (ha : PA X (e :: es) ta)
    (hc : eval (.Call (.Attribute (.Name y p1) "__init__" p3) (e :: es) [] pos) X.env = (do
      let ov ← eval (.Name y p1) X.env
      standAt p3.atName
      let fx ← holding [ov] (getMethod ov "__init__" pl)
      callWith pos fx.1 fx.2 (backTo pos (starEach (e :: es) X.env)) (backToKw pos (keywordEach [] X.env))) := by rfl)
    (hdb : (y == ("__debug__" : Str)) = false := by decide)
    (he : starEach (e :: es) X.env = (false, eval e X.env) :: starEach es X.env := by rfl) (hpl : (backTo pos (starEach es X.env)).any (·.1) = false := by rfl) :
    PE X (.Call (.Attribute (.Name y p1) "__init__" p3) (e :: es) [] pos) (tVeI X.K ta) := by
  refine ⟨fun pins s σ H Q I h => ?_⟩
  refine PySem.W.methodCall_KW (ld_glob I hg hm ?_ hdb) hc
  refine PySem.W.method_cls I.kIn sg (PySem.W.cls_value I.kIn rd vV (by decide +kernel) ?_)
  show wpAny _ _ (callWith pos (Value.builtin "ValueError.__init__") [] (backTo pos (starEach (e :: es) X.env)) []) _ _ _
  refine PyProof.Rows.callWith_method1 (thn (ha.run pos pins _ σ H _ (I.tok _) h) fun us s1 q => ?_) he hpl
  obtain ⟨vs, H1, I1, r1, a, C, ws, ev, hl, T, ea, q⟩ := q
  subst ev
  cases r1 with
  | @cons _ u0 _ ur ra rw' =>
    have e0 : u0 = Value.ref a := ra
    subst e0
    have hlen : ur.length ≤ sizeLine := by
      rw [← Paired.length rw', sizeLine_eq]
      omega
    exact oinit_ok T I1 ea hlen fun s' J => ⟨.non, H1, J, rfl, q⟩
end
/-- the class, its __init__ at fI -/
structure ExP (K : PySem.W.Frag) (mg : Str → Option Value) (cx : Nat → Option Addr) (n : Nat) (x : Str) (k : Nat) : Prop where
  ex : ∃ (C fI : Addr) (fd : FuncData), mg x = some (.ref C) ∧ cx n = some C ∧ OexC K C ∧ PySem.W.findIn K (.ref C) "place" = some none ∧ PySem.W.findIn K (.ref C) "__init__" = some (some (.ref fI)) ∧ PySem.W.typeIn K (.ref fI) = some (.type "function") ∧
    SB fd ["self", "place"] ∧ ∀ (P : Program) (w : World) (base : Heap), FnOk P w K mg base (L2.CX P w) k fI fd ["self", "place"] (spIni K)
/-- the __init__ of such a class: two statements -/
theorem ini_ok {K : PySem.W.Frag} {mg : Str → Option Value} {st : Stmt} {f B : Addr} {fd : FuncData} {k : Nat} {q : Str} {p1 p2 p3 p4 p5 p6 p7 p8 p9 p10 : Pos} (F : L2.Fun K "__init__" q st f fd) (Sc : FnScope ["self", "place"] ["self", "place"] (defScope st))
    (hb : defBody st = [.Expr (.Call (.Attribute (.Name "ShieldError" p1) "__init__" p2) [.Name "self" p3, .Name "place" p4] [] p5) p6, .Assign [.Attribute (.Name "self" p7) "place" p8] (.Name "place" p9) p10])
    (hc : ∀ (n : Nat) (g : Addr) (cd : Value), ∃ pl : Sem Bool, eval (.Call (.Attribute (.Name "ShieldError" p1) "__init__" p2) [.Name "self" p3, .Name "place" p4] [] p5) (envOfC q (defScope st) n g cd) = (do
      let ov ← eval (.Name "ShieldError" p1) (envOfC q (defScope st) n g cd)
      standAt p2.atName
      let fx ← holding [ov] (getMethod ov "__init__" pl)
      callWith p5 fx.1 fx.2 (backTo p5 (starEach [.Name "self" p3, .Name "place" p4] (envOfC q (defScope st) n g cd))) (backToKw p5 (keywordEach [] (envOfC q (defScope st) n g cd)))))
    (hsw1 : ∀ (n : Nat) (g : Addr) (cd : Value), swapsWith (.Call (.Attribute (.Name "ShieldError" p1) "__init__" p2) [.Name "self" p3, .Name "place" p4] [] p5) none p6.line (envOfC q (defScope st) n g cd) = pure false)
    (hsw2 : ∀ (n : Nat) (g : Addr) (cd : Value), swapsWith (.Name "place" p9) (some (.Attribute (.Name "self" p7) "place" p8)) p10.line (envOfC q (defScope st) n g cd) = pure false)
    (hvis : Vis (defScope st) "self" ∧ Vis (defScope st) "place") (hgl : (defScope st).names.lookup ("ShieldError" : Str) = some .globalImplicit)
    (hm : mg "ShieldError" = some (.ref B)) (sg : PySem.W.specialIn K (.ref B) "__getattribute__" = some (some (.builtin "type.__getattribute__"))) (rd : PySem.W.readsIn K B (.type "type") = true) (vV : PySem.W.findCls K (.ref B) (.type "type") "__init__" = some (.val (.builtin "ValueError.__init__"))) : ∀ (P : Program) (w : World) (base : Heap), FnOk P w K mg base (L2.CX P w) (k + 1) f fd ["self", "place"] (spIni K) := by
  intro P w base
  refine F.okX Sc (fun vs H Q E h => ?_) (fun cdv A outer s H vs Q E hr h => ?_)
  · obtain ⟨a, C, v, rfl, _⟩ := h
    rfl
  · rw [hb]
    have v0 : PE (cxOf (L2.CX P w) P w K mg base ["self", "place"] q (defScope st) f cdv A outer s H E) (.Name "self" p3) _ := pe_var (i := 0) rfl hvis.1
    have v1 : PE (cxOf (L2.CX P w) P w K mg base ["self", "place"] q (defScope st) f cdv A outer s H E) (.Name "place" p4) _ := pe_var (i := 1) rfl hvis.2
    have v2 : PE (cxOf (L2.CX P w) P w K mg base ["self", "place"] q (defScope st) f cdv A outer s H E) (.Name "self" p7) _ := pe_var (i := 0) rfl hvis.1
    have v3 : PE (cxOf (L2.CX P w) P w K mg base ["self", "place"] q (defScope st) f cdv A outer s H E) (.Name "place" p9) _ := pe_var (i := 1) rfl hvis.2
    obtain ⟨pl, hpl⟩ := hc s.heap.objs.size f cdv
    refine ⟨_, pss_cons (ps_expr (pe_base_init (pl := pl) hgl hm sg rd vV (pa_cons v0 (pa_cons v1 pa_nil)) hpl) (hsw1 _ _ _)) (pss_one (ps_ost v2 v3 (hsw2 _ _ _))), ?_⟩
    obtain ⟨a, C, v, rfl, T, fp, ha, hq⟩ := h
    refine ⟨_, rfl, ⟨_, rfl, a, C, [v], rfl, by simp, T, ha, ?_⟩⟩
    refine ⟨_, rfl, ⟨_, rfl, a, C, rfl, T, fp, .inl ⟨ha, fun dx h1 h2 => hq dx h1 h2⟩⟩⟩
section
variable {X : Cx} {w : Wish} {e c : Expr} {δ : DE} {τ : DT} {p p2 pos pos' np : Pos} {x : Str} {sa sb body suite : List Stmt} {b0 : Stmt} {β β' : DS}
/-- raise C(e), C's own __init__ keeping the place -/
theorem cs_raiseP {n k j : Nat} (hc : X.calm = true) (hr : Room k X.A) (tk : Takes X w.W) (F : ExP X.K X.mg w.cx n x j) (he : CE X w e δ) (hj : j + 1 ≤ k := by first | decide | omega) (hg : Gl X x := by rfl)
    (hdb : (x == ("__debug__" : Str)) = false := by decide) (hs : starEach [e] X.env = (false, eval e X.env) :: starEach [] X.env := by rfl) (hpl : (backTo pos (starEach [] X.env)).any (·.1) = false := by rfl) :
    CS X w (.Raise (some (.Call (.Name x p) [e] [] pos)) none pos') (sRaiseP n δ) := by
  obtain ⟨C, fI, fd, g, cn, T, fp, iC, tI, hb, F1⟩ := F.ex
  obtain ⟨te, p1, s1⟩ := he
  refine ⟨_, ps_raise hc tk (pmk_oex (dvs := []) T iC tI (F1 _ _ _) (hr.mono hj) (.all hb) .nil passL hg g (pa_cons p1 pa_nil hs) hdb hs hpl), fun ρ μ σ G H m en me D q => ?_⟩
  refine s1 ρ μ σ G H m en me _ (SPost.of_out q fun s μ1 G1 H1 m1 _ st1 me1 q1 v rv => ?_)
  cases s with
  | m h => exact q1.elim
  | d y =>
    cases y with
    | int i =>
      cases rv
      refine ⟨by simp, fun a ha => ⟨a, C, .int i, rfl, T, fp, upd_same, fun dx h1 h2 => ?_⟩⟩
      have h1' : H1 dx = none := by
        rw [upd_ne h2] at h1
        exact h1
      refine ⟨rfl, dx, [("place", .int i)], upd_same, by rw [upd_ne h2, upd_same], h1', ?_⟩
      have eh : upd (del (upd (upd (upd H1 a (exo a C none)) dx (exd dx [("place", .int i)])) a (exo a C (some dx))) a) dx (.xd [("place", .int i)]) = upd H1 dx (.xd [("place", .int i)]) := by
        funext b
        by_cases hbd : b = dx
        · rw [hbd, upd_same, upd_same]
        · rw [upd_ne hbd, upd_ne hbd]
          by_cases hba : b = a
          · rw [hba, del_same, ha]
          · rw [del_ne hba, upd_ne hba, upd_ne hbd, upd_ne hba]
      rw [eh]
      obtain ⟨me2, st2⟩ := me1.push (o := .xd [("place", .int i)]) h1'
      exact q1.2 (.ref C) (some dx) σ _ _ m1 st2 me2 ⟨C, cn, rfl, dx, rfl, upd_same⟩
    | none => exact q1.elim
    | bool _ => exact q1.elim
    | str _ => exact q1.elim
    | list _ => exact q1.elim
    | tuple _ => exact q1.elim
    | dict _ => exact q1.elim
/-! ### try -/
/-- as SPost; where an exception leaves, the names stand as they stood -/
def SPostB (K : PySem.W.Frag) (w : Wish) (σ : St) (G H : Hp) (m : List Addr) (o : Out) (D : Ends) : Prop := match o with
  | .err e μ => ErrP K w G H m e μ σ
  | o => SPost K w G H m o D
def SimB (K : PySem.W.Frag) (w : Wish) (ts : TS) (β : DS) : Prop := ∀ ρ μ σ G H m, EnvR K G m ρ σ → MemR K G H m μ → ∀ D, SPostB K w σ G H m (β ρ μ) D → ts D σ H
structure CBs (X : Cx) (w : Wish) (st : List Stmt) (β : DS) : Prop where
  ex : ∃ ts, PSs X st ts ∧ SimB X.K w ts β
theorem SPostB.mono {K : PySem.W.Frag} {w : Wish} {σ : St} {G H G' H' : Hp} {m m' : List Addr} {o : Out} {D : Ends} (g : Stp G H m G' H' m') (h : SPostB K w σ G H m o D) : SPostB K w σ G' H' m' o D := by
  cases o with
  | err e μ => exact ErrP.mono g h
  | nx ρ μ => exact SPost.mono (o := .nx ρ μ) (w := w) g h
  | rt s μ => exact SPost.mono (o := .rt s μ) (w := w) g h
  | bk ρ μ => exact SPost.mono (o := .bk ρ μ) (w := w) g h
  | ct ρ μ => exact SPost.mono (o := .ct ρ μ) (w := w) g h
  | no => exact h
theorem SPostB.of_out {α : Type} {K : PySem.W.Frag} {w : Wish} {σ : St} {G H : Hp} {m : List Addr} {D : Ends} {r : R α} {f : α → Mem → Out} {k : α → Hp → Hp → List Addr → Prop} (q : SPostB K w σ G H m (r.out f) D)
    (hk : ∀ a μ1 G1 H1 m1, r = .ok a μ1 → Stp G H m G1 H1 m1 → MemR K G1 H1 m1 μ1 → SPostB K w σ G1 H1 m1 (f a μ1) D → k a G1 H1 m1) : Post K w σ G H m r k := by
  cases r with
  | ok a μ1 => exact fun G1 H1 m1 st me => hk a μ1 G1 H1 m1 rfl st me (SPostB.mono st q)
  | err e μ1 => exact q
  | no => exact q
theorem cbs_ret (h : CE X w e δ) : CBs X w [.Return (some e) pos] (sRet δ) := by
  obtain ⟨te, p1, s1⟩ := h
  refine ⟨_, pss_one (ps_ret p1), fun ρ μ σ G H m en me D q => ?_⟩
  refine s1 ρ μ σ G H m en me _ (SPostB.of_out q fun s μ1 G1 H1 m1 _ st1 me1 q1 v rv => ?_)
  exact q1 v G1 H1 m1 Stp.refl me1 rv
theorem cbs_expr (h : CE X w e δ) (hs : swapsWith e none pos.line X.env = pure false := by rfl) : CBs X w [.Expr e pos] (sDrop δ) := by
  obtain ⟨te, p1, s1⟩ := h
  refine ⟨_, pss_one (ps_expr p1 hs), fun ρ μ σ G H m en me D q => ?_⟩
  refine s1 ρ μ σ G H m en me _ (SPostB.of_out q fun s μ1 G1 H1 m1 _ st1 me1 q1 v rv => ?_)
  exact q1 σ G1 H1 m1 Stp.refl me1 (en.mono st1.gr)
theorem cbs_if (hc : CT X w c τ) (ha : CBs X w sa β) (hb : CBs X w sb β') : CBs X w [.If c sa sb pos] (sIf τ β β') := by
  obtain ⟨tc, p0, s0⟩ := hc
  obtain ⟨ta, p1, s1⟩ := ha
  obtain ⟨tb, p2, s2⟩ := hb
  refine ⟨_, pss_one (ps_if p0 p1 p2), fun ρ μ σ G H m en me D q => ?_⟩
  refine s0 ρ μ σ G H m en me _ (SPostB.of_out q fun x μ1 G1 H1 m1 _ st1 me1 q1 => ?_)
  cases x with
  | true => exact s1 ρ μ1 σ G1 H1 m1 (en.mono st1.gr) me1 D q1
  | false => exact s2 ρ μ1 σ G1 H1 m1 (en.mono st1.gr) me1 D q1
/-- the widest readings -/
def wSB (K : PySem.W.Frag) (w : Wish) (β : DS) : TS := fun D σ H => ∃ ρ μ G m, EnvR K G m ρ σ ∧ MemR K G H m μ ∧ SPostB K w σ G H m (β ρ μ) D
theorem CBs.wide (h : CBs X w sa β) : PSs X sa (wSB X.K w β) := by
  obtain ⟨ts, p, s⟩ := h
  exact ⟨fun pins st σ H D I q => by
    obtain ⟨ρ, μ, G, m, en, me, q⟩ := q
    exact p.run pins st σ H D I (s ρ μ σ G H m en me D q)⟩
def wSH (K : PySem.W.Frag) (w : Wish) (h : Exn → DS) : TS := fun D σ H => ∃ e ρ μ G m, EnvR K G m ρ σ ∧ MemR K G H m μ ∧ SPost K w G H m (h e ρ μ) D
/-- try: .. except C: .., no name -/
theorem cs_try_only {C : Addr} {sub : Nat → Bool} {h : Exn → DS} (hs : X.stack = X.env :: X.outer) (hf : X.env.frame = some X.env.locals) (hc : Names X x (.ref C)) (tk : Takes X w.W)
    (hsub : ∀ n Cn, w.cx n = some Cn → PySem.W.exmOne X.K (.ref Cn) (.ref C) = some (sub n))
    (hb : ∀ (W : WX) (pn : List (Addr × Obj)) (xe : Value → Shared → Prop), Takes (X.tr pn xe) W → PassesOwn (model X.prog X.w) X.A X.env xe → CBs (X.tr pn xe) ⟨true, W, w.cx⟩ body β)
    (hsu : ∀ (e : Exn) (a : Addr) (oe : Obj) (pn : List (Addr × Obj)), CSs (X.suite a ((a, oe) :: pn)) w (b0 :: suite) (h e)) :
    CS X w (.Try body [.ExceptHandler (some (.Name x np)) none (b0 :: suite) pos'] [] [] pos) (sTry sub β h) := by
  refine ⟨_, ps_try_only (tb := fun W => wSB X.K ⟨true, W, w.cx⟩ β) (ts := fun _ _ _ => wSH X.K w h) (Wout := w.W) hs hf hc tk (fun W pn xe t1 t2 => (hb W pn xe t1 t2).wide) (fun a oe cls d pn _ _ => ⟨fun pins st σ H D I q => ?_⟩), fun ρ μ σ G H m en me D q => ?_⟩
  · obtain ⟨e, ρ, μ, G, m, en, me, q⟩ := q
    obtain ⟨ts, p, s⟩ := hsu e a oe pn
    exact p.run pins st σ H D I (s ρ μ σ G H m en me D q)
  · refine ⟨ρ, μ, G, m, en, me, ?_⟩
    unfold sTry at q
    cases e1 : β ρ μ with
    | nx ρ1 μ1 => rw [e1] at q; exact q
    | rt s1 μ1 => rw [e1] at q; exact q
    | bk ρ1 μ1 => rw [e1] at q; exact q
    | ct ρ1 μ1 => rw [e1] at q; exact q
    | no => rw [e1] at q; exact q
    | err ex μ1 =>
      rw [e1] at q
      refine ⟨rfl, fun cls d G' H' m' st me' er => ?_⟩
      obtain ⟨Cn, c1, rfl, pl⟩ := id er
      refine ⟨sub ex.cls, hsub _ _ c1, fun hb1 a _ => ?_, fun hb1 => ?_⟩
      · simp only [hb1, if_true] at q
        exact ⟨ex, ρ, μ1, G', m', en.mono st.gr, me', SPost.mono st q⟩
      · simp only [hb1, Bool.false_eq_true, if_false] at q
        exact q.2 (.ref Cn) d σ G' H' m' st me' er
/-- the class of an except clause; which of the classes it takes -/
structure ExN (K : PySem.W.Frag) (mg : Str → Option Value) (cx : Nat → Option Addr) (x : Str) (sub : Nat → Bool) : Prop where
  ex : ∃ C, mg x = some (.ref C) ∧ ∀ n Cn, cx n = some Cn → PySem.W.exmOne K (.ref Cn) (.ref C) = some (sub n)
theorem cs_try_onlyN {sub : Nat → Bool} {h : Exn → DS} (F : ExN X.K X.mg w.cx x sub) (hs : X.stack = X.env :: X.outer) (hf : X.env.frame = some X.env.locals) (hg : Gl X x) (hdb : (x == ("__debug__" : Str)) = false) (tk : Takes X w.W)
    (hb : ∀ (W : WX) (pn : List (Addr × Obj)) (xe : Value → Shared → Prop), Takes (X.tr pn xe) W → PassesOwn (model X.prog X.w) X.A X.env xe → CBs (X.tr pn xe) ⟨true, W, w.cx⟩ body β)
    (hsu : ∀ (e : Exn) (a : Addr) (oe : Obj) (pn : List (Addr × Obj)), CSs (X.suite a ((a, oe) :: pn)) w (b0 :: suite) (h e)) :
    CS X w (.Try body [.ExceptHandler (some (.Name x np)) none (b0 :: suite) pos'] [] [] pos) (sTry sub β h) := by
  obtain ⟨C, g, hsub⟩ := F.ex
  exact cs_try_only hs hf ⟨hg, hdb, .inl g⟩ tk hsub hb hsu
end
/-! ### where the facts come from -/
def cxL (L : List (Option Addr)) (n : Nat) : Option Addr := (L[n]?).join
inductive ExmL (K : PySem.W.Frag) (C : Addr) : List (Option Addr) → List Bool → Prop
  | nil : ExmL K C [] []
  | some {y : Str} {A : Addr} {b : Bool} {L : List (Option Addr)} {bs : List Bool} : PySem.W.nsIn K mainGlobals y = some (some (.ref A)) → PySem.W.exmOne K (.ref A) (.ref C) = some b → ExmL K C L bs → ExmL K C (some A :: L) (b :: bs)
  | none {b : Bool} {L : List (Option Addr)} {bs : List Bool} : ExmL K C L bs → ExmL K C (none :: L) (b :: bs)
omit [Wd] in
theorem ExmL.at_ {K : PySem.W.Frag} {C : Addr} : ∀ {L : List (Option Addr)} {bs : List Bool}, ExmL K C L bs → ∀ n Cn, cxL L n = Option.some Cn → PySem.W.exmOne K (.ref Cn) (.ref C) = Option.some (subL bs n)
  | _, _, .nil, n, Cn, h => by simp [cxL] at h
  | _, _, .some _ e t, 0, Cn, h => by
    simp [cxL] at h
    subst h
    simpa [subL] using e
  | _, _, .some _ e t, n + 1, Cn, h => by
    have := ExmL.at_ t n Cn (by simpa [cxL] using h)
    simpa [subL] using this
  | _, _, .none t, 0, Cn, h => by simp [cxL] at h
  | _, _, .none t, n + 1, Cn, h => by
    have := ExmL.at_ t n Cn (by simpa [cxL] using h)
    simpa [subL] using this
omit [Wd] in
theorem exN_mk {K : PySem.W.Frag} {h : Heap} {mg : Str → Option Value} (X : K.In h) (G : h.Ns mainGlobals mg) {x : Str} {C : Addr} {L : List (Option Addr)} {bs : List Bool} (a : PySem.W.nsIn K mainGlobals x = some (some (.ref C))) (E : ExmL K C L bs) : ExN K mg (cxL L) x (subL bs) :=
  ⟨C, PySem.W.mg_of X G a, E.at_⟩
omit [Wd] in
theorem exC_mk {K : PySem.W.Frag} {h : Heap} {mg : Str → Option Value} (X : K.In h) (G : h.Ns mainGlobals mg) {x : Str} {C : Addr} {cx : Nat → Option Addr} {n : Nat} (a : PySem.W.nsIn K mainGlobals x = some (some (.ref C)))
    (q : PySem.W.excIn K C [.type "ValueError", .type "Exception", .type "BaseException", .type "object"] "ValueError.__new__" = true) (k : PySem.W.keepIn K (.ref C) = true) (s : PySem.W.subIn K (.ref C) (.type "BaseException") = some true) (t : PySem.W.typeIn K (.ref C) = some (.type "type")) (hc : cx n = some C) : ExC K mg cx n x :=
  ⟨C, PySem.W.mg_of X G a, hc, q, k, s, t⟩
omit [Wd] in
theorem oex_mk {K : PySem.W.Frag} {C : Addr} {nm q N bs bm sn sub ab col dd k0 k1 k2 k3 k5} (l : K.lookup C = some (excClassObj nm q C N bs bm true sn sub ab col dd k0 k1 k2 k3 k5 "ValueError.__new__")) (r : PySem.HandSPX.refsVE bm = true)
    (sa : PySem.W.findIn K (.ref C) "__setattr__" = some (some (.builtin "object.__setattr__"))) (s : PySem.W.subIn K (.ref C) (.type "BaseException") = some true) (t : PySem.W.typeIn K (.ref C) = some (.type "type")) (k : PySem.W.keepIn K (.ref C) = true) : OexC K C :=
  ⟨⟨nm, q, N, bs, bm, sn, sub, ab, col, dd, k0, k1, k2, k3, k5, l, r⟩, sa, s, t, k⟩
omit [Wd] in
theorem exP_mk {K : PySem.W.Frag} {h : Heap} {mg : Str → Option Value} (X : K.In h) (G : h.Ns mainGlobals mg) {x : Str} {C fI : Addr} {fd : FuncData} {cx : Nat → Option Addr} {n k : Nat} (a : PySem.W.nsIn K mainGlobals x = some (some (.ref C))) (T : OexC K C)
    (np : PySem.W.findIn K (.ref C) "place" = some none) (ni : PySem.W.findIn K (.ref C) "__init__" = some (some (.ref fI))) (ti : PySem.W.typeIn K (.ref fI) = some (.type "function")) (hb : SB fd ["self", "place"])
    (F : ∀ (P : Program) (w : World) (base : Heap), FnOk P w K mg base (L2.CX P w) k fI fd ["self", "place"] (spIni K)) (hc : cx n = some C) : ExP K mg cx n x k :=
  ⟨C, fI, fd, PySem.W.mg_of X G a, hc, T, np, ni, ti, hb, F⟩
end Bz
set_option Elab.async false
set_option linter.all false
set_option maxRecDepth 100000
set_option maxHeartbeats 2000000
/-! sorted of a dict whose keys are tuples. -/
namespace Bz
open PySem PySem.Spec PyProof.Rows L2
section
variable {P : Program} {w0 w : World} {a : Addr} {od : Obj} {xs : XS} {es : Array DictEntry} {ep : Nat}
theorem src_N (hx : od.ExactDict) (hod : od.data = .dict es ep) (he : es.toList = xs.map fun x => (⟨x.1.hash w, .ref x.2.1, x.2.2⟩ : DictEntry)) (hs : (a == sysModules) = false) :
    PySem.W.KdlSrc P w0 "dict" a a xs.length (fun i v => ∃ n q u, xs[i]? = some (n, q, u) ∧ v = .ref q) (fun h => h.get? a = some od) := by
  have hsz : es.size = xs.length := by rw [← Array.length_toList, he, List.length_map]
  refine ⟨fun s hm => ⟨od, hm, hx.1⟩, fun h hm => ⟨Heap.lt_size hm, Heap.lt_size hm⟩, fun h h' hm hk => hk a (.inl rfl) od hm, by decide, by decide, fun A E s Q hm hq => PySem.W.kdl_hint_dict ⟨od, hm, hx.1⟩ hq, fun A s hh hm => ?_⟩
  have hne : a ≠ s.heap.objs.size := Nat.ne_of_lt (Heap.lt_size hm)
  refine ⟨_, fun i h => h.IsKeyIter s.heap.objs.size a i xs.length ep ∧ h.get? a = some od, fun E Q hq => iter_keys hs hm hx hod hq, ?_, ⟨⟨_, Heap.get?_push_size _ rfl, rfl, ?_⟩, Heap.get?_push_of_some _ hm⟩⟩
  · refine ⟨fun b hb => by simp at hb; simp [hb], fun i h h' st hk => ⟨st.1.at fun o e => hk _ (by simp) o e, hk _ (by simp) _ st.2⟩, fun i s1 Q E hi st hQ => ?_, fun s1 Q E st hQ => ?_, fun i s1 Q E st hQ => wpAny_pyIter_keyiter st.1 hQ⟩
    · have hen : es[i]? = some (⟨(xs[i]).1.hash w, .ref (xs[i]).2.1, (xs[i]).2.2⟩ : DictEntry) := by
        rw [← Array.getElem?_toList, he, List.getElem?_map, List.getElem?_eq_getElem hi]
        rfl
      refine next_key_item st.1 st.2 hod hsz hen fun h' st' sb => ?_
      refine hQ _ h' s1.toks ⟨_, _, _, List.getElem?_eq_getElem hi, rfl⟩ ⟨st', (sb.2 a hne).trans st.2⟩ fun b o hb e => ?_
      exact (sb.2 b (fun z => hb (by simp [z]))).trans e
    · refine next_key_end hh st.1 st.2 hod hsz (Nat.le_refl _) fun h' eb => hQ h' s1.toks fun b o hb e => eb b o (fun z => hb (by simp [z])) e
  · rw [hsz]
    rfl
end
variable [Wd]
def rSortDic (K : PySem.W.Frag) (w : World) : List V → Hp → VK → Prop := fun vs H Q => ∃ (a : Addr) (kvs : List (PyData × PyData)) (xs : XS) (G : Hp), vs = [.ref a] ∧ (a == sysModules) = false ∧ H a = some (DicO w a xs) ∧ Same G H ∧ DR K G kvs xs ∧ kvs.length ≤ sizeLine ∧ alikeAt (kvs.map (·.1)) = true ∧ (kvs.map (·.1)).all isTupC = true ∧
  ∀ (p : Addr) (zs : List V), DqAll K G zs ((kvs.map (·.1)).mergeSort dLe) → H p = none → Q (.ref p) (upd H p (.lst zs))
theorem DR.keysAll {K : PySem.W.Frag} {G : Hp} : ∀ {kvs : List (PyData × PyData)} {xs : XS}, DR K G kvs xs → DqAll K G (xs.map fun x => V.ref x.2.1) (kvs.map (·.1))
  | _, _, .nil => .nil
  | _, _, .cons _ _ h3 _ _ t => .cons h3 (DR.keysAll t)
theorem keys_vals : ∀ {xs : XS} {us : List Value}, us.length = xs.length → (∀ (j : Nat) (v : Value), us[j]? = some v → ∃ n q u, xs[j]? = some (n, q, u) ∧ v = .ref q) → Vals (xs.map fun x => V.ref x.2.1) us
  | [], [], _, _ => .nil
  | x :: xs, u :: us, hl, h => by
    obtain ⟨n, q, y, e1, e2⟩ := h 0 u rfl
    simp at e1
    subst e1
    rw [List.map_cons]
    refine .cons e2 (keys_vals (by simpa using hl) fun j v e => ?_)
    obtain ⟨n, q, y, e1, e2⟩ := h (j + 1) v (by simpa using e)
    exact ⟨n, q, y, by simpa using e1, e2⟩
  | [], _ :: _, hl, _ => by simp at hl
  | _ :: _, [], hl, _ => by simp at hl
section
variable {X : Cx}
theorem call_sortDic {w : World} (hc : X.calm = true) (hu : X.A.units + 100 < cLine) : CallR X (.builtin "sorted") (rSortDic X.K w) := by
  intro pins s σ H vs us Q I r h
  obtain ⟨a, kvs, xs, G, rfl, hs, hd, ex, dr, hz, al, tc, q⟩ := h
  rw [Vals.ref1 r]
  have x0 := I.hok a _ hd
  obtain ⟨⟨od, es, ep, e2, hx, hdt, he⟩, _, _⟩ := x0
  have hl := DR.leN dr
  obtain ⟨a1, a2, a3⟩ := alikeAt_of al
  refine Calls.call_function_entry kind_sorted plain_sorted entry_sorted (args_sorted1 _) ?_
  unfold Builtin.«sorted»
  refine wpAny_bind (m := checkCount "sorted" 1 1 _) (wpAny_pure ?_)
  refine wpAny_bind (PySem.W.kdu_collect (A := X.A.in1) (src_N (w := w) hx hdt he hs) (I.ok.hd hc) e2 (by rw [← hl]; exact hz) fun h' tk acc hk hacc => ?_)
  have I1 : Inv X pins σ H { s with heap := h', toks := tk } := I.kept hk
  have hal : acc.toList.length = xs.length := by rw [Array.length_toList, hacc.1]
  have rv : Vals (xs.map fun x => V.ref x.2.1) acc.toList := keys_vals hal fun j v e => hacc.2 j v (by rw [← Array.getElem?_toList]; exact e)
  have d := dr.keysAll
  have ez := each_zip rv d
  have eds := zip_snd d
  have lz : ((xs.map fun x => V.ref x.2.1).zip (kvs.map (·.1))).length = kvs.length := by rw [List.length_zip, List.length_map, List.length_map, hl, Nat.min_self]
  have er := each_reads I1 rv (DqAll.mono ex _ _ d) a1
  have sb : PySem.W.Sortable (((xs.map fun x => V.ref x.2.1).zip (kvs.map (·.1))).map fun b : V × PyData => b.2) := by
    rw [eds]
    refine .inl fun e he => ?_
    have := List.all_eq_true.mp tc e he
    unfold isTupC at this
    split at this
    · exact ⟨_, _, rfl⟩
    · cases this
  have aa : PySem.W.AllAlike (((xs.map fun x => V.ref x.2.1).zip (kvs.map (·.1))).map fun b : V × PyData => b.2) := by
    rw [eds]
    exact a3
  refine wpAny_bind (wpAny_newList ?_ (by rw [hal, ← hl]; exact hz))
  have hoL : (h'.push (seqObj "list" acc.toList.toArray 0)).get? h'.objs.size = some (seqObj "list" acc.toList.toArray 0) := Heap.get?_push_size _ rfl
  show wpAny _ _ _ _ _ { s with heap := h'.push (seqObj "list" acc.toList.toArray 0), toks := tk }
  have old : ∀ b o, h'.get? b = some o → (PySem.W.sortingHeap (h'.push (seqObj "list" acc.toList.toArray 0)) h'.objs.size acc.toList).get? b = some o := fun b o e =>
    PySem.W.sortingHeap_old (Nat.ne_of_lt (Heap.lt_size e)) (Heap.get?_push_of_some _ e)
  have er' := er.mono (R' := fun v b => ∃ as, Reads (PySem.W.sortingHeap (h'.push (seqObj "list" acc.toList.toArray 0)) h'.objs.size acc.toList) v b.2 as) fun v b ⟨as, q⟩ => ⟨as, PyProof.Rows.Reads.keeps old q⟩
  have hdep : ∀ b, b ∈ (xs.map fun x => V.ref x.2.1).zip (kvs.map (·.1)) → X.A.in1.in1.units + b.2.depth < cLine := fun b hb => by
    have := a2 b.2 (eds ▸ List.mem_map_of_mem (f := fun b : V × PyData => b.2) hb)
    simp only [Around.in1_units]
    omega
  have srt := PySem.W.SortsAt.data (prog := X.prog) (w := X.w) (A := X.A.in1.in1) (s := { s with heap := PySem.W.sortingHeap (h'.push (seqObj "list" acc.toList.toArray 0)) h'.objs.size acc.toList, toks := tk }) (PySem.W.each_map (R := fun v d => ∃ as, Reads (PySem.W.sortingHeap (h'.push (seqObj "list" acc.toList.toArray 0)) h'.objs.size acc.toList) v d as) (fun b : V × PyData => b.2) er') aa sb (PySem.W.bound_map hdep)
  refine wpAny_bind (wpAny_holding (wpAny_call_entry slot_list_sort ⟨_, hoL, rfl⟩ entry_list_sort
    (PySem.W.list_sort_vals (s := { s with heap := h'.push (seqObj "list" acc.toList.toArray 0), toks := tk }) hoL srt (by rw [hal, ← hl]; exact hz) ⟨.none, rfl, ?_⟩) (args_list_sort _)))
  have eo := PySem.W.sortVals_data false ez er' aa
  obtain ⟨v1, v2⟩ := each_vals eo
  have em : (((xs.map fun x => V.ref x.2.1).zip (kvs.map (·.1))).mergeSort (PySem.W.dataLe false fun b : V × PyData => b.2)).map (·.2) = (kvs.map (·.1)).mergeSort dLe :=
    (List.map_mergeSort (r := PySem.W.dataLe false fun b : V × PyData => b.2) (s := dLe) (f := fun b : V × PyData => b.2) (fun x _ y _ => rfl)).trans (by rw [eds])
  rw [em] at v2
  obtain ⟨e', he'⟩ := sortedHeap_at (vs := acc.toList) (out := (PySem.W.sortVals (PySem.W.dataKind (PySem.W.sortingHeap (h'.push (seqObj "list" acc.toList.toArray 0)) h'.objs.size acc.toList) (((xs.map fun x => V.ref x.2.1).zip (kvs.map (·.1))).map fun b : V × PyData => b.2)) false acc.toList acc.toList).toArray) hoL
  refine wpAny_pure ⟨_, rfl, .ref h'.objs.size, upd H h'.objs.size (.lst ((((xs.map fun x => V.ref x.2.1).zip (kvs.map (·.1))).mergeSort (PySem.W.dataLe false fun b : V × PyData => b.2)).map (·.1))), I1.laid (t' := tk) (fun b u e => ?_) (Nat.le_refl _) ⟨?_, _, e', v1, he'⟩, rfl, q _ _ v2 (I1.hok.fresh (Nat.le_refl _))⟩
  · have hb := Heap.lt_size e
    rw [sortedHeap_old (Nat.ne_of_lt hb) (by rw [size_push']; exact Nat.lt_succ_of_lt hb)]
    exact Heap.get?_push_of_some _ e
  · rw [List.length_map, (List.mergeSort_perm _ _).length_eq, lz]
    exact hz
theorem ce_sortD {w : Wish} {e : Expr} {δ : DE} {p pos : Pos} (hc : X.calm = true) (hu : X.A.units + 100 < cLine) (hm : X.mg "sorted" = none) (ha : CE X w e δ) (hg : Gl X "sorted" := by rfl)
    (he : starEach [e] X.env = (false, eval e X.env) :: starEach [] X.env := by rfl) (hpl : (backTo pos (starEach [] X.env)).any (·.1) = false := by rfl) : CE X w (.Call (.Name "sorted" p) [e] [] pos) (eSortD δ) := by
  obtain ⟨te, p1, s1⟩ := ha
  refine ⟨_, pe_callB (call_sortDic (w := Wd.w) hc hu) hg hm (by decide +kernel) (pa_cons p1 pa_nil he) (by decide) (by decide) he hpl, fun ρ μ σ G H m en me Q q => ?_⟩
  refine s1 ρ μ σ G H m en me _ (Post.of_bind q fun t μ1 G1 H1 m1 _ st1 me1 q1 v rv => ?_)
  cases t with
  | d x => exact q1.elim
  | m h =>
    simp only at q1
    split at q1
    · rename_i kvs e1
      obtain ⟨ad, hx, rfl⟩ := rv
      obtain ⟨g0, hs, xs, hd, nd, dr⟩ := me1.at_ h ad _ hx e1
      cases e2 : bSortD (kvs.map (·.1)) with
      | none =>
        simp only [e2] at q1
        exact q1.elim
      | some z =>
        simp only [e2] at q1
        unfold bSortD at e2
        split at e2
        · rename_i hcnd
          cases e2
          rw [Bool.and_eq_true, Bool.and_eq_true] at hcnd
          have hz := small_sz hcnd.1.1
          rw [List.length_map] at hz
          exact ⟨ad, kvs, xs, G1, rfl, hs, hd, me1.ex, dr, hz, hcnd.1.2, hcnd.2, fun p zs dz hn => newD me1 (fun p g0 => dq_lst g0 dz) (fun v' G' H' st me' dq => q1 G' H' m1 st me' v' dq) p hn⟩
        · cases e2
    · exact q1.elim
end
end Bz
set_option Elab.async false
set_option linter.all false
set_option maxRecDepth 100000
set_option maxHeartbeats 1000000
/-! Shields: words, sizes, trees, cells; no program in sight. -/
namespace Bz
open PySem
/-! ### words -/
inductive Col where
  | black | blue | green | red | white | yellow
  deriving DecidableEq
inductive Prt where
  | party | cut | quartered
  deriving DecidableEq
inductive Pc where
  | band | edge | head | pillar
  deriving DecidableEq
def Col.s : Col → Str
  | .black => "black" | .blue => "blue" | .green => "green" | .red => "red" | .white => "white" | .yellow => "yellow"
def Prt.s : Prt → Str
  | .party => "party" | .cut => "cut" | .quartered => "quartered"
def Pc.s : Pc → Str
  | .band => "band" | .edge => "edge" | .head => "head" | .pillar => "pillar"
theorem Col.inj {a b : Col} (h : a.s = b.s) : a = b := by
  cases a <;> cases b <;> first | rfl | (exfalso; revert h; decide +kernel)
theorem Prt.inj {a b : Prt} (h : a.s = b.s) : a = b := by
  cases a <;> cases b <;> first | rfl | (exfalso; revert h; decide +kernel)
theorem Pc.inj {a b : Pc} (h : a.s = b.s) : a = b := by
  cases a <;> cases b <;> first | rfl | (exfalso; revert h; decide +kernel)
@[simp] theorem Col.ok (c : Col) : PyData.strOk c.s = true := by cases c <;> decide +kernel
@[simp] theorem Prt.ok (c : Prt) : PyData.strOk c.s = true := by cases c <;> decide +kernel
@[simp] theorem Pc.ok (c : Pc) : PyData.strOk c.s = true := by cases c <;> decide +kernel
theorem inD_str {x : Str} {ys : List Str} : inD (.str x) (ys.map PyData.str) = decide (x ∈ ys) := by
  induction ys with
  | nil => rfl
  | cons y ys ih =>
    unfold inD at ih ⊢
    rw [List.map_cons, List.any_cons, ih]
    have e : PyData.eqv (.str y) (.str x) = decide (x = y) := by
      simp only [PyData.eqv]
      by_cases h : x = y
      · subst h; simp
      · simp [h, Ne.symm h]
    rw [e]
    by_cases h : x = y <;> by_cases h2 : x ∈ ys <;> simp [h, h2]
/-! sizes -/
def encS (w h : Nat) : PyData := .tuple [.int w, .int h]
def Side (n : Nat) : Prop := n = 1 ∨ n = 2 ∨ n = 4 ∨ n = 8
@[simp] theorem atI_natC {α : Type} (xs : List α) (n : Nat) : L2.atI xs (n : Int) = xs[n]? := by
  unfold L2.atI L2.ixN
  by_cases h : n < xs.length
  · rw [if_pos (by omega), if_pos (by omega)]
    simp
  · rw [if_pos (by omega), if_neg (by omega), List.getElem?_eq_none (by omega)]
    rfl
@[simp] theorem atI_0 {α : Type} (xs : List α) : L2.atI xs 0 = xs[0]? := atI_natC xs 0
@[simp] theorem atI_1 {α : Type} (xs : List α) : L2.atI xs 1 = xs[1]? := atI_natC xs 1
@[simp] theorem atI_2 {α : Type} (xs : List α) : L2.atI xs 2 = xs[2]? := atI_natC xs 2
@[simp] theorem atI_3 {α : Type} (xs : List α) : L2.atI xs 3 = xs[3]? := atI_natC xs 3
inductive Tree where
  | col (c : Col)
  | part (p : Prt) (a b : Tree)
  | piece (q : Pc) (c : Col) (t : Tree)
def Tree.words : Tree → List Str
  | .col c => [c.s]
  | .part p a b => p.s :: (a.words ++ b.words)
  | .piece q c t => q.s :: c.s :: t.words
def Tree.depth : Tree → Nat
  | .col _ => 0
  | .part _ a b => max a.depth b.depth + 1
  | .piece _ _ t => t.depth + 1
def pW : Prt → Nat → Nat
  | .cut, w => w
  | _, w => w / 2
def pH : Prt → Nat → Nat
  | .party, h => h
  | _, h => h / 2
def fitP : Prt → Nat → Nat → Bool
  | .party, w, _ => decide (2 ≤ w)
  | .cut, _, h => decide (2 ≤ h)
  | .quartered, w, h => decide (2 ≤ w) && decide (2 ≤ h)
def fitQ : Pc → Nat → Nat → Bool
  | .pillar, w, _ => decide (4 ≤ w)
  | .band, _, h => decide (4 ≤ h)
  | .head, _, h => decide (4 ≤ h)
  | .edge, w, h => decide (4 ≤ w) && decide (4 ≤ h)
def Tree.Fit : Tree → Nat → Nat → Prop
  | .col _, _, _ => True
  | .part p a b, w, h => fitP p w h = true ∧ a.Fit (pW p w) (pH p h) ∧ b.Fit (pW p w) (pH p h)
  | .piece q _ t, w, h => fitQ q w h = true ∧ t.Fit w h
def strsD (ws : List Str) : PyData := .tuple (ws.map PyData.str)
@[simp] theorem le_c (a : Nat) (n : Nat) : ((a : Int) ≤ (n : Int)) = (a ≤ n) := propext (by omega)
@[simp] theorem le_1 (n : Nat) : ((1 : Int) ≤ (n : Int)) = (1 ≤ n) := propext (by omega)
@[simp] theorem le_2 (n : Nat) : ((2 : Int) ≤ (n : Int)) = (2 ≤ n) := propext (by omega)
@[simp] theorem le_4 (n : Nat) : ((4 : Int) ≤ (n : Int)) = (4 ≤ n) := propext (by omega)
@[simp] theorem lt_1 (n : Nat) : ((1 : Int) < (n : Int)) = (2 ≤ n) := propext (by omega)
@[simp] theorem lt_3 (n : Nat) : ((3 : Int) < (n : Int)) = (4 ≤ n) := propext (by omega)
@[simp] theorem lt_c (a n : Nat) : ((a : Int) < (n : Int)) = (a < n) := propext (by omega)

theorem Side.pos {n : Nat} (h : Side n) : 1 ≤ n := by unfold Side at h; omega
theorem Side.le {n : Nat} (h : Side n) : n ≤ 8 := by unfold Side at h; omega
theorem Side.half {n : Nat} (h : Side n) (h2 : 2 ≤ n) : Side (n / 2) ∧ n = 2 * (n / 2) := by unfold Side at *; omega
theorem Side.pW {p : Prt} {w h : Nat} (hw : Side w) (f : fitP p w h = true) : Side (Bz.pW p w) := by
  cases p <;> simp [fitP] at f <;> simp [Bz.pW, hw] <;> exact (hw.half (by omega)).1
theorem Side.pH {p : Prt} {w h : Nat} (hh : Side h) (f : fitP p w h = true) : Side (Bz.pH p h) := by
  cases p <;> simp [fitP] at f <;> simp [Bz.pH, hh] <;> exact (hh.half (by omega)).1

/-! ### own cells -/
def own : Pc → Nat → Nat → Nat → Nat → Bool
  | .pillar, w, _, _, k => decide (w / 4 ≤ k) && decide (k < w - w / 4)
  | .band, _, h, r, _ => decide (h / 4 ≤ r) && decide (r < h - h / 4)
  | .head, _, h, r, _ => decide (r < h / 4)
  | .edge, w, h, r, k => decide (r = 0 ∨ r + 1 = h) || decide (k = 0 ∨ k + 1 = w)
/-! ### drawings -/
def cell : Tree → Nat → Nat → Nat → Nat → Col
  | .col c, _, _, _, _ => c
  | .piece q c t, w, h, r, k => if own q w h r k then c else cell t w h r k
  | .part .party a b, w, h, r, k => if k < w / 2 then cell a (w / 2) h r k else cell b (w / 2) h r (k - w / 2)
  | .part .cut a b, w, h, r, k => if r < h / 2 then cell a w (h / 2) r k else cell b w (h / 2) (r - h / 2) k
  | .part .quartered a b, w, h, r, k => if r < h / 2 then (if k < w / 2 then cell a (w / 2) (h / 2) r k else cell b (w / 2) (h / 2) r (k - w / 2))
    else (if k < w / 2 then cell b (w / 2) (h / 2) (r - h / 2) k else cell a (w / 2) (h / 2) (r - h / 2) (k - w / 2))
def rowD (w : Nat) (f : Nat → Col) : PyData := .tuple ((List.range w).map fun k => .str (f k).s)
def rowsL (w h : Nat) (f : Nat → Nat → Col) : List PyData := (List.range h).map fun r => rowD w (f r)
def encM (w h : Nat) (f : Nat → Nat → Col) : PyData := .tuple (rowsL w h f)
end Bz
set_option Elab.async false
set_option linter.all false
set_option maxRecDepth 100000
namespace Bz
open PySem
def c_ANY : PyData := (.str "")
def c_COLOURS : PyData := (.tuple [(.str "black"), (.str "blue"), (.str "green"), (.str "red"), (.str "white"), (.str "yellow")])
def c_LIGHT : PyData := (.tuple [(.str "white"), (.str "yellow")])
def c_MOST_SIDE : PyData := (.int 4)
def c_MOST_WORDS : PyData := (.int 3)
def c_PARTS : PyData := (.tuple [(.str "party"), (.str "cut"), (.str "quartered")])
def c_PIECES : PyData := (.tuple [(.str "band"), (.str "edge"), (.str "head"), (.str "pillar")])
def c_SIDES : PyData := (.tuple [(.int 1), (.int 2), (.int 4), (.int 8)])
def m_need_size : Fn := callD 1 1 ((sIf (bOr (bVal (eOp fNotIn (eOp fIx (eVar 0) (eC (.int 0))) (eC c_SIDES))) (bVal (eOp fNotIn (eOp fIx (eVar 0) (eC (.int 1))) (eC c_SIDES)))) (sRaise 1) sNx))
def m_is_light : Fn := callD 1 1 ((sRet (eOp fIn (eVar 0) (eC c_LIGHT))))
def m_is_drawing : Fn := callD 2 4 ((sSeq (sDrop (eCall m_need_size (aCons (eVar 0) aNil)))
  (sSeq (sIf (bOr (bVal (eOp fNe (eCB bLen (aCons (eVar 1) aNil)) (eOp fIx (eVar 0) (eC (.int 1))))) (bVal (eOp fNe (eComp (iSeq (eVar 1)) (gNm 2) (bVal (eOp fNe (eCB bLen (aCons (eVar 2) aNil)) (eOp fIx (eVar 0) (eC (.int 0))))) (eVar 2) [2]) (eLst aNil)))) (sRet (eC (.bool false))) sNx)
  (sSeq (sFor (iSeq (eVar 1)) (gNm 2) (sIf (bVal (eOp fNe (eComp (iSeq (eVar 2)) (gNm 3) (bVal (eOp fNotIn (eVar 3) (eC c_COLOURS))) (eVar 3) [3]) (eLst aNil))) (sRet (eC (.bool false))) sNx))
  (sRet (eC (.bool true)))))))
def m_fits : Fn := callD 2 4 ((sSeq (sAsg (eVar 0) (gTp [(gNm 2), (gNm 3)]))
  (sSeq (sIf (bVal (eOp fIn (eVar 1) (eTup (aCons (eC (.str "party")) (aCons (eC (.str "cut")) (aCons (eC (.str "quartered")) aNil)))))) (sRet (eAnd (eOr (eOp fGt (eVar 2) (eC (.int 1))) (eOp fEq (eVar 1) (eC (.str "cut")))) (eOr (eOp fGt (eVar 3) (eC (.int 1))) (eOp fEq (eVar 1) (eC (.str "party")))))) sNx)
  (sRet (eAnd (eOr (eOp fGt (eVar 2) (eC (.int 3))) (eOp fIn (eVar 1) (eTup (aCons (eC (.str "band")) (aCons (eC (.str "head")) aNil))))) (eOr (eOp fGt (eVar 3) (eC (.int 3))) (eOp fEq (eVar 1) (eC (.str "pillar")))))))))
def m_part_of : Fn := callD 2 4 ((sSeq (sAsg (eVar 0) (gTp [(gNm 2), (gNm 3)]))
  (sRet (eTup (aCons (eIf (bVal (eOp fEq (eVar 1) (eC (.str "cut")))) (eVar 2) (eOp fDiv (eVar 2) (eC (.int 2)))) (aCons (eIf (bVal (eOp fEq (eVar 1) (eC (.str "party")))) (eVar 3) (eOp fDiv (eVar 3) (eC (.int 2)))) aNil))))))
def m_tree_at : Nat → Fn
  | 0 => fun _ _ => .no
  | j + 1 => callD 3 8 ((sSeq (sAsg (eIf (bVal (eOp fLt (eVar 2) (eCB bLen (aCons (eVar 1) aNil)))) (eOp fIx (eVar 1) (eVar 2)) (eC (.str "white"))) (gNm 3))
  (sSeq (sIf (bVal (eOp fIn (eVar 3) (eC c_COLOURS))) (sRet (eTup (aCons (eTup (aCons (eVar 3) (aCons (eVar 2) (aCons (eVar 3) (aCons (eTup aNil) aNil))))) (aCons (eOp fAdd (eVar 2) (eC (.int 1))) aNil)))) sNx)
  (sSeq (sIf (bOr (bVal (eOp fNotIn (eVar 3) (eOp fAdd (eC c_PARTS) (eC c_PIECES)))) (bNot (bVal (eCall m_fits (aCons (eVar 0) (aCons (eVar 3) aNil)))))) (sRaiseP 4 (eVar 2)) sNx)
  (sSeq (sIf (bVal (eOp fIn (eVar 3) (eC c_PARTS))) (sSeq (sAsg (eCall (m_tree_at j) (aCons (eCall m_part_of (aCons (eVar 0) (aCons (eVar 3) aNil))) (aCons (eVar 1) (aCons (eOp fAdd (eVar 2) (eC (.int 1))) aNil)))) (gTp [(gNm 4), (gNm 5)]))
  (sSeq (sAsg (eCall (m_tree_at j) (aCons (eCall m_part_of (aCons (eVar 0) (aCons (eVar 3) aNil))) (aCons (eVar 1) (aCons (eVar 5) aNil)))) (gTp [(gNm 6), (gNm 5)]))
  (sRet (eTup (aCons (eTup (aCons (eVar 3) (aCons (eVar 2) (aCons (eC (.str "")) (aCons (eTup (aCons (eVar 4) (aCons (eVar 6) aNil))) aNil))))) (aCons (eVar 5) aNil)))))) sNx)
  (sSeq (sAsg (eIf (bVal (eOp fLt (eOp fAdd (eVar 2) (eC (.int 1))) (eCB bLen (aCons (eVar 1) aNil)))) (eOp fIx (eVar 1) (eOp fAdd (eVar 2) (eC (.int 1)))) (eC (.str "white"))) (gNm 7))
  (sSeq (sIf (bVal (eOp fNotIn (eVar 7) (eC c_COLOURS))) (sRaiseP 4 (eOp fAdd (eVar 2) (eC (.int 1)))) sNx)
  (sSeq (sAsg (eCall (m_tree_at j) (aCons (eVar 0) (aCons (eVar 1) (aCons (eOp fAdd (eVar 2) (eC (.int 2))) aNil)))) (gTp [(gNm 4), (gNm 5)]))
  (sRet (eTup (aCons (eTup (aCons (eVar 3) (aCons (eVar 2) (aCons (eVar 7) (aCons (eTup (aCons (eVar 4) aNil)) aNil))))) (aCons (eVar 5) aNil))))))))))))
def m_tree_of : Fn := callD 2 4 ((sSeq (sDrop (eCall m_need_size (aCons (eVar 0) aNil)))
  (sSeq (sAsg (eCall (m_tree_at 90) (aCons (eVar 0) (aCons (eVar 1) (aCons (eC (.int 0)) aNil)))) (gTp [(gNm 2), (gNm 3)]))
  (sSeq (sIf (bVal (eOp fLt (eVar 3) (eCB bLen (aCons (eVar 1) aNil)))) (sRaiseP 4 (eVar 3)) sNx)
  (sRet (eVar 2))))))
def m_words_of : Nat → Fn
  | 0 => fun _ _ => .no
  | j + 1 => callD 1 7 ((sSeq (sAsg (eVar 0) (gTp [(gNm 1), (gNm 2), (gNm 3), (gNm 4)]))
  (sSeq (sAsg (eIf (bVal (eOp fIn (eVar 1) (eC c_PIECES))) (eTup (aCons (eVar 1) (aCons (eVar 3) aNil))) (eTup (aCons (eVar 1) aNil))) (gNm 5))
  (sSeq (sFor (iSeq (eVar 4)) (gNm 6) (sAsg (eOp fAdd (eVar 5) (eCall (m_words_of j) (aCons (eVar 6) aNil))) (gNm 5)))
  (sRet (eVar 5))))))
def m_without_end : Fn := callD 1 2 ((sSeq (sAsg (eCB bLen (aCons (eVar 0) aNil)) (gNm 1))
  (sSeq (sWh 1000 (bAnd (bVal (eOp fGt (eVar 1) (eC (.int 0)))) (bVal (eOp fEq (eOp fIx (eVar 0) (eOp fSub (eVar 1) (eC (.int 1)))) (eC (.str "white"))))) (sAsg (eOp fSub (eVar 1) (eC (.int 1))) (gNm 1)))
  (sRet (eSl (eVar 0) oNo (oYes (eVar 1)))))))
def m_filled : Fn := callD 2 2 ((sRet (eCall (m_words_of 90) (aCons (eCall m_tree_of (aCons (eVar 0) (aCons (eVar 1) aNil))) aNil))))
def m_trimmed : Fn := callD 2 2 ((sSeq (sDrop (eCall m_tree_of (aCons (eVar 0) (aCons (eVar 1) aNil))))
  (sRet (eCall m_without_end (aCons (eVar 1) aNil)))))
def m_is_own : Fn := callD 4 6 ((sSeq (sAsg (eVar 0) (gTp [(gNm 4), (gNm 5)]))
  (sSeq (sIf (bVal (eOp fEq (eVar 1) (eC (.str "pillar")))) (sRet (eChain fLe fLt (eOp fDiv (eVar 4) (eC (.int 4))) (eVar 3) (eOp fSub (eVar 4) (eOp fDiv (eVar 4) (eC (.int 4)))))) sNx)
  (sSeq (sIf (bVal (eOp fEq (eVar 1) (eC (.str "band")))) (sRet (eChain fLe fLt (eOp fDiv (eVar 5) (eC (.int 4))) (eVar 2) (eOp fSub (eVar 5) (eOp fDiv (eVar 5) (eC (.int 4)))))) sNx)
  (sSeq (sIf (bVal (eOp fEq (eVar 1) (eC (.str "head")))) (sRet (eOp fLt (eVar 2) (eOp fDiv (eVar 5) (eC (.int 4))))) sNx)
  (sRet (eOr (eOp fIn (eVar 2) (eTup (aCons (eC (.int 0)) (aCons (eOp fSub (eVar 5) (eC (.int 1))) aNil)))) (eOp fIn (eVar 3) (eTup (aCons (eC (.int 0)) (aCons (eOp fSub (eVar 4) (eC (.int 1))) aNil)))))))))))
def m_drawing_of : Nat → Fn
  | 0 => fun _ _ => .no
  | j + 1 => callD 2 17 ((sSeq (sAsg (eVar 1) (gTp [(gNm 2), (gNm 3), (gNm 4), (gNm 5)]))
  (sSeq (sIf (bVal (eOp fEq (eVar 5) (eTup aNil))) (sRet (eOp fMul (eTup (aCons (eOp fMul (eTup (aCons (eVar 4) aNil)) (eOp fIx (eVar 0) (eC (.int 0)))) aNil)) (eOp fIx (eVar 0) (eC (.int 1))))) sNx)
  (sSeq (sIf (bVal (eOp fIn (eVar 2) (eC c_PIECES))) (sSeq (sAsg (eCall (m_drawing_of j) (aCons (eVar 0) (aCons (eOp fIx (eVar 5) (eC (.int 0))) aNil))) (gNm 6))
  (sSeq (sAsg (eNew (eLst aNil)) (gNm 7))
  (sSeq (sFor (iRng1 (aCons (eOp fIx (eVar 0) (eC (.int 1))) aNil)) (gNm 8) (sSeq (sAsg (eComp (iRng1 (aCons (eOp fIx (eVar 0) (eC (.int 0))) aNil)) (gNm 16) bYes (eIf (bVal (eCall m_is_own (aCons (eVar 0) (aCons (eVar 2) (aCons (eVar 8) (aCons (eVar 16) aNil)))))) (eVar 4) (eOp fIx (eOp fIx (eVar 6) (eVar 8)) (eVar 16))) [16]) (gNm 9))
  (sDrop (eApp (eVar 7) (eCB bTup (aCons (eVar 9) aNil))))))
  (sRet (eCB bTup (aCons (eVar 7) aNil)))))) sNx)
  (sSeq (sAsg (eComp (iSeq (eVar 5)) (gNm 13) bYes (eCall (m_drawing_of j) (aCons (eCall m_part_of (aCons (eVar 0) (aCons (eVar 2) aNil))) (aCons (eVar 13) aNil))) [13]) (gLs [(gNm 10), (gNm 11)]))
  (sSeq (sIf (bVal (eOp fEq (eVar 2) (eC (.str "cut")))) (sRet (eOp fAdd (eVar 10) (eVar 11))) sNx)
  (sSeq (sAsg (eCB bTup (aCons (eComp (iZip (aCons (eVar 10) (aCons (eVar 11) aNil))) (gTp [(gNm 14), (gNm 15)]) bYes (eOp fAdd (eVar 14) (eVar 15)) [14, 15]) aNil)) (gNm 12))
  (sSeq (sIf (bVal (eOp fEq (eVar 2) (eC (.str "party")))) (sRet (eVar 12)) sNx)
  (sRet (eOp fAdd (eVar 12) (eCB bTup (aCons (eComp (iZip (aCons (eVar 11) (aCons (eVar 10) aNil))) (gTp [(gNm 14), (gNm 15)]) bYes (eOp fAdd (eVar 14) (eVar 15)) [14, 15]) aNil))))))))))))
def m_drawn : Fn := callD 2 2 ((sRet (eCall (m_drawing_of 90) (aCons (eVar 0) (aCons (eCall m_tree_of (aCons (eVar 0) (aCons (eVar 1) aNil))) aNil)))))
def m_turned : Nat → Fn
  | 0 => fun _ _ => .no
  | j + 1 => callD 1 6 ((sSeq (sAsg (eVar 0) (gTp [(gNm 1), (gNm 2), (gNm 3), (gNm 4)]))
  (sSeq (sAsg (eCB bTup (aCons (eComp (iSeq (eVar 4)) (gNm 5) bYes (eCall (m_turned j) (aCons (eVar 5) aNil)) [5]) aNil)) (gNm 4))
  (sSeq (sIf (bVal (eOp fIn (eVar 1) (eTup (aCons (eC (.str "party")) (aCons (eC (.str "quartered")) aNil))))) (sAsg (eTup (aCons (eOp fIx (eVar 4) (eC (.int 1))) (aCons (eOp fIx (eVar 4) (eC (.int 0))) aNil))) (gNm 4)) sNx)
  (sRet (eTup (aCons (eVar 1) (aCons (eVar 2) (aCons (eVar 3) (aCons (eVar 4) aNil))))))))))
def m_mirrored : Fn := callD 2 2 ((sRet (eCall (m_words_of 90) (aCons (eCall (m_turned 90) (aCons (eCall m_tree_of (aCons (eVar 0) (aCons (eVar 1) aNil))) aNil)) aNil))))
def m_size_of : Fn := callD 1 1 ((sRet (eTup (aCons (eCB bLen (aCons (eOp fIx (eVar 0) (eC (.int 0))) aNil)) (aCons (eCB bLen (aCons (eVar 0) aNil)) aNil)))))
def m_colours_in : Fn := callD 1 2 ((sRet (eCB bSortSet (aCons (eComp (iSeq (eVar 0)) (gNm 1) (bVal (eOp fNe (eVar 1) (eC c_ANY))) (eVar 1) [1]) aNil))))
def m_all_cells : Fn := callD 1 3 ((sSeq (sAsg (eNew (eLst aNil)) (gNm 1))
  (sSeq (sFor (iSeq (eVar 0)) (gNm 2) (sDrop (eExt (eVar 1) (eVar 2))))
  (sRet (eVar 1)))))
def m_cut_out : Fn := callD 4 5 ((sRet (eCB bTup (aCons (eComp (iSeq (eSl (eVar 0) (oYes (eVar 1)) (oYes (eOp fAdd (eVar 1) (eOp fIx (eVar 3) (eC (.int 1))))))) (gNm 4) bYes (eSl (eVar 4) (oYes (eVar 2)) (oYes (eOp fAdd (eVar 2) (eOp fIx (eVar 3) (eC (.int 0)))))) [4]) aNil))))
def m_laid : Fn := callD 2 7 ((sSeq (sAsg (eNew (eLst aNil)) (gNm 2))
  (sSeq (sFor (iZip (aCons (eVar 0) (aCons (eVar 1) aNil))) (gTp [(gNm 3), (gNm 4)]) (sSeq (sAsg (eCB bLstZip (aCons (eVar 3) (aCons (eVar 4) aNil))) (gNm 5))
  (sSeq (sIf (bVal (eOp fNe (eComp (iSeq (eVar 5)) (gNm 6) (bAnd (bVal (eOp fNotIn (eC c_ANY) (eVar 6))) (bVal (eOp fNe (eOp fIx (eVar 6) (eC (.int 0))) (eOp fIx (eVar 6) (eC (.int 1)))))) (eVar 6) [6]) (eLst aNil))) (sRet (eC .none)) sNx)
  (sDrop (eApp (eVar 2) (eCB bTup (aCons (eComp (iSeq (eVar 5)) (gNm 6) bYes (eIf (bVal (eOp fEq (eOp fIx (eVar 6) (eC (.int 1))) (eC c_ANY))) (eOp fIx (eVar 6) (eC (.int 0))) (eOp fIx (eVar 6) (eC (.int 1)))) [6]) aNil)))))))
  (sRet (eCB bTup (aCons (eVar 2) aNil))))))
def m_parts_of : Fn := callD 2 7 ((sSeq (sAsg (eCall m_size_of (aCons (eVar 0) aNil)) (gTp [(gNm 2), (gNm 3)]))
  (sSeq (sIf (bVal (eOp fEq (eVar 1) (eC (.str "party")))) (sSeq (sAsg (eTup (aCons (eOp fDiv (eVar 2) (eC (.int 2))) (aCons (eVar 3) aNil))) (gNm 4))
  (sRet (eTup (aCons (eCall m_cut_out (aCons (eVar 0) (aCons (eC (.int 0)) (aCons (eC (.int 0)) (aCons (eVar 4) aNil))))) (aCons (eCall m_cut_out (aCons (eVar 0) (aCons (eC (.int 0)) (aCons (eOp fIx (eVar 4) (eC (.int 0))) (aCons (eVar 4) aNil))))) aNil))))) sNx)
  (sSeq (sIf (bVal (eOp fEq (eVar 1) (eC (.str "cut")))) (sSeq (sAsg (eTup (aCons (eVar 2) (aCons (eOp fDiv (eVar 3) (eC (.int 2))) aNil))) (gNm 4))
  (sRet (eTup (aCons (eCall m_cut_out (aCons (eVar 0) (aCons (eC (.int 0)) (aCons (eC (.int 0)) (aCons (eVar 4) aNil))))) (aCons (eCall m_cut_out (aCons (eVar 0) (aCons (eOp fIx (eVar 4) (eC (.int 1))) (aCons (eC (.int 0)) (aCons (eVar 4) aNil))))) aNil))))) sNx)
  (sSeq (sAsg (eTup (aCons (eOp fDiv (eVar 2) (eC (.int 2))) (aCons (eOp fDiv (eVar 3) (eC (.int 2))) aNil))) (gNm 4))
  (sSeq (sAsg (eCall m_laid (aCons (eCall m_cut_out (aCons (eVar 0) (aCons (eC (.int 0)) (aCons (eC (.int 0)) (aCons (eVar 4) aNil))))) (aCons (eCall m_cut_out (aCons (eVar 0) (aCons (eOp fIx (eVar 4) (eC (.int 1))) (aCons (eOp fIx (eVar 4) (eC (.int 0))) (aCons (eVar 4) aNil))))) aNil))) (gNm 5))
  (sSeq (sAsg (eCall m_laid (aCons (eCall m_cut_out (aCons (eVar 0) (aCons (eC (.int 0)) (aCons (eOp fIx (eVar 4) (eC (.int 0))) (aCons (eVar 4) aNil))))) (aCons (eCall m_cut_out (aCons (eVar 0) (aCons (eOp fIx (eVar 4) (eC (.int 1))) (aCons (eC (.int 0)) (aCons (eVar 4) aNil))))) aNil))) (gNm 6))
  (sRet (eIf (bOr (bVal (eOp fIs (eVar 5) (eC .none))) (bVal (eOp fIs (eVar 6) (eC .none)))) (eC .none) (eTup (aCons (eVar 5) (aCons (eVar 6) aNil))))))))))))
def m_without_own : Fn := callD 2 8 ((sSeq (sAsg (eCall m_size_of (aCons (eVar 0) aNil)) (gNm 2))
  (sSeq (sAsg (eNew (eLst aNil)) (gNm 3))
  (sSeq (sAsg (eNew (eLst aNil)) (gNm 4))
  (sSeq (sFor (iRng1 (aCons (eOp fIx (eVar 2) (eC (.int 1))) aNil)) (gNm 5) (sSeq (sDrop (eExt (eVar 3) (eComp (iRng1 (aCons (eOp fIx (eVar 2) (eC (.int 0))) aNil)) (gNm 7) (bVal (eCall m_is_own (aCons (eVar 2) (aCons (eVar 1) (aCons (eVar 5) (aCons (eVar 7) aNil)))))) (eOp fIx (eOp fIx (eVar 0) (eVar 5)) (eVar 7)) [7])))
  (sDrop (eApp (eVar 4) (eCB bTup (aCons (eComp (iRng1 (aCons (eOp fIx (eVar 2) (eC (.int 0))) aNil)) (gNm 7) bYes (eIf (bVal (eCall m_is_own (aCons (eVar 2) (aCons (eVar 1) (aCons (eVar 5) (aCons (eVar 7) aNil)))))) (eC c_ANY) (eOp fIx (eOp fIx (eVar 0) (eVar 5)) (eVar 7))) [7]) aNil))))))
  (sSeq (sAsg (eCall m_colours_in (aCons (eVar 3) aNil)) (gNm 6))
  (sRet (eIf (bVal (eOp fEq (eCB bLen (aCons (eVar 6) aNil)) (eC (.int 1)))) (eTup (aCons (eOp fIx (eVar 6) (eC (.int 0))) (aCons (eCB bTup (aCons (eVar 4) aNil)) aNil))) (eC .none)))))))))
def m_ways : Fn := callD 1 6 ((sSeq (sAsg (eNew (eLst aNil)) (gNm 1))
  (sSeq (sFor (iSeq (eC c_PARTS)) (gNm 2) (sIf (bVal (eCall m_fits (aCons (eCall m_size_of (aCons (eVar 0) aNil)) (aCons (eVar 2) aNil)))) (sSeq (sAsg (eCall m_parts_of (aCons (eVar 0) (aCons (eVar 2) aNil))) (gNm 3))
  (sIf (bVal (eOp fIsNot (eVar 3) (eC .none))) (sDrop (eApp (eVar 1) (eTup (aCons (eTup (aCons (eVar 2) aNil)) (aCons (eVar 3) aNil))))) sNx)) sNx))
  (sSeq (sFor (iSeq (eC c_PIECES)) (gNm 4) (sIf (bVal (eCall m_fits (aCons (eCall m_size_of (aCons (eVar 0) aNil)) (aCons (eVar 4) aNil)))) (sSeq (sAsg (eCall m_without_own (aCons (eVar 0) (aCons (eVar 4) aNil))) (gNm 5))
  (sIf (bVal (eOp fIsNot (eVar 5) (eC .none))) (sDrop (eApp (eVar 1) (eTup (aCons (eTup (aCons (eVar 4) (aCons (eOp fIx (eVar 5) (eC (.int 0))) aNil))) (aCons (eTup (aCons (eOp fIx (eVar 5) (eC (.int 1))) aNil)) aNil))))) sNx)) sNx))
  (sRet (eVar 1))))))
def m_shorter : Fn := callD 1 1 ((sRet (eMinK (eVar 0) (eTup (aCons (eCB bLen (aCons (eVar 0) aNil)) (aCons (eVar 0) aNil))))))
def m_best : Nat → Fn
  | 0 => fun _ _ => .no
  | j + 1 => callD 2 10 ((sSeq (sIf (bVal (eInD (eVar 0) (eVar 1))) (sRet (eGetD (eVar 1) (eVar 0))) sNx)
  (sSeq (sAsg (eCall m_colours_in (aCons (eCall m_all_cells (aCons (eVar 0) aNil)) aNil)) (gNm 2))
  (sSeq (sIf (bVal (eOp fLt (eCB bLen (aCons (eVar 2) aNil)) (eC (.int 2)))) (sSeq (sAsg (eOp fIx (eOp fAdd (eVar 2) (eLst (aCons (eC (.str "black")) aNil))) (eC (.int 0))) (gNm 3))
  (sSeq (sSetD (eTup (aCons (eTup (aCons (eVar 3) aNil)) (aCons (eIf (bVal (eOp fIn (eVar 2) (eTup (aCons (eLst aNil) (aCons (eLst (aCons (eC (.str "white")) aNil)) aNil))))) (eTup aNil) (eTup (aCons (eVar 3) aNil))) aNil))) (eVar 1) (eVar 0))
  (sRet (eGetD (eVar 1) (eVar 0))))) sNx)
  (sSeq (sAsg (eNew (eLst aNil)) (gNm 4))
  (sSeq (sAsg (eNew (eLst aNil)) (gNm 5))
  (sSeq (sFor (iSeq (eCall m_ways (aCons (eVar 0) aNil))) (gTp [(gNm 6), (gNm 7)]) (sSeq (sAsg (eComp (iSeq (eVar 7)) (gNm 9) bYes (eCall (m_best j) (aCons (eVar 9) (aCons (eVar 1) aNil))) [9]) (gNm 8))
  (sSeq (sIf (bVal (eOp fEq (eCB bLen (aCons (eVar 8) aNil)) (eC (.int 2)))) (sSeq (sDrop (eApp (eVar 4) (eOp fAdd (eOp fAdd (eVar 6) (eOp fIx (eOp fIx (eVar 8) (eC (.int 0))) (eC (.int 0)))) (eOp fIx (eOp fIx (eVar 8) (eC (.int 1))) (eC (.int 0))))))
  (sDrop (eApp (eVar 5) (eOp fAdd (eOp fAdd (eVar 6) (eOp fIx (eOp fIx (eVar 8) (eC (.int 0))) (eC (.int 0)))) (eOp fIx (eOp fIx (eVar 8) (eC (.int 1))) (eC (.int 1))))))) (sDrop (eApp (eVar 4) (eOp fAdd (eVar 6) (eOp fIx (eOp fIx (eVar 8) (eC (.int 0))) (eC (.int 0)))))))
  (sIf (bOr (bVal (eOp fEq (eOp fIx (eOp fIx (eVar 8) (eUn fNeg (eC (.int 1)))) (eC (.int 1))) (eTup aNil))) (bVal (eOp fEq (eCB bLen (aCons (eVar 8) aNil)) (eC (.int 1))))) (sDrop (eApp (eVar 5) (eOp fAdd (eVar 6) (eOp fIx (eOp fIx (eVar 8) (eC (.int 0))) (eC (.int 1)))))) sNx))))
  (sSeq (sSetD (eTup (aCons (eCall m_shorter (aCons (eVar 4) aNil)) (aCons (eCall m_shorter (aCons (eVar 5) aNil)) aNil))) (eVar 1) (eVar 0))
  (sRet (eGetD (eVar 1) (eVar 0)))))))))))
def m_need_drawing : Fn := callD 2 2 ((sIf (bNot (bVal (eCall m_is_drawing (aCons (eVar 0) (aCons (eVar 1) aNil))))) (sRaise 2) sNx))
def m_said : Fn := callD 2 2 ((sSeq (sDrop (eCall m_need_drawing (aCons (eVar 0) (aCons (eVar 1) aNil))))
  (sRet (eOp fIx (eCall (m_best 40) (aCons (eVar 1) (aCons eNewD aNil))) (eC (.int 1))))))
def m_fields_of : Fn := callD 3 9 ((sSeq (sAsg (eCall m_part_of (aCons (eVar 0) (aCons (eVar 1) aNil))) (gTp [(gNm 3), (gNm 4)]))
  (sSeq (sIf (bVal (eOp fEq (eVar 1) (eC (.str "party")))) (sRet (eLst (aCons (eVar 2) (aCons (eComp (iSeq (eVar 2)) (gTp [(gNm 7), (gNm 8)]) bYes (eTup (aCons (eVar 7) (aCons (eOp fAdd (eVar 8) (eVar 3)) aNil))) [7, 8]) aNil)))) sNx)
  (sSeq (sIf (bVal (eOp fEq (eVar 1) (eC (.str "cut")))) (sRet (eLst (aCons (eVar 2) (aCons (eComp (iSeq (eVar 2)) (gTp [(gNm 7), (gNm 8)]) bYes (eTup (aCons (eOp fAdd (eVar 7) (eVar 4)) (aCons (eVar 8) aNil))) [7, 8]) aNil)))) sNx)
  (sSeq (sAsg (eOp fAdd (eVar 2) (eComp (iSeq (eVar 2)) (gTp [(gNm 7), (gNm 8)]) bYes (eTup (aCons (eOp fAdd (eVar 7) (eVar 4)) (aCons (eOp fAdd (eVar 8) (eVar 3)) aNil))) [7, 8])) (gNm 5))
  (sSeq (sAsg (eComp (iSeq (eVar 2)) (gTp [(gNm 7), (gNm 8)]) bYes (eTup (aCons (eVar 7) (aCons (eOp fAdd (eVar 8) (eVar 3)) aNil))) [7, 8]) (gNm 6))
  (sRet (eLst (aCons (eVar 5) (aCons (eOp fAdd (eVar 6) (eComp (iSeq (eVar 2)) (gTp [(gNm 7), (gNm 8)]) bYes (eTup (aCons (eOp fAdd (eVar 7) (eVar 4)) (aCons (eVar 8) aNil))) [7, 8])) aNil))))))))))
def m_beside : Fn := callD 3 5 ((sSeq (sAsg (eLst (aCons (eTup (aCons (eOp fSub (eVar 1) (eC (.int 1))) (aCons (eVar 2) aNil))) (aCons (eTup (aCons (eVar 1) (aCons (eOp fSub (eVar 2) (eC (.int 1))) aNil))) (aCons (eTup (aCons (eVar 1) (aCons (eOp fAdd (eVar 2) (eC (.int 1))) aNil))) (aCons (eTup (aCons (eOp fAdd (eVar 1) (eC (.int 1))) (aCons (eVar 2) aNil))) aNil))))) (gNm 3))
  (sRet (eComp (iSeq (eVar 3)) (gNm 4) (bAnd (bVal (eChain fLe fLt (eC (.int 0)) (eOp fIx (eVar 4) (eC (.int 0))) (eOp fIx (eVar 0) (eC (.int 1))))) (bVal (eChain fLe fLt (eC (.int 0)) (eOp fIx (eVar 4) (eC (.int 1))) (eOp fIx (eVar 0) (eC (.int 0)))))) (eVar 4) [4]))))
def m_is_wrong : Fn := callD 5 10 ((sSeq (sAsg (eVar 1) (gTp [(gNm 5), (gNm 6), (gNm 7), (gNm 8)]))
  (sSeq (sIf (bOr (bVal (eCall m_is_own (aCons (eVar 0) (aCons (eVar 5) (aCons (eVar 3) (aCons (eVar 4) aNil)))))) (bVal (eOp fNe (eCall m_is_light (aCons (eOp fIx (eOp fIx (eVar 2) (eVar 3)) (eVar 4)) aNil)) (eCall m_is_light (aCons (eVar 7) aNil))))) (sRet (eC (.bool false))) sNx)
  (sRet (eOp fNe (eComp (iSeq (eCall m_beside (aCons (eVar 0) (aCons (eVar 3) (aCons (eVar 4) aNil))))) (gNm 9) (bVal (eCall m_is_own (aCons (eVar 0) (aCons (eVar 5) (aCons (eOp fIx (eVar 9) (eC (.int 0))) (aCons (eOp fIx (eVar 9) (eC (.int 1))) aNil)))))) (eVar 9) [9]) (eLst aNil))))))
def m_wrongs_of : Nat → Fn
  | 0 => fun _ _ => .no
  | j + 1 => callD 3 15 ((sSeq (sAsg (eVar 1) (gTp [(gNm 3), (gNm 4), (gNm 5), (gNm 6)]))
  (sSeq (sAsg (eNew (eLst aNil)) (gNm 7))
  (sSeq (sIf (bVal (eOp fIn (eVar 3) (eC c_PIECES))) (sSeq (sAsg (eCall (m_drawing_of 90) (aCons (eVar 0) (aCons (eOp fIx (eVar 6) (eC (.int 0))) aNil))) (gNm 8))
  (sSeq (sAsg (eNew (eLst aNil)) (gNm 9))
  (sSeq (sFor (iRng1 (aCons (eOp fIx (eVar 0) (eC (.int 1))) aNil)) (gNm 10) (sDrop (eExt (eVar 9) (eComp (iRng1 (aCons (eOp fIx (eVar 0) (eC (.int 0))) aNil)) (gNm 13) (bVal (eCall m_is_wrong (aCons (eVar 0) (aCons (eVar 1) (aCons (eVar 8) (aCons (eVar 10) (aCons (eVar 13) aNil))))))) (eTup (aCons (eVar 10) (aCons (eVar 13) aNil))) [13]))))
  (sSeq (sIf (bVal (eOp fNe (eVar 9) (eLst aNil))) (sDrop (eApp (eVar 7) (eOp fAdd (eTup (aCons (eVar 4) aNil)) (eCB bMin (aCons (eComp (iSeq (eVar 2)) (gTp [(gNm 10), (gNm 14)]) bYes (eTup (aCons (eOp fAdd (eVar 10) (eOp fIx (eOp fIx (eVar 9) (eC (.int 0))) (eC (.int 0)))) (aCons (eOp fAdd (eVar 14) (eOp fIx (eOp fIx (eVar 9) (eC (.int 0))) (eC (.int 1)))) aNil))) [10, 14]) aNil))))) sNx)
  (sRet (eOp fAdd (eVar 7) (eCall (m_wrongs_of j) (aCons (eVar 0) (aCons (eOp fIx (eVar 6) (eC (.int 0))) (aCons (eVar 2) aNil)))))))))) sNx)
  (sSeq (sIf (bVal (eOp fNe (eVar 6) (eTup aNil))) (sFor (iZip (aCons (eVar 6) (aCons (eCall m_fields_of (aCons (eVar 0) (aCons (eVar 3) (aCons (eVar 2) aNil)))) aNil))) (gTp [(gNm 11), (gNm 12)]) (sDrop (eExt (eVar 7) (eCall (m_wrongs_of j) (aCons (eCall m_part_of (aCons (eVar 0) (aCons (eVar 3) aNil))) (aCons (eVar 11) (aCons (eVar 12) aNil))))))) sNx)
  (sRet (eVar 7)))))))
def m_broken : Fn := callD 2 2 ((sRet (eCB bSorted (aCons (eCall (m_wrongs_of 90) (aCons (eVar 0) (aCons (eCall m_tree_of (aCons (eVar 0) (aCons (eVar 1) aNil))) (aCons (eLst (aCons (eTup (aCons (eC (.int 0)) (aCons (eC (.int 0)) aNil))) aNil)) aNil)))) aNil))))
def m__law_taken : Fn := callD 2 4 ((sSeq (sIf (bVal (eOp fGt (eOp fIx (eVar 0) (eC (.int 3))) (eC (.int 0)))) (sSeq (sAsg (eOp fMod (eCB bInt (aCons (eOp fIx (eVar 0) (eC (.int 3))) aNil)) (eVar 1)) (gNm 2))
  (sSeq (sSetIx (eOp fDiv (eOp fIx (eVar 0) (eC (.int 3))) (eVar 1)) (eVar 0) (eC (.int 3)))
  (sRet (eVar 2)))) sNx)
  (sSeq (sSetIx (eOp fAdd (eOp fIx (eVar 0) (eC (.int 1))) (eC (.int 1))) (eVar 0) (eC (.int 1)))
  (sSeq (sIf (bVal (eOp fGt (eOp fIx (eVar 0) (eC (.int 1))) (eCB bLen (aCons (eOp fIx (eVar 0) (eC (.int 0))) aNil)))) (sSeq (sSetIx (eOp fMod (eCB bInt (aCons (eOp fAdd (eOp fMul (eOp fIx (eVar 0) (eC (.int 2))) (eC (.int 48271))) (eC (.int 11))) aNil)) (eC (.int 2147483647))) (eVar 0) (eC (.int 2)))
  (sRet (eOp fMod (eCB bInt (aCons (eOp fDiv (eOp fIx (eVar 0) (eC (.int 2))) (eC (.int 7))) aNil)) (eVar 1)))) sNx)
  (sSeq (sAsg (eOp fIx (eOp fIx (eVar 0) (eC (.int 0))) (eOp fSub (eOp fIx (eVar 0) (eC (.int 1))) (eC (.int 1)))) (gNm 3))
  (sSeq (sSetIx (eOp fMod (eCB bInt (aCons (eOp fAdd (eOp fAdd (eOp fMul (eOp fIx (eVar 0) (eC (.int 2))) (eC (.int 48271))) (eVar 3)) (eC (.int 11))) aNil)) (eC (.int 2147483647))) (eVar 0) (eC (.int 2)))
  (sSeq (sIf (bVal (eOp fGe (eVar 3) (eOp fPow (eC (.int 10)) (eC (.int 18))))) (sSetIx (eOp fDiv (eVar 3) (eVar 1)) (eVar 0) (eC (.int 3))) sNx)
  (sRet (eOp fMod (eCB bInt (aCons (eVar 3) aNil)) (eVar 1))))))))))
def m__law_size : Fn := callD 2 4 ((sSeq (sAsg (eComp (iSeq (eTup (aCons (eC (.int 4)) (aCons (eC (.int 8)) (aCons (eC (.int 4)) (aCons (eC (.int 2)) (aCons (eC (.int 8)) (aCons (eC (.int 1)) aNil)))))))) (gNm 3) (bVal (eOp fLe (eVar 3) (eVar 1))) (eVar 3) [3]) (gNm 2))
  (sRet (eTup (aCons (eOp fIx (eVar 2) (eCall m__law_taken (aCons (eVar 0) (aCons (eCB bLen (aCons (eVar 2) aNil)) aNil)))) (aCons (eOp fIx (eVar 2) (eCall m__law_taken (aCons (eVar 0) (aCons (eCB bLen (aCons (eVar 2) aNil)) aNil)))) aNil))))))
def m__law_colour : Fn := callD 1 1 ((sRet (eOp fIx (eLst (aCons (eC (.str "white")) (aCons (eC (.str "red")) (aCons (eC (.str "yellow")) (aCons (eC (.str "white")) (aCons (eC (.str "blue")) (aCons (eC (.str "black")) (aCons (eC (.str "green")) (aCons (eC (.str "red")) aNil))))))))) (eCall m__law_taken (aCons (eVar 0) (aCons (eC (.int 8)) aNil))))))
def m__law_fits : Fn := callD 2 5 ((sSeq (sAsg (eDict (pCons (eC (.str "party")) (eTup (aCons (eC (.int 2)) (aCons (eC (.int 1)) aNil))) (pCons (eC (.str "cut")) (eTup (aCons (eC (.int 1)) (aCons (eC (.int 2)) aNil))) (pCons (eC (.str "quartered")) (eTup (aCons (eC (.int 2)) (aCons (eC (.int 2)) aNil))) (pCons (eC (.str "pillar")) (eTup (aCons (eC (.int 4)) (aCons (eC (.int 1)) aNil))) (pCons (eC (.str "band")) (eTup (aCons (eC (.int 1)) (aCons (eC (.int 4)) aNil))) (pCons (eC (.str "head")) (eTup (aCons (eC (.int 1)) (aCons (eC (.int 4)) aNil))) pNil))))))) (gNm 2))
  (sSeq (sAsg (eGet2 (eVar 2) (eVar 1) (eTup (aCons (eC (.int 4)) (aCons (eC (.int 4)) aNil)))) (gTp [(gNm 3), (gNm 4)]))
  (sRet (eAnd (eOp fGe (eOp fIx (eVar 0) (eC (.int 0))) (eVar 3)) (eOp fGe (eOp fIx (eVar 0) (eC (.int 1))) (eVar 4)))))))
def m__law_part : Fn := callD 2 2 ((sSeq (sIf (bVal (eOp fIn (eVar 1) (eTup (aCons (eC (.str "party")) (aCons (eC (.str "cut")) aNil))))) (sRet (eOp fIx (eLst (aCons (eTup (aCons (eOp fIx (eVar 0) (eC (.int 0))) (aCons (eOp fDiv (eOp fIx (eVar 0) (eC (.int 1))) (eC (.int 2))) aNil))) (aCons (eTup (aCons (eOp fDiv (eOp fIx (eVar 0) (eC (.int 0))) (eC (.int 2))) (aCons (eOp fIx (eVar 0) (eC (.int 1))) aNil))) aNil))) (eCB bInt (aCons (eOp fEq (eVar 1) (eC (.str "party"))) aNil)))) sNx)
  (sRet (eTup (aCons (eOp fDiv (eOp fIx (eVar 0) (eC (.int 0))) (eC (.int 2))) (aCons (eOp fDiv (eOp fIx (eVar 0) (eC (.int 1))) (eC (.int 2))) aNil))))))
def m__law_saying : Nat → Fn
  | 0 => fun _ _ => .no
  | j + 1 => callD 3 7 ((sSeq (sAsg (eComp (iSeq (eTup (aCons (eC (.str "party")) (aCons (eC (.str "cut")) (aCons (eC (.str "quartered")) (aCons (eC (.str "pillar")) (aCons (eC (.str "band")) (aCons (eC (.str "head")) (aCons (eC (.str "edge")) aNil))))))))) (gNm 3) (bVal (eCall m__law_fits (aCons (eVar 1) (aCons (eVar 3) aNil)))) (eVar 3) [3]) (gNm 4))
  (sSeq (sAsg (eCall m__law_taken (aCons (eVar 0) (aCons (eC (.int 9)) aNil))) (gNm 5))
  (sSeq (sIf (bOr (bVal (eOp fEq (eVar 2) (eC (.int 0)))) (bOr (bVal (eOp fEq (eVar 4) (eLst aNil))) (bVal (eOp fLt (eVar 5) (eC (.int 2)))))) (sRet (eTup (aCons (eCall m__law_colour (aCons (eVar 0) aNil)) aNil))) sNx)
  (sSeq (sAsg (eOp fIx (eVar 4) (eCall m__law_taken (aCons (eVar 0) (aCons (eCB bLen (aCons (eVar 4) aNil)) aNil)))) (gNm 3))
  (sSeq (sIf (bVal (eOp fIn (eVar 3) (eTup (aCons (eC (.str "party")) (aCons (eC (.str "cut")) (aCons (eC (.str "quartered")) aNil)))))) (sSeq (sAsg (eCall m__law_part (aCons (eVar 1) (aCons (eVar 3) aNil))) (gNm 6))
  (sRet (eOp fAdd (eOp fAdd (eTup (aCons (eVar 3) aNil)) (eCall (m__law_saying j) (aCons (eVar 0) (aCons (eVar 6) (aCons (eOp fSub (eVar 2) (eC (.int 1))) aNil))))) (eCall (m__law_saying j) (aCons (eVar 0) (aCons (eVar 6) (aCons (eOp fSub (eVar 2) (eC (.int 1))) aNil))))))) sNx)
  (sRet (eOp fAdd (eTup (aCons (eVar 3) (aCons (eCall m__law_colour (aCons (eVar 0) aNil)) aNil))) (eCall (m__law_saying j) (aCons (eVar 0) (aCons (eVar 1) (aCons (eOp fSub (eVar 2) (eC (.int 1))) aNil))))))))))))
def m__law_named : Fn := callD 2 3 ((sRet (eCB bTup (aCons (eComp (iSeq (eVar 0)) (gNm 2) bYes (eGet2 (eVar 1) (eVar 2) (eVar 2)) [2]) aNil))))
def m_alike : Fn := callD 3 3 ((sRet (eOp fEq (eCall m_drawn (aCons (eVar 0) (aCons (eVar 1) aNil))) (eCall m_drawn (aCons (eVar 0) (aCons (eVar 2) aNil))))))
def m_written : Fn := callD 2 2 ((sSeq (sDrop (eCall m_tree_of (aCons (eVar 0) (aCons (eVar 1) aNil))))
  (sRet (eStrM fJoin (eC (.str " ")) (eVar 1)))))
def m_read : Fn := callD 2 3 ((sSeq (sAsg (eIf (bVal (eOp fNe (eVar 1) (eC (.str "")))) (eCB bTup (aCons (eStrM fSplit (eVar 1) (eC (.str " "))) aNil)) (eTup aNil)) (gNm 2))
  (sSeq (sDrop (eCall m_tree_of (aCons (eVar 0) (aCons (eVar 2) aNil))))
  (sRet (eVar 2)))))
def m__law_beside : Fn := callD 2 4 ((sRet (eCB bTup (aCons (eComp (iZip (aCons (eVar 0) (aCons (eVar 1) aNil))) (gTp [(gNm 2), (gNm 3)]) bYes (eOp fAdd (eVar 2) (eVar 3)) [2, 3]) aNil))))
def m__law_is_own : Fn := callD 4 6 ((sSeq (sAsg (eVar 0) (gTp [(gNm 4), (gNm 5)]))
  (sSeq (sIf (bVal (eOp fEq (eVar 1) (eC (.str "pillar")))) (sRet (eOp fLt (eOp fMul (eC (.int 2)) (eCB bAbs (aCons (eOp fSub (eOp fAdd (eOp fMul (eC (.int 2)) (eVar 3)) (eC (.int 1))) (eVar 4)) aNil))) (eVar 4))) sNx)
  (sSeq (sIf (bVal (eOp fEq (eVar 1) (eC (.str "band")))) (sRet (eOp fLt (eOp fMul (eC (.int 2)) (eCB bAbs (aCons (eOp fSub (eOp fAdd (eOp fMul (eC (.int 2)) (eVar 2)) (eC (.int 1))) (eVar 5)) aNil))) (eVar 5))) sNx)
  (sSeq (sIf (bVal (eOp fEq (eVar 1) (eC (.str "head")))) (sRet (eOp fLt (eOp fMul (eC (.int 4)) (eVar 2)) (eVar 5))) sNx)
  (sRet (eOp fEq (eCB bMin (aCons (eVar 2) (aCons (eVar 3) (aCons (eOp fSub (eOp fSub (eVar 5) (eC (.int 1))) (eVar 2)) (aCons (eOp fSub (eOp fSub (eVar 4) (eC (.int 1))) (eVar 3)) aNil))))) (eC (.int 0)))))))))
def m__law_is_laid : Fn := callD 5 8 ((sSeq (sFor (iRng1 (aCons (eOp fIx (eVar 0) (eC (.int 1))) aNil)) (gNm 5) (sFor (iRng1 (aCons (eOp fIx (eVar 0) (eC (.int 0))) aNil)) (gNm 6) (sSeq (sAsg (eCall m__law_is_own (aCons (eVar 0) (aCons (eVar 1) (aCons (eVar 5) (aCons (eVar 6) aNil))))) (gNm 7))
  (sIf (bVal (eOp fNe (eOp fIx (eOp fIx (eVar 4) (eVar 5)) (eVar 6)) (eIf (bVal (eVar 7)) (eVar 2) (eOp fIx (eOp fIx (eVar 3) (eVar 5)) (eVar 6))))) (sRet (eC (.bool false))) sNx))))
  (sRet (eC (.bool true)))))
def m__law_behind : Fn := callD 2 4 ((sSeq (sAsg (eC (.int 1)) (gNm 2))
  (sSeq (sWh 1000 (bVal (eOp fGt (eVar 2) (eC (.int 0)))) (sSeq (sAsg (eOp fIx (eOp fAdd (eSl (eVar 0) (oYes (eVar 1)) (oYes (eOp fAdd (eVar 1) (eC (.int 1))))) (eTup (aCons (eC (.str "white")) aNil))) (eC (.int 0))) (gNm 3))
  (sSeq (sAsg (eOp fAdd (eOp fAdd (eVar 1) (eC (.int 1))) (eCB bInt (aCons (eOp fIn (eVar 3) (eTup (aCons (eC (.str "pillar")) (aCons (eC (.str "band")) (aCons (eC (.str "head")) (aCons (eC (.str "edge")) aNil)))))) aNil))) (gNm 1))
  (sSeq (sAsg (eOp fAdd (eOp fSub (eVar 2) (eC (.int 1))) (eCB bInt (aCons (eOp fIn (eVar 3) (eTup (aCons (eC (.str "pillar")) (aCons (eC (.str "band")) (aCons (eC (.str "head")) (aCons (eC (.str "edge")) aNil)))))) aNil))) (gNm 2))
  (sAsg (eOp fAdd (eVar 2) (eOp fMul (eC (.int 2)) (eCB bInt (aCons (eOp fIn (eVar 3) (eTup (aCons (eC (.str "party")) (aCons (eC (.str "cut")) (aCons (eC (.str "quartered")) aNil))))) aNil)))) (gNm 2))))))
  (sRet (eVar 1)))))
def m__law_turned : Nat → Fn
  | 0 => fun _ _ => .no
  | j + 1 => callD 2 5 ((sSeq (sAsg (eOp fIx (eVar 0) (eVar 1)) (gNm 2))
  (sSeq (sIf (bVal (eOp fIn (eVar 2) (eTup (aCons (eC (.str "pillar")) (aCons (eC (.str "band")) (aCons (eC (.str "edge")) aNil)))))) (sRet (eOp fAdd (eSl (eVar 0) (oYes (eVar 1)) (oYes (eOp fAdd (eVar 1) (eC (.int 2))))) (eCall (m__law_turned j) (aCons (eVar 0) (aCons (eOp fAdd (eVar 1) (eC (.int 2))) aNil))))) sNx)
  (sSeq (sIf (bVal (eOp fNotIn (eVar 2) (eTup (aCons (eC (.str "party")) (aCons (eC (.str "cut")) (aCons (eC (.str "quartered")) aNil)))))) (sRet (eTup (aCons (eVar 2) aNil))) sNx)
  (sSeq (sAsg (eTup (aCons (eCall (m__law_turned j) (aCons (eVar 0) (aCons (eOp fAdd (eVar 1) (eC (.int 1))) aNil))) (aCons (eCall (m__law_turned j) (aCons (eVar 0) (aCons (eCall m__law_behind (aCons (eVar 0) (aCons (eOp fAdd (eVar 1) (eC (.int 1))) aNil))) aNil))) aNil))) (gTp [gNm 3, gNm 4]))
  (sRet (eOp fAdd (eTup (aCons (eVar 2) aNil)) (eIf (bVal (eOp fEq (eVar 2) (eC (.str "party")))) (eOp fAdd (eVar 3) (eVar 4)) (eOp fAdd (eVar 4) (eVar 3))))))))))
def m__law_great : Fn := callD 1 5 ((sSeq (sAsg (eLst aNil) (gNm 1))
  (sSeq (sFor (iSeq (eVar 0)) (gNm 2) (sSeq (sAsg (eTup aNil) (gNm 3))
  (sSeq (sFor (iSeq (eVar 2)) (gNm 4) (sAsg (eOp fAdd (eVar 3) (eTup (aCons (eVar 4) (aCons (eVar 4) aNil)))) (gNm 3)))
  (sAsg (eOp fAdd (eVar 1) (eLst (aCons (eVar 3) (aCons (eVar 3) aNil)))) (gNm 1)))))
  (sRet (eCB bTup (aCons (eVar 1) aNil))))))
def m_drawing_or_none : Fn := callD 2 2 ((sTry (subL [false, false, false, false, true]) (sRet (eCall m_drawn (aCons (eVar 0) (aCons (eVar 1) aNil)))) (fun _ => (sRet (eC .none)))))
def m_few : Fn := callD 2 9 ((sSeq (sDrop (eCall m_need_size (aCons (eVar 0) aNil)))
  (sSeq (sIf (bVal (eOp fGt (eCB bMax (aCons (eVar 0) aNil)) (eC c_MOST_SIDE))) (sRaise 1) sNx)
  (sSeq (sIf (bNot (bVal (eChain fLe fLe (eC (.int 0)) (eVar 1) (eC c_MOST_WORDS)))) (sRaise 3) sNx)
  (sSeq (sAsg (eLst (aCons (eTup aNil) aNil)) (gNm 2))
  (sSeq (sAsg eNewD (gNm 3))
  (sSeq (sFor (iRng1 (aCons (eOp fAdd (eVar 1) (eC (.int 1))) aNil)) (gNm 4) (sSeq (sAsg (eNew (eLst aNil)) (gNm 5))
  (sSeq (sFor (iSeq (eVar 2)) (gNm 6) (sSeq (sAsg (eCall m_drawing_or_none (aCons (eVar 0) (aCons (eVar 6) aNil))) (gNm 7))
  (sIf (bVal (eOp fIsNot (eVar 7) (eC .none))) (sSeq (sSetD (eC (.bool true)) (eVar 3) (eVar 7))
  (sDrop (eExt (eVar 5) (eComp (iSeq (eOp fAdd (eOp fAdd (eC c_COLOURS) (eC c_PARTS)) (eC c_PIECES))) (gNm 8) bYes (eOp fAdd (eVar 6) (eTup (aCons (eVar 8) aNil))) [8])))) sNx)))
  (sAsg (eVar 5) (gNm 2)))))
  (sRet (eSortD (eVar 3))))))))))
def m__law_on : Fn := callD 4 5 ((sRet (eComp (iSeq (eVar 0)) (gNm 4) bYes (eTup (aCons (eOp fAdd (eOp fIx (eVar 4) (eC (.int 0))) (eVar 1)) (aCons (eOp fAdd (eOp fIx (eVar 4) (eC (.int 1))) (eVar 2)) (aCons (eOp fAdd (eOp fIx (eVar 4) (eC (.int 2))) (eVar 3)) aNil)))) [4])))
def m_table : Fn := callD 2 4 ((sSeq (sDrop (eCall m_need_drawing (aCons (eVar 0) (aCons (eVar 1) aNil))))
  (sSeq (sAsg eNewD (gNm 2))
  (sSeq (sDrop (eCall (m_best 40) (aCons (eVar 1) (aCons (eVar 2) aNil))))
  (sRet (eComp (iDic (eVar 2)) (gNm 3) bYes (eTup (aCons (eVar 3) (aCons (eCB bLen (aCons (eOp fIx (eGetD (eVar 2) (eVar 3)) (eC (.int 0))) aNil)) (aCons (eCB bLen (aCons (eOp fIx (eGetD (eVar 2) (eVar 3)) (eC (.int 1))) aNil)) aNil)))) [3]))))))
end Bz
set_option Elab.async false
set_option linter.all false
set_option maxRecDepth 100000
set_option maxHeartbeats 1000000
/-! Plain: words, sizes, the law's row of numbers. -/
namespace Bz
open PySem
/-! ### step by step -/
theorem seq_nx {a b : DS} {ρ ρ1 : Env} {μ μ1 : Mem} {o : Out} (h1 : a ρ μ = .nx ρ1 μ1) (h2 : b ρ1 μ1 = o) : sSeq a b ρ μ = o := by
  unfold sSeq
  rw [h1]
  exact h2
theorem seq_rt {a b : DS} {ρ : Env} {μ μ1 : Mem} {s : S} (h1 : a ρ μ = .rt s μ1) : sSeq a b ρ μ = .rt s μ1 := by
  unfold sSeq
  rw [h1]
theorem seq_err {a b : DS} {ρ : Env} {μ μ1 : Mem} {e : Exn} (h1 : a ρ μ = .err e μ1) : sSeq a b ρ μ = .err e μ1 := by
  unfold sSeq
  rw [h1]
theorem if_of {t : DT} {a b : DS} {ρ : Env} {μ μ1 : Mem} {c : Bool} {o : Out} (h1 : t ρ μ = .ok c μ1) (h2 : (if c then a ρ μ1 else b ρ μ1) = o) : sIf t a b ρ μ = o := by
  unfold sIf R.out
  rw [h1]
  exact h2
theorem if_yes {t : DT} {a b : DS} {ρ : Env} {μ μ1 : Mem} {o : Out} (h1 : t ρ μ = .ok true μ1) (h2 : a ρ μ1 = o) : sIf t a b ρ μ = o := if_of h1 h2
theorem if_no {t : DT} {a b : DS} {ρ : Env} {μ μ1 : Mem} {o : Out} (h1 : t ρ μ = .ok false μ1) (h2 : b ρ μ1 = o) : sIf t a b ρ μ = o := if_of h1 h2
theorem asg_of {e : DE} {g : DG} {ρ ρ1 : Env} {μ μ1 : Mem} {s : S} (h1 : e ρ μ = .ok s μ1) (h2 : g s ρ = some ρ1) : sAsg e g ρ μ = .nx ρ1 μ1 := by
  unfold sAsg R.out
  rw [h1]
  simp only [h2]
theorem ret_of {e : DE} {ρ : Env} {μ μ1 : Mem} {s : S} (h1 : e ρ μ = .ok s μ1) : sRet e ρ μ = .rt s μ1 := by
  unfold sRet R.out
  rw [h1]
theorem drop_of {e : DE} {ρ : Env} {μ μ1 : Mem} {s : S} (h1 : e ρ μ = .ok s μ1) : sDrop e ρ μ = .nx ρ μ1 := by
  unfold sDrop R.out
  rw [h1]
theorem call_rt {np n : Nat} {b : DS} {args : List S} {ρ0 : Env} {μ μ' μ1 : Mem} {x : PyData} (hl : args.length = np) (hρ : args.map some ++ List.replicate (n - np) none = ρ0) (h : b ρ0 μ = .rt (.d x) μ') (hμ : μ'.take μ.length = μ1) : callD np n b args μ = .ok (.d x) μ1 := by
  unfold callD
  rw [if_pos hl, hρ, h]
  simp only [retF, hμ]
theorem call_nx {np n : Nat} {b : DS} {args : List S} {ρ0 ρ1 : Env} {μ μ' μ1 : Mem} (hl : args.length = np) (hρ : args.map some ++ List.replicate (n - np) none = ρ0) (h : b ρ0 μ = .nx ρ1 μ') (hμ : μ'.take μ.length = μ1) : callD np n b args μ = .ok (.d .none) μ1 := by
  unfold callD
  rw [if_pos hl, hρ, h]
  simp only [hμ]
theorem comp_of {it : DI} {g : DG} {t : DT} {e : DE} {vs : List Nat} {ρ : Env} {μ μ1 μ2 : Mem} {xs ys : List PyData} (h1 : it ρ μ = .ok xs μ1) (h2 : compGo g t e (wipeD ρ vs) xs [] μ1 = .ok ys μ2) : eComp it g t e vs ρ μ = .ok (.d (.list ys)) μ2 := by
  unfold eComp R.bind R.bindN
  rw [h1]
  simp only [h2]
theorem for_of {it : DI} {g : DG} {b : DS} {ρ : Env} {μ μ1 : Mem} {xs : List PyData} {o : Out} (h1 : it ρ μ = .ok xs μ1) (h2 : forGo g b xs ρ μ1 = o) : sFor it g b ρ μ = o := by
  unfold sFor R.out
  rw [h1]
  exact h2
/-- a loop whose turns keep I -/
theorem for_inv {g : DG} {b : DS} (I : Env → Mem → Prop) : ∀ (xs : List PyData) (ρ : Env) (μ : Mem), I ρ μ → (∀ x ∈ xs, ∀ ρ μ, I ρ μ → ∃ ρ1 ρ2 μ2, g (.d x) ρ = some ρ1 ∧ b ρ1 μ = .nx ρ2 μ2 ∧ I ρ2 μ2) → ∃ ρ' μ', forGo g b xs ρ μ = .nx ρ' μ' ∧ I ρ' μ'
  | [], ρ, μ, h, _ => ⟨ρ, μ, rfl, h⟩
  | x :: xs, ρ, μ, h, hs => by
    obtain ⟨ρ1, ρ2, μ2, h1, h2, h3⟩ := hs x (by simp) ρ μ h
    obtain ⟨ρ', μ', h4, h5⟩ := for_inv I xs ρ2 μ2 h3 fun y hy => hs y (by simp [hy])
    refine ⟨ρ', μ', ?_, h5⟩
    unfold forGo
    simp only [h1, h2]
    exact h4
/-! ### the row of numbers -/
def RowOk (ns : List Int) (x : M) : Prop := ∃ a b c : Int, x = .lst [scrD ns, .int a, .int b, .int c] ∧ 0 ≤ a ∧ 0 ≤ c
theorem taken {ns : List Int} {x : M} {rest : Mem} {n : Int} (h : RowOk ns x) (h0 : 0 < n) (h1 : n < 1000000000) :
    ∃ r x', RowOk ns x' ∧ 0 ≤ r ∧ r < n ∧ m__law_taken [.m 0, .d (.int n)] (x :: rest) = .ok (.d (.int r)) (x' :: rest) := by
  obtain ⟨a, b, c, rfl, ha, hc⟩ := h
  by_cases hc0 : 0 < c
  · refine ⟨c % n, .lst [scrD ns, .int a, .int b, .int (c / n)], ⟨a, b, c / n, rfl, ha, Int.ediv_nonneg hc (by omega)⟩, Int.emod_nonneg _ (by omega), Int.emod_lt_of_pos _ h0, ?_⟩
    simp [m__law_taken, callD, L2.ixN, hc0, h0, show n < 1073741824 by omega]
  · by_cases hl : (ns.length : Int) < a + 1
    · refine ⟨(b * 48271 + 11) % 2147483647 / 7 % n, .lst [scrD ns, .int (a + 1), .int ((b * 48271 + 11) % 2147483647), .int c], ⟨a + 1, _, c, rfl, by omega, hc⟩, Int.emod_nonneg _ (by omega), Int.emod_lt_of_pos _ h0, ?_⟩
      simp [m__law_taken, callD, L2.ixN, scrD, hc0, h0, hl, show n < 1073741824 by omega, big64]
    · obtain ⟨k, rfl⟩ := Int.eq_ofNat_of_zero_le ha
      have ha' : k < ns.length := by omega
      have e : ns[k]? = some ns[k] := List.getElem?_eq_getElem ha'
      by_cases hg : 1000000000000000000 ≤ ns[k]
      · refine ⟨ns[k] % n, .lst [scrD ns, .int ((k : Int) + 1), .int ((b * 48271 + ns[k] + 11) % 2147483647), .int (ns[k] / n)], ⟨(k : Int) + 1, _, _, rfl, by omega, Int.ediv_nonneg (by omega) (by omega)⟩, Int.emod_nonneg _ (by omega), Int.emod_lt_of_pos _ h0, ?_⟩
        simp [m__law_taken, callD, L2.ixN, scrD, hc0, h0, hl, show n < 1073741824 by omega, big64, e, hg]
      · refine ⟨ns[k] % n, .lst [scrD ns, .int ((k : Int) + 1), .int ((b * 48271 + ns[k] + 11) % 2147483647), .int c], ⟨(k : Int) + 1, _, _, rfl, by omega, hc⟩, Int.emod_nonneg _ (by omega), Int.emod_lt_of_pos _ h0, ?_⟩
        simp [m__law_taken, callD, L2.ixN, scrD, hc0, h0, hl, show n < 1073741824 by omega, big64, e, hg]
end Bz
set_option Elab.async false
set_option linter.all false
set_option maxRecDepth 100000
set_option maxHeartbeats 1000000
/-! Plain: the sayings that the laws make. -/
namespace Bz
open PySem
/-! ### the laws' own helpers -/
theorem law_colour {ns : List Int} {x : M} {rest : Mem} (h : RowOk ns x) : ∃ (c : Col) (x' : M), RowOk ns x' ∧ m__law_colour [.m 0] (x :: rest) = .ok (.d (.str c.s)) (x' :: rest) := by
  obtain ⟨r, x', h1, h2, h3, e⟩ := taken (rest := rest) h (n := 8) (by omega) (by omega)
  have hr : r = 0 ∨ r = 1 ∨ r = 2 ∨ r = 3 ∨ r = 4 ∨ r = 5 ∨ r = 6 ∨ r = 7 := by omega
  rcases hr with hr | hr | hr | hr | hr | hr | hr | hr <;> subst hr
  · exact ⟨.white, x', h1, by simp [m__law_colour, callD, e, Col.s, L2.atI, L2.ixN]⟩
  · exact ⟨.red, x', h1, by simp [m__law_colour, callD, e, Col.s, L2.atI, L2.ixN]⟩
  · exact ⟨.yellow, x', h1, by simp [m__law_colour, callD, e, Col.s, L2.atI, L2.ixN]⟩
  · exact ⟨.white, x', h1, by simp [m__law_colour, callD, e, Col.s, L2.atI, L2.ixN]⟩
  · exact ⟨.blue, x', h1, by simp [m__law_colour, callD, e, Col.s, L2.atI, L2.ixN]⟩
  · exact ⟨.black, x', h1, by simp [m__law_colour, callD, e, Col.s, L2.atI, L2.ixN]⟩
  · exact ⟨.green, x', h1, by simp [m__law_colour, callD, e, Col.s, L2.atI, L2.ixN]⟩
  · exact ⟨.red, x', h1, by simp [m__law_colour, callD, e, Col.s, L2.atI, L2.ixN]⟩
theorem law_fitsP (p : Prt) (w h : Nat) (hw : Side w) (hh : Side h) (μ : Mem) : m__law_fits [.d (encS w h), .d (.str p.s)] μ = .ok (.d (.bool (fitP p w h))) μ := by
  have := hw.pos
  have := hh.pos
  cases p <;> simp (config := {decide := true}) [m__law_fits, callD, encS, Prt.s, fitP] <;> omega
theorem law_fitsQ (p : Pc) (w h : Nat) (hw : Side w) (hh : Side h) (μ : Mem) : m__law_fits [.d (encS w h), .d (.str p.s)] μ = .ok (.d (.bool (fitQ p w h))) μ := by
  have := hw.pos
  have := hh.pos
  cases p <;> simp (config := {decide := true}) [m__law_fits, callD, encS, Pc.s, fitQ] <;> omega
theorem law_part (p : Prt) (w h : Nat) (μ : Mem) : m__law_part [.d (encS w h), .d (.str p.s)] μ = .ok (.d (encS (pW p w) (pH p h))) μ := by
  cases p <;> simp (config := {decide := true}) [m__law_part, callD, encS, Prt.s, pW, pH, inD, PyData.eqv]
/-- a comprehension that keeps some items -/
theorem comp_filter {α : Type} {g : α → PyData} {i : Nat} {τ : DT} {e : DE} {ρ : Env} {p : α → Bool} {μ : Mem} (xs : List α) : ∀ acc : List PyData, acc.length + xs.length ≤ 1000000 → (∀ x ∈ xs, τ (ρ.set i (some (.d (g x)))) μ = .ok (p x) μ) → (∀ x ∈ xs, e (ρ.set i (some (.d (g x)))) μ = .ok (.d (g x)) μ) →
    compGo (gNm i) τ e ρ (xs.map g) acc μ = .ok (acc ++ (xs.filter p).map g) μ := by
  induction xs with
  | nil => intro acc _ _ _; simp
  | cons x xs ih =>
    intro acc hl ht he
    simp only [List.length_cons] at hl
    simp only [List.map_cons, compGo, gNm, ht x (by simp), R.bindN]
    cases hp : p x with
    | true =>
      simp only [if_true, he x (by simp), R.bindN]
      rw [if_pos (by simp; omega), ih (acc ++ [g x]) (by simp; omega) (fun y hy => ht y (by simp [hy])) (fun y hy => he y (by simp [hy]))]
      simp [hp]
    | false =>
      simp only [Bool.false_eq_true, if_false]
      rw [ih acc (by omega) (fun y hy => ht y (by simp [hy])) (fun y hy => he y (by simp [hy]))]
      simp [hp]
/-- words that are no colours -/
abbrev Wrd := Sum Prt Pc
def Wrd.s : Wrd → Str
  | .inl p => p.s
  | .inr q => q.s
def fitW : Wrd → Nat → Nat → Bool
  | .inl p, w, h => fitP p w h
  | .inr q, w, h => fitQ q w h
def seven : List Wrd := [.inl .party, .inl .cut, .inl .quartered, .inr .pillar, .inr .band, .inr .head, .inr .edge]
theorem law_fits (x : Wrd) (w h : Nat) (hw : Side w) (hh : Side h) (μ : Mem) : m__law_fits [.d (encS w h), .d (.str x.s)] μ = .ok (.d (.bool (fitW x w h))) μ := by
  cases x with
  | inl p => exact law_fitsP p w h hw hh μ
  | inr q => exact law_fitsQ q w h hw hh μ
theorem Wrd.ok (x : Wrd) : PyData.strOk x.s = true := by
  cases x with
  | inl p => exact p.ok
  | inr q => exact q.ok
@[simp] theorem canLay_strs (ws : List Str) (h : ∀ w ∈ ws, PyData.strOk w = true) : PyData.canLayAll0 (ws.map PyData.str) = true := by
  induction ws with
  | nil => simp [PyData.canLayAll0]
  | cons w ws ih => simp [PyData.canLayAll0, PyData.canLay0, h w (by simp), ih fun v hv => h v (by simp [hv])]
theorem eqv_nil {xs : List PyData} : PyData.eqv (.list xs) (.list []) = decide (xs = []) := by
  cases xs <;> simp [PyData.eqv, PyData.eqvAll]
theorem min_depth0 {d : PyData} : (min d.depth (PyData.list []).depth ≤ 64) = True := by simp [PyData.depth, PyData.depthAll]; omega
theorem words_len (t : Tree) : 1 ≤ t.words.length ∧ t.words.length < 2 ^ (t.depth + 1) := by
  induction t with
  | col c => simp [Tree.words, Tree.depth]
  | part p a b iha ihb =>
    have e1 : 2 ^ (a.depth + 1) ≤ 2 ^ (max a.depth b.depth + 1) := Nat.pow_le_pow_right (by omega) (by omega)
    have e2 : 2 ^ (b.depth + 1) ≤ 2 ^ (max a.depth b.depth + 1) := Nat.pow_le_pow_right (by omega) (by omega)
    simp only [Tree.words, Tree.depth, List.length_cons, List.length_append]
    rw [Nat.pow_succ 2 (max a.depth b.depth + 1)]
    omega
  | piece q c t ih =>
    have : 1 ≤ 2 ^ t.depth := Nat.one_le_two_pow
    simp only [Tree.words, Tree.depth, List.length_cons]
    rw [Nat.pow_succ 2 (t.depth + 1)]
    rw [Nat.pow_succ] at ih ⊢
    omega
theorem law_saying {ns : List Int} : ∀ (k deep w h : Nat) (x : M) (rest : Mem), deep < k → deep ≤ 10 → Side w → Side h → RowOk ns x →
    ∃ (t : Tree) (x' : M), RowOk ns x' ∧ t.Fit w h ∧ t.depth ≤ deep ∧ m__law_saying k [.m 0, .d (encS w h), .d (.int deep)] (x :: rest) = .ok (.d (strsD t.words)) (x' :: rest) := by
  intro k
  induction k with
  | zero => intro deep w h x rest hk; omega
  | succ k ih =>
    intro deep w h x rest hk hd hw hh hx
    obtain ⟨r1, x1, hx1, h11, h12, e1⟩ := taken (rest := rest) hx (n := 9) (by omega) (by omega)
    have hc : compGo (gNm 3) (bVal (eCall m__law_fits (aCons (eVar 1) (aCons (eVar 3) aNil)))) (eVar 3) [some (.m 0), some (.d (encS w h)), some (.d (.int deep)), none, none, none, none] (seven.map fun x => PyData.str x.s) [] (x :: rest) =
        .ok ((seven.filter fun y => fitW y w h).map fun x => PyData.str x.s) (x :: rest) := by
      rw [comp_filter (g := fun x : Wrd => PyData.str x.s) (p := fun y => fitW y w h) seven []]
      · rfl
      · decide
      · intro y _
        simp [law_fits y w h hw hh]
      · intro y _
        simp
    have hs : (seven.map fun x => PyData.str x.s) = [.str "party", .str "cut", .str "quartered", .str "pillar", .str "band", .str "head", .str "edge"] := rfl
    rw [hs] at hc
    generalize hl : (seven.filter fun y => fitW y w h) = ys at hc
    have hcl : PyData.canLayAll0 (ys.map fun x => PyData.str x.s) = true := by
      have := canLay_strs (ys.map Wrd.s) (fun v hv => by
        obtain ⟨y, _, rfl⟩ := List.mem_map.mp hv
        exact y.ok)
      rw [List.map_map] at this
      exact this
    have hy : ∀ y ∈ ys, fitW y w h = true := fun y hy => by
      rw [← hl] at hy
      exact (List.mem_filter.mp hy).2
    have hy7 : ys.length ≤ 7 := by
      rw [← hl]
      exact List.length_filter_le _ _
    unfold m__law_saying
    have hnil : PyData.eqv (.list (ys.map fun x => PyData.str x.s)) (.list []) = decide (ys = []) := by
      rw [eqv_nil]
      simp
    have hmin : min (PyData.list (ys.map fun x => PyData.str x.s)).depth (PyData.list []).depth ≤ 64 := by
      rw [min_depth0]
      trivial
    have hA : sAsg (eComp (iSeq (eTup (aCons (eC (.str "party")) (aCons (eC (.str "cut")) (aCons (eC (.str "quartered")) (aCons (eC (.str "pillar")) (aCons (eC (.str "band")) (aCons (eC (.str "head")) (aCons (eC (.str "edge")) aNil))))))))) (gNm 3) (bVal (eCall m__law_fits (aCons (eVar 1) (aCons (eVar 3) aNil)))) (eVar 3) [3]) (gNm 4)
        [some (.m 0), some (.d (encS w h)), some (.d (.int deep)), none, none, none, none] (x :: rest) = .nx [some (.m 0), some (.d (encS w h)), some (.d (.int deep)), none, some (.d (.list (ys.map fun x => PyData.str x.s))), none, none] (x :: rest) :=
      asg_of (comp_of (xs := [.str "party", .str "cut", .str "quartered", .str "pillar", .str "band", .str "head", .str "edge"]) (μ1 := x :: rest) (by simp) hc) rfl
    have hB : sAsg (eCall m__law_taken (aCons (eVar 0) (aCons (eC (.int 9)) aNil))) (gNm 5) [some (.m 0), some (.d (encS w h)), some (.d (.int deep)), none, some (.d (.list (ys.map fun x => PyData.str x.s))), none, none] (x :: rest) =
        .nx [some (.m 0), some (.d (encS w h)), some (.d (.int deep)), none, some (.d (.list (ys.map fun x => PyData.str x.s))), some (.d (.int r1)), none] (x1 :: rest) := by simp [e1]
    have hC : bOr (bVal (eOp fEq (eVar 2) (eC (.int 0)))) (bOr (bVal (eOp fEq (eVar 4) (eLst aNil))) (bVal (eOp fLt (eVar 5) (eC (.int 2))))) [some (.m 0), some (.d (encS w h)), some (.d (.int deep)), none, some (.d (.list (ys.map fun x => PyData.str x.s))), some (.d (.int r1)), none] (x1 :: rest) =
        .ok (decide (deep = 0 ∨ ys = [] ∨ r1 < 2)) (x1 :: rest) := by
      simp [PyData.canLay0, hcl, hnil, hmin, PyData.canLayAll0]
    by_cases hb : deep = 0 ∨ ys = [] ∨ r1 < 2
    · obtain ⟨c, x2, hx2, e2⟩ := law_colour (rest := rest) hx1
      refine ⟨.col c, x2, hx2, trivial, by simp [Tree.depth], ?_⟩
      refine call_rt (ρ0 := [some (.m 0), some (.d (encS w h)), some (.d (.int deep)), none, none, none, none]) (μ' := x2 :: rest) rfl rfl ?_ (by simp)
      refine seq_nx hA (seq_nx hB (seq_rt (if_yes (hC.trans (by rw [decide_eq_true hb])) (ret_of ?_))))
      simp [e2, Tree.words, strsD]
    · have hyl : 0 < ys.length := by
        cases ys with
        | nil => exact absurd (.inr (.inl rfl)) hb
        | cons _ _ => simp
      obtain ⟨r2, x2, hx2, h21, h22, e2⟩ := taken (rest := rest) hx1 (n := ys.length) (by omega) (by omega)
      obtain ⟨n2, rfl⟩ := Int.eq_ofNat_of_zero_le h21
      have hn2 : n2 < ys.length := by omega
      obtain ⟨y, hyn⟩ : ∃ y, ys[n2]? = some y := ⟨ys[n2], List.getElem?_eq_getElem hn2⟩
      have hfy : fitW y w h = true := hy y (List.mem_of_getElem? hyn)
      have hD : sAsg (eOp fIx (eVar 4) (eCall m__law_taken (aCons (eVar 0) (aCons (eCB bLen (aCons (eVar 4) aNil)) aNil)))) (gNm 3) [some (.m 0), some (.d (encS w h)), some (.d (.int deep)), none, some (.d (.list (ys.map fun x => PyData.str x.s))), some (.d (.int r1)), none] (x1 :: rest) =
          .nx [some (.m 0), some (.d (encS w h)), some (.d (.int deep)), some (.d (.str y.s)), some (.d (.list (ys.map fun x => PyData.str x.s))), some (.d (.int r1)), none] (x2 :: rest) := by
        simp [e2, hyn]
      obtain ⟨d, rfl⟩ : ∃ d, deep = d + 1 := ⟨deep - 1, by omega⟩
      have hdd : ((d + 1 : Nat) : Int) - 1 = (d : Int) := by omega
      cases y with
      | inl p =>
        have hw' := hw.pW hfy (h := h)
        have hh' := hh.pH hfy (w := w)
        obtain ⟨t1, x3, hx3, f3, d3, e3⟩ := ih d (pW p w) (pH p h) x2 rest (by omega) (by omega) hw' hh' hx2
        obtain ⟨t2, x4, hx4, f4, d4, e4⟩ := ih d (pW p w) (pH p h) x3 rest (by omega) (by omega) hw' hh' hx3
        refine ⟨.part p t1 t2, x4, hx4, ⟨hfy, f3, f4⟩, by simp [Tree.depth]; omega, ?_⟩
        have l1 := words_len t1
        have l2 := words_len t2
        have b1 : 2 ^ (t1.depth + 1) ≤ 2 ^ 11 := Nat.pow_le_pow_right (by omega) (by omega)
        have b2 : 2 ^ (t2.depth + 1) ≤ 2 ^ 11 := Nat.pow_le_pow_right (by omega) (by omega)
        refine call_rt (ρ0 := [some (.m 0), some (.d (encS w h)), some (.d (.int (d + 1 : Nat))), none, none, none, none]) (μ' := x4 :: rest) rfl rfl ?_ (by simp)
        refine seq_nx hA (seq_nx hB (seq_nx (if_no (hC.trans (by rw [decide_eq_false hb])) rfl) (seq_nx hD (seq_rt (if_yes (μ1 := x2 :: rest) ?_ (seq_nx (asg_of (s := .d (encS (pW p w) (pH p h))) (μ1 := x2 :: rest) ?_ rfl) (ret_of ?_)))))))
        · cases p <;> simp (config := {decide := true}) [Wrd.s, Prt.s, inD, PyData.eqv]
        · simp [Wrd.s, law_part]
        · have z1 : 1 + t1.words.length ≤ 1000000 := by omega
          have z2 : t1.words.length + 1 + t2.words.length ≤ 1000000 := by omega
          simp [e3, e4, Tree.words, strsD, Wrd.s, z1, z2]
      | inr q =>
        obtain ⟨c, x3, hx3, e3⟩ := law_colour (rest := rest) hx2
        obtain ⟨t1, x4, hx4, f4, d4, e4⟩ := ih d w h x3 rest (by omega) (by omega) hw hh hx3
        refine ⟨.piece q c t1, x4, hx4, ⟨hfy, f4⟩, by simp [Tree.depth]; omega, ?_⟩
        have l1 := words_len t1
        have b1 : 2 ^ (t1.depth + 1) ≤ 2 ^ 11 := Nat.pow_le_pow_right (by omega) (by omega)
        refine call_rt (ρ0 := [some (.m 0), some (.d (encS w h)), some (.d (.int (d + 1 : Nat))), none, none, none, none]) (μ' := x4 :: rest) rfl rfl ?_ (by simp)
        refine seq_nx hA (seq_nx hB (seq_nx (if_no (hC.trans (by rw [decide_eq_false hb])) rfl) (seq_nx hD (seq_nx (if_no (μ1 := x2 :: rest) ?_ rfl) (ret_of ?_)))))
        · cases q <;> simp (config := {decide := true}) [Wrd.s, Pc.s, inD, PyData.eqv]
        · have z1 : 2 + t1.words.length ≤ 1000000 := by omega
          simp [e3, e4, Tree.words, strsD, Wrd.s, z1]
end Bz
set_option Elab.async false
set_option linter.all false
set_option maxRecDepth 100000
set_option maxHeartbeats 1000000
/-! Plain: the program's own reading of sayings. -/
namespace Bz
open PySem
theorem need_size_ok (w h : Nat) (hw : Side w) (hh : Side h) (μ : Mem) : m_need_size [.d (encS w h)] μ = .ok (.d .none) μ := by
  rcases hw with rfl | rfl | rfl | rfl <;> rcases hh with rfl | rfl | rfl | rfl <;> simp [m_need_size, callD, encS, c_SIDES, inD, PyData.eqv]
theorem prog_fitsP (p : Prt) (w h : Nat) (μ : Mem) : m_fits [.d (encS w h), .d (.str p.s)] μ = .ok (.d (.bool (fitP p w h))) μ := by
  cases p <;> simp (config := {decide := true}) [m_fits, callD, encS, Prt.s, fitP, inD, PyData.eqv]
theorem prog_fitsQ (p : Pc) (w h : Nat) (μ : Mem) : m_fits [.d (encS w h), .d (.str p.s)] μ = .ok (.d (.bool (fitQ p w h))) μ := by
  cases p <;> simp (config := {decide := true}) [m_fits, callD, encS, Pc.s, fitQ, inD, PyData.eqv]
theorem prog_part (p : Prt) (w h : Nat) (μ : Mem) : m_part_of [.d (encS w h), .d (.str p.s)] μ = .ok (.d (encS (pW p w) (pH p h))) μ := by
  cases p <;> simp (config := {decide := true}) [m_part_of, callD, encS, Prt.s, pW, pH]
/-- what is told of the tree of a saying that begins at a place -/
def encT : Nat → Tree → PyData
  | n, .col c => .tuple [.str c.s, .int n, .str c.s, .tuple []]
  | n, .part p a b => .tuple [.str p.s, .int n, .str "", .tuple [encT (n + 1) a, encT (n + 1 + a.words.length) b]]
  | n, .piece q c t => .tuple [.str q.s, .int n, .str c.s, .tuple [encT (n + 2) t]]
/-- the words us stand at a place, white ones behind the end -/
def Sees (ws : List Str) (n : Nat) (us : List Str) : Prop := ∀ i (h : i < us.length), (ws[n + i]?).getD "white" = us[i]
theorem Sees.head {ws : List Str} {n : Nat} {u : Str} {us : List Str} (h : Sees ws n (u :: us)) : (ws[n]?).getD "white" = u := h 0 (by simp)
theorem Sees.tail {ws : List Str} {n : Nat} {u : Str} {us : List Str} (h : Sees ws n (u :: us)) : Sees ws (n + 1) us := fun i hi => by
  have := h (i + 1) (by simp; omega)
  rw [show n + 1 + i = n + (i + 1) by omega]
  simpa using this
theorem Sees.left {ws : List Str} {n : Nat} {us vs : List Str} (h : Sees ws n (us ++ vs)) : Sees ws n us := fun i hi => by
  have := h i (by simp; omega)
  rw [List.getElem_append_left hi] at this
  exact this
theorem Sees.right {ws : List Str} {n : Nat} {us vs : List Str} (h : Sees ws n (us ++ vs)) : Sees ws (n + us.length) vs := fun i hi => by
  have := h (us.length + i) (by simp; omega)
  rw [List.getElem_append_right (by omega)] at this
  rw [Nat.add_assoc]
  simpa using this
theorem word_at {ws : List Str} {n : Nat} {ρ : Env} {μ : Mem} {i j : Nat} (hi : ρ[i]? = some (some (.d (strsD ws)))) (hj : ρ[j]? = some (some (.d (.int n)))) :
    eIf (bVal (eOp fLt (eVar j) (eCB bLen (aCons (eVar i) aNil)))) (eOp fIx (eVar i) (eVar j)) (eC (.str "white")) ρ μ = .ok (.d (.str ((ws[n]?).getD "white"))) μ := by
  by_cases h : n < ws.length
  · simp [hi, hj, strsD, h]
  · simp [hi, hj, strsD, h]
theorem word_at1 {ws : List Str} {n : Nat} {ρ : Env} {μ : Mem} {i j : Nat} (hi : ρ[i]? = some (some (.d (strsD ws)))) (hj : ρ[j]? = some (some (.d (.int n)))) :
    eIf (bVal (eOp fLt (eOp fAdd (eVar j) (eC (.int 1))) (eCB bLen (aCons (eVar i) aNil)))) (eOp fIx (eVar i) (eOp fAdd (eVar j) (eC (.int 1)))) (eC (.str "white")) ρ μ = .ok (.d (.str ((ws[n + 1]?).getD "white"))) μ := by
  have e : (n : Int) + 1 = ((n + 1 : Nat) : Int) := by omega
  by_cases h : n + 1 < ws.length
  · simp [hi, hj, strsD, e, h, -Int.natCast_add]
  · simp [hi, hj, strsD, e, h, -Int.natCast_add]
theorem tree_at_ok {ws : List Str} : ∀ (t : Tree) (k n w h : Nat) (μ : Mem), t.depth < k → t.Fit w h → Sees ws n t.words →
    m_tree_at k [.d (encS w h), .d (strsD ws), .d (.int n)] μ = .ok (.d (.tuple [encT n t, .int ((n + t.words.length : Nat) : Int)])) μ := by
  intro t
  induction t with
  | col c =>
    intro k n w h μ hk hf hs
    obtain ⟨k, rfl⟩ : ∃ j, k = j + 1 := ⟨k - 1, by omega⟩
    have hw := hs.head
    unfold m_tree_at
    refine call_rt (ρ0 := [some (.d (encS w h)), some (.d (strsD ws)), some (.d (.int n)), none, none, none, none, none]) rfl rfl ?_ List.take_length
    refine seq_nx (asg_of (word_at rfl rfl) rfl) ?_
    rw [hw]
    refine seq_rt (if_yes (μ1 := μ) ?_ (ret_of ?_))
    · cases c <;> simp (config := {decide := true}) [Col.s, c_COLOURS, inD, PyData.eqv]
    · simp [encT, Tree.words]
  | part p a b iha ihb =>
    intro k n w h μ hk hf hs
    simp only [Tree.depth] at hk
    obtain ⟨k, rfl⟩ : ∃ j, k = j + 1 := ⟨k - 1, by omega⟩
    have hw := hs.head
    have hs2 := hs.tail
    have ea := iha k (n + 1) (pW p w) (pH p h) μ (by omega) hf.2.1 hs2.left
    have eb := ihb k (n + 1 + a.words.length) (pW p w) (pH p h) μ (by omega) hf.2.2 hs2.right
    unfold m_tree_at
    refine call_rt (ρ0 := [some (.d (encS w h)), some (.d (strsD ws)), some (.d (.int n)), none, none, none, none, none]) rfl rfl ?_ List.take_length
    refine seq_nx (asg_of (word_at rfl rfl) rfl) ?_
    rw [hw]
    refine seq_nx (if_no (μ1 := μ) ?_ rfl) (seq_nx (if_no (μ1 := μ) ?_ rfl) (seq_rt (if_yes (μ1 := μ) ?_ ?_)))
    · cases p <;> simp (config := {decide := true}) [Prt.s, c_COLOURS, inD, PyData.eqv]
    · have := prog_fitsP p w h μ
      rw [hf.1] at this
      cases p <;> simp (config := {decide := true}) [Prt.s, c_PARTS, c_PIECES, inD, PyData.eqv] at this ⊢ <;> simp [this]
    · cases p <;> simp (config := {decide := true}) [Prt.s, c_PARTS, inD, PyData.eqv]
    · simp at ea eb
      simp [prog_part, ea, eb, encT, Tree.words]
      omega
  | piece q c t ih =>
    intro k n w h μ hk hf hs
    simp only [Tree.depth] at hk
    obtain ⟨k, rfl⟩ : ∃ j, k = j + 1 := ⟨k - 1, by omega⟩
    have hw := hs.head
    have hs2 := hs.tail
    have hc := hs2.head
    have et := ih k (n + 2) w h μ (by omega) hf.2 hs2.tail
    unfold m_tree_at
    refine call_rt (ρ0 := [some (.d (encS w h)), some (.d (strsD ws)), some (.d (.int n)), none, none, none, none, none]) rfl rfl ?_ List.take_length
    refine seq_nx (asg_of (word_at rfl rfl) rfl) ?_
    rw [hw]
    refine seq_nx (if_no (μ1 := μ) ?_ rfl) (seq_nx (if_no (μ1 := μ) ?_ rfl) (seq_nx (if_no (μ1 := μ) ?_ rfl) (seq_nx (asg_of (word_at1 rfl rfl) rfl) ?_)))
    · cases q <;> simp (config := {decide := true}) [Pc.s, c_COLOURS, inD, PyData.eqv]
    · have := prog_fitsQ q w h μ
      rw [hf.1] at this
      cases q <;> simp (config := {decide := true}) [Pc.s, c_PARTS, c_PIECES, inD, PyData.eqv] at this ⊢ <;> simp [this]
    · cases q <;> simp (config := {decide := true}) [Pc.s, c_PARTS, inD, PyData.eqv]
    · rw [hc]
      refine seq_nx (if_no (μ1 := μ) ?_ rfl) ?_
      · cases c <;> simp (config := {decide := true}) [Col.s, c_COLOURS, inD, PyData.eqv]
      · simp at et
        simp [et, encT, Tree.words]
        omega
end Bz
set_option Elab.async false
set_option linter.all false
set_option maxRecDepth 100000
set_option maxHeartbeats 1000000
/-! Plain: trees, words, drawings. -/
namespace Bz
open PySem
theorem tree_of_ok {ws : List Str} (t : Tree) (w h : Nat) (μ : Mem) (hw : Side w) (hh : Side h) (hd : t.depth < 90) (hf : t.Fit w h) (hs : Sees ws 0 t.words) (hl : ws.length ≤ t.words.length) :
    m_tree_of [.d (encS w h), .d (strsD ws)] μ = .ok (.d (encT 0 t)) μ := by
  have e := tree_at_ok t 90 0 w h μ hd hf hs
  have hlt : ¬ (t.words.length < ws.length) := by omega
  have hlen : bLen [strsD ws] = some (.int ws.length) := by simp [strsD]
  unfold m_tree_of
  refine call_rt (ρ0 := [some (.d (encS w h)), some (.d (strsD ws)), none, none]) rfl rfl ?_ List.take_length
  refine seq_nx (drop_of (s := .d .none) (μ1 := μ) (by simp [need_size_ok w h hw hh])) (seq_nx (ρ1 := [some (.d (encS w h)), some (.d (strsD ws)), some (.d (encT 0 t)), some (.d (.int t.words.length))]) (μ1 := μ) ?_ (seq_nx (if_no (μ1 := μ) ?_ rfl) (ret_of ?_)))
  · simp at e
    simp [e]
  · simp [strsD, hlt]
  · simp
/-! words -/
theorem words_of_ok : ∀ (t : Tree) (k n : Nat) (μ : Mem), t.depth < k → t.words.length ≤ 100000 → m_words_of k [.d (encT n t)] μ = .ok (.d (strsD t.words)) μ := by
  intro t
  induction t with
  | col c =>
    intro k n μ hk hl
    obtain ⟨k, rfl⟩ : ∃ j, k = j + 1 := ⟨k - 1, by omega⟩
    cases c <;> simp (config := {decide := true}) [m_words_of, callD, encT, Col.s, c_PIECES, inD, PyData.eqv, Tree.words, strsD]
  | part p a b iha ihb =>
    intro k n μ hk hl
    simp only [Tree.depth] at hk
    simp only [Tree.words, List.length_cons, List.length_append] at hl
    obtain ⟨k, rfl⟩ : ∃ j, k = j + 1 := ⟨k - 1, by omega⟩
    have ea := iha k (n + 1) μ (by omega) (by omega)
    have eb := ihb k (n + 1 + a.words.length) μ (by omega) (by omega)
    have z1 : 1 + a.words.length ≤ 1000000 := by omega
    have z2 : a.words.length + 1 + b.words.length ≤ 1000000 := by omega
    cases p <;> simp (config := {decide := true}) [m_words_of, callD, encT, Prt.s, c_PIECES, inD, PyData.eqv, Tree.words, strsD, ea, eb, z1, z2]
  | piece q c t ih =>
    intro k n μ hk hl
    simp only [Tree.depth] at hk
    simp only [Tree.words, List.length_cons] at hl
    obtain ⟨k, rfl⟩ : ∃ j, k = j + 1 := ⟨k - 1, by omega⟩
    have et := ih k (n + 2) μ (by omega) (by omega)
    have z1 : 2 + t.words.length ≤ 1000000 := by omega
    cases q <;> simp (config := {decide := true}) [m_words_of, callD, encT, Pc.s, c_PIECES, inD, PyData.eqv, Tree.words, strsD, et, z1]
theorem is_own_ok (q : Pc) (w h r k : Nat) (μ : Mem) (hr : r < h) (hk : k < w) : m_is_own [.d (encS w h), .d (.str q.s), .d (.int r), .d (.int k)] μ = .ok (.d (.bool (own q w h r k))) μ := by
  have e1 : ((w : Int) - w / 4) = ((w - w / 4 : Nat) : Int) := by omega
  have e2 : ((h : Int) - h / 4) = ((h - h / 4 : Nat) : Int) := by omega
  have e3 : ((w : Int) / 4) = ((w / 4 : Nat) : Int) := by omega
  have e4 : ((h : Int) / 4) = ((h / 4 : Nat) : Int) := by omega
  cases q with
  | pillar => by_cases h1 : w / 4 ≤ k <;> simp (config := {decide := true}) [m_is_own, callD, encS, Pc.s, own, inD, PyData.eqv, h1, e1, e3, -Int.natCast_ediv] <;> omega
  | band => by_cases h1 : h / 4 ≤ r <;> simp (config := {decide := true}) [m_is_own, callD, encS, Pc.s, own, inD, PyData.eqv, h1, e2, e4, -Int.natCast_ediv] <;> omega
  | head => simp (config := {decide := true}) [m_is_own, callD, encS, Pc.s, own, inD, PyData.eqv, e4, -Int.natCast_ediv]
  | edge =>
    simp (config := {decide := true}) [m_is_own, callD, encS, Pc.s, own, inD, PyData.eqv]
    rw [Bool.eq_iff_iff]
    simp
    omega
theorem law_is_own_ok (q : Pc) (w h r k : Nat) (μ : Mem) (hw : Side w) (hh : Side h) (hf : fitQ q w h = true) (hr : r < h) (hk : k < w) : m__law_is_own [.d (encS w h), .d (.str q.s), .d (.int r), .d (.int k)] μ = .ok (.d (.bool (own q w h r k))) μ := by
  cases q <;> simp (config := {decide := true}) [m__law_is_own, callD, encS, Pc.s, own, min4]
  all_goals first | (rw [Bool.eq_iff_iff]; simp; unfold Side at hw hh; simp [fitQ] at hf; omega) | (unfold Side at hw hh; simp [fitQ] at hf; omega)
theorem range_congr {n : Nat} {f g : Nat → PyData} (h : ∀ i, i < n → f i = g i) : (List.range n).map f = (List.range n).map g :=
  List.map_congr_left fun i hi => h i (List.mem_range.mp hi)
theorem rowD_congr {w : Nat} {f g : Nat → Col} (h : ∀ k, k < w → f k = g k) : rowD w f = rowD w g := by
  unfold rowD
  rw [range_congr fun i hi => by rw [h i hi]]
theorem rowsL_congr {w h : Nat} {f g : Nat → Nat → Col} (e : ∀ r, r < h → ∀ k, k < w → f r k = g r k) : rowsL w h f = rowsL w h g :=
  range_congr fun r hr => rowD_congr (e r hr)
theorem encM_congr {w h : Nat} {f g : Nat → Nat → Col} (e : ∀ r, r < h → ∀ k, k < w → f r k = g r k) : encM w h f = encM w h g := by
  unfold encM
  rw [rowsL_congr e]
theorem map_range_add {n m : Nat} {f : Nat → PyData} : (List.range n).map f ++ (List.range m).map (fun i => f (n + i)) = (List.range (n + m)).map f := by
  rw [List.range_add, List.map_append, List.map_map]
  rfl
theorem rowsL_add {w h1 h2 : Nat} {f g : Nat → Nat → Col} : rowsL w h1 f ++ rowsL w h2 g = rowsL w (h1 + h2) fun r k => if r < h1 then f r k else g (r - h1) k := by
  unfold rowsL
  rw [← map_range_add]
  congr 1
  · exact range_congr fun r hr => rowD_congr fun k _ => by simp [hr]
  · exact range_congr fun r hr => rowD_congr fun k _ => by simp [show ¬ (h1 + r < h1) by omega]
theorem rowD_add {w1 w2 : Nat} {f g : Nat → Col} : fAdd (rowD w1 f) (rowD w2 g) = if w1 + w2 ≤ 1000000 then some (rowD (w1 + w2) fun k => if k < w1 then f k else g (k - w1)) else none := by
  simp only [rowD, fAdd, List.length_map, List.length_range, small, decide_eq_true_eq]
  split
  · rw [← map_range_add]
    congr 3
    · exact range_congr fun r hr => by simp [hr]
    · exact range_congr fun r hr => by simp [show ¬ (w1 + r < w1) by omega]
  · rfl
/-- a comprehension that looks at each item -/
theorem comp_map {α : Type} {gt : DG} {ρ' : α → Env} {e : DE} {ρ : Env} {g f : α → PyData} {μ : Mem} (xs : List α) : ∀ acc : List PyData, acc.length + xs.length ≤ 1000000 → (∀ x ∈ xs, gt (.d (g x)) ρ = some (ρ' x)) → (∀ x ∈ xs, e (ρ' x) μ = .ok (.d (f x)) μ) →
    compGo gt bYes e ρ (xs.map g) acc μ = .ok (acc ++ xs.map f) μ := by
  induction xs with
  | nil => intro acc _ _ _; simp
  | cons x xs ih =>
    intro acc hl hg he
    simp only [List.length_cons] at hl
    simp only [List.map_cons, compGo, hg x (by simp), bYes, R.bindN, if_true, he x (by simp)]
    rw [if_pos (by simp; omega), ih (acc ++ [f x]) (by simp; omega) (fun y hy => hg y (by simp [hy])) (fun y hy => he y (by simp [hy]))]
    simp
theorem upFrom0 (n : Nat) : upFrom 0 n = (List.range n).map fun (i : Nat) => PyData.int (i : Int) := by
  simp [upFrom]
theorem zip_rows {w1 w2 h : Nat} {f g : Nat → Nat → Col} : zipD (rowsL w1 h f) (rowsL w2 h g) = (List.range h).map fun r => PyData.tuple [rowD w1 (f r), rowD w2 (g r)] := by
  unfold rowsL
  induction (List.range h) with
  | nil => rfl
  | cons x xs ih => simp [ih]
/-- a loop over many, told turn by turn -/
theorem for_ix {g : DG} {b : DS} {n : Nat} {f : Nat → PyData} (I : Nat → Env → Mem → Prop) {ρ : Env} {μ : Mem} (h0 : I 0 ρ μ) (hs : ∀ j, j < n → ∀ ρ μ, I j ρ μ → ∃ ρ1 ρ2 μ2, g (.d (f j)) ρ = some ρ1 ∧ b ρ1 μ = .nx ρ2 μ2 ∧ I (j + 1) ρ2 μ2) : ∃ ρ' μ', forGo g b ((List.range n).map f) ρ μ = .nx ρ' μ' ∧ I n ρ' μ' := by
  suffices H : ∀ m j, j + m = n → ∀ ρ μ, I j ρ μ → ∃ ρ' μ', forGo g b ((List.range' j m).map f) ρ μ = .nx ρ' μ' ∧ I n ρ' μ' by
    rw [List.range_eq_range']
    exact H n 0 (by omega) ρ μ h0
  intro m
  induction m with
  | zero => intro j hj ρ μ h; obtain rfl : j = n := by omega
            exact ⟨ρ, μ, rfl, h⟩
  | succ m ih =>
    intro j hj ρ μ h
    obtain ⟨ρ1, ρ2, μ2, h1, h2, h3⟩ := hs j (by omega) ρ μ h
    obtain ⟨ρ', μ', h4, h5⟩ := ih (j + 1) (by omega) ρ2 μ2 h3
    refine ⟨ρ', μ', ?_, h5⟩
    simp only [List.range'_succ, List.map_cons, forGo, h1, h2]
    exact h4
end Bz
set_option Elab.async false
set_option linter.all false
set_option maxRecDepth 100000
set_option maxHeartbeats 1000000
/-! Plain: the program's drawings. -/
namespace Bz
open PySem
theorem op_of {f : PyData → PyData → Option PyData} {a b : DE} {ρ : Env} {μ μ1 μ2 : Mem} {u v z : PyData} (h1 : a ρ μ = .ok (.d u) μ1) (h2 : b ρ μ1 = .ok (.d v) μ2) (h3 : f u v = some z) : eOp f a b ρ μ = .ok (.d z) μ2 := by
  unfold eOp
  simp only [h1, h2, R.bind, rd, h3, R.of]
theorem prog_partI (p : Prt) (w h : Nat) (μ : Mem) : m_part_of [.d (encS w h), .d (.str p.s)] μ = .ok (.d (encS (pW p w) (pH p h))) μ := prog_part p w h μ
theorem flat_rep {n : Nat} {x : PyData} : (List.replicate n [x]).flatten = (List.range n).map fun _ => x := by
  induction n with
  | zero => rfl
  | succ n ih => rw [List.range_succ_eq_map, List.map_cons, List.map_map, List.replicate_succ, List.flatten_cons, ih]; rfl
theorem encM_const (w h : Nat) (c : Col) : encM w h (fun _ _ => c) = .tuple (List.replicate h (.tuple (List.replicate w (.str c.s)))) := by
  simp [encM, rowsL, rowD, List.map_const']
theorem Str.ok_nil : PyData.strOk "" = true := by decide +kernel
theorem canLay_encT : ∀ (t : Tree) (n : Nat), (encT n t).canLay0 = true := by
  intro t
  induction t with
  | col c => intro n; simp [encT, PyData.canLay0, PyData.canLayAll0]
  | part p a b iha ihb => intro n; simp [encT, PyData.canLay0, PyData.canLayAll0, iha, ihb, Str.ok_nil]
  | piece q c t ih => intro n; simp [encT, PyData.canLay0, PyData.canLayAll0, ih]
abbrev gapD (w h n : Nat) (t : Tree) : Env := [some (.d (encS w h)), some (.d (encT n t)), none, none, none, none, none, none, none, none, none, none, none, none, none, none, none]
abbrev partD (w h n : Nat) (p : Prt) (a b : Tree) (x y z : Option S) : Env := [some (.d (encS w h)), some (.d (encT n (.part p a b))), some (.d (.str p.s)), some (.d (.int n)), some (.d (.str "")), some (.d (.tuple [encT (n + 1) a, encT (n + 1 + a.words.length) b])), none, none, none, none, x, y, z, none, none, none, none]
abbrev pcD (w h n : Nat) (q : Pc) (c : Col) (t : Tree) (x y z : Option S) : Env := [some (.d (encS w h)), some (.d (encT n (.piece q c t))), some (.d (.str q.s)), some (.d (.int n)), some (.d (.str c.s)), some (.d (.tuple [encT (n + 2) t])), some (.d (encM w h (cell t w h))), x, y, z, none, none, none, none, none, none, none]
theorem comp_zip {w1 w2 h : Nat} {f g : Nat → Nat → Col} {ρ : Env} {μ : Mem} (hr : ρ.length = 17) (h1 : h ≤ 8) (h2 : w1 + w2 ≤ 1000000) : compGo (gTp [gNm 14, gNm 15]) bYes (eOp fAdd (eVar 14) (eVar 15)) ρ (zipD (rowsL w1 h f) (rowsL w2 h g)) [] μ = .ok (rowsL (w1 + w2) h fun r k => if k < w1 then f r k else g r (k - w1)) μ := by
  rw [zip_rows, comp_map (ρ' := fun r => (ρ.set 14 (some (.d (rowD w1 (f r))))).set 15 (some (.d (rowD w2 (g r))))) (f := fun r => rowD (w1 + w2) fun k => if k < w1 then f r k else g r (k - w1))]
  · rfl
  · simp; omega
  · intro x _; rfl
  · intro x _
    have e1 : ((ρ.set 14 (some (S.d (rowD w1 (f x))))).set 15 (some (S.d (rowD w2 (g x)))))[14]? = some (some (S.d (rowD w1 (f x)))) := by
      simp [List.getElem?_set, hr]
    have e2 : ((ρ.set 14 (some (S.d (rowD w1 (f x))))).set 15 (some (S.d (rowD w2 (g x)))))[15]? = some (some (S.d (rowD w2 (g x)))) := by
      simp [List.getElem?_set, hr]
    simp only [eOp, eVar, e1, e2, R.bind, rd, rowD_add, if_pos h2, R.of]
theorem encM_add {w h1 h2 : Nat} {f g : Nat → Nat → Col} (h : h1 + h2 ≤ 1000000) : fAdd (encM w h1 f) (encM w h2 g) = some (encM w (h1 + h2) fun r k => if r < h1 then f r k else g (r - h1) k) := by
  unfold encM
  rw [← rowsL_add]
  simp [rowsL, h]
theorem tup_zip {w1 w2 h i j : Nat} {f g : Nat → Nat → Col} {ρ : Env} {μ : Mem} (hi : ρ[i]? = some (some (.d (encM w1 h f)))) (hj : ρ[j]? = some (some (.d (encM w2 h g)))) (hr : ρ.length = 17) (h1 : h ≤ 8) (h2 : w1 + w2 ≤ 1000000) : eCB bTup (aCons (eComp (iZip (aCons (eVar i) (aCons (eVar j) aNil))) (gTp [(gNm 14), (gNm 15)]) bYes (eOp fAdd (eVar 14) (eVar 15)) [14, 15]) aNil) ρ μ = .ok (.d (encM (w1 + w2) h fun r k => if k < w1 then f r k else g r (k - w1))) μ := by
  have h3 : eComp (iZip (aCons (eVar i) (aCons (eVar j) aNil))) (gTp [(gNm 14), (gNm 15)]) bYes (eOp fAdd (eVar 14) (eVar 15)) [14, 15] ρ μ = .ok (.d (.list (rowsL (w1 + w2) h fun r k => if k < w1 then f r k else g r (k - w1)))) μ :=
    comp_of (xs := zipD (rowsL w1 h f) (rowsL w2 h g)) (μ1 := μ) (by simp only [iZip, aCons, aNil, eVar, hi, hj, R.bind, encM]) (comp_zip (by simp [hr]) h1 h2)
  simp only [eCB, aCons, aNil, h3, R.bind, rdL, rd, bTup, R.of, encM]
theorem drawing_ok : ∀ (t : Tree) (k n w h : Nat) (μ : Mem), t.depth < k → t.Fit w h → Side w → Side h →
    m_drawing_of k [.d (encS w h), .d (encT n t)] μ = .ok (.d (encM w h (cell t w h))) μ := by
  intro t
  induction t with
  | col c =>
    intro k n w h μ hk hf hw hh
    obtain ⟨k, rfl⟩ : ∃ j, k = j + 1 := ⟨k - 1, by omega⟩
    have l1 := hw.le
    have l2 := hh.le
    unfold m_drawing_of
    refine call_rt (ρ0 := gapD w h n (.col c)) rfl rfl ?_ List.take_length
    refine seq_nx (asg_of rfl rfl) (seq_rt (if_yes (μ1 := μ) ?_ (ret_of ?_)))
    · simp [PyData.eqv, PyData.eqvAll, PyData.canLay0, PyData.canLayAll0, PyData.depth, PyData.depthAll]
    · simp [encS, show (w : Int) ≤ 1000 by omega, show (h : Int) ≤ 1000 by omega]
      exact (encM_const w h c).symm
  | part p a b iha ihb =>
    intro k n w h μ hk hf hw hh
    simp only [Tree.depth] at hk
    obtain ⟨k, rfl⟩ : ∃ j, k = j + 1 := ⟨k - 1, by omega⟩
    have hw' := hw.pW hf.1 (h := h)
    have hh' := hh.pH hf.1 (w := w)
    have l1 := hw.le
    have l2 := hh.le
    have ea := iha k (n + 1) (pW p w) (pH p h) μ (by omega) hf.2.1 hw' hh'
    have eb := ihb k (n + 1 + a.words.length) (pW p w) (pH p h) μ (by omega) hf.2.2 hw' hh'
    unfold m_drawing_of
    refine call_rt (ρ0 := gapD w h n (.part p a b)) rfl rfl ?_ List.take_length
    refine seq_nx (asg_of rfl rfl) (seq_nx (if_no (μ1 := μ) ?_ rfl) (seq_nx (if_no (μ1 := μ) ?_ rfl) (seq_nx (ρ1 := partD w h n p a b (some (.d (encM (pW p w) (pH p h) (cell a (pW p w) (pH p h))))) (some (.d (encM (pW p w) (pH p h) (cell b (pW p w) (pH p h))))) none) (μ1 := μ) ?_ ?_)))
    · simp [PyData.eqv, PyData.eqvAll, PyData.canLay0, PyData.canLayAll0, PyData.depth, PyData.depthAll, canLay_encT]
    · cases p <;> simp (config := {decide := true}) [Prt.s, c_PIECES, inD, PyData.eqv]
    · simp [prog_part, ea, eb]
    · cases p with
      | cut =>
        refine seq_rt (if_yes (μ1 := μ) (by simp (config := {decide := true}) [Prt.s]) (ret_of ?_))
        have e2 := (hh.half (by simpa [fitP] using hf.1)).2
        have e3 : h / 2 + h / 2 = h := by omega
        simp only [eOp, eVar, partD, List.getElem?_cons_succ, List.getElem?_cons_zero, R.bind, rd, pW, pH]
        rw [encM_add (by omega), e3]
        rfl
      | party =>
        have e2 := (hw.half (by simpa [fitP] using hf.1)).2
        have e3 : w / 2 + w / 2 = w := by omega
        refine seq_nx (if_no (μ1 := μ) (by simp (config := {decide := true}) [Prt.s]) rfl) (seq_nx (asg_of (tup_zip (w1 := w / 2) (w2 := w / 2) (h := h) rfl rfl rfl l2 (by omega)) rfl) (seq_rt (if_yes (μ1 := μ) (by simp (config := {decide := true}) [Prt.s]) (ret_of ?_))))
        rw [e3]
        rfl
      | quartered =>
        have hf1 := hf.1
        simp [fitP] at hf1
        have e2 := (hw.half hf1.1).2
        have e4 := (hh.half hf1.2).2
        have e3 : w / 2 + w / 2 = w := by omega
        have e5 : h / 2 + h / 2 = h := by omega
        refine seq_nx (if_no (μ1 := μ) (by simp (config := {decide := true}) [Prt.s]) rfl) (seq_nx (asg_of (tup_zip (w1 := w / 2) (w2 := w / 2) (h := h / 2) rfl rfl rfl (by omega) (by omega)) rfl) (seq_nx (if_no (μ1 := μ) (by simp (config := {decide := true}) [Prt.s]) rfl) (ret_of ?_)))
        refine op_of (u := encM (w / 2 + w / 2) (h / 2) _) rfl (tup_zip (w1 := w / 2) (w2 := w / 2) (h := h / 2) (f := cell b (w / 2) (h / 2)) (g := cell a (w / 2) (h / 2)) rfl rfl rfl (by omega) (by omega)) ((encM_add (by omega)).trans ?_)
        rw [e3, e5]
        rfl
  | piece q c t ih =>
    intro k n w h μ hk hf hw hh
    simp only [Tree.depth] at hk
    obtain ⟨k, rfl⟩ : ∃ j, k = j + 1 := ⟨k - 1, by omega⟩
    have l1 := hw.le
    have l2 := hh.le
    have et := ih k (n + 2) w h μ (by omega) hf.2 hw hh
    unfold m_drawing_of
    have hloop := for_ix (g := gNm 8) (n := h) (f := fun i => PyData.int (i : Int)) (b := (sSeq (sAsg (eComp (iRng1 (aCons (eOp fIx (eVar 0) (eC (.int 0))) aNil)) (gNm 16) bYes (eIf (bVal (eCall m_is_own (aCons (eVar 0) (aCons (eVar 2) (aCons (eVar 8) (aCons (eVar 16) aNil)))))) (eVar 4) (eOp fIx (eOp fIx (eVar 6) (eVar 8)) (eVar 16))) [16]) (gNm 9))
  (sDrop (eApp (eVar 7) (eCB bTup (aCons (eVar 9) aNil)))))) (ρ := pcD w h n q c t (some (.m μ.length)) none none) (μ := μ ++ [.lst []])
      (fun j ρ μ1 => ∃ x y, ρ = pcD w h n q c t (some (.m μ.length)) x y ∧ μ1 = μ ++ [.lst ((List.range j).map fun r => rowD w (cell (.piece q c t) w h r))]) ⟨none, none, rfl, rfl⟩ (by
        rintro j hj ρ μ1 ⟨x, y, rfl, rfl⟩
        have hjc : (j : Int) = ((j : Nat) : Int) := rfl
        have hc : compGo (gNm 16) bYes (eIf (bVal (eCall m_is_own (aCons (eVar 0) (aCons (eVar 2) (aCons (eVar 8) (aCons (eVar 16) aNil)))))) (eVar 4) (eOp fIx (eOp fIx (eVar 6) (eVar 8)) (eVar 16))) (wipeD (pcD w h n q c t (some (.m μ.length)) (some (.d (.int j))) y) [16]) ((List.range w).map fun (i : Nat) => PyData.int (i : Int)) [] (μ ++ [.lst ((List.range j).map fun r => rowD w (cell (.piece q c t) w h r))]) =
            .ok ((List.range w).map fun k => .str (cell (.piece q c t) w h j k).s) (μ ++ [.lst ((List.range j).map fun r => rowD w (cell (.piece q c t) w h r))]) := by
          generalize (μ ++ [M.lst ((List.range j).map fun r => rowD w (cell (.piece q c t) w h r))]) = ν
          rw [comp_map (ρ' := fun (k : Nat) => (pcD w h n q c t (some (.m μ.length)) (some (.d (.int j))) y).set 16 (some (.d (.int k)))) (f := fun (k : Nat) => .str (cell (.piece q c t) w h j k).s)]
          · rfl
          · simp; omega
          · intro k _; rfl
          · intro k hk
            have hk' := List.mem_range.mp hk
            have hown := is_own_ok q w h j k ν hj hk'
            cases ho : own q w h j k with
            | true =>
              rw [ho] at hown
              simp [hown, cell, ho]
            | false =>
              rw [ho] at hown
              simp [hown, cell, ho, encM, rowsL, rowD, hj, hk']
        refine ⟨pcD w h n q c t (some (.m μ.length)) (some (.d (.int j))) y, pcD w h n q c t (some (.m μ.length)) (some (.d (.int j))) (some (.d (.list ((List.range w).map fun k => .str (cell (.piece q c t) w h j k).s)))), μ ++ [.lst ((List.range (j + 1)).map fun r => rowD w (cell (.piece q c t) w h r))], rfl, ?_, ⟨_, _, rfl, rfl⟩⟩
        refine seq_nx (asg_of (comp_of (xs := (List.range w).map fun (i : Nat) => PyData.int (i : Int)) (μ1 := μ ++ [.lst ((List.range j).map fun r => rowD w (cell (.piece q c t) w h r))]) ?_ hc) rfl) ?_
        · simp [encS, lim, upFrom0, show (w : Int) ≤ 1000000000000 by omega, show (-1000000000000 : Int) ≤ w by omega]
        · simp [rowD, List.range_succ, show j ≤ 1000000 by omega])
    obtain ⟨ρ', μ', hl, x, y, rfl, rfl⟩ := hloop
    refine call_rt (ρ0 := gapD w h n (.piece q c t)) (μ' := μ ++ [.lst (rowsL w h (cell (.piece q c t) w h))]) rfl rfl ?_ (by simp)
    refine seq_nx (asg_of rfl rfl) (seq_nx (if_no (μ1 := μ) ?_ rfl) (seq_rt (if_yes (μ1 := μ) ?_ (seq_nx (ρ1 := pcD w h n q c t none none none) (μ1 := μ) ?_ (seq_nx (ρ1 := pcD w h n q c t (some (.m μ.length)) none none) (μ1 := μ ++ [.lst []]) rfl (seq_nx (for_of (xs := (List.range h).map fun (i : Nat) => PyData.int (i : Int)) (μ1 := μ ++ [.lst []]) ?_ hl) (ret_of ?_)))))))
    · simp [PyData.eqv, PyData.eqvAll, PyData.canLay0, PyData.canLayAll0, PyData.depth, PyData.depthAll, canLay_encT]
    · cases q <;> simp (config := {decide := true}) [Pc.s, c_PIECES, inD, PyData.eqv]
    · simp [et]
    · simp [encS, lim, upFrom0, show (h : Int) ≤ 1000000000000 by omega, show (-1000000000000 : Int) ≤ h by omega]
    · simp [encM, rowsL]
end Bz
set_option Elab.async false
set_option linter.all false
set_option maxRecDepth 100000
set_option maxHeartbeats 1000000
/-! Plain: equality of drawings and sayings; sizes; outcomes. -/
namespace Bz
open PySem
/-! ### equality -/
theorem eqvAll_map {α : Type} {a b : α → PyData} (xs : List α) : PyData.eqvAll (xs.map a) (xs.map b) = xs.all fun x => PyData.eqv (a x) (b x) := by
  induction xs with
  | nil => rfl
  | cons x xs ih => simp [PyData.eqvAll, ih]
def sameM (w h : Nat) (f g : Nat → Nat → Col) : Bool := (List.range h).all fun r => (List.range w).all fun k => decide ((f r k).s = (g r k).s)
theorem eqv_encM (w h : Nat) (f g : Nat → Nat → Col) : PyData.eqv (encM w h f) (encM w h g) = sameM w h f g := by
  simp only [encM, rowsL, rowD, PyData.eqv, eqvAll_map, sameM]
  rfl
theorem canLay_all {α : Type} {a : α → PyData} (xs : List α) (h : ∀ x ∈ xs, (a x).canLay0 = true) : PyData.canLayAll0 (xs.map a) = true := by
  induction xs with
  | nil => rfl
  | cons x xs ih => simp [PyData.canLayAll0, h x (by simp), ih fun y hy => h y (by simp [hy])]
theorem depth_all {α : Type} {a : α → PyData} {n : Nat} (xs : List α) (h : ∀ x ∈ xs, (a x).depth ≤ n) : PyData.depthAll (xs.map a) ≤ n := by
  induction xs with
  | nil => simp [PyData.depthAll]
  | cons x xs ih =>
    have h1 := h x (by simp)
    have h2 := ih fun y hy => h y (by simp [hy])
    simp only [List.map_cons, PyData.depthAll]
    omega
theorem canLay_rowD (w : Nat) (f : Nat → Col) : (rowD w f).canLay0 = true := by
  simp only [rowD, PyData.canLay0]
  exact canLay_all _ fun k _ => by simp [PyData.canLay0]
theorem canLay_encM (w h : Nat) (f : Nat → Nat → Col) : (encM w h f).canLay0 = true := by
  simp only [encM, rowsL, PyData.canLay0]
  exact canLay_all _ fun r _ => canLay_rowD w (f r)
theorem depth_rowD (w : Nat) (f : Nat → Col) : (rowD w f).depth ≤ 2 := by
  have := depth_all (a := fun k => PyData.str (f k).s) (n := 1) (List.range w) fun k _ => by simp [PyData.depth]
  simp only [rowD, PyData.depth]
  omega
theorem depth_encM (w h : Nat) (f : Nat → Nat → Col) : (encM w h f).depth ≤ 3 := by
  have := depth_all (a := fun r => rowD w (f r)) (n := 2) (List.range h) fun r _ => depth_rowD w (f r)
  simp only [encM, rowsL, PyData.depth]
  omega
theorem eq_encM (w h : Nat) (f g : Nat → Nat → Col) : fEq (encM w h f) (encM w h g) = some (.bool (sameM w h f g)) := by
  have h1 : eqD2 (encM w h f) (encM w h g) = some (sameM w h f g) := by
    have h2 : scalD (encM w h f) (encM w h g) = none := rfl
    have h3 : min (encM w h f).depth (encM w h g).depth ≤ 64 := by have := depth_encM w h f; omega
    simp only [eqD2, h2, canLay_encM, eqv_encM, h3, Bool.and_self, decide_true, if_true]
  simp only [fEq, h1, Option.map]
theorem ne_encM (w h : Nat) (f g : Nat → Nat → Col) : fNe (encM w h f) (encM w h g) = some (.bool (!sameM w h f g)) := by
  have h1 : eqD2 (encM w h f) (encM w h g) = some (sameM w h f g) := by
    have h2 : scalD (encM w h f) (encM w h g) = none := rfl
    have h3 : min (encM w h f).depth (encM w h g).depth ≤ 64 := by have := depth_encM w h f; omega
    simp only [eqD2, h2, canLay_encM, eqv_encM, h3, Bool.and_self, decide_true, if_true]
  simp only [fNe, h1, Option.map]
theorem sameM_of {w h : Nat} {f g : Nat → Nat → Col} (e : ∀ r, r < h → ∀ k, k < w → f r k = g r k) : sameM w h f g = true := by
  unfold sameM
  rw [List.all_eq_true]
  intro r hr
  rw [List.all_eq_true]
  intro k hk
  rw [e r (List.mem_range.mp hr) k (List.mem_range.mp hk)]
  simp
theorem eqv_strs (ws vs : List Str) : PyData.eqv (strsD ws) (strsD vs) = decide (ws = vs) := by
  simp only [strsD, PyData.eqv]
  induction ws generalizing vs with
  | nil => cases vs <;> simp [PyData.eqvAll]
  | cons w ws ih =>
    cases vs with
    | nil => simp [PyData.eqvAll]
    | cons v vs =>
      simp only [List.map_cons, PyData.eqvAll, ih, PyData.eqv]
      by_cases h1 : w = v <;> by_cases h2 : ws = vs <;> simp [h1, h2]
theorem canLay_strsD {ws : List Str} (h : ∀ w ∈ ws, PyData.strOk w = true) : (strsD ws).canLay0 = true := by
  simp only [strsD, PyData.canLay0]
  exact canLay_strs ws h
theorem depth_strsD (ws : List Str) : (strsD ws).depth ≤ 2 := by
  have := depth_all (a := PyData.str) (n := 1) ws fun k _ => by simp [PyData.depth]
  simp only [strsD, PyData.depth]
  omega
theorem eqD_strs {ws vs : List Str} (h1 : ∀ w ∈ ws, PyData.strOk w = true) (h2 : ∀ w ∈ vs, PyData.strOk w = true) : eqD2 (strsD ws) (strsD vs) = some (decide (ws = vs)) := by
  have h3 : scalD (strsD ws) (strsD vs) = none := rfl
  have h4 : min (strsD ws).depth (strsD vs).depth ≤ 64 := by have := depth_strsD ws; omega
  simp only [eqD2, h3, canLay_strsD h1, canLay_strsD h2, eqv_strs, h4, Bool.and_self, decide_true, if_true]
theorem Tree.wordsOk (t : Tree) : ∀ w ∈ t.words, PyData.strOk w = true := by
  induction t with
  | col c => simp [Tree.words]
  | part p a b iha ihb =>
    intro w hw
    simp only [Tree.words, List.mem_cons, List.mem_append] at hw
    rcases hw with rfl | hw | hw
    · exact p.ok
    · exact iha w hw
    · exact ihb w hw
  | piece q c t ih =>
    intro w hw
    simp only [Tree.words, List.mem_cons] at hw
    rcases hw with rfl | rfl | hw
    · exact q.ok
    · exact c.ok
    · exact ih w hw
theorem Sees.self (ws : List Str) : Sees ws 0 ws := fun i h => by simp [List.getElem?_eq_getElem h]
/-! ### the program's answers -/
theorem drawn_of {ws : List Str} (t : Tree) (w h : Nat) (μ : Mem) (hw : Side w) (hh : Side h) (hd : t.depth < 90) (hf : t.Fit w h) (hs : Sees ws 0 t.words) (hl : ws.length ≤ t.words.length) :
    m_drawn [.d (encS w h), .d (strsD ws)] μ = .ok (.d (encM w h (cell t w h))) μ := by
  unfold m_drawn
  refine call_rt (ρ0 := [some (.d (encS w h)), some (.d (strsD ws))]) rfl rfl (ret_of ?_) List.take_length
  simp [tree_of_ok t w h μ hw hh hd hf hs hl, drawing_ok t 90 0 w h μ hd hf hw hh]
theorem drawn_self (t : Tree) (w h : Nat) (μ : Mem) (hw : Side w) (hh : Side h) (hd : t.depth < 90) (hf : t.Fit w h) :
    m_drawn [.d (encS w h), .d (strsD t.words)] μ = .ok (.d (encM w h (cell t w h))) μ := drawn_of t w h μ hw hh hd hf (.self _) (Nat.le_refl _)
theorem filled_of {ws : List Str} (t : Tree) (w h : Nat) (μ : Mem) (hw : Side w) (hh : Side h) (hd : t.depth < 90) (hf : t.Fit w h) (hs : Sees ws 0 t.words) (hl : ws.length ≤ t.words.length) (hl2 : t.words.length ≤ 100000) :
    m_filled [.d (encS w h), .d (strsD ws)] μ = .ok (.d (strsD t.words)) μ := by
  unfold m_filled
  refine call_rt (ρ0 := [some (.d (encS w h)), some (.d (strsD ws))]) rfl rfl (ret_of ?_) List.take_length
  simp [tree_of_ok t w h μ hw hh hd hf hs hl, words_of_ok t 90 0 μ hd hl2]
theorem alike_of {ws vs : List Str} {f g : Nat → Nat → Col} {w h : Nat} {μ : Mem} (h1 : m_drawn [.d (encS w h), .d (strsD ws)] μ = .ok (.d (encM w h f)) μ) (h2 : m_drawn [.d (encS w h), .d (strsD vs)] μ = .ok (.d (encM w h g)) μ) :
    m_alike [.d (encS w h), .d (strsD ws), .d (strsD vs)] μ = .ok (.d (.bool (sameM w h f g))) μ := by
  unfold m_alike
  refine call_rt (ρ0 := [some (.d (encS w h)), some (.d (strsD ws)), some (.d (strsD vs))]) rfl rfl (ret_of ?_) List.take_length
  exact op_of (u := encM w h f) (v := encM w h g) (μ1 := μ) (by simp [h1]) (by simp [h2]) (eq_encM w h f g)
/-! ### sizes -/
theorem law_size {ns : List Int} {x : M} {rest : Mem} (h : RowOk ns x) (most : Nat) (hm : most = 1 ∨ most = 2 ∨ most = 4 ∨ most = 8) : ∃ (w h : Nat) (x' : M), RowOk ns x' ∧ Side w ∧ Side h ∧ w ≤ most ∧ h ≤ most ∧ m__law_size [.m 0, .d (.int most)] (x :: rest) = .ok (.d (encS w h)) (x' :: rest) := by
  have hc : compGo (gNm 3) (bVal (eOp fLe (eVar 3) (eVar 1))) (eVar 3) [some (.m 0), some (.d (.int most)), none, none] ([4, 8, 4, 2, 8, 1].map fun (k : Nat) => PyData.int (k : Int)) [] (x :: rest) =
      .ok (([4, 8, 4, 2, 8, 1].filter fun (k : Nat) => decide (k ≤ most)).map fun (k : Nat) => PyData.int (k : Int)) (x :: rest) := by
    rw [comp_filter (p := fun k => decide (k ≤ most))]
    · rfl
    · decide
    · intro y _
      simp
    · intro y _
      simp
  generalize hl : ([4, 8, 4, 2, 8, 1].filter fun (k : Nat) => decide (k ≤ most)) = ys at hc
  have hy : ∀ y ∈ ys, Side y ∧ y ≤ most := fun y hy => by
    rw [← hl] at hy
    have := List.mem_filter.mp hy
    simp at this
    unfold Side
    omega
  have hy0 : 0 < ys.length ∧ ys.length ≤ 6 := by
    rw [← hl]
    rcases hm with rfl | rfl | rfl | rfl <;> decide
  obtain ⟨r1, x1, hx1, h11, h12, e1⟩ := taken (rest := rest) h (n := ys.length) (by omega) (by omega)
  obtain ⟨r2, x2, hx2, h21, h22, e2⟩ := taken (rest := rest) hx1 (n := ys.length) (by omega) (by omega)
  obtain ⟨n1, rfl⟩ := Int.eq_ofNat_of_zero_le h11
  obtain ⟨n2, rfl⟩ := Int.eq_ofNat_of_zero_le h21
  have hn1 : n1 < ys.length := by omega
  have hn2 : n2 < ys.length := by omega
  obtain ⟨y1, hy1⟩ : ∃ y, ys[n1]? = some y := ⟨ys[n1], List.getElem?_eq_getElem hn1⟩
  obtain ⟨y2, hy2⟩ : ∃ y, ys[n2]? = some y := ⟨ys[n2], List.getElem?_eq_getElem hn2⟩
  have q1 := hy y1 (List.mem_of_getElem? hy1)
  have q2 := hy y2 (List.mem_of_getElem? hy2)
  refine ⟨y1, y2, x2, hx2, q1.1, q2.1, q1.2, q2.2, ?_⟩
  unfold m__law_size
  refine call_rt (ρ0 := [some (.m 0), some (.d (.int most)), none, none]) (μ' := x2 :: rest) rfl rfl ?_ (by simp)
  refine seq_nx (ρ1 := [some (.m 0), some (.d (.int most)), some (.d (.list (ys.map fun (k : Nat) => PyData.int (k : Int)))), none]) (μ1 := x :: rest) (asg_of (comp_of (xs := [4, 8, 4, 2, 8, 1].map fun (k : Nat) => PyData.int (k : Int)) (μ1 := x :: rest) (by simp) hc) rfl) (ret_of ?_)
  simp [e1, e2, hy1, hy2, encS]
/-! ### outcomes -/
def NX (I : Env → Mem → Prop) (o : Out) : Prop := ∃ ρ μ, o = .nx ρ μ ∧ I ρ μ
def TR (o : Out) : Prop := ∃ μ, o = .rt (.d (.bool true)) μ
theorem q_seq {Q : Out → Prop} {a b : DS} {ρ ρ1 : Env} {μ μ1 : Mem} (h1 : a ρ μ = .nx ρ1 μ1) (h2 : Q (b ρ1 μ1)) : Q (sSeq a b ρ μ) := by
  unfold sSeq
  rw [h1]
  exact h2
theorem q_seqI {Q : Out → Prop} {a b : DS} {ρ : Env} {μ : Mem} (I : Env → Mem → Prop) (h1 : NX I (a ρ μ)) (h2 : ∀ ρ1 μ1, I ρ1 μ1 → Q (b ρ1 μ1)) : Q (sSeq a b ρ μ) := by
  obtain ⟨ρ1, μ1, e, hi⟩ := h1
  exact q_seq e (h2 ρ1 μ1 hi)
theorem q_yes {Q : Out → Prop} {t : DT} {a b : DS} {ρ : Env} {μ μ1 : Mem} (h1 : t ρ μ = .ok true μ1) (h2 : Q (a ρ μ1)) : Q (sIf t a b ρ μ) := by
  rw [if_yes h1 rfl]
  exact h2
theorem q_no {Q : Out → Prop} {t : DT} {a b : DS} {ρ : Env} {μ μ1 : Mem} (h1 : t ρ μ = .ok false μ1) (h2 : Q (b ρ μ1)) : Q (sIf t a b ρ μ) := by
  rw [if_no h1 rfl]
  exact h2
/-- a test that fails, then the rest -/
theorem q_skip {Q : Out → Prop} {t : DT} {a b : DS} {ρ : Env} {μ μ1 : Mem} (h1 : t ρ μ = .ok false μ1) (h2 : Q (b ρ μ1)) : Q (sSeq (sIf t a sNx) b ρ μ) := q_seq (if_no h1 rfl) h2
theorem q_nx {I : Env → Mem → Prop} {ρ : Env} {μ : Mem} (h : I ρ μ) : NX I (sNx ρ μ) := ⟨ρ, μ, rfl, h⟩
theorem q_asg {I : Env → Mem → Prop} {e : DE} {g : DG} {ρ ρ1 : Env} {μ μ1 : Mem} {s : S} (h1 : e ρ μ = .ok s μ1) (h2 : g s ρ = some ρ1) (h : I ρ1 μ1) : NX I (sAsg e g ρ μ) := ⟨ρ1, μ1, asg_of h1 h2, h⟩
theorem q_for {it : DI} {g : DG} {b : DS} {ρ : Env} {μ μ1 : Mem} {xs : List PyData} (I : Env → Mem → Prop) (h1 : it ρ μ = .ok xs μ1) (h2 : I ρ μ1) (h3 : ∀ x ∈ xs, ∀ ρ μ, I ρ μ → ∃ ρ1, g (.d x) ρ = some ρ1 ∧ NX I (b ρ1 μ)) : NX I (sFor it g b ρ μ) := by
  have := for_inv (g := g) (b := b) I xs ρ μ1 h2 fun x hx ρ μ hi => by
    obtain ⟨ρ1, e, ρ2, μ2, e2, hi2⟩ := h3 x hx ρ μ hi
    exact ⟨ρ1, ρ2, μ2, e, e2, hi2⟩
  obtain ⟨ρ', μ', e, hi⟩ := this
  exact ⟨ρ', μ', for_of h1 e, hi⟩
theorem q_ret {e : DE} {ρ : Env} {μ μ1 : Mem} (h : e ρ μ = .ok (.d (.bool true)) μ1) : TR (sRet e ρ μ) := ⟨μ1, ret_of h⟩
theorem call_TR {np n : Nat} {b : DS} {args : List S} {ρ0 : Env} (hl : args.length = np) (hρ : args.map some ++ List.replicate (n - np) none = ρ0) (h : TR (b ρ0 [])) : callD np n b args [] = .ok (.d (.bool true)) [] := by
  obtain ⟨μ', e⟩ := h
  exact call_rt hl hρ e rfl
theorem call2_of {F : Fn} {a b : DE} {ρ : Env} {μ μ1 μ2 : Mem} {s1 s2 : S} {r : R S} (h1 : a ρ μ = .ok s1 μ1) (h2 : b ρ μ1 = .ok s2 μ2) (h3 : F [s1, s2] μ2 = r) : eCall F (aCons a (aCons b aNil)) ρ μ = r := by
  simp only [eCall, aCons, aNil, h1, h2, R.bind, h3]
theorem call3_of {F : Fn} {a b c : DE} {ρ : Env} {μ μ1 μ2 μ3 : Mem} {s1 s2 s3 : S} {r : R S} (h1 : a ρ μ = .ok s1 μ1) (h2 : b ρ μ1 = .ok s2 μ2) (h3 : c ρ μ2 = .ok s3 μ3) (h4 : F [s1, s2, s3] μ3 = r) : eCall F (aCons a (aCons b (aCons c aNil))) ρ μ = r := by
  simp only [eCall, aCons, aNil, h1, h2, h3, R.bind, h4]
theorem val_of {e : DE} {ρ : Env} {μ μ1 : Mem} {c : Bool} (h : e ρ μ = .ok (.d (.bool c)) μ1) : bVal e ρ μ = .ok c μ1 := by
  simp only [bVal, h, R.bind]
theorem not_of {t : DT} {ρ : Env} {μ μ1 : Mem} {c : Bool} (h : t ρ μ = .ok c μ1) : bNot t ρ μ = .ok (!c) μ1 := by
  simp only [bNot, h, R.bind]
theorem mem_up {x : PyData} {n : Nat} (h : x ∈ upFrom 0 n) : ∃ i : Nat, i < n ∧ x = .int i := by
  rw [upFrom0] at h
  obtain ⟨i, hi, rfl⟩ := List.mem_map.mp h
  exact ⟨i, List.mem_range.mp hi, rfl⟩
theorem rng_of {as : DA} {ρ : Env} {μ μ1 : Mem} {n : Nat} (h : as ρ μ = .ok [.d (.int n)] μ1) (hn : n ≤ 1000) : iRng1 as ρ μ = .ok (upFrom 0 n) μ1 := by
  have e : (-lim ≤ (n : Int) ∧ (n : Int) ≤ lim) = True := by unfold lim; simp; omega
  simp only [iRng1, h, R.bind, e, decide_true, if_true, Int.toNat_natCast]
theorem ix_encM {w h r : Nat} {f : Nat → Nat → Col} (hr : r < h) : fIx (encM w h f) (.int r) = some (rowD w (f r)) := by
  simp [encM, rowsL, hr]
theorem ix_rowD {w k : Nat} {f : Nat → Col} (hk : k < w) : fIx (rowD w f) (.int k) = some (.str (f k).s) := by
  simp [rowD, hk]
theorem add_strs {us vs : List Str} (h : us.length + vs.length ≤ 1000000) : fAdd (strsD us) (strsD vs) = some (strsD (us ++ vs)) := by
  simp [strsD, h]
theorem cb1_of {f : DF} {a : DE} {ρ : Env} {μ μ1 : Mem} {x z : PyData} (h1 : a ρ μ = .ok (.d x) μ1) (h2 : f [x] = some z) : eCB f (aCons a aNil) ρ μ = .ok (.d z) μ1 := by
  simp only [eCB, aCons, aNil, h1, R.bind, rdL, rd, h2, R.of]
theorem app_of {i h : Nat} {e : DE} {ρ : Env} {μ : Mem} {x : PyData} {xs : List PyData} (h1 : ρ[i]? = some (some (.m h))) (h2 : μ[h]? = some (.lst xs)) (h3 : e ρ μ = .ok (.d x) μ) (h4 : xs.length ≤ 1000000) : eApp (eVar i) e ρ μ = .ok (.d .none) (μ.set h (.lst (xs ++ [x]))) := by
  simp only [eApp, eVar, h1, R.bind, h2, h3, small, h4, decide_true, if_true]
theorem cons_of {a : DE} {r : DA} {ρ : Env} {μ μ1 μ2 : Mem} {s : S} {ss : List S} (h1 : a ρ μ = .ok s μ1) (h2 : r ρ μ1 = .ok ss μ2) : aCons a r ρ μ = .ok (s :: ss) μ2 := by
  simp only [aCons, h1, h2, R.bind]
theorem tup_of {as : DA} {ρ : Env} {μ μ1 : Mem} {ss : List S} {xs : List PyData} (h1 : as ρ μ = .ok ss μ1) (h2 : pureL ss = some xs) (h3 : xs.length ≤ 1000000) : eTup as ρ μ = .ok (.d (.tuple xs)) μ1 := by
  simp only [eTup, h1, R.bind, h2, small, h3, decide_true, if_true]
theorem lst_of {as : DA} {ρ : Env} {μ μ1 : Mem} {ss : List S} {xs : List PyData} (h1 : as ρ μ = .ok ss μ1) (h2 : pureL ss = some xs) (h3 : xs.length ≤ 1000000) : eLst as ρ μ = .ok (.d (.list xs)) μ1 := by
  simp only [eLst, h1, R.bind, h2, small, h3, decide_true, if_true]
theorem call_of {F : Fn} {as : DA} {ρ : Env} {μ μ1 : Mem} {ss : List S} {r : R S} (h1 : as ρ μ = .ok ss μ1) (h2 : F ss μ1 = r) : eCall F as ρ μ = r := by
  simp only [eCall, h1, R.bind, h2]
end Bz
set_option Elab.async false
set_option linter.all false
set_option maxRecDepth 100000
set_option maxHeartbeats 1000000
/-! Plain: the laws' own look at sayings, word by word. -/
namespace Bz
open PySem
/-! ### steps -/
theorem wh_step {t : DT} {b : DS} {n : Nat} {ρ ρ2 : Env} {μ μ1 μ2 : Mem} {o : Out} (h1 : t ρ μ = .ok true μ1) (h2 : b ρ μ1 = .nx ρ2 μ2) (h3 : whGo t b n ρ2 μ2 = o) : whGo t b (n + 1) ρ μ = o := by
  unfold whGo
  simp only [h1, R.out, if_true, h2]
  exact h3
theorem wh_rt {t : DT} {b : DS} {n : Nat} {ρ : Env} {μ μ1 μ2 : Mem} {s : S} (h1 : t ρ μ = .ok true μ1) (h2 : b ρ μ1 = .rt s μ2) : whGo t b (n + 1) ρ μ = .rt s μ2 := by
  unfold whGo
  simp only [h1, R.out, if_true, h2]
theorem wh_end {t : DT} {b : DS} {n : Nat} {ρ : Env} {μ μ1 : Mem} (h1 : t ρ μ = .ok false μ1) : whGo t b (n + 1) ρ μ = .nx ρ μ1 := by
  unfold whGo
  simp [h1]
/-! ### slices -/
theorem sIx_nat (n d m : Nat) : HT.sIx n d (some (m : Int)) = min m n := by
  unfold HT.sIx
  simp only
  rw [if_neg (by omega)]
  simp
theorem cut_run (xs : List PyData) (a b : Nat) : cutD xs (some (a : Int)) (some (b : Int)) = (xs.drop a).take (b - a) := by
  unfold cutD
  rw [sIx_nat, sIx_nat]
  by_cases h : a ≤ xs.length
  · rw [Nat.min_eq_left h]
    by_cases h2 : b ≤ xs.length
    · rw [Nat.min_eq_left h2]
    · rw [Nat.min_eq_right (show xs.length ≤ b by omega), List.take_of_length_le (by rw [List.length_drop]; omega), List.take_of_length_le (by rw [List.length_drop]; omega)]
  · rw [Nat.min_eq_right (show xs.length ≤ a by omega), List.drop_of_length_le (Nat.le_refl _), List.drop_of_length_le (show xs.length ≤ a by omega)]
    simp
theorem cut_to (xs : List PyData) (b : Nat) : cutD xs none (some (b : Int)) = xs.take b := by
  unfold cutD
  rw [sIx_nat]
  simp only [HT.sIx, List.drop_zero, Nat.sub_zero]
  by_cases h : b ≤ xs.length
  · rw [Nat.min_eq_left h]
  · rw [Nat.min_eq_right (show xs.length ≤ b by omega), List.take_of_length_le (Nat.le_refl _), List.take_of_length_le (show xs.length ≤ b by omega)]
theorem cut_from (xs : List PyData) (a : Nat) : cutD xs (some (a : Int)) none = xs.drop a := by
  unfold cutD
  rw [sIx_nat]
  simp only [HT.sIx]
  by_cases h : a ≤ xs.length
  · rw [Nat.min_eq_left h, List.take_of_length_le (by simp)]
  · rw [Nat.min_eq_right (show xs.length ≤ a by omega), List.drop_of_length_le (Nat.le_refl _), List.drop_of_length_le (show xs.length ≤ a by omega)]
    simp
theorem one_word (us : List Str) (n m : Nat) (hm : m = n + 1) (hl : us.length ≤ 1000) : (fAdd (.tuple (cutD (us.map PyData.str) (some (n : Int)) (some (m : Int)))) (.tuple [.str "white"])).bind (fun x => fIx x (.int 0)) = some (.str ((us[n]?).getD "white")) := by
  subst hm
  rw [cut_run, show n + 1 - n = 1 by omega]
  by_cases h : n < us.length
  · rw [List.drop_eq_getElem_cons (by simpa using h)]
    simp [h]
  · rw [List.drop_of_length_le (by simp; omega), List.getElem?_eq_none (by omega)]
    simp
theorem word_sl {us : List Str} {n m : Nat} {ρ : Env} {μ : Mem} {i : Nat} {lo hi : DE} (hi' : ρ[i]? = some (some (.d (strsD us)))) (h1 : lo ρ μ = .ok (.d (.int n)) μ) (h2 : hi ρ μ = .ok (.d (.int m)) μ) (hm : m = n + 1) (hl : us.length ≤ 1000) :
    eOp fIx (eOp fAdd (eSl (eVar i) (oYes lo) (oYes hi)) (eTup (aCons (eC (.str "white")) aNil))) (eC (.int 0)) ρ μ = .ok (.d (.str ((us[n]?).getD "white"))) μ := by
  have e := one_word us n m hm hl
  cases e1 : fAdd (.tuple (cutD (us.map PyData.str) (some (n : Int)) (some (m : Int)))) (.tuple [.str "white"]) with
  | none => rw [e1] at e; cases e
  | some x =>
    rw [e1] at e
    have e2 : fIx x (.int 0) = some (.str ((us[n]?).getD "white")) := e
    have e3 : eSl (eVar i) (oYes lo) (oYes hi) ρ μ = .ok (.d (.tuple (cutD (us.map PyData.str) (some (n : Int)) (some (m : Int))))) μ := by
      simp only [eSl, eVar, hi', oYes, h1, h2, R.bind, rd, strsD, fSl, R.of]
    have e4 : eOp fAdd (eSl (eVar i) (oYes lo) (oYes hi)) (eTup (aCons (eC (.str "white")) aNil)) ρ μ = .ok (.d x) μ := by
      unfold eOp
      rw [e3]
      simp only [R.bind, eTup, aCons, eC, aNil, pureL, List.length_cons, List.length_nil, small, rd]
      simp only [show decide (0 + 1 ≤ 1000000) = true by decide, if_true]
      rw [e1]
      rfl
    unfold eOp at e4 ⊢
    rw [e4]
    simp only [R.bind, eC, rd, e2, R.of]
/-! ### where words behind a saying begin -/
def wordsF (ts : List Tree) : List Str := (ts.map Tree.words).flatten
@[simp] theorem wordsF_nil : wordsF [] = [] := rfl
@[simp] theorem wordsF_cons (t : Tree) (ts : List Tree) : wordsF (t :: ts) = t.words ++ wordsF ts := rfl
abbrev behB : DS := (sSeq (sAsg (eOp fIx (eOp fAdd (eSl (eVar 0) (oYes (eVar 1)) (oYes (eOp fAdd (eVar 1) (eC (.int 1))))) (eTup (aCons (eC (.str "white")) aNil))) (eC (.int 0))) (gNm 3))
  (sSeq (sAsg (eOp fAdd (eOp fAdd (eVar 1) (eC (.int 1))) (eCB bInt (aCons (eOp fIn (eVar 3) (eTup (aCons (eC (.str "pillar")) (aCons (eC (.str "band")) (aCons (eC (.str "head")) (aCons (eC (.str "edge")) aNil)))))) aNil))) (gNm 1))
  (sSeq (sAsg (eOp fAdd (eOp fSub (eVar 2) (eC (.int 1))) (eCB bInt (aCons (eOp fIn (eVar 3) (eTup (aCons (eC (.str "pillar")) (aCons (eC (.str "band")) (aCons (eC (.str "head")) (aCons (eC (.str "edge")) aNil)))))) aNil))) (gNm 2))
  (sAsg (eOp fAdd (eVar 2) (eOp fMul (eC (.int 2)) (eCB bInt (aCons (eOp fIn (eVar 3) (eTup (aCons (eC (.str "party")) (aCons (eC (.str "cut")) (aCons (eC (.str "quartered")) aNil))))) aNil)))) (gNm 2)))))
theorem behind_loop {us : List Str} (hl : us.length ≤ 1000) (μ : Mem) : ∀ (fuel : Nat) (ts : List Tree) (n : Nat) (z : Option S), (wordsF ts).length < fuel → Sees us n (wordsF ts) →
    ∃ z', whGo (bVal (eOp fGt (eVar 2) (eC (.int 0)))) behB fuel [some (.d (strsD us)), some (.d (.int n)), some (.d (.int ts.length)), z] μ =
      .nx [some (.d (strsD us)), some (.d (.int ((n + (wordsF ts).length : Nat) : Int))), some (.d (.int 0)), z'] μ := by
  intro fuel
  induction fuel with
  | zero => intro ts n z h; omega
  | succ fuel ih =>
    intro ts n z hf hs
    cases ts with
    | nil => exact ⟨z, wh_end (by simp)⟩
    | cons t ts =>
      have hw1 : eOp fIx (eOp fAdd (eSl (eVar 0) (oYes (eVar 1)) (oYes (eOp fAdd (eVar 1) (eC (.int 1))))) (eTup (aCons (eC (.str "white")) aNil))) (eC (.int 0)) [some (.d (strsD us)), some (.d (.int n)), some (.d (.int ((t :: ts).length : Nat))), z] μ = .ok (.d (.str ((us[n]?).getD "white"))) μ :=
        word_sl (n := n) (m := n + 1) rfl rfl (by simp) rfl hl
      have hgo : bVal (eOp fGt (eVar 2) (eC (.int 0))) [some (.d (strsD us)), some (.d (.int n)), some (.d (.int ((t :: ts).length : Nat))), z] μ = .ok true μ := by
        simp
      cases t with
      | col c =>
        have e : (us[n]?).getD "white" = c.s := hs.head
        rw [e] at hw1
        have hs2 : Sees us (n + 1) (wordsF ts) := hs.tail
        obtain ⟨z', e'⟩ := ih ts (n + 1) (some (.d (.str c.s))) (by simp [Tree.words] at hf; omega) hs2
        refine ⟨z', wh_step hgo (seq_nx (asg_of hw1 rfl) ?_) (e'.trans ?_)⟩
        · cases c <;> simp (config := {decide := true}) [Col.s, inD, PyData.eqv] <;> omega
        · simp [Tree.words]; omega
      | part p a b =>
        have e : (us[n]?).getD "white" = p.s := hs.head
        rw [e] at hw1
        have hs2 : Sees us (n + 1) (wordsF (a :: b :: ts)) := by
          have := hs.tail
          simpa [Tree.words, List.append_assoc, wordsF] using this
        obtain ⟨z', e'⟩ := ih (a :: b :: ts) (n + 1) (some (.d (.str p.s))) (by simp [Tree.words] at hf ⊢; omega) hs2
        refine ⟨z', wh_step hgo (seq_nx (asg_of hw1 rfl) ?_) (e'.trans ?_)⟩
        · cases p <;> simp (config := {decide := true}) [Prt.s, inD, PyData.eqv] <;> omega
        · simp [Tree.words]; omega
      | piece q c t =>
        have e : (us[n]?).getD "white" = q.s := hs.head
        rw [e] at hw1
        have hs2 : Sees us (n + 2) (wordsF (t :: ts)) := hs.tail.tail
        obtain ⟨z', e'⟩ := ih (t :: ts) (n + 2) (some (.d (.str q.s))) (by simp [Tree.words] at hf ⊢; omega) hs2
        refine ⟨z', wh_step hgo (seq_nx (asg_of hw1 rfl) ?_) (e'.trans ?_)⟩
        · cases q <;> simp (config := {decide := true}) [Pc.s, inD, PyData.eqv] <;> omega
        · simp [Tree.words]; omega
theorem behind_ok {us : List Str} (hl : us.length ≤ 1000) (t : Tree) (n : Nat) (μ : Mem) (hw : t.words.length < 1000) (hs : Sees us n t.words) :
    m__law_behind [.d (strsD us), .d (.int n)] μ = .ok (.d (.int ((n + t.words.length : Nat) : Int))) μ := by
  obtain ⟨z', e⟩ := behind_loop hl μ 1000 [t] n none (by simp; omega) (by simpa using hs)
  unfold m__law_behind
  refine call_rt (ρ0 := [some (.d (strsD us)), some (.d (.int n)), none, none]) rfl rfl ?_ List.take_length
  refine seq_nx (asg_of rfl rfl) (seq_nx e (ret_of ?_))
  simp
end Bz
set_option Elab.async false
set_option linter.all false
set_option maxRecDepth 100000
set_option maxHeartbeats 1000000
/-! The shortest sayings of a patch: orders, coverings, ways; no program in sight. -/
namespace Bz
open PySem
/-! ### order of words -/
def ltS (a b : Str) : Prop := a.cps.toList < b.cps.toList
theorem Str.ext_cps {a b : Str} (h : a.cps.toList = b.cps.toList) : a = b := by
  cases a; cases b
  simpa using h
theorem ltS_irrefl (a : Str) : ¬ ltS a a := List.lt_irrefl _
theorem ltS_trans {a b c : Str} (h : ltS a b) (h' : ltS b c) : ltS a c := List.lt_trans h h'
theorem ltS_tri {a b : Str} (h : a ≠ b) : ltS a b ∨ ltS b a := by
  by_cases h1 : ltS a b
  · exact .inl h1
  · by_cases h2 : ltS b a
    · exact .inr h2
    · exact absurd (Str.ext_cps (List.le_antisymm (List.not_lt.mp h2) (List.not_lt.mp h1))) h
theorem ltS_asymm {a b : Str} (h : ltS a b) : ¬ ltS b a := fun h' => ltS_irrefl _ (ltS_trans h h')
/-- as tuples of texts stand -/
def leL : List Str → List Str → Prop
  | [], _ => True
  | _ :: _, [] => False
  | a :: as, b :: bs => ltS a b ∨ (a = b ∧ leL as bs)
theorem leL_refl : ∀ a : List Str, leL a a
  | [] => True.intro
  | a :: as => .inr ⟨rfl, leL_refl as⟩
theorem leL_trans : ∀ {a b c : List Str}, leL a b → leL b c → leL a c
  | [], _, _, _, _ => True.intro
  | _ :: _, [], _, h, _ => h.elim
  | _ :: _, _ :: _, [], _, h => h.elim
  | a :: as, b :: bs, c :: cs, h, h' => by
    rcases h with h | ⟨rfl, h⟩
    · rcases h' with h' | ⟨rfl, h'⟩
      · exact .inl (ltS_trans h h')
      · exact .inl h
    · rcases h' with h' | ⟨rfl, h'⟩
      · exact .inl h'
      · exact .inr ⟨rfl, leL_trans h h'⟩
theorem leL_anti : ∀ {a b : List Str}, leL a b → leL b a → a = b
  | [], [], _, _ => rfl
  | [], _ :: _, _, h => h.elim
  | _ :: _, [], h, _ => h.elim
  | a :: as, b :: bs, h, h' => by
    rcases h with h | ⟨rfl, h⟩
    · rcases h' with h' | ⟨rfl, _⟩
      · exact absurd h' (ltS_asymm h)
      · exact absurd h (ltS_irrefl _)
    · rcases h' with h' | ⟨_, h'⟩
      · exact absurd h' (ltS_irrefl _)
      · rw [leL_anti h h']
theorem leL_total : ∀ a b : List Str, leL a b ∨ leL b a
  | [], _ => .inl True.intro
  | _ :: _, [] => .inr True.intro
  | a :: as, b :: bs => by
    by_cases e : a = b
    · subst e
      rcases leL_total as bs with h | h
      · exact .inl (.inr ⟨rfl, h⟩)
      · exact .inr (.inr ⟨rfl, h⟩)
    · rcases ltS_tri e with h | h
      · exact .inl (.inl h)
      · exact .inr (.inl h)
theorem leL_append : ∀ {a a' b b' : List Str}, a.length = a'.length → leL a a' → leL b b' → leL (a ++ b) (a' ++ b')
  | [], [], _, _, _, _, h => h
  | [], _ :: _, _, _, e, _, _ => by simp at e
  | _ :: _, [], _, _, e, _, _ => by simp at e
  | a :: as, c :: cs, b, b', e, h, h' => by
    rcases h with h | ⟨rfl, h⟩
    · exact .inl h
    · exact .inr ⟨rfl, leL_append (by simpa using e) h h'⟩
/-- no longer, nor, of as many words, behind -/
def leW (a b : List Str) : Prop := a.length < b.length ∨ (a.length = b.length ∧ leL a b)
theorem leW_refl (a : List Str) : leW a a := .inr ⟨rfl, leL_refl a⟩
theorem leW_trans {a b c : List Str} (h : leW a b) (h' : leW b c) : leW a c := by
  rcases h with h | ⟨e, h⟩
  · rcases h' with h' | ⟨e', h'⟩
    · exact .inl (by omega)
    · exact .inl (by omega)
  · rcases h' with h' | ⟨e', h'⟩
    · exact .inl (by omega)
    · exact .inr ⟨by omega, leL_trans h h'⟩
theorem leW_anti {a b : List Str} (h : leW a b) (h' : leW b a) : a = b := by
  rcases h with h | ⟨e, h⟩
  · rcases h' with h' | ⟨e', h'⟩ <;> omega
  · rcases h' with h' | ⟨e', h'⟩
    · omega
    · exact leL_anti h h'
theorem leW_total (a b : List Str) : leW a b ∨ leW b a := by
  by_cases h1 : a.length < b.length
  · exact .inl (.inl h1)
  · by_cases h2 : b.length < a.length
    · exact .inr (.inl h2)
    · rcases leL_total a b with h | h
      · exact .inl (.inr ⟨by omega, h⟩)
      · exact .inr (.inr ⟨by omega, h⟩)
theorem leW.len {a b : List Str} (h : leW a b) : a.length ≤ b.length := by
  rcases h with h | ⟨h, _⟩ <;> omega
theorem leW_append {a a' b b' : List Str} (h : leW a a') (h' : leW b b') : leW (a ++ b) (a' ++ b') := by
  have l1 := h.len
  have l2 := h'.len
  rcases h with h | ⟨e, h⟩
  · exact .inl (by simp; omega)
  · rcases h' with h' | ⟨e', h'⟩
    · exact .inl (by simp; omega)
    · exact .inr ⟨by simp; omega, leL_append e h h'⟩
theorem leW_cons (x : Str) {a b : List Str} (h : leW a b) : leW (x :: a) (x :: b) := leW_append (a := [x]) (a' := [x]) (leW_refl _) h
theorem leW_nil (a : List Str) : leW [] a := by
  cases a with
  | nil => exact leW_refl _
  | cons x a => exact .inl (by simp)

/-! ### without the white words at the end -/
def trim : List Str → List Str
  | [] => []
  | x :: xs => if trim xs = [] ∧ x = "white" then [] else x :: trim xs
theorem trim_append (xs ys : List Str) : trim (xs ++ ys) = if trim ys = [] then trim xs else xs ++ trim ys := by
  induction xs with
  | nil => by_cases h : trim ys = [] <;> simp [h, trim]
  | cons x xs ih =>
    rw [List.cons_append, trim, ih]
    by_cases h : trim ys = []
    · simp [h, trim]
    · simp [h]
theorem trim_cons_ne {x : Str} (h : x ≠ "white") (xs : List Str) : trim (x :: xs) = x :: trim xs := by simp [trim, h]
theorem trim_len (xs : List Str) : (trim xs).length ≤ xs.length := by
  induction xs with
  | nil => simp [trim]
  | cons x xs ih =>
    rw [trim]
    split <;> simp; omega
theorem leW_trim (xs : List Str) : leW (trim xs) xs := by
  induction xs with
  | nil => exact leW_refl _
  | cons x xs ih =>
    rw [trim]
    split
    · exact leW_nil _
    · exact leW_cons x ih
theorem trim_trim (xs : List Str) : trim (trim xs) = trim xs := by
  induction xs with
  | nil => rfl
  | cons x xs ih =>
    rw [trim]
    split
    · rfl
    · rename_i h
      rw [trim, ih, if_neg h]
/-- the words behind are white -/
theorem trim_split (xs : List Str) : ∃ n, xs = trim xs ++ List.replicate n ("white" : Str) := by
  induction xs with
  | nil => exact ⟨0, rfl⟩
  | cons x xs ih =>
    obtain ⟨n, e⟩ := ih
    rw [trim]
    split
    · rename_i h
      refine ⟨n + 1, ?_⟩
      rw [h.1] at e
      rw [h.2, List.replicate_succ, List.nil_append]
      congr 1
    · refine ⟨n, ?_⟩
      rw [List.cons_append, ← e]
theorem trim_white (n : Nat) : trim (List.replicate n ("white" : Str)) = [] := by
  induction n with
  | zero => rfl
  | succ n ih => rw [List.replicate_succ, trim, ih]; simp
theorem trim_add_white (xs : List Str) (n : Nat) : trim (xs ++ List.replicate n ("white" : Str)) = trim xs := by
  rw [trim_append, trim_white, if_pos rfl]
theorem Prt.ne_white (p : Prt) : p.s ≠ "white" := by cases p <;> decide +kernel
theorem Pc.ne_white (p : Pc) : p.s ≠ "white" := by cases p <;> decide +kernel
theorem trim_part (p : Prt) (a b : Tree) : trim (Tree.part p a b).words = p.s :: (if trim b.words = [] then trim a.words else a.words ++ trim b.words) := by
  rw [Tree.words, trim_cons_ne p.ne_white, trim_append]
theorem trim_piece (q : Pc) (c : Col) (t : Tree) (h : ¬ (trim t.words = [] ∧ c = .white)) : trim (Tree.piece q c t).words = q.s :: c.s :: trim t.words := by
  rw [Tree.words, trim_cons_ne q.ne_white, trim, if_neg]
  rintro ⟨h1, h2⟩
  exact h ⟨h1, Col.inj h2⟩
theorem trim_nil {t : Tree} (h : trim t.words = []) : t = .col .white := by
  cases t with
  | col c =>
    have : c.s = "white" := by
      unfold Tree.words trim at h
      split at h
      · rename_i e; exact e.2
      · cases h
    rw [Col.inj (b := .white) this]
  | part p a b => rw [trim_part] at h; cases h
  | piece q c t => rw [Tree.words, trim_cons_ne q.ne_white] at h; cases h

/-! ### coverings -/
abbrev Patch := Nat → Nat → Option Col
def Cov (t : Tree) (w h : Nat) (f : Patch) : Prop := ∀ r, r < h → ∀ k, k < w → ∀ c, f r k = some c → cell t w h r k = c
def mrg (a b : Option Col) : Option Col := match b with
  | some c => some c
  | none => a
def one : Prt → Nat → Nat → Patch → Patch
  | .party, _, _, f => f
  | .cut, _, _, f => f
  | .quartered, w, h, f => fun r k => mrg (f r k) (f (r + h / 2) (k + w / 2))
def two : Prt → Nat → Nat → Patch → Patch
  | .party, w, _, f => fun r k => f r (k + w / 2)
  | .cut, _, h, f => fun r k => f (r + h / 2) k
  | .quartered, w, h, f => fun r k => mrg (f r (k + w / 2)) (f (r + h / 2) k)
def agree (a b : Option Col) : Prop := ∀ c d, a = some c → b = some d → c = d
def PWay (p : Prt) (w h : Nat) (f : Patch) : Prop := p = .quartered → ∀ r, r < h / 2 → ∀ k, k < w / 2 → agree (f r k) (f (r + h / 2) (k + w / 2)) ∧ agree (f r (k + w / 2)) (f (r + h / 2) k)
theorem mrg_some {a b : Option Col} {c : Col} (h : mrg a b = some c) : a = some c ∨ b = some c := by
  cases b with
  | none => exact .inl h
  | some d => exact .inr h
theorem mrg_left {a b : Option Col} {c : Col} (g : agree a b) (h : a = some c) : mrg a b = some c := by
  cases b with
  | none => exact h
  | some d => rw [g c d h rfl]; rfl
theorem mrg_right {a b : Option Col} {c : Col} (h : b = some c) : mrg a b = some c := by
  rw [h]; rfl
theorem cov_part {p : Prt} {a b : Tree} {w h : Nat} {f : Patch} (hw : Side w) (hh : Side h) (hf : fitP p w h = true) :
    Cov (.part p a b) w h f ↔ PWay p w h f ∧ Cov a (pW p w) (pH p h) (one p w h f) ∧ Cov b (pW p w) (pH p h) (two p w h f) := by
  cases p with
  | party =>
    have e := (hw.half (by simpa [fitP] using hf)).2
    constructor
    · intro H
      refine ⟨by simp [PWay], fun r hr k hk c hc => ?_, fun r hr k hk c hc => ?_⟩
      · simp only [pW, pH] at hr hk
        have := H r hr k (by omega) c hc
        simpa [cell, hk, pW, pH] using this
      · simp only [pW, pH] at hr hk
        have := H r hr (k + w / 2) (by omega) c hc
        simpa [cell, pW, pH, show ¬ (k + w / 2 < w / 2) by omega] using this
    · rintro ⟨_, H1, H2⟩ r hr k hk c hc
      by_cases hl : k < w / 2
      · have := H1 r hr k hl c hc
        simpa [cell, hl, pW, pH] using this
      · have := H2 r hr (k - w / 2) (by simp only [pW]; omega) c (by show f r (k - w / 2 + w / 2) = some c; rw [Nat.sub_add_cancel (by omega)]; exact hc)
        simpa [cell, hl, pW, pH] using this
  | cut =>
    have e := (hh.half (by simpa [fitP] using hf)).2
    constructor
    · intro H
      refine ⟨by simp [PWay], fun r hr k hk c hc => ?_, fun r hr k hk c hc => ?_⟩
      · simp only [pW, pH] at hr hk
        have := H r (by omega) k hk c hc
        simpa [cell, hr, pW, pH] using this
      · simp only [pW, pH] at hr hk
        have := H (r + h / 2) (by omega) k hk c hc
        simpa [cell, pW, pH, show ¬ (r + h / 2 < h / 2) by omega] using this
    · rintro ⟨_, H1, H2⟩ r hr k hk c hc
      by_cases hl : r < h / 2
      · have := H1 r hl k hk c hc
        simpa [cell, hl, pW, pH] using this
      · have := H2 (r - h / 2) (by simp only [pH]; omega) k hk c (by show f (r - h / 2 + h / 2) k = some c; rw [Nat.sub_add_cancel (by omega)]; exact hc)
        simpa [cell, hl, pW, pH] using this
  | quartered =>
    have hf' : 2 ≤ w ∧ 2 ≤ h := by simpa [fitP] using hf
    have e := (hw.half hf'.1).2
    have e' := (hh.half hf'.2).2
    constructor
    · intro H
      have q1 : ∀ r, r < h / 2 → ∀ k, k < w / 2 → ∀ c, f r k = some c → cell a (w / 2) (h / 2) r k = c := fun r hr k hk c hc => by
        have := H r (by omega) k (by omega) c hc
        simpa [cell, hr, hk] using this
      have q2 : ∀ r, r < h / 2 → ∀ k, k < w / 2 → ∀ c, f (r + h / 2) (k + w / 2) = some c → cell a (w / 2) (h / 2) r k = c := fun r hr k hk c hc => by
        have := H (r + h / 2) (by omega) (k + w / 2) (by omega) c hc
        simpa [cell, show ¬ (r + h / 2 < h / 2) by omega, show ¬ (k + w / 2 < w / 2) by omega] using this
      have q3 : ∀ r, r < h / 2 → ∀ k, k < w / 2 → ∀ c, f r (k + w / 2) = some c → cell b (w / 2) (h / 2) r k = c := fun r hr k hk c hc => by
        have := H r (by omega) (k + w / 2) (by omega) c hc
        simpa [cell, hr, show ¬ (k + w / 2 < w / 2) by omega] using this
      have q4 : ∀ r, r < h / 2 → ∀ k, k < w / 2 → ∀ c, f (r + h / 2) k = some c → cell b (w / 2) (h / 2) r k = c := fun r hr k hk c hc => by
        have := H (r + h / 2) (by omega) k (by omega) c hc
        simpa [cell, hk, show ¬ (r + h / 2 < h / 2) by omega] using this
      refine ⟨fun _ r hr k hk => ⟨fun c d hc hd => ?_, fun c d hc hd => ?_⟩, fun r hr k hk c hc => ?_, fun r hr k hk c hc => ?_⟩
      · rw [← q1 r hr k hk c hc, ← q2 r hr k hk d hd]
      · rw [← q3 r hr k hk c hc, ← q4 r hr k hk d hd]
      · rcases mrg_some hc with z | z
        · exact q1 r hr k hk c z
        · exact q2 r hr k hk c z
      · rcases mrg_some hc with z | z
        · exact q3 r hr k hk c z
        · exact q4 r hr k hk c z
    · rintro ⟨H0, H1, H2⟩ r hr k hk c hc
      have P := H0 rfl
      by_cases hl : r < h / 2
      · by_cases hl2 : k < w / 2
        · have := H1 r hl k hl2 c (mrg_left (P r hl k hl2).1 hc)
          simpa [cell, hl, hl2, pW, pH] using this
        · have hk2 : k - w / 2 < w / 2 := by omega
          have ek : k - w / 2 + w / 2 = k := by omega
          have := H2 r hl (k - w / 2) hk2 c (mrg_left (P r hl _ hk2).2 (by rw [ek]; exact hc))
          simpa [cell, hl, hl2, pW, pH] using this
      · have hr2 : r - h / 2 < h / 2 := by omega
        have er : r - h / 2 + h / 2 = r := by omega
        by_cases hl2 : k < w / 2
        · have := H2 (r - h / 2) hr2 k hl2 c (mrg_right (by rw [er]; exact hc))
          simpa [cell, hl, hl2, pW, pH] using this
        · have hk2 : k - w / 2 < w / 2 := by omega
          have ek : k - w / 2 + w / 2 = k := by omega
          have := H1 (r - h / 2) hr2 (k - w / 2) hk2 c (mrg_right (by rw [er, ek]; exact hc))
          simpa [cell, hl, hl2, pW, pH] using this
def blank (q : Pc) (w h : Nat) (f : Patch) : Patch := fun r k => if own q w h r k then none else f r k
/-- the own cells have no other colour -/
def OwnAre (q : Pc) (c : Col) (w h : Nat) (f : Patch) : Prop := ∀ r, r < h → ∀ k, k < w → own q w h r k = true → ∀ d, f r k = some d → d = c
/-- an own cell has a colour -/
def OwnHas (q : Pc) (w h : Nat) (f : Patch) : Prop := ∃ r, r < h ∧ ∃ k, k < w ∧ own q w h r k = true ∧ ∃ d, f r k = some d
theorem cov_piece {q : Pc} {c : Col} {t : Tree} {w h : Nat} {f : Patch} : Cov (.piece q c t) w h f ↔ OwnAre q c w h f ∧ Cov t w h (blank q w h f) := by
  constructor
  · intro H
    refine ⟨fun r hr k hk ho d hd => ?_, fun r hr k hk d hd => ?_⟩
    · have := H r hr k hk d hd
      rw [cell, if_pos ho] at this
      exact this.symm
    · unfold blank at hd
      split at hd
      · cases hd
      · rename_i ho
        have := H r hr k hk d hd
        rw [cell, if_neg ho] at this
        exact this
  · rintro ⟨H1, H2⟩ r hr k hk d hd
    by_cases ho : own q w h r k = true
    · rw [cell, if_pos ho, H1 r hr k hk ho d hd]
    · rw [cell, if_neg ho]
      exact H2 r hr k hk d (by unfold blank; rw [if_neg ho]; exact hd)
/-- one colour at the most -/
def Plain (w h : Nat) (f : Patch) : Prop := ∀ r, r < h → ∀ k, k < w → ∀ r', r' < h → ∀ k', k' < w → ∀ c c', f r k = some c → f r' k' = some c' → c = c'
theorem cov_col {c : Col} {w h : Nat} {f : Patch} (H : Cov (.col c) w h f) : Plain w h f := fun r hr k hk r' hr' k' hk' d d' e e' => by
  have h1 := H r hr k hk d e
  have h2 := H r' hr' k' hk' d' e'
  unfold cell at h1 h2
  rw [← h1, ← h2]

/-! ### the shortest -/
def BestF (w h : Nat) (f : Patch) (ws : List Str) : Prop := (∃ t : Tree, t.Fit w h ∧ Cov t w h f ∧ t.words = ws) ∧ ∀ t : Tree, t.Fit w h → Cov t w h f → leW ws t.words
def BestL (w h : Nat) (f : Patch) (vs : List Str) : Prop := (∃ t : Tree, t.Fit w h ∧ Cov t w h f ∧ trim t.words = vs) ∧ ∀ t : Tree, t.Fit w h → Cov t w h f → leW vs (trim t.words)
theorem BestF.uniq {w h : Nat} {f : Patch} {a b : List Str} (x : BestF w h f a) (y : BestF w h f b) : a = b := by
  obtain ⟨⟨t, f1, c1, rfl⟩, m1⟩ := x
  obtain ⟨⟨u, f2, c2, rfl⟩, m2⟩ := y
  exact leW_anti (m1 u f2 c2) (m2 t f1 c1)
theorem BestL.uniq {w h : Nat} {f : Patch} {a b : List Str} (x : BestL w h f a) (y : BestL w h f b) : a = b := by
  obtain ⟨⟨t, f1, c1, rfl⟩, m1⟩ := x
  obtain ⟨⟨u, f2, c2, rfl⟩, m2⟩ := y
  exact leW_anti (m1 u f2 c2) (m2 t f1 c1)
/-- the sayings that the ways let -/
structure Fulls (w h : Nat) (f : Patch) (xs : List (List Str)) : Prop where
  prt : ∀ p : Prt, fitP p w h = true → PWay p w h f → ∃ a b, BestF (pW p w) (pH p h) (one p w h f) a ∧ BestF (pW p w) (pH p h) (two p w h f) b ∧ (p.s :: (a ++ b)) ∈ xs
  pc : ∀ (q : Pc) (c : Col), fitQ q w h = true → OwnHas q w h f → OwnAre q c w h f → ∃ a, BestF w h (blank q w h f) a ∧ (q.s :: c.s :: a) ∈ xs
  all : ∀ x ∈ xs, (∃ p a b, fitP p w h = true ∧ PWay p w h f ∧ BestF (pW p w) (pH p h) (one p w h f) a ∧ BestF (pW p w) (pH p h) (two p w h f) b ∧ x = p.s :: (a ++ b)) ∨
    ∃ q c a, fitQ q w h = true ∧ OwnAre q c w h f ∧ BestF w h (blank q w h f) a ∧ x = q.s :: c.s :: a
structure Lasts (w h : Nat) (f : Patch) (xs : List (List Str)) : Prop where
  prt : ∀ p : Prt, fitP p w h = true → PWay p w h f → ∃ a la lb, BestF (pW p w) (pH p h) (one p w h f) a ∧ BestL (pW p w) (pH p h) (one p w h f) la ∧ BestL (pW p w) (pH p h) (two p w h f) lb ∧ (p.s :: (a ++ lb)) ∈ xs ∧ (lb = [] → (p.s :: la) ∈ xs)
  pc : ∀ (q : Pc) (c : Col), fitQ q w h = true → OwnHas q w h f → OwnAre q c w h f → ∃ la, BestL w h (blank q w h f) la ∧ (q.s :: c.s :: la) ∈ xs
  all : ∀ x ∈ xs, (∃ p a la lb, fitP p w h = true ∧ PWay p w h f ∧ BestF (pW p w) (pH p h) (one p w h f) a ∧ BestL (pW p w) (pH p h) (one p w h f) la ∧ BestL (pW p w) (pH p h) (two p w h f) lb ∧ (x = p.s :: (a ++ lb) ∨ (lb = [] ∧ x = p.s :: la))) ∨
    ∃ q c la, fitQ q w h = true ∧ OwnAre q c w h f ∧ BestL w h (blank q w h f) la ∧ x = q.s :: c.s :: la
theorem cov_none {q : Pc} {c : Col} {t : Tree} {w h : Nat} {f : Patch} (hn : ¬ OwnHas q w h f) (H : Cov (.piece q c t) w h f) : Cov t w h f := fun r hr k hk d hd => by
  have := H r hr k hk d hd
  by_cases ho : own q w h r k = true
  · exact absurd ⟨r, hr, k, hk, ho, d, hd⟩ hn
  · rw [cell, if_neg ho] at this
    exact this
theorem bestF_of {w h : Nat} {f : Patch} {xs : List (List Str)} {m : List Str} (hw : Side w) (hh : Side h) (X : Fulls w h f xs) (hp : ¬ Plain w h f) (hm : m ∈ xs) (hmin : ∀ x ∈ xs, leW m x) : BestF w h f m := by
  have low : ∀ t : Tree, t.Fit w h → Cov t w h f → leW m t.words := by
    intro t
    induction t with
    | col c => exact fun _ H => absurd (cov_col H) hp
    | part p a b _ _ =>
      intro ft H
      obtain ⟨h0, h1, h2⟩ := (cov_part hw hh ft.1).mp H
      obtain ⟨a', b', e1, e2, e3⟩ := X.prt p ft.1 h0
      exact leW_trans (hmin _ e3) (leW_cons _ (leW_append (e1.2 a ft.2.1 h1) (e2.2 b ft.2.2 h2)))
    | piece q c t ih =>
      intro ft H
      by_cases hn : OwnHas q w h f
      · obtain ⟨h1, h2⟩ := cov_piece.mp H
        obtain ⟨a', e1, e2⟩ := X.pc q c ft.1 hn h1
        exact leW_trans (hmin _ e2) (leW_cons _ (leW_cons _ (e1.2 t ft.2 h2)))
      · refine leW_trans (ih ft.2 (cov_none hn H)) (.inl ?_)
        simp [Tree.words]
        omega
  refine ⟨?_, low⟩
  rcases X.all m hm with ⟨p, a, b, f1, f2, ⟨⟨ta, a1, a2, rfl⟩, _⟩, ⟨⟨tb, b1, b2, rfl⟩, _⟩, rfl⟩ | ⟨q, c, a, f1, f2, ⟨⟨t, a1, a2, rfl⟩, _⟩, rfl⟩
  · exact ⟨.part p ta tb, ⟨f1, a1, b1⟩, (cov_part hw hh f1).mpr ⟨f2, a2, b2⟩, rfl⟩
  · exact ⟨.piece q c t, ⟨f1, a1⟩, cov_piece.mpr ⟨f2, a2⟩, rfl⟩
theorem plain_white {q : Pc} {w h : Nat} {f : Patch} (H : Cov (.piece q .white (.col .white)) w h f) : Plain w h f := by
  refine cov_col (c := .white) fun r hr k hk d hd => ?_
  have := H r hr k hk d hd
  rw [cell] at this
  split at this <;> exact this
theorem bestL_of {w h : Nat} {f : Patch} {xs : List (List Str)} {m : List Str} (hw : Side w) (hh : Side h) (X : Lasts w h f xs) (hp : ¬ Plain w h f) (hm : m ∈ xs) (hmin : ∀ x ∈ xs, leW m x) : BestL w h f m := by
  have low : ∀ t : Tree, t.Fit w h → Cov t w h f → leW m (trim t.words) := by
    intro t
    induction t with
    | col c => exact fun _ H => absurd (cov_col H) hp
    | part p a b _ _ =>
      intro ft H
      obtain ⟨h0, h1, h2⟩ := (cov_part hw hh ft.1).mp H
      obtain ⟨a', la, lb, e1, e2, e3, e4, e5⟩ := X.prt p ft.1 h0
      rw [trim_part]
      have l2 := e3.2 b ft.2.2 h2
      by_cases hb : trim b.words = []
      · rw [if_pos hb]
        rw [hb] at l2
        have : lb = [] := leW_anti l2 (leW_nil _)
        exact leW_trans (hmin _ (e5 this)) (leW_cons _ (e2.2 a ft.2.1 h1))
      · rw [if_neg hb]
        exact leW_trans (hmin _ e4) (leW_cons _ (leW_append (e1.2 a ft.2.1 h1) l2))
    | piece q c t ih =>
      intro ft H
      have nw : ¬ (trim t.words = [] ∧ c = .white) := by
        rintro ⟨h1, rfl⟩
        rw [trim_nil h1] at H
        exact hp (plain_white H)
      rw [trim_piece q c t nw]
      by_cases hn : OwnHas q w h f
      · obtain ⟨h1, h2⟩ := cov_piece.mp H
        obtain ⟨la, e1, e2⟩ := X.pc q c ft.1 hn h1
        exact leW_trans (hmin _ e2) (leW_cons _ (leW_cons _ (e1.2 t ft.2 h2)))
      · exact leW_trans (ih ft.2 (cov_none hn H)) (.inl (by simp; omega))
  have up : ∃ t : Tree, t.Fit w h ∧ Cov t w h f ∧ leW (trim t.words) m := by
    rcases X.all m hm with ⟨p, a, la, lb, f1, f2, ⟨⟨ta, a1, a2, rfl⟩, _⟩, ⟨⟨tl, l1, l2, rfl⟩, _⟩, ⟨⟨tb, b1, b2, rfl⟩, _⟩, e⟩ | ⟨q, c, la, f1, f2, ⟨⟨t, a1, a2, rfl⟩, _⟩, rfl⟩
    · rcases e with rfl | ⟨e, rfl⟩
      · refine ⟨.part p ta tb, ⟨f1, a1, b1⟩, (cov_part hw hh f1).mpr ⟨f2, a2, b2⟩, ?_⟩
        rw [trim_part]
        split
        · rename_i z
          rw [z, List.append_nil]
          exact leW_cons _ (leW_trim _)
        · exact leW_refl _
      · refine ⟨.part p tl tb, ⟨f1, l1, b1⟩, (cov_part hw hh f1).mpr ⟨f2, l2, b2⟩, ?_⟩
        rw [trim_part, if_pos e]
        exact leW_refl _
    · refine ⟨.piece q c t, ⟨f1, a1⟩, cov_piece.mpr ⟨f2, a2⟩, ?_⟩
      have nw : ¬ (trim t.words = [] ∧ c = .white) := by
        rintro ⟨h1, rfl⟩
        have H : Cov (.piece q .white t) w h f := cov_piece.mpr ⟨f2, a2⟩
        rw [trim_nil h1] at H
        exact hp (plain_white H)
      rw [trim_piece q c t nw]
      exact leW_refl _
  obtain ⟨t, f1, f2, f3⟩ := up
  exact ⟨⟨t, f1, f2, leW_anti f3 (low t f1 f2)⟩, low⟩
/-! plain patches -/
theorem words_pos (t : Tree) : 1 ≤ t.words.length := by cases t <;> simp [Tree.words]
theorem words_one {t : Tree} (h : t.words.length ≤ 1) : ∃ c, t = .col c := by
  cases t with
  | col c => exact ⟨c, rfl⟩
  | part p a b =>
    have := words_pos a
    simp [Tree.words] at h
    rw [h.1] at this
    simp at this
  | piece q c t => simp [Tree.words] at h
theorem black_le (c : Col) : leW [Col.black.s] [c.s] := by
  refine .inr ⟨rfl, ?_⟩
  cases c <;> first | exact leL_refl _ | exact .inl (by unfold ltS; decide +kernel)
/-- a colour stands in a patch -/
def Has (w h : Nat) (f : Patch) (c : Col) : Prop := ∃ r, r < h ∧ ∃ k, k < w ∧ f r k = some c
theorem cov_has {c : Col} {w h : Nat} {f : Patch} (hp : Plain w h f) (hc : Has w h f c) : Cov (.col c) w h f := fun r hr k hk d hd => by
  obtain ⟨r', hr', k', hk', e⟩ := hc
  exact hp r' hr' k' hk' r hr k hk c d e hd
theorem cov_hasnt {c : Col} {w h : Nat} {f : Patch} (hn : ∀ d, ¬ Has w h f d) (t : Tree) : Cov t w h f := fun r hr k hk d hd => absurd ⟨r, hr, k, hk, hd⟩ (hn d)
theorem bestF_plain {w h : Nat} {f : Patch} {c : Col} (hp : Plain w h f) (hc : Has w h f c ∨ ((∀ d, ¬ Has w h f d) ∧ c = .black)) : BestF w h f [c.s] := by
  have cv : Cov (.col c) w h f := by
    rcases hc with hc | ⟨hn, _⟩
    · exact cov_has hp hc
    · exact cov_hasnt (c := c) hn _
  refine ⟨⟨.col c, True.intro, cv, rfl⟩, fun t ft ct => ?_⟩
  by_cases hl : t.words.length ≤ 1
  · obtain ⟨d, rfl⟩ := words_one hl
    rcases hc with ⟨r, hr, k, hk, e⟩ | ⟨hn, rfl⟩
    · have := ct r hr k hk c e
      unfold cell at this
      subst this
      exact leW_refl _
    · exact black_le d
  · exact .inl (by simp; omega)
theorem bestL_plain {w h : Nat} {f : Patch} {c : Col} (hp : Plain w h f) (hc : Has w h f c) (hw : c ≠ .white) : BestL w h f [c.s] := by
  refine ⟨⟨.col c, True.intro, cov_has hp hc, ?_⟩, fun t ft ct => ?_⟩
  · have : c.s ≠ "white" := fun z => hw (Col.inj z)
    simp [Tree.words, trim, this]
  · obtain ⟨r, hr, k, hk, e⟩ := hc
    have hcell := ct r hr k hk c e
    cases t with
    | col d =>
      unfold cell at hcell
      subst hcell
      have : d.s ≠ "white" := fun z => hw (Col.inj z)
      simp [Tree.words, trim, this, leW_refl]
    | part p a b =>
      rw [trim_part]
      by_cases hb : trim b.words = []
      · rw [if_pos hb]
        by_cases ha : trim a.words = []
        · exfalso
          rw [trim_nil hb, trim_nil ha] at hcell
          apply hw
          rw [← hcell]
          cases p <;> simp only [cell] <;> (repeat' split) <;> rfl
        · refine .inl ?_
          cases e2 : trim a.words with
          | nil => exact absurd e2 ha
          | cons x y => simp
      · rw [if_neg hb]
        have := words_pos a
        exact .inl (by simp; omega)
    | piece q d t =>
      by_cases nw : trim t.words = [] ∧ d = .white
      · exfalso
        obtain ⟨h1, rfl⟩ := nw
        rw [trim_nil h1] at hcell
        apply hw
        rw [← hcell, cell]
        split <;> rfl
      · rw [trim_piece q d t nw]
        exact .inl (by simp)
theorem bestL_white {w h : Nat} {f : Patch} (hn : ∀ d, Has w h f d → d = .white) : BestL w h f [] := by
  refine ⟨⟨.col .white, True.intro, fun r hr k hk d hd => (hn d ⟨r, hr, k, hk, hd⟩).symm, ?_⟩, fun t _ _ => leW_nil _⟩
  simp [Tree.words, trim, Col.s]
end Bz
set_option Elab.async false
set_option linter.all false
set_option maxRecDepth 100000
set_option maxHeartbeats 2000000
/-! Reading: patches as data, colours in cells. -/
namespace Bz
open PySem
def oS : Option Col → Str
  | some c => c.s
  | none => ""
theorem oS_inj {a b : Option Col} (h : oS a = oS b) : a = b := by
  cases a with
  | none =>
    cases b with
    | none => rfl
    | some c => cases c <;> (exfalso; revert h; decide +kernel)
  | some c =>
    cases b with
    | none => cases c <;> (exfalso; revert h; decide +kernel)
    | some d => rw [Col.inj h]
theorem oS_nil {a : Option Col} : (oS a = "") = (a = none) := propext ⟨fun h => oS_inj (a := a) (b := none) h, fun h => by rw [h]; rfl⟩
@[simp] theorem oS_ok (a : Option Col) : PyData.strOk (oS a) = true := by
  cases a with
  | none => decide +kernel
  | some c => exact c.ok
def rowP (w : Nat) (f : Nat → Option Col) : PyData := .tuple ((List.range w).map fun k => .str (oS (f k)))
def rowsP (w h : Nat) (f : Patch) : List PyData := (List.range h).map fun r => rowP w (f r)
def encP (w h : Nat) (f : Patch) : PyData := .tuple (rowsP w h f)
theorem encM_P (w h : Nat) (g : Nat → Nat → Col) : encM w h g = encP w h fun r k => some (g r k) := rfl
theorem rowP_congr {w : Nat} {f g : Nat → Option Col} (h : ∀ k, k < w → f k = g k) : rowP w f = rowP w g := by
  unfold rowP
  rw [range_congr fun i hi => by rw [h i hi]]
theorem encP_congr {w h : Nat} {f g : Patch} (e : ∀ r, r < h → ∀ k, k < w → f r k = g r k) : encP w h f = encP w h g := by
  unfold encP rowsP
  rw [range_congr fun r hr => rowP_congr (e r hr)]
theorem size_of_ok (w h : Nat) (f : Patch) (μ : Mem) (hh : 1 ≤ h) : m_size_of [.d (encP w h f)] μ = .ok (.d (encS w h)) μ := by
  unfold m_size_of
  refine call_rt (ρ0 := [some (.d (encP w h f))]) rfl rfl (ret_of (tup_of (xs := [.int w, .int h]) (cons_of (cb1_of (op_of (z := rowP w (f 0)) rfl rfl ?_) ?_) (cons_of (cb1_of rfl ?_) rfl)) rfl (by simp))) List.take_length
  · simp [encP, rowsP, show 0 < h by omega]
  · simp [rowP]
  · simp [encP, rowsP]
theorem ix_encP {w h r : Nat} {f : Patch} (hr : r < h) : fIx (encP w h f) (.int r) = some (rowP w (f r)) := by
  simp [encP, rowsP, hr]
theorem ix_rowP {w k : Nat} {f : Nat → Option Col} (hk : k < w) : fIx (rowP w f) (.int k) = some (.str (oS (f k))) := by
  simp [rowP, hk]
/-! ### the colours of some cells -/
def six : List Col := [.black, .blue, .green, .red, .white, .yellow]
theorem six_all (c : Col) : c ∈ six := by cases c <;> decide
def colsOf (cs : List (Option Col)) : List Col := six.filter fun c => decide (some c ∈ cs)
theorem six_nodup (p : Col → Bool) : ((six.filter p).map Col.s).Nodup := by
  unfold List.Nodup
  rw [List.pairwise_map]
  have h : six.Pairwise fun a b => a ≠ b := by decide
  exact (h.filter p).imp fun hab e => hab (Col.inj e)
theorem six_sorted (p : Col → Bool) : PyProof.Rows.sortedS ((six.filter p).map Col.s) = true := by
  cases h1 : p .black <;> cases h2 : p .blue <;> cases h3 : p .green <;> cases h4 : p .red <;> cases h5 : p .white <;> cases h6 : p .yellow <;> simp only [six, List.filter, h1, h2, h3, h4, h5, h6] <;> decide +kernel
theorem colours_go {i : Nat} {cs : List (Option Col)} {ρ : Env} {μ : Mem} (hi : i < ρ.length) (hl : cs.length ≤ 1000000) : compGo (gNm i) (bVal (eOp fNe (eVar i) (eC c_ANY))) (eVar i) ρ (cs.map fun c => .str (oS c)) [] μ = .ok ((cs.filter fun c => decide (c ≠ none)).map fun c => PyData.str (oS c)) μ := by
  refine comp_filter (g := fun c => PyData.str (oS c)) (p := fun c => decide (c ≠ none)) cs [] (by simpa using hl) (fun c _ => ?_) (fun c _ => ?_)
  · have hi' : (ρ.set i (some (.d (.str (oS c)))))[i]? = some (some (.d (.str (oS c)))) := List.getElem?_set_self hi
    refine val_of (op_of (u := .str (oS c)) (v := .str "") (by simp only [eVar, hi']) rfl ?_)
    simp [oS_nil]
  · simp [hi]
theorem strsOf_map {α : Type} (g : α → Str) (xs : List α) : strsOf (xs.map fun x => .str (g x)) = some (xs.map g) := by
  induction xs with
  | nil => rfl
  | cons x xs ih => simp [ih]
theorem colours_val (cs : List (Option Col)) (hl : cs.length ≤ 4000) : bSortSet [.list ((cs.filter fun c => decide (c ≠ none)).map fun c => .str (oS c))] = some (.list ((colsOf cs).map fun c => .str c.s)) := by
  have hm : ∀ k, k ∈ (colsOf cs).map Col.s ↔ k ∈ (cs.filter fun c => decide (c ≠ none)).map oS := by
    intro k
    constructor
    · intro hk
      obtain ⟨c, hc, rfl⟩ := List.mem_map.mp hk
      have := (List.mem_filter.mp hc).2
      refine List.mem_map.mpr ⟨some c, List.mem_filter.mpr ⟨by simpa using this, by simp⟩, rfl⟩
    · intro hk
      obtain ⟨o, ho, rfl⟩ := List.mem_map.mp hk
      obtain ⟨h1, h2⟩ := List.mem_filter.mp ho
      cases o with
      | none => simp at h2
      | some c => exact List.mem_map.mpr ⟨c, List.mem_filter.mpr ⟨six_all c, by simpa using h1⟩, rfl⟩
  have e := sortSet_eq (six_sorted _) (six_nodup _) hm
  have hlen : ((cs.filter fun c => decide (c ≠ none)).map oS).length ≤ 4000 := by
    rw [List.length_map]
    exact Nat.le_trans (List.length_filter_le _ _) hl
  simp only [bSortSet, strsOf_map, hlen, if_true]
  rw [← e]
  simp [List.map_map, Function.comp_def, colsOf]
end Bz
set_option Elab.async false
set_option linter.all false
set_option maxRecDepth 100000
set_option maxHeartbeats 2000000
/-! Rules broken: light, neighbours, wrong cells. -/
namespace Bz
open PySem
def light : Col → Bool
  | .white => true
  | .yellow => true
  | _ => false
theorem is_light_ok (c : Col) (μ : Mem) : m_is_light [.d (.str c.s)] μ = .ok (.d (.bool (light c))) μ := by
  cases c <;> simp (config := {decide := true}) [m_is_light, callD, Col.s, c_LIGHT, light, inD, PyData.eqv]
def pairD (p : Nat × Nat) : PyData := .tuple [.int p.1, .int p.2]
/-- the cells beside a cell -/
def nb (w h r k : Nat) : List (Nat × Nat) := (if 0 < r then [(r - 1, k)] else []) ++ (if 0 < k then [(r, k - 1)] else []) ++ (if k + 1 < w then [(r, k + 1)] else []) ++ (if r + 1 < h then [(r + 1, k)] else [])
theorem nb_in {w h r k : Nat} (hr : r < h) (hk : k < w) {p : Nat × Nat} (hp : p ∈ nb w h r k) : p.1 < h ∧ p.2 < w := by
  unfold nb at hp
  simp only [List.mem_append] at hp
  rcases hp with ((hp | hp) | hp) | hp
  all_goals
    split at hp
    · simp only [List.mem_singleton] at hp
      subst hp
      simp only
      omega
    · simp at hp
def intP (z : Int × Int) : PyData := .tuple [.int z.1, .int z.2]
def inP (w h : Nat) (z : Int × Int) : Bool := (decide (0 ≤ z.1) && decide (z.1 < h)) && (decide (0 ≤ z.2) && decide (z.2 < w))
theorem nb_filter {w h r k : Nat} (hr : r < h) (hk : k < w) : ([((r : Int) - 1, (k : Int)), ((r : Int), (k : Int) - 1), ((r : Int), (k : Int) + 1), ((r : Int) + 1, (k : Int))].filter (inP w h)).map intP = (nb w h r k).map pairD := by
  have s1 : (0 : Nat) < r → ((r : Int) - 1) = ((r - 1 : Nat) : Int) := by omega
  have s2 : (0 : Nat) < k → ((k : Int) - 1) = ((k - 1 : Nat) : Int) := by omega
  have q1 : inP w h ((r : Int) - 1, (k : Int)) = decide (0 < r) := by
    rw [Bool.eq_iff_iff]; simp [inP]; omega
  have q2 : inP w h ((r : Int), (k : Int) - 1) = decide (0 < k) := by
    rw [Bool.eq_iff_iff]; simp [inP]; omega
  have q3 : inP w h ((r : Int), (k : Int) + 1) = decide (k + 1 < w) := by
    rw [Bool.eq_iff_iff]; simp [inP]; omega
  have q4 : inP w h ((r : Int) + 1, (k : Int)) = decide (r + 1 < h) := by
    rw [Bool.eq_iff_iff]; simp [inP]; omega
  rw [List.filter_cons, List.filter_cons, List.filter_cons, List.filter_cons, q1, q2, q3, q4]
  unfold nb
  by_cases c1 : 0 < r <;> by_cases c2 : 0 < k <;> by_cases c3 : k + 1 < w <;> by_cases c4 : r + 1 < h <;> simp [c1, c2, c3, c4, intP, pairD] <;> omega
theorem beside_go {w h r k i j : Nat} {ρ : Env} {μ : Mem} (hr : r < h) (hk : k < w) (hi : i < ρ.length) (hij : i ≠ j) (hj : ρ[j]? = some (some (.d (encS w h)))) :
    compGo (gNm i) (bAnd (bVal (eChain fLe fLt (eC (.int 0)) (eOp fIx (eVar i) (eC (.int 0))) (eOp fIx (eVar j) (eC (.int 1))))) (bVal (eChain fLe fLt (eC (.int 0)) (eOp fIx (eVar i) (eC (.int 1))) (eOp fIx (eVar j) (eC (.int 0)))))) (eVar i) ρ
      [.tuple [.int ((r : Int) - 1), .int k], .tuple [.int r, .int ((k : Int) - 1)], .tuple [.int r, .int ((k : Int) + 1)], .tuple [.int ((r : Int) + 1), .int k]] [] μ = .ok ((nb w h r k).map pairD) μ := by
  have e := comp_filter (g := intP) (i := i) (τ := (bAnd (bVal (eChain fLe fLt (eC (.int 0)) (eOp fIx (eVar i) (eC (.int 0))) (eOp fIx (eVar j) (eC (.int 1))))) (bVal (eChain fLe fLt (eC (.int 0)) (eOp fIx (eVar i) (eC (.int 1))) (eOp fIx (eVar j) (eC (.int 0))))))) (e := eVar i) (ρ := ρ) (p := inP w h) (μ := μ) [((r : Int) - 1, (k : Int)), ((r : Int), (k : Int) - 1), ((r : Int), (k : Int) + 1), ((r : Int) + 1, (k : Int))] [] (by simp) (fun z _ => ?_) (fun z _ => ?_)
  · rw [nb_filter hr hk] at e
    exact e
  · have hj' : (ρ.set i (some (.d (intP z))))[j]? = some (some (.d (encS w h))) := by rw [List.getElem?_set_ne hij]; exact hj
    have hi' : (ρ.set i (some (.d (intP z))))[i]? = some (some (.d (intP z))) := List.getElem?_set_self hi
    simp only [intP, encS] at hi' hj' ⊢
    by_cases c1 : 0 ≤ z.1 <;> by_cases c2 : 0 ≤ z.2 <;> simp [hi', hj', inP, c1, c2]
  · simp [hi]
theorem beside_ok {w h r k : Nat} (hr : r < h) (hk : k < w) (μ : Mem) : m_beside [.d (encS w h), .d (.int r), .d (.int k)] μ = .ok (.d (.list ((nb w h r k).map pairD))) μ := by
  unfold m_beside
  refine call_rt (ρ0 := [some (.d (encS w h)), some (.d (.int r)), some (.d (.int k)), none, none]) rfl rfl ?_ List.take_length
  refine seq_nx (ρ1 := [some (.d (encS w h)), some (.d (.int r)), some (.d (.int k)), some (.d (.list [.tuple [.int ((r : Int) - 1), .int k], .tuple [.int r, .int ((k : Int) - 1)], .tuple [.int r, .int ((k : Int) + 1)], .tuple [.int ((r : Int) + 1), .int k]])), none]) (μ1 := μ) (by simp) ?_
  exact ret_of (comp_of rfl (beside_go hr hk (by simp) (by decide) rfl))
/-- wrong: beside an own cell, as light -/
def bad (q : Pc) (c : Col) (w h : Nat) (f : Nat → Nat → Col) (r k : Nat) : Bool := !own q w h r k && (light (f r k) == light c) && (nb w h r k).any fun p => own q w h p.1 p.2
theorem own_filter {q : Pc} {w h r k i j : Nat} {F : Fn} {ex : DE} {ρ : Env} {μ : Mem} (hr : r < h) (hk : k < w) (hi : i < ρ.length) (hij : i ≠ j) (hj : ρ[j]? = some (some (.d (encS w h)))) (hx : ∀ s, ex (ρ.set i s) μ = .ok (.d (.str q.s)) μ)
    (hF : ∀ a b, a < h → b < w → F [.d (encS w h), .d (.str q.s), .d (.int a), .d (.int b)] μ = .ok (.d (.bool (own q w h a b))) μ) :
    compGo (gNm i) (bVal (eCall F (aCons (eVar j) (aCons ex (aCons (eOp fIx (eVar i) (eC (.int 0))) (aCons (eOp fIx (eVar i) (eC (.int 1))) aNil)))))) (eVar i) ρ ((nb w h r k).map pairD) [] μ = .ok (((nb w h r k).filter fun p => own q w h p.1 p.2).map pairD) μ := by
  have hl : (nb w h r k).length ≤ 4 := by
    unfold nb
    simp only [List.length_append]
    split <;> split <;> split <;> split <;> simp
  refine comp_filter (g := pairD) (p := fun p => own q w h p.1 p.2) (nb w h r k) [] (by simp; omega) (fun p hp => ?_) (fun p _ => ?_)
  · obtain ⟨h1, h2⟩ := nb_in hr hk hp
    have hj' : (ρ.set i (some (.d (pairD p))))[j]? = some (some (.d (encS w h))) := by rw [List.getElem?_set_ne hij]; exact hj
    have hi' : (ρ.set i (some (.d (pairD p))))[i]? = some (some (.d (pairD p))) := List.getElem?_set_self hi
    have f := hF p.1 p.2 h1 h2
    simp only [pairD, encS] at hi' hj' f ⊢
    simp [hi', hj', hx, f]
  · simp [hi]
theorem filter_ne {α : Type} {p : α → Bool} (xs : List α) {g : α → PyData} : decide ((xs.filter p).map g = []) = !xs.any p := by
  induction xs with
  | nil => rfl
  | cons x xs ih =>
    cases hx : p x <;> simp [List.filter_cons, hx] at ih ⊢
    exact ih
end Bz
set_option Elab.async false
set_option linter.all false
set_option maxRecDepth 100000
set_option maxHeartbeats 2000000
/-! Rules broken: is_wrong, the wrong cells of a piece, the fields. -/
namespace Bz
open PySem
theorem iseq_of {e : DE} {ρ : Env} {μ μ1 : Mem} {xs : List PyData} (h : e ρ μ = .ok (.d (.list xs)) μ1) : iSeq e ρ μ = .ok xs μ1 := by
  simp only [iSeq, h, R.bind, seqOf]
theorem iseqT_of {e : DE} {ρ : Env} {μ μ1 : Mem} {xs : List PyData} (h : e ρ μ = .ok (.d (.tuple xs)) μ1) : iSeq e ρ μ = .ok xs μ1 := by
  simp only [iSeq, h, R.bind, seqOf]
theorem is_wrong_ok (q : Pc) (c : Col) (t : Tree) (n w h r k : Nat) (f : Nat → Nat → Col) (μ : Mem) (hr : r < h) (hk : k < w) :
    m_is_wrong [.d (encS w h), .d (encT n (.piece q c t)), .d (encM w h f), .d (.int r), .d (.int k)] μ = .ok (.d (.bool (bad q c w h f r k))) μ := by
  unfold m_is_wrong
  refine call_rt (ρ0 := [some (.d (encS w h)), some (.d (encT n (.piece q c t))), some (.d (encM w h f)), some (.d (.int r)), some (.d (.int k)), none, none, none, none, none]) rfl rfl ?_ List.take_length
  refine seq_nx (ρ1 := [some (.d (encS w h)), some (.d (encT n (.piece q c t))), some (.d (encM w h f)), some (.d (.int r)), some (.d (.int k)), some (.d (.str q.s)), some (.d (.int n)), some (.d (.str c.s)), some (.d (.tuple [encT (n + 2) t])), none]) (μ1 := μ) rfl ?_
  have o := is_own_ok q w h r k μ hr hk
  have l1 := is_light_ok (f r k) μ
  have l2 := is_light_ok c μ
  have hix : eOp fIx (eOp fIx (eVar 2) (eVar 3)) (eVar 4) [some (.d (encS w h)), some (.d (encT n (.piece q c t))), some (.d (encM w h f)), some (.d (.int r)), some (.d (.int k)), some (.d (.str q.s)), some (.d (.int n)), some (.d (.str c.s)), some (.d (.tuple [encT (n + 2) t])), none] μ = .ok (.d (.str (f r k).s)) μ :=
    op_of (op_of rfl rfl (ix_encM hr)) rfl (ix_rowD hk)
  have t1 : bVal (eCall m_is_own (aCons (eVar 0) (aCons (eVar 5) (aCons (eVar 3) (aCons (eVar 4) aNil))))) [some (.d (encS w h)), some (.d (encT n (.piece q c t))), some (.d (encM w h f)), some (.d (.int r)), some (.d (.int k)), some (.d (.str q.s)), some (.d (.int n)), some (.d (.str c.s)), some (.d (.tuple [encT (n + 2) t])), none] μ = .ok (own q w h r k) μ :=
    val_of (call_of rfl o)
  have t2 : bVal (eOp fNe (eCall m_is_light (aCons (eOp fIx (eOp fIx (eVar 2) (eVar 3)) (eVar 4)) aNil)) (eCall m_is_light (aCons (eVar 7) aNil))) [some (.d (encS w h)), some (.d (encT n (.piece q c t))), some (.d (encM w h f)), some (.d (.int r)), some (.d (.int k)), some (.d (.str q.s)), some (.d (.int n)), some (.d (.str c.s)), some (.d (.tuple [encT (n + 2) t])), none] μ = .ok (!(light (f r k) == light c)) μ := by
    refine val_of (op_of (call_of (cons_of hix rfl) l1) (call_of rfl l2) ?_)
    cases light (f r k) <;> cases light c <;> rfl
  have t12 : bOr (bVal (eCall m_is_own (aCons (eVar 0) (aCons (eVar 5) (aCons (eVar 3) (aCons (eVar 4) aNil)))))) (bVal (eOp fNe (eCall m_is_light (aCons (eOp fIx (eOp fIx (eVar 2) (eVar 3)) (eVar 4)) aNil)) (eCall m_is_light (aCons (eVar 7) aNil)))) [some (.d (encS w h)), some (.d (encT n (.piece q c t))), some (.d (encM w h f)), some (.d (.int r)), some (.d (.int k)), some (.d (.str q.s)), some (.d (.int n)), some (.d (.str c.s)), some (.d (.tuple [encT (n + 2) t])), none] μ = .ok (own q w h r k || !(light (f r k) == light c)) μ := by
    unfold bOr
    rw [t1]
    simp only [R.bind]
    cases own q w h r k with
    | true => rfl
    | false => simpa using t2
  cases hb : (own q w h r k || !(light (f r k) == light c)) with
  | true =>
    rw [hb] at t12
    have e : bad q c w h f r k = false := by
      unfold bad
      cases ho : own q w h r k <;> simp [ho] at hb ⊢
      intro z
      exact absurd z hb
    rw [e]
    exact seq_rt (if_yes t12 rfl)
  | false =>
    rw [hb] at t12
    have e : bad q c w h f r k = (nb w h r k).any fun p => own q w h p.1 p.2 := by
      unfold bad
      cases ho : own q w h r k <;> simp [ho] at hb ⊢
      intros
      exact hb
    rw [e]
    refine seq_nx (if_no t12 rfl) (ret_of (op_of (u := .list (((nb w h r k).filter fun p => own q w h p.1 p.2).map pairD)) (v := .list []) (comp_of (iseq_of (call_of rfl (beside_ok hr hk μ))) (own_filter hr hk (by simp) (by decide) rfl (fun s => by rfl) fun a b ha hb => is_own_ok q w h a b μ ha hb)) rfl ?_))
    have h1 : ∀ xs : List (Nat × Nat), fNe (.list (xs.map pairD)) (.list []) = some (.bool (!decide (xs.map pairD = []))) := fun xs => by
      have c1 : (PyData.list (xs.map pairD)).canLay0 = true := by
        simp only [PyData.canLay0]
        exact canLay_all xs fun p _ => by simp [pairD, PyData.canLay0, PyData.canLayAll0]
      have c2 : (PyData.list []).canLay0 = true := rfl
      simp only [fNe, eqD2, scalD, c1, c2, min_depth0, eqv_nil, Bool.and_self, decide_true, if_true, Option.map_some]
    rw [h1, filter_ne]
    simp
end Bz
set_option Elab.async false
set_option linter.all false
set_option maxRecDepth 100000
set_option maxHeartbeats 2000000
/-! Rules broken: the least of fields, the fields of parts. -/
namespace Bz
open PySem
def ltP (p q : Nat × Nat) : Bool := decide (p.1 < q.1 ∨ (p.1 = q.1 ∧ p.2 < q.2))
def leP (p q : Nat × Nat) : Prop := p.1 < q.1 ∨ (p.1 = q.1 ∧ p.2 ≤ q.2)
theorem lt_pair (p q : Nat × Nat) : PySem.W.dataLt (pairD p) (pairD q) = ltP p q := by
  unfold pairD ltP
  rw [PySem.W.dataLt_ii]
  rw [Bool.eq_iff_iff]
  simp only [decide_eq_true_eq]
  omega
theorem minD_pairs : ∀ (xs : List (Nat × Nat)) (x : Nat × Nat), PySem.W.minD (pairD x) (xs.map pairD) = pairD (xs.foldl (fun a y => if ltP y a then y else a) x)
  | [], x => rfl
  | y :: xs, x => by
    have ih := minD_pairs xs (if ltP y x then y else x)
    unfold PySem.W.minD at ih ⊢
    rw [List.map_cons, List.foldl_cons, List.foldl_cons, lt_pair, ← ih]
    cases ltP y x <;> rfl
theorem leP_refl (p : Nat × Nat) : leP p p := .inr ⟨rfl, Nat.le_refl _⟩
theorem leP_trans {a b c : Nat × Nat} (h : leP a b) (h' : leP b c) : leP a c := by unfold leP at *; omega
theorem fold_least : ∀ (xs : List (Nat × Nat)) (x : Nat × Nat), (xs.foldl (fun a y => if ltP y a then y else a) x) ∈ x :: xs ∧ ∀ z ∈ x :: xs, leP (xs.foldl (fun a y => if ltP y a then y else a) x) z
  | [], x => ⟨by simp, fun z hz => by simp at hz; rw [hz]; exact leP_refl _⟩
  | y :: xs, x => by
    obtain ⟨h1, h2⟩ := fold_least xs (if ltP y x then y else x)
    rw [List.foldl_cons]
    have hm : leP (if ltP y x then y else x) x ∧ leP (if ltP y x then y else x) y := by
      cases hl : ltP y x with
      | true =>
        simp [ltP] at hl
        simp only [if_true]
        exact ⟨by unfold leP; omega, leP_refl _⟩
      | false =>
        simp [ltP] at hl
        simp only [Bool.false_eq_true, if_false]
        exact ⟨leP_refl _, by unfold leP; omega⟩
    refine ⟨?_, fun z hz => ?_⟩
    · rcases List.mem_cons.mp h1 with e | e
      · rw [e]
        cases ltP y x <;> simp
      · exact List.mem_cons_of_mem _ (List.mem_cons_of_mem _ e)
    · have h3 := h2 _ (List.mem_cons_self)
      rcases List.mem_cons.mp hz with e | e
      · rw [e]; exact leP_trans h3 hm.1
      · rcases List.mem_cons.mp e with e | e
        · rw [e]; exact leP_trans h3 hm.2
        · exact h2 z (List.mem_cons_of_mem _ e)
/-- p is the least of fs -/
def Least (p : Nat × Nat) (fs : List (Nat × Nat)) : Prop := p ∈ fs ∧ ∀ z ∈ fs, leP p z
theorem leP_anti {a b : Nat × Nat} (h : leP a b) (h' : leP b a) : a = b := by
  unfold leP at *
  exact Prod.ext (by omega) (by omega)
def shP (r k : Nat) (p : Nat × Nat) : Nat × Nat := (p.1 + r, p.2 + k)
theorem pair_ok (p : Nat × Nat) : (pairD p).canLay0 = true ∧ (pairD p).depth ≤ 30 := by simp [pairD, PyData.canLay0, PyData.canLayAll0, PyData.depth, PyData.depthAll]
theorem pair_alike (p q : Nat × Nat) : PySem.W.alike (pairD p) (pairD q) = true := by simp [pairD, PySem.W.alike, PySem.W.alikeAll]
theorem min_pairs {fs : List (Nat × Nat)} {p : Nat × Nat} {r k : Nat} (h : Least p fs) (hl : fs.length ≤ 1000000) : bMin [.list (fs.map fun x => pairD (shP r k x))] = some (pairD (shP r k p)) := by
  have e0 : (fs.map fun x => pairD (shP r k x)) = (fs.map (shP r k)).map pairD := by simp
  rw [e0]
  cases fs with
  | nil => exact absurd h.1 (by simp)
  | cons x xs =>
    have ha : alikeAt (((x :: xs).map (shP r k)).map pairD) = true := by
      unfold alikeAt
      rw [List.all_eq_true]
      intro d hd
      obtain ⟨u, _, rfl⟩ := List.mem_map.mp hd
      rw [Bool.and_eq_true, Bool.and_eq_true, List.all_eq_true]
      refine ⟨⟨(pair_ok u).1, by simpa using (pair_ok u).2⟩, fun d' hd' => ?_⟩
      obtain ⟨u', _, rfl⟩ := List.mem_map.mp hd'
      exact pair_alike u u'
    have hn : (((x :: xs).map (shP r k)).map pairD).all (fun x => !isNone x) = true := by
      rw [List.all_eq_true]
      intro d hd
      obtain ⟨u, _, rfl⟩ := List.mem_map.mp hd
      rfl
    have hc : ((x :: xs).map (shP r k)).map pairD = pairD (shP r k x) :: (xs.map (shP r k)).map pairD := rfl
    simp only [List.length_cons] at hl
    simp only [bMin, hc, bMinD]
    rw [hc] at ha hn
    rw [ha, hn, minD_pairs]
    have hs : small ((xs.map (shP r k)).map pairD).length = true := by simp; omega
    rw [hs]
    simp only [Bool.and_self, if_true]
    congr 2
    obtain ⟨h1, h2⟩ := fold_least (xs.map (shP r k)) (shP r k x)
    have mono : ∀ a b : Nat × Nat, leP a b → leP (shP r k a) (shP r k b) := fun a b h => by unfold leP shP at *; simp only; omega
    refine leP_anti (h2 _ ?_) ?_
    · rw [show shP r k x :: xs.map (shP r k) = (x :: xs).map (shP r k) from rfl]
      exact List.mem_map.mpr ⟨p, h.1, rfl⟩
    · rw [show shP r k x :: xs.map (shP r k) = (x :: xs).map (shP r k) from rfl] at h1
      obtain ⟨z, hz, e⟩ := List.mem_map.mp h1
      rw [← e]
      exact mono _ _ (h.2 z hz)
def fieldsD (fs : List (Nat × Nat)) : PyData := .list (fs.map pairD)
def fA : Prt → Nat → Nat → List (Nat × Nat) → List (Nat × Nat)
  | .quartered, w, h, fs => fs ++ fs.map (shP h w)
  | _, _, _, fs => fs
def fB : Prt → Nat → Nat → List (Nat × Nat) → List (Nat × Nat)
  | .party, w, _, fs => fs.map (shP 0 w)
  | .cut, _, h, fs => fs.map (shP h 0)
  | .quartered, w, h, fs => fs.map (shP 0 w) ++ fs.map (shP h 0)
theorem comp_sh {ρ : Env} {μ : Mem} {fs : List (Nat × Nat)} {i j : Nat} {e : DE} {r k : Nat} (hl : fs.length ≤ 1000000) (hi : i < ρ.length) (hj : j < ρ.length) (hij : i ≠ j)
    (he : ∀ p : Nat × Nat, e ((ρ.set i (some (.d (.int p.1)))).set j (some (.d (.int p.2)))) μ = .ok (.d (pairD (shP r k p))) μ) :
    compGo (gTp [gNm i, gNm j]) bYes e ρ (fs.map pairD) [] μ = .ok ((fs.map (shP r k)).map pairD) μ := by
  rw [comp_map (ρ' := fun p => (ρ.set i (some (.d (.int p.1)))).set j (some (.d (.int p.2)))) (f := fun p => pairD (shP r k p)) fs [] (by simpa using hl) (fun p _ => rfl) (fun p _ => he p)]
  simp
theorem fields_of_ok (p : Prt) (w h : Nat) (fs : List (Nat × Nat)) (μ : Mem) (hl : fs.length * 2 ≤ 1000000) :
    m_fields_of [.d (encS w h), .d (.str p.s), .d (fieldsD fs)] μ = .ok (.d (.list [fieldsD (fA p (pW p w) (pH p h) fs), fieldsD (fB p (pW p w) (pH p h) fs)])) μ := by
  unfold m_fields_of
  refine call_rt (ρ0 := [some (.d (encS w h)), some (.d (.str p.s)), some (.d (fieldsD fs)), none, none, none, none, none, none]) rfl rfl ?_ List.take_length
  refine seq_nx (ρ1 := [some (.d (encS w h)), some (.d (.str p.s)), some (.d (fieldsD fs)), some (.d (.int (pW p w))), some (.d (.int (pH p h))), none, none, none, none]) (μ1 := μ) (asg_of (call2_of rfl rfl (prog_part p w h μ)) rfl) ?_
  cases p with
  | party =>
    refine seq_rt (if_yes (μ1 := μ) (by simp [Prt.s]) (ret_of (lst_of (cons_of rfl (cons_of (comp_of (iseq_of rfl) (comp_sh (r := 0) (k := w / 2) (by omega) (by simp) (by simp) (by decide) fun p => ?_)) rfl)) rfl (by simp))))
    simp [pairD, shP, pW]
  | cut =>
    refine seq_nx (if_no (μ1 := μ) (by simp (config := {decide := true}) [Prt.s]) rfl) (seq_rt (if_yes (μ1 := μ) (by simp [Prt.s]) (ret_of (lst_of (cons_of rfl (cons_of (comp_of (iseq_of rfl) (comp_sh (r := h / 2) (k := 0) (by omega) (by simp) (by simp) (by decide) fun p => ?_)) rfl)) rfl (by simp)))))
    simp [pairD, shP, pH]
  | quartered =>
    refine seq_nx (if_no (μ1 := μ) (by simp (config := {decide := true}) [Prt.s]) rfl) (seq_nx (if_no (μ1 := μ) (by simp (config := {decide := true}) [Prt.s]) rfl) ?_)
    have add : ∀ as bs : List (Nat × Nat), as.length + bs.length ≤ 1000000 → fAdd (.list (as.map pairD)) (.list (bs.map pairD)) = some (fieldsD (as ++ bs)) := fun as bs h => by simp [fieldsD, h]
    refine seq_nx (asg_of (op_of rfl (comp_of (iseq_of rfl) (comp_sh (r := h / 2) (k := w / 2) (by omega) (by simp) (by simp) (by decide) fun p => ?_)) (add fs (fs.map (shP (h / 2) (w / 2))) (by simp; omega))) rfl) ?_
    · simp [pairD, shP, pH, pW]
    refine seq_nx (asg_of (comp_of (iseq_of rfl) (comp_sh (r := 0) (k := w / 2) (by omega) (by simp) (by simp) (by decide) fun p => ?_)) rfl) ?_
    · simp [pairD, shP, pH, pW]
    refine ret_of (lst_of (cons_of rfl (cons_of (op_of rfl (comp_of (iseq_of rfl) (comp_sh (r := h / 2) (k := 0) (by omega) (by simp) (by simp) (by decide) fun p => ?_)) (add (fs.map (shP 0 (w / 2))) (fs.map (shP (h / 2) 0)) (by simp; omega))) rfl)) rfl (by simp))
    simp [pairD, shP, pH, pW]
theorem least_A {p : Prt} {w h : Nat} {fs : List (Nat × Nat)} {z : Nat × Nat} (l : Least z fs) : Least z (fA p w h fs) := by
  cases p with
  | party => exact l
  | cut => exact l
  | quartered =>
    refine ⟨List.mem_append_left _ l.1, fun x hx => ?_⟩
    rcases List.mem_append.mp hx with hx | hx
    · exact l.2 x hx
    · obtain ⟨y, hy, rfl⟩ := List.mem_map.mp hx
      have := l.2 y hy
      unfold leP shP at *
      simp only
      omega
def dR : Prt → Nat → Nat
  | .cut, h => h
  | _, _ => 0
def dC : Prt → Nat → Nat
  | .cut, _ => 0
  | _, w => w
theorem least_B {p : Prt} {w h : Nat} {fs : List (Nat × Nat)} {z : Nat × Nat} (hh : 1 ≤ h) (l : Least z fs) : Least (shP (dR p h) (dC p w) z) (fB p w h fs) := by
  have mono : ∀ (r k : Nat) (a b : Nat × Nat), leP a b → leP (shP r k a) (shP r k b) := fun r k a b h => by unfold leP shP at *; simp only; omega
  cases p with
  | party =>
    refine ⟨List.mem_map.mpr ⟨z, l.1, rfl⟩, fun x hx => ?_⟩
    obtain ⟨y, hy, rfl⟩ := List.mem_map.mp hx
    exact mono _ _ _ _ (l.2 y hy)
  | cut =>
    refine ⟨List.mem_map.mpr ⟨z, l.1, rfl⟩, fun x hx => ?_⟩
    obtain ⟨y, hy, rfl⟩ := List.mem_map.mp hx
    exact mono _ _ _ _ (l.2 y hy)
  | quartered =>
    refine ⟨List.mem_append_left _ (List.mem_map.mpr ⟨z, l.1, rfl⟩), fun x hx => ?_⟩
    rcases List.mem_append.mp hx with hx | hx
    · obtain ⟨y, hy, rfl⟩ := List.mem_map.mp hx
      exact mono _ _ _ _ (l.2 y hy)
    · obtain ⟨y, hy, rfl⟩ := List.mem_map.mp hx
      have := l.2 y hy
      simp only [dR, dC]
      unfold leP shP at *
      simp only
      omega
theorem len_A {p : Prt} {w h : Nat} {fs : List (Nat × Nat)} : (fA p w h fs).length ≤ fs.length * 2 := by cases p <;> simp [fA] <;> omega
theorem len_B {p : Prt} {w h : Nat} {fs : List (Nat × Nat)} : (fB p w h fs).length ≤ fs.length * 2 := by cases p <;> simp [fB] <;> omega
end Bz
set_option Elab.async false
set_option linter.all false
set_option maxRecDepth 100000
set_option maxHeartbeats 2000000
/-! Rules broken: wrongs_of, broken. -/
namespace Bz
open PySem
/-- a comprehension that keeps some items and changes them -/
theorem comp_fm {α : Type} {g f : α → PyData} {i : Nat} {τ : DT} {e : DE} {ρ : Env} {p : α → Bool} {μ : Mem} (xs : List α) : ∀ acc : List PyData, acc.length + xs.length ≤ 1000000 → (∀ x ∈ xs, τ (ρ.set i (some (.d (g x)))) μ = .ok (p x) μ) → (∀ x ∈ xs, e (ρ.set i (some (.d (g x)))) μ = .ok (.d (f x)) μ) →
    compGo (gNm i) τ e ρ (xs.map g) acc μ = .ok (acc ++ (xs.filter p).map f) μ := by
  induction xs with
  | nil => intro acc _ _ _; simp
  | cons x xs ih =>
    intro acc hl ht he
    simp only [List.length_cons] at hl
    simp only [List.map_cons, compGo, gNm, ht x (by simp), R.bindN]
    cases hp : p x with
    | true =>
      simp only [if_true, he x (by simp), R.bindN]
      rw [if_pos (by simp; omega), ih (acc ++ [f x]) (by simp; omega) (fun y hy => ht y (by simp [hy])) (fun y hy => he y (by simp [hy]))]
      simp [hp]
    | false =>
      simp only [Bool.false_eq_true, if_false]
      rw [ih acc (by omega) (fun y hy => ht y (by simp [hy])) (fun y hy => he y (by simp [hy]))]
      simp [hp]
theorem ext_of {i h : Nat} {e : DE} {ρ : Env} {μ : Mem} {xs ys : List PyData} (h1 : ρ[i]? = some (some (.m h))) (h2 : μ[h]? = some (.lst xs)) (h3 : e ρ μ = .ok (.d (.list ys)) μ) (h4 : xs.length + ys.length ≤ 1000000) : eExt (eVar i) e ρ μ = .ok (.d .none) (μ.set h (.lst (xs ++ ys))) := by
  simp only [eExt, eVar, h1, R.bind, h2, h3, seqOf, small, h4, decide_true, if_true]
/-- the wrong cells of a row -/
def cellsR (q : Pc) (c : Col) (w h : Nat) (f : Nat → Nat → Col) (r : Nat) : List (Nat × Nat) := ((List.range w).filter fun k => bad q c w h f r k).map fun k => (r, k)
def cellsTo (q : Pc) (c : Col) (w h : Nat) (f : Nat → Nat → Col) (n : Nat) : List (Nat × Nat) := (List.range n).flatMap (cellsR q c w h f)
def cellsW (q : Pc) (c : Col) (w h : Nat) (f : Nat → Nat → Col) : List (Nat × Nat) := cellsTo q c w h f h
theorem cellsR_len {q : Pc} {c : Col} {w h : Nat} {f : Nat → Nat → Col} {r : Nat} : (cellsR q c w h f r).length ≤ w := by
  unfold cellsR
  rw [List.length_map]
  exact Nat.le_trans (List.length_filter_le _ _) (by simp)
theorem cellsTo_succ {q : Pc} {c : Col} {w h : Nat} {f : Nat → Nat → Col} {n : Nat} : cellsTo q c w h f (n + 1) = cellsTo q c w h f n ++ cellsR q c w h f n := by
  unfold cellsTo
  rw [List.range_succ, List.flatMap_append]
  simp
theorem cellsTo_len {q : Pc} {c : Col} {w h : Nat} {f : Nat → Nat → Col} : ∀ n : Nat, (cellsTo q c w h f n).length ≤ n * w
  | 0 => by simp [cellsTo]
  | n + 1 => by
    rw [cellsTo_succ, List.length_append]
    have h1 := cellsTo_len (q := q) (c := c) (w := w) (h := h) (f := f) n
    have h2 := cellsR_len (q := q) (c := c) (w := w) (h := h) (f := f) (r := n)
    rw [Nat.succ_mul]
    omega
/-- (place, row, column) of the pieces that break the rule; the place of the tree, of its least field -/
def wr : Tree → Nat → Nat → Nat → Nat × Nat → List (Nat × Nat × Nat)
  | .col _, _, _, _, _ => []
  | .part p a b, n, w, h, z => wr a (n + 1) (pW p w) (pH p h) z ++ wr b (n + 1 + a.words.length) (pW p w) (pH p h) (shP (dR p (pH p h)) (dC p (pW p w)) z)
  | .piece q c t, n, w, h, z => (match cellsW q c w h (cell t w h) with
    | [] => []
    | x :: _ => [(n, z.1 + x.1, z.2 + x.2)]) ++ wr t (n + 2) w h z
def tripD (t : Nat × Nat × Nat) : PyData := .tuple [.int t.1, .int t.2.1, .int t.2.2]
theorem wr_len : ∀ (t : Tree) (n w h : Nat) (z : Nat × Nat), (wr t n w h z).length ≤ t.words.length
  | .col _, n, w, h, z => by simp [wr]
  | .part p a b, n, w, h, z => by
    have h1 := wr_len a (n + 1) (pW p w) (pH p h) z
    have h2 := wr_len b (n + 1 + a.words.length) (pW p w) (pH p h) (shP (dR p (pH p h)) (dC p (pW p w)) z)
    simp only [wr, List.length_append, Tree.words, List.length_cons]
    omega
  | .piece q c t, n, w, h, z => by
    have h1 := wr_len t (n + 2) w h z
    simp only [wr, List.length_append, Tree.words, List.length_cons]
    split <;> simp <;> omega
abbrev EW (w h n : Nat) (t : Tree) (fs : List (Nat × Nat)) (wd : Str) (col : Str) (ps : List PyData) (m8 x9 x10 x11 x12 x13 x14 : Option S) (m7 : Nat) : Env := [some (.d (encS w h)), some (.d (encT n t)), some (.d (fieldsD fs)), some (.d (.str wd)), some (.d (.int n)), some (.d (.str col)), some (.d (.tuple ps)), some (.m m7), m8, x9, x10, x11, x12, x13, x14]
theorem rows_loop {w h n : Nat} {q : Pc} {c : Col} {t : Tree} {fs : List (Nat × Nat)} {f : Nat → Nat → Col} {μ : Mem} (hw : w ≤ 8) (hh : h ≤ 8) : ∃ x10 : Option S,
    sFor (iRng1 (aCons (eOp fIx (eVar 0) (eC (.int 1))) aNil)) (gNm 10) (sDrop (eExt (eVar 9) (eComp (iRng1 (aCons (eOp fIx (eVar 0) (eC (.int 0))) aNil)) (gNm 13) (bVal (eCall m_is_wrong (aCons (eVar 0) (aCons (eVar 1) (aCons (eVar 8) (aCons (eVar 10) (aCons (eVar 13) aNil))))))) (eTup (aCons (eVar 10) (aCons (eVar 13) aNil))) [13])))
      (EW w h n (.piece q c t) fs q.s c.s [encT (n + 2) t] (some (.d (encM w h f))) (some (.m (μ.length + 1))) none none none none none μ.length) (μ ++ [.lst [], .lst []]) =
    .nx (EW w h n (.piece q c t) fs q.s c.s [encT (n + 2) t] (some (.d (encM w h f))) (some (.m (μ.length + 1))) x10 none none none none μ.length) (μ ++ [.lst [], .lst ((cellsW q c w h f).map pairD)]) := by
  have ft := for_ix (g := gNm 10) (n := h) (f := fun (i : Nat) => PyData.int (i : Int)) (b := sDrop (eExt (eVar 9) (eComp (iRng1 (aCons (eOp fIx (eVar 0) (eC (.int 0))) aNil)) (gNm 13) (bVal (eCall m_is_wrong (aCons (eVar 0) (aCons (eVar 1) (aCons (eVar 8) (aCons (eVar 10) (aCons (eVar 13) aNil))))))) (eTup (aCons (eVar 10) (aCons (eVar 13) aNil))) [13])))
    (fun j ρ μ' => (∃ x10, ρ = EW w h n (.piece q c t) fs q.s c.s [encT (n + 2) t] (some (.d (encM w h f))) (some (.m (μ.length + 1))) x10 none none none none μ.length) ∧ μ' = μ ++ [.lst [], .lst ((cellsTo q c w h f j).map pairD)]) (μ := μ ++ [.lst [], .lst []]) ⟨⟨none, rfl⟩, by simp [cellsTo]⟩ ?_
  · obtain ⟨ρ', μ', e, ⟨x10, rfl⟩, rfl⟩ := ft
    refine ⟨x10, for_of (xs := upFrom 0 h) (μ1 := μ ++ [.lst [], .lst []]) (rng_of (by simp [encS]) (by omega)) ?_⟩
    rw [upFrom0]
    exact e
  · rintro j hj ρ μ' ⟨⟨x10, rfl⟩, rfl⟩
    refine ⟨_, _, _, rfl, drop_of (ext_of (h := μ.length + 1) (xs := (cellsTo q c w h f j).map pairD) (ys := (cellsR q c w h f j).map pairD) rfl (by simp) (comp_of (xs := upFrom 0 w) (μ1 := μ ++ [.lst [], .lst ((cellsTo q c w h f j).map pairD)]) (rng_of (by simp [encS]) (by omega)) ?_) ?_), ⟨some (.d (.int j)), rfl⟩, ?_⟩
    · rw [upFrom0, comp_fm (p := fun k => bad q c w h f j k) (f := fun k => pairD (j, k)) (List.range w) [] (by simp; omega) (fun k hk => ?_) (fun k hk => ?_)]
      · simp [cellsR]
      · exact val_of (call_of rfl (is_wrong_ok q c t n w h j k f _ hj (List.mem_range.mp hk)))
      · simp [pairD]
    · have h1 := cellsTo_len (q := q) (c := c) (w := w) (h := h) (f := f) j
      have h2 := cellsR_len (q := q) (c := c) (w := w) (h := h) (f := f) (r := j)
      have h3 : j * w ≤ 8 * 8 := Nat.mul_le_mul (by omega) hw
      simp only [List.length_map]
      omega
    · rw [cellsTo_succ]
      simp
end Bz
set_option Elab.async false
set_option linter.all false
set_option maxRecDepth 100000
set_option maxHeartbeats 2000000
/-! Rules broken: wrongs_of, broken. -/
namespace Bz
open PySem
theorem call_rtM {np n : Nat} {b : DS} {args : List S} {ρ0 : Env} {μ μ' μ1 : Mem} {h : Nat} {xs : List PyData} (hl : args.length = np) (hρ : args.map some ++ List.replicate (n - np) none = ρ0) (hb : b ρ0 μ = .rt (.m h) μ') (hh : μ.length ≤ h) (hx : μ'[h]? = some (.lst xs)) (hμ : μ'.take μ.length = μ1) : callD np n b args μ = .ok (.d (.list xs)) μ1 := by
  unfold callD
  rw [if_pos hl, hρ, hb]
  simp only [retF, hx, hμ, if_neg (Nat.not_lt.mpr hh)]
theorem opM_of {f : D2} {a b : DE} {ρ : Env} {μ μ1 μ2 : Mem} {h : Nat} {v z : PyData} {xs : List PyData} (h1 : a ρ μ = .ok (.m h) μ1) (h2 : b ρ μ1 = .ok (.d v) μ2) (hx : μ2[h]? = some (.lst xs)) (h3 : f (.list xs) v = some z) : eOp f a b ρ μ = .ok (.d z) μ2 := by
  unfold eOp
  simp only [h1, h2, R.bind, rd, hx, h3, R.of]
theorem ne_nilP {α : Type} (xs : List α) (g : α → PyData) (hg : ∀ x, (g x).canLay0 = true) : fNe (.list (xs.map g)) (.list []) = some (.bool (!decide (xs.map g = []))) := by
  have c1 : (PyData.list (xs.map g)).canLay0 = true := by
    simp only [PyData.canLay0]
    exact canLay_all xs fun p _ => hg p
  have c2 : (PyData.list []).canLay0 = true := rfl
  simp only [fNe, eqD2, scalD, c1, c2, min_depth0, eqv_nil, Bool.and_self, decide_true, if_true, Option.map_some]
theorem new_of {ρ : Env} {μ : Mem} {i : Nat} : sAsg (eNew (eLst aNil)) (gNm i) ρ μ = .nx (ρ.set i (some (.m μ.length))) (μ ++ [.lst []]) := by
  simp [eNew]
theorem in_piecesQ (q : Pc) : fIn (.str q.s) c_PIECES = some (.bool true) := by cases q <;> simp (config := {decide := true}) [Pc.s, c_PIECES, inD, PyData.eqv]
theorem in_piecesP (q : Prt) : fIn (.str q.s) c_PIECES = some (.bool false) := by cases q <;> simp (config := {decide := true}) [Prt.s, c_PIECES, inD, PyData.eqv]
theorem in_piecesC (q : Col) : fIn (.str q.s) c_PIECES = some (.bool false) := by cases q <;> simp (config := {decide := true}) [Col.s, c_PIECES, inD, PyData.eqv]
theorem add_lists {xs ys : List PyData} (h : xs.length + ys.length ≤ 1000000) : fAdd (.list xs) (.list ys) = some (.list (xs ++ ys)) := by simp [h]
theorem wrongs_ok : ∀ (t : Tree) (k n w h : Nat) (fs : List (Nat × Nat)) (z : Nat × Nat) (μ : Mem), t.depth < k → t.depth < 90 → t.Fit w h → Side w → Side h → Least z fs → fs.length * 2 ^ t.depth ≤ 500000 → t.words.length ≤ 100000 →
    m_wrongs_of k [.d (encS w h), .d (encT n t), .d (fieldsD fs)] μ = .ok (.d (.list ((wr t n w h z).map tripD))) μ := by
  intro t
  induction t with
  | col c =>
    intro k n w h fs z μ hk hd hf hw hh hz hl hwl
    obtain ⟨j, rfl⟩ : ∃ j, k = j + 1 := ⟨k - 1, by omega⟩
    unfold m_wrongs_of
    refine call_rtM (h := μ.length) (xs := []) (ρ0 := [some (.d (encS w h)), some (.d (encT n (.col c))), some (.d (fieldsD fs)), none, none, none, none, none, none, none, none, none, none, none, none]) (μ' := μ ++ [.lst []]) rfl rfl ?_ (Nat.le_refl _) (by simp) (by simp)
    refine seq_nx (ρ1 := [some (.d (encS w h)), some (.d (encT n (.col c))), some (.d (fieldsD fs)), some (.d (.str c.s)), some (.d (.int n)), some (.d (.str c.s)), some (.d (.tuple [])), none, none, none, none, none, none, none, none]) (μ1 := μ) rfl ?_
    refine seq_nx new_of (seq_nx (if_no (val_of (op_of rfl rfl (in_piecesC c))) rfl) (seq_nx (if_no (μ1 := μ ++ [.lst []]) (val_of (op_of (u := .tuple []) (v := .tuple []) rfl rfl ?_)) rfl) (ret_of rfl)))
    simp [PyData.canLay0, PyData.canLayAll0, PyData.depth, PyData.depthAll, PyData.eqv, PyData.eqvAll]
  | part p a b iha ihb =>
    intro k n w h fs z μ hk hd hf hw hh hz hl hwl
    obtain ⟨j, rfl⟩ : ∃ j, k = j + 1 := ⟨k - 1, by omega⟩
    obtain ⟨hfp, hfa, hfb⟩ := hf
    have hsw : Side (pW p w) := hw.pW (h := h) hfp
    have hsh : Side (pH p h) := hh.pH (w := w) hfp
    simp only [Tree.depth] at hk hd hl
    simp only [Tree.words, List.length_cons, List.length_append] at hwl
    have hpow : (2 : Nat) ^ (max a.depth b.depth + 1) = 2 ^ max a.depth b.depth * 2 := Nat.pow_succ ..
    have pa : (2 : Nat) ^ a.depth ≤ 2 ^ max a.depth b.depth := Nat.pow_le_pow_right (by omega) (Nat.le_max_left _ _)
    have pb : (2 : Nat) ^ b.depth ≤ 2 ^ max a.depth b.depth := Nat.pow_le_pow_right (by omega) (Nat.le_max_right _ _)
    have p1 : 1 ≤ (2 : Nat) ^ max a.depth b.depth := Nat.one_le_two_pow
    have hl2 : fs.length * 2 * 2 ^ max a.depth b.depth ≤ 500000 := by
      rw [hpow, Nat.mul_comm (2 ^ max a.depth b.depth) 2, ← Nat.mul_assoc] at hl
      exact hl
    have hfl : fs.length * 2 ≤ 500000 := Nat.le_trans (Nat.le_mul_of_pos_right _ p1) hl2
    have la : (fA p (pW p w) (pH p h) fs).length * 2 ^ a.depth ≤ 500000 := Nat.le_trans (Nat.mul_le_mul len_A pa) hl2
    have lb : (fB p (pW p w) (pH p h) fs).length * 2 ^ b.depth ≤ 500000 := Nat.le_trans (Nat.mul_le_mul len_B pb) hl2
    have ea : ∀ μ : Mem, m_wrongs_of j [.d (encS (pW p w) (pH p h)), .d (encT (n + 1) a), .d (fieldsD (fA p (pW p w) (pH p h) fs))] μ = .ok (.d (.list ((wr a (n + 1) (pW p w) (pH p h) z).map tripD))) μ := fun μ =>
      iha j (n + 1) (pW p w) (pH p h) _ z μ (by omega) (by omega) hfa hsw hsh (least_A hz) la (by omega)
    have eb : ∀ μ : Mem, m_wrongs_of j [.d (encS (pW p w) (pH p h)), .d (encT (n + 1 + a.words.length) b), .d (fieldsD (fB p (pW p w) (pH p h) fs))] μ = .ok (.d (.list ((wr b (n + 1 + a.words.length) (pW p w) (pH p h) (shP (dR p (pH p h)) (dC p (pW p w)) z)).map tripD))) μ := fun μ =>
      ihb j (n + 1 + a.words.length) (pW p w) (pH p h) _ _ μ (by omega) (by omega) hfb hsw hsh (least_B hsh.pos hz) lb (by omega)
    have wa := wr_len a (n + 1) (pW p w) (pH p h) z
    have wb := wr_len b (n + 1 + a.words.length) (pW p w) (pH p h) (shP (dR p (pH p h)) (dC p (pW p w)) z)
    unfold m_wrongs_of
    refine call_rtM (h := μ.length) (xs := (wr (.part p a b) n w h z).map tripD) (ρ0 := [some (.d (encS w h)), some (.d (encT n (.part p a b))), some (.d (fieldsD fs)), none, none, none, none, none, none, none, none, none, none, none, none]) (μ' := μ ++ [.lst ((wr (.part p a b) n w h z).map tripD)]) rfl rfl ?_ (Nat.le_refl _) (by simp) (by simp)
    refine seq_nx (ρ1 := [some (.d (encS w h)), some (.d (encT n (.part p a b))), some (.d (fieldsD fs)), some (.d (.str p.s)), some (.d (.int n)), some (.d (.str "")), some (.d (.tuple [encT (n + 1) a, encT (n + 1 + a.words.length) b])), none, none, none, none, none, none, none, none]) (μ1 := μ) rfl ?_
    refine seq_nx new_of (seq_nx (if_no (val_of (op_of rfl rfl (in_piecesP p))) rfl) ?_)
    refine seq_nx (ρ1 := [some (.d (encS w h)), some (.d (encT n (.part p a b))), some (.d (fieldsD fs)), some (.d (.str p.s)), some (.d (.int n)), some (.d (.str "")), some (.d (.tuple [encT (n + 1) a, encT (n + 1 + a.words.length) b])), some (.m μ.length), none, none, none, some (.d (encT (n + 1 + a.words.length) b)), some (.d (fieldsD (fB p (pW p w) (pH p h) fs))), none, none]) (μ1 := μ ++ [.lst ((wr (.part p a b) n w h z).map tripD)]) ?_ (ret_of rfl)
    have c1 : (PyData.tuple [encT (n + 1) a, encT (n + 1 + a.words.length) b]).canLay0 = true := by simp [PyData.canLay0, PyData.canLayAll0, canLay_encT]
    have c2 : (PyData.tuple []).canLay0 = true := rfl
    have d2 : min (PyData.tuple [encT (n + 1) a, encT (n + 1 + a.words.length) b]).depth (PyData.tuple []).depth ≤ 64 := by simp [PyData.depth, PyData.depthAll]
    refine if_yes (μ1 := μ ++ [.lst []]) (val_of (op_of (u := .tuple [encT (n + 1) a, encT (n + 1 + a.words.length) b]) (v := .tuple []) rfl rfl ?_)) ?_
    · simp only [fNe, eqD2, scalD, c1, c2, d2, Bool.and_self, decide_true, if_true, Option.map_some]
      simp [PyData.eqv, PyData.eqvAll]
    refine for_of (xs := [.tuple [encT (n + 1) a, fieldsD (fA p (pW p w) (pH p h) fs)], .tuple [encT (n + 1 + a.words.length) b, fieldsD (fB p (pW p w) (pH p h) fs)]]) (μ1 := μ ++ [.lst []]) ?_ ?_
    · simp only [iZip, aCons, aNil, eVar, eCall, List.getElem?_cons_succ, List.getElem?_cons_zero, List.set_cons_succ, List.set_cons_zero, R.bind, fields_of_ok p w h fs _ (by omega : fs.length * 2 ≤ 1000000), zipD]
    · have s1 : sDrop (eExt (eVar 7) (eCall (m_wrongs_of j) (aCons (eCall m_part_of (aCons (eVar 0) (aCons (eVar 3) aNil))) (aCons (eVar 11) (aCons (eVar 12) aNil))))) [some (.d (encS w h)), some (.d (encT n (.part p a b))), some (.d (fieldsD fs)), some (.d (.str p.s)), some (.d (.int n)), some (.d (.str "")), some (.d (.tuple [encT (n + 1) a, encT (n + 1 + a.words.length) b])), some (.m μ.length), none, none, none, some (.d (encT (n + 1) a)), some (.d (fieldsD (fA p (pW p w) (pH p h) fs))), none, none] (μ ++ [.lst []]) = .nx ([some (.d (encS w h)), some (.d (encT n (.part p a b))), some (.d (fieldsD fs)), some (.d (.str p.s)), some (.d (.int n)), some (.d (.str "")), some (.d (.tuple [encT (n + 1) a, encT (n + 1 + a.words.length) b])), some (.m μ.length), none, none, none, some (.d (encT (n + 1) a)), some (.d (fieldsD (fA p (pW p w) (pH p h) fs))), none, none]) (μ ++ [.lst ((wr a (n + 1) (pW p w) (pH p h) z).map tripD)]) := by
        have q := drop_of (ext_of (i := 7) (h := μ.length) (xs := []) (ys := (wr a (n + 1) (pW p w) (pH p h) z).map tripD) (e := eCall (m_wrongs_of j) (aCons (eCall m_part_of (aCons (eVar 0) (aCons (eVar 3) aNil))) (aCons (eVar 11) (aCons (eVar 12) aNil)))) (ρ := [some (.d (encS w h)), some (.d (encT n (.part p a b))), some (.d (fieldsD fs)), some (.d (.str p.s)), some (.d (.int n)), some (.d (.str "")), some (.d (.tuple [encT (n + 1) a, encT (n + 1 + a.words.length) b])), some (.m μ.length), none, none, none, some (.d (encT (n + 1) a)), some (.d (fieldsD (fA p (pW p w) (pH p h) fs))), none, none]) (μ := μ ++ [.lst []]) rfl (by simp) (call_of (cons_of (call_of rfl (prog_part p w h _)) rfl) (ea _)) (by simp; omega))
        rw [q]
        simp
      have s2 : sDrop (eExt (eVar 7) (eCall (m_wrongs_of j) (aCons (eCall m_part_of (aCons (eVar 0) (aCons (eVar 3) aNil))) (aCons (eVar 11) (aCons (eVar 12) aNil))))) [some (.d (encS w h)), some (.d (encT n (.part p a b))), some (.d (fieldsD fs)), some (.d (.str p.s)), some (.d (.int n)), some (.d (.str "")), some (.d (.tuple [encT (n + 1) a, encT (n + 1 + a.words.length) b])), some (.m μ.length), none, none, none, some (.d (encT (n + 1 + a.words.length) b)), some (.d (fieldsD (fB p (pW p w) (pH p h) fs))), none, none] (μ ++ [.lst ((wr a (n + 1) (pW p w) (pH p h) z).map tripD)]) = .nx ([some (.d (encS w h)), some (.d (encT n (.part p a b))), some (.d (fieldsD fs)), some (.d (.str p.s)), some (.d (.int n)), some (.d (.str "")), some (.d (.tuple [encT (n + 1) a, encT (n + 1 + a.words.length) b])), some (.m μ.length), none, none, none, some (.d (encT (n + 1 + a.words.length) b)), some (.d (fieldsD (fB p (pW p w) (pH p h) fs))), none, none]) (μ ++ [.lst ((wr (.part p a b) n w h z).map tripD)]) := by
        have q := drop_of (ext_of (i := 7) (h := μ.length) (xs := (wr a (n + 1) (pW p w) (pH p h) z).map tripD) (ys := (wr b (n + 1 + a.words.length) (pW p w) (pH p h) (shP (dR p (pH p h)) (dC p (pW p w)) z)).map tripD) (e := eCall (m_wrongs_of j) (aCons (eCall m_part_of (aCons (eVar 0) (aCons (eVar 3) aNil))) (aCons (eVar 11) (aCons (eVar 12) aNil)))) (ρ := [some (.d (encS w h)), some (.d (encT n (.part p a b))), some (.d (fieldsD fs)), some (.d (.str p.s)), some (.d (.int n)), some (.d (.str "")), some (.d (.tuple [encT (n + 1) a, encT (n + 1 + a.words.length) b])), some (.m μ.length), none, none, none, some (.d (encT (n + 1 + a.words.length) b)), some (.d (fieldsD (fB p (pW p w) (pH p h) fs))), none, none]) (μ := μ ++ [.lst ((wr a (n + 1) (pW p w) (pH p h) z).map tripD)]) rfl (by simp) (call_of (cons_of (call_of rfl (prog_part p w h _)) rfl) (eb _)) (by simp; omega))
        rw [q]
        simp [wr]
      simp only [forGo, gTp, gSeq, gNm, List.set_cons_succ, List.set_cons_zero, s1, s2]
  | piece q c t ih =>
    intro k n w h fs z μ hk hd hf hw hh hz hl hwl
    obtain ⟨j, rfl⟩ : ∃ j, k = j + 1 := ⟨k - 1, by omega⟩
    obtain ⟨hfq, hft⟩ := hf
    simp only [Tree.depth] at hk hd hl
    simp only [Tree.words, List.length_cons] at hwl
    have hpow : (2 : Nat) ^ (t.depth + 1) = 2 ^ t.depth * 2 := Nat.pow_succ ..
    have p1 : 1 ≤ (2 : Nat) ^ t.depth := Nat.one_le_two_pow
    have hl1 : fs.length * 2 ^ t.depth ≤ 500000 := Nat.le_trans (Nat.mul_le_mul_left _ (by omega)) hl
    have hfl : fs.length ≤ 500000 := Nat.le_trans (Nat.le_mul_of_pos_right _ p1) hl1
    have et : ∀ μ : Mem, m_wrongs_of j [.d (encS w h), .d (encT (n + 2) t), .d (fieldsD fs)] μ = .ok (.d (.list ((wr t (n + 2) w h z).map tripD))) μ := fun μ => ih j (n + 2) w h fs z μ (by omega) (by omega) hft hw hh hz hl1 (by omega)
    have wt := wr_len t (n + 2) w h z
    obtain ⟨x10, hrows⟩ := rows_loop (w := w) (h := h) (n := n) (q := q) (c := c) (t := t) (fs := fs) (f := cell t w h) (μ := μ) hw.le hh.le
    unfold m_wrongs_of
    refine call_rt (ρ0 := [some (.d (encS w h)), some (.d (encT n (.piece q c t))), some (.d (fieldsD fs)), none, none, none, none, none, none, none, none, none, none, none, none]) (μ' := μ ++ [.lst ((match cellsW q c w h (cell t w h) with | [] => ([] : List (Nat × Nat × Nat)) | x :: _ => [(n, z.1 + x.1, z.2 + x.2)]).map tripD), .lst ((cellsW q c w h (cell t w h)).map pairD)]) rfl rfl ?_ (by simp)
    refine seq_nx (ρ1 := [some (.d (encS w h)), some (.d (encT n (.piece q c t))), some (.d (fieldsD fs)), some (.d (.str q.s)), some (.d (.int n)), some (.d (.str c.s)), some (.d (.tuple [encT (n + 2) t])), none, none, none, none, none, none, none, none]) (μ1 := μ) rfl ?_
    refine seq_nx new_of (seq_rt (if_yes (val_of (op_of rfl rfl (in_piecesQ q))) ?_))
    refine seq_nx (asg_of (call_of (cons_of rfl (cons_of (op_of (u := .tuple [encT (n + 2) t]) (v := .int 0) rfl rfl rfl) rfl)) (drawing_ok t 90 (n + 2) w h _ (by omega) hft hw hh)) rfl) ?_
    refine seq_nx (ρ1 := EW w h n (.piece q c t) fs q.s c.s [encT (n + 2) t] (some (.d (encM w h (cell t w h)))) (some (.m (μ.length + 1))) none none none none none μ.length) (μ1 := μ ++ [.lst [], .lst []]) (by rw [new_of]; simp [EW]) ?_
    refine seq_nx hrows ?_
    have fin : ∀ ts : List (Nat × Nat × Nat), ts.length ≤ 1 → sRet (eOp fAdd (eVar 7) (eCall (m_wrongs_of j) (aCons (eVar 0) (aCons (eOp fIx (eVar 6) (eC (.int 0))) (aCons (eVar 2) aNil))))) (EW w h n (.piece q c t) fs q.s c.s [encT (n + 2) t] (some (.d (encM w h (cell t w h)))) (some (.m (μ.length + 1))) x10 none none none none μ.length) (μ ++ [.lst (ts.map tripD), .lst ((cellsW q c w h (cell t w h)).map pairD)]) = .rt (.d (.list ((ts ++ wr t (n + 2) w h z).map tripD))) (μ ++ [.lst (ts.map tripD), .lst ((cellsW q c w h (cell t w h)).map pairD)]) := fun ts hts => by
      refine ret_of (opM_of (h := μ.length) rfl (call_of (cons_of rfl (cons_of (op_of (u := .tuple [encT (n + 2) t]) (v := .int 0) rfl rfl rfl) rfl)) (et _)) (xs := ts.map tripD) (by simp) ?_)
      rw [add_lists (by simp; omega)]
      simp
    have tst : bVal (eOp fNe (eVar 9) (eLst aNil)) (EW w h n (.piece q c t) fs q.s c.s [encT (n + 2) t] (some (.d (encM w h (cell t w h)))) (some (.m (μ.length + 1))) x10 none none none none μ.length) (μ ++ [.lst [], .lst ((cellsW q c w h (cell t w h)).map pairD)]) = .ok (!decide ((cellsW q c w h (cell t w h)).map pairD = [])) (μ ++ [.lst [], .lst ((cellsW q c w h (cell t w h)).map pairD)]) :=
      val_of (opM_of (h := μ.length + 1) (v := .list []) rfl (by simp) (by simp) (ne_nilP _ _ fun p => (pair_ok p).1))
    cases hc : cellsW q c w h (cell t w h) with
    | nil =>
      rw [hc] at tst fin
      have f := fin [] (by simp)
      refine seq_nx (if_no (by simpa using tst) rfl) ?_
      simpa [wr, hc] using f
    | cons x xs =>
      rw [hc] at tst fin
      have f := fin [(n, z.1 + x.1, z.2 + x.2)] (by simp)
      refine seq_nx (ρ1 := EW w h n (.piece q c t) fs q.s c.s [encT (n + 2) t] (some (.d (encM w h (cell t w h)))) (some (.m (μ.length + 1))) x10 none none none none μ.length) (μ1 := μ ++ [.lst ([(n, z.1 + x.1, z.2 + x.2)].map tripD), .lst ((x :: xs).map pairD)]) (if_yes (by simpa using tst) ?_) ?_
      · have hcomp : eComp (iSeq (eVar 2)) (gTp [gNm 10, gNm 14]) bYes (eTup (aCons (eOp fAdd (eVar 10) (eOp fIx (eOp fIx (eVar 9) (eC (.int 0))) (eC (.int 0)))) (aCons (eOp fAdd (eVar 14) (eOp fIx (eOp fIx (eVar 9) (eC (.int 0))) (eC (.int 1)))) aNil))) [10, 14] (EW w h n (.piece q c t) fs q.s c.s [encT (n + 2) t] (some (.d (encM w h (cell t w h)))) (some (.m (μ.length + 1))) x10 none none none none μ.length) (μ ++ [.lst [], .lst ((x :: xs).map pairD)]) = .ok (.d (.list (fs.map fun y => pairD (shP x.1 x.2 y)))) (μ ++ [.lst [], .lst ((x :: xs).map pairD)]) := by
          have q2 := comp_of (e := eTup (aCons (eOp fAdd (eVar 10) (eOp fIx (eOp fIx (eVar 9) (eC (.int 0))) (eC (.int 0)))) (aCons (eOp fAdd (eVar 14) (eOp fIx (eOp fIx (eVar 9) (eC (.int 0))) (eC (.int 1)))) aNil))) (g := gTp [gNm 10, gNm 14]) (t := bYes) (vs := [10, 14]) (ρ := EW w h n (.piece q c t) fs q.s c.s [encT (n + 2) t] (some (.d (encM w h (cell t w h)))) (some (.m (μ.length + 1))) x10 none none none none μ.length) (μ := μ ++ [.lst [], .lst ((x :: xs).map pairD)]) (iseq_of (e := eVar 2) (xs := fs.map pairD) rfl) (comp_sh (r := x.1) (k := x.2) (by omega) (by simp) (by simp) (by decide) fun p => ?_)
          · rw [q2]
            simp
          · have r1 : eOp fIx (eVar 9) (eC (.int 0)) (((wipeD (EW w h n (.piece q c t) fs q.s c.s [encT (n + 2) t] (some (.d (encM w h (cell t w h)))) (some (.m (μ.length + 1))) x10 none none none none μ.length) [10, 14]).set 10 (some (.d (.int p.1)))).set 14 (some (.d (.int p.2)))) (μ ++ [.lst [], .lst ((x :: xs).map pairD)]) = .ok (.d (pairD x)) (μ ++ [.lst [], .lst ((x :: xs).map pairD)]) :=
              opM_of (h := μ.length + 1) (v := .int 0) (xs := (x :: xs).map pairD) rfl rfl (by simp) (by simp)
            refine tup_of (xs := [.int ((p.1 : Int) + x.1), .int ((p.2 : Int) + x.2)]) (cons_of (op_of rfl (op_of r1 rfl (by simp [pairD]; rfl)) rfl) (cons_of (op_of rfl (op_of r1 rfl (by simp [pairD]; rfl)) rfl) rfl)) rfl (by simp)
        have ap := app_of (i := 7) (h := μ.length) (xs := []) (x := tripD (n, z.1 + x.1, z.2 + x.2)) (ρ := EW w h n (.piece q c t) fs q.s c.s [encT (n + 2) t] (some (.d (encM w h (cell t w h)))) (some (.m (μ.length + 1))) x10 none none none none μ.length) (μ := μ ++ [.lst [], .lst ((x :: xs).map pairD)]) (e := eOp fAdd (eTup (aCons (eVar 4) aNil)) (eCB bMin (aCons (eComp (iSeq (eVar 2)) (gTp [gNm 10, gNm 14]) bYes (eTup (aCons (eOp fAdd (eVar 10) (eOp fIx (eOp fIx (eVar 9) (eC (.int 0))) (eC (.int 0)))) (aCons (eOp fAdd (eVar 14) (eOp fIx (eOp fIx (eVar 9) (eC (.int 0))) (eC (.int 1)))) aNil))) [10, 14]) aNil))) rfl (by simp) (op_of (u := .tuple [.int n]) (v := pairD (shP x.1 x.2 z)) rfl (cb1_of hcomp (min_pairs hz (by omega))) (by simp [pairD, shP, tripD])) (by simp)
        refine (drop_of ap).trans ?_
        simp [EW]
      · simpa [wr, hc] using f
end Bz
set_option Elab.async false
set_option linter.all false
set_option maxRecDepth 100000
set_option maxHeartbeats 2000000
/-! Reading: cut out, laid over one another. -/
namespace Bz
open PySem
theorem range_cut (g : Nat → PyData) {n a b : Nat} (h : a + b ≤ n) : (((List.range n).map g).drop a).take b = (List.range b).map fun i => g (a + i) := by
  apply List.ext_getElem
  · simp; omega
  · intro i h1 h2
    simp
theorem sl_of {e l u : DE} {ρ : Env} {μ : Mem} {x y : PyData} {i j : Int} (h1 : e ρ μ = .ok (.d x) μ) (h2 : l ρ μ = .ok (.d (.int i)) μ) (h3 : u ρ μ = .ok (.d (.int j)) μ) (h4 : fSl (some i) (some j) x = some y) : eSl e (oYes l) (oYes u) ρ μ = .ok (.d y) μ := by
  simp only [eSl, oYes, h1, h2, h3, R.bind, rd, h4, R.of]
theorem sl_tup {xs ys : List PyData} {a b : Nat} (h : (xs.drop a).take b = ys) : fSl (some (a : Int)) (some ((a : Int) + (b : Int))) (.tuple xs) = some (.tuple ys) := by
  have e : ((a : Int) + (b : Int)) = ((a + b : Nat) : Int) := by omega
  simp only [fSl, e, cut_run, Nat.add_sub_cancel_left, h]
theorem cut_out_ok {w h w' h' r0 c0 : Nat} {f : Patch} (μ : Mem) (hr : r0 + h' ≤ h) (hc : c0 + w' ≤ w) (hs : h' ≤ 1000) :
    m_cut_out [.d (encP w h f), .d (.int r0), .d (.int c0), .d (encS w' h')] μ = .ok (.d (encP w' h' fun r k => f (r0 + r) (c0 + k))) μ := by
  unfold m_cut_out
  refine call_rt (ρ0 := [some (.d (encP w h f)), some (.d (.int r0)), some (.d (.int c0)), some (.d (encS w' h')), none]) rfl rfl (ret_of (cb1_of (x := .list ((List.range h').map fun r => rowP w' fun k => f (r0 + r) (c0 + k))) (comp_of (iseqT_of (xs := (List.range h').map fun r => rowP w (f (r0 + r))) (sl_of rfl rfl (op_of rfl (op_of rfl rfl rfl) rfl) (sl_tup (range_cut _ hr)))) ?_) rfl)) List.take_length
  rw [comp_map (ρ' := fun r => [some (.d (encP w h f)), some (.d (.int r0)), some (.d (.int c0)), some (.d (encS w' h')), some (.d (rowP w (f (r0 + r))))]) (f := fun r => rowP w' fun k => f (r0 + r) (c0 + k)) (List.range h') [] (by simp; omega) (fun r _ => rfl) (fun r _ => sl_of rfl rfl (op_of rfl (op_of rfl rfl rfl) rfl) (sl_tup (range_cut _ hc)))]
  rfl
/-- a loop's first turns -/
theorem for_pre {g : DG} {b : DS} {n : Nat} {f : Nat → PyData} (ys : List PyData) (I : Nat → Env → Mem → Prop) {ρ : Env} {μ : Mem} (h0 : I 0 ρ μ) (hs : ∀ j, j < n → ∀ ρ μ, I j ρ μ → ∃ ρ1 ρ2 μ2, g (.d (f j)) ρ = some ρ1 ∧ b ρ1 μ = .nx ρ2 μ2 ∧ I (j + 1) ρ2 μ2) : ∃ ρ' μ', forGo g b ((List.range n).map f ++ ys) ρ μ = forGo g b ys ρ' μ' ∧ I n ρ' μ' := by
  suffices H : ∀ m j, j + m = n → ∀ ρ μ, I j ρ μ → ∃ ρ' μ', forGo g b ((List.range' j m).map f ++ ys) ρ μ = forGo g b ys ρ' μ' ∧ I n ρ' μ' by
    rw [List.range_eq_range']
    exact H n 0 (by omega) ρ μ h0
  intro m
  induction m with
  | zero =>
    intro j hj ρ μ hI
    obtain rfl : j = n := by omega
    exact ⟨ρ, μ, rfl, hI⟩
  | succ m ih =>
    intro j hj ρ μ hI
    obtain ⟨ρ1, ρ2, μ2, h1, h2, h3⟩ := hs j (by omega) ρ μ hI
    obtain ⟨ρ', μ', h4, h5⟩ := ih (j + 1) (by omega) ρ2 μ2 h3
    refine ⟨ρ', μ', ?_, h5⟩
    rw [List.range'_succ, List.map_cons, List.cons_append]
    simp only [forGo, h1, h2]
    exact h4
/-- the pairs of two rows -/
def pairsP (w : Nat) (f g : Nat → Option Col) : List PyData := (List.range w).map fun k => .tuple [.str (oS (f k)), .str (oS (g k))]
theorem zip_rowP (w : Nat) (f g : Nat → Option Col) : zipD ((List.range w).map fun k => .str (oS (f k))) ((List.range w).map fun k => .str (oS (g k))) = pairsP w f g := by
  unfold pairsP
  induction (List.range w) with
  | nil => rfl
  | cons x xs ih => simp [zipD, ih]
theorem zip_rowsP (w h : Nat) (f g : Patch) : zipD (rowsP w h f) (rowsP w h g) = (List.range h).map fun r => .tuple [rowP w (f r), rowP w (g r)] := by
  unfold rowsP
  induction (List.range h) with
  | nil => rfl
  | cons x xs ih => simp [zipD, ih]
def clash (a b : Option Col) : Bool := (decide (a ≠ none) && decide (b ≠ none)) && decide (a ≠ b)
theorem agree_iff {a b : Option Col} : agree a b ↔ clash a b = false := by
  cases a <;> cases b <;> simp [agree, clash]
theorem notin_any (a b : Option Col) : fNotIn (.str "") (.tuple [.str (oS a), .str (oS b)]) = some (.bool (decide (a ≠ none) && decide (b ≠ none))) := by
  have e : inD (.str "") [.str (oS a), .str (oS b)] = decide ((a = none) ∨ (b = none)) := by
    have q := inD_str (x := "") (ys := [oS a, oS b])
    rw [show [oS a, oS b].map PyData.str = [.str (oS a), .str (oS b)] from rfl] at q
    rw [q]
    rw [Bool.eq_iff_iff]
    simp only [decide_eq_true_eq, List.mem_cons, List.not_mem_nil, or_false, ← oS_nil, eq_comm]
  simp only [fNotIn, flatD, List.all_cons, List.all_nil, Bool.and_self, if_true, e]
  by_cases h1 : a = none <;> by_cases h2 : b = none <;> simp [h1, h2]
abbrev EL (w h : Nat) (f g : Patch) (m2 x3 x4 x5 x6 : Option S) : Env := [some (.d (encP w h f)), some (.d (encP w h g)), m2, x3, x4, x5, x6]
theorem band_of {t u : DT} {ρ : Env} {μ : Mem} {a b : Bool} (h1 : t ρ μ = .ok a μ) (h2 : u ρ μ = .ok b μ) : bAnd t u ρ μ = .ok (a && b) μ := by
  simp only [bAnd, h1, R.bind]
  cases a
  · rfl
  · simpa using h2
theorem clash_go {w : Nat} {f g : Nat → Option Col} {ρ : Env} {μ : Mem} (hi : 6 < ρ.length) (hw : w ≤ 1000) : compGo (gNm 6) (bAnd (bVal (eOp fNotIn (eC c_ANY) (eVar 6))) (bVal (eOp fNe (eOp fIx (eVar 6) (eC (.int 0))) (eOp fIx (eVar 6) (eC (.int 1)))))) (eVar 6) ρ (pairsP w f g) [] μ =
    .ok (((List.range w).filter fun k => clash (f k) (g k)).map fun k => .tuple [.str (oS (f k)), .str (oS (g k))]) μ := by
  refine comp_filter (g := fun k => PyData.tuple [.str (oS (f k)), .str (oS (g k))]) (p := fun k => clash (f k) (g k)) (List.range w) [] (by simp; omega) (fun k _ => ?_) (fun k _ => by simp [hi])
  have hi' : (ρ.set 6 (some (.d (.tuple [.str (oS (f k)), .str (oS (g k))]))))[6]? = some (some (.d (.tuple [.str (oS (f k)), .str (oS (g k))]))) := List.getElem?_set_self hi
  have v6 : eVar 6 (ρ.set 6 (some (.d (.tuple [.str (oS (f k)), .str (oS (g k))])))) μ = .ok (.d (.tuple [.str (oS (f k)), .str (oS (g k))])) μ := by simp only [eVar, hi']
  have t1 : bVal (eOp fNotIn (eC c_ANY) (eVar 6)) (ρ.set 6 (some (.d (.tuple [.str (oS (f k)), .str (oS (g k))])))) μ = .ok (decide (f k ≠ none) && decide (g k ≠ none)) μ := val_of (op_of rfl v6 (notin_any _ _))
  have t2 : bVal (eOp fNe (eOp fIx (eVar 6) (eC (.int 0))) (eOp fIx (eVar 6) (eC (.int 1)))) (ρ.set 6 (some (.d (.tuple [.str (oS (f k)), .str (oS (g k))])))) μ = .ok (decide (f k ≠ g k)) μ := by
    refine val_of (op_of (u := .str (oS (f k))) (v := .str (oS (g k))) (op_of v6 rfl (by simp)) (op_of v6 rfl (by simp)) ?_)
    by_cases e : f k = g k
    · simp [e]
    · have : oS (f k) ≠ oS (g k) := fun z => e (oS_inj z)
      simp [e, this]
  exact band_of t1 t2
theorem mrg_go {w : Nat} {f g : Nat → Option Col} {ρ : Env} {μ : Mem} (hi : 6 < ρ.length) (hw : w ≤ 1000) : compGo (gNm 6) bYes (eIf (bVal (eOp fEq (eOp fIx (eVar 6) (eC (.int 1))) (eC c_ANY))) (eOp fIx (eVar 6) (eC (.int 0))) (eOp fIx (eVar 6) (eC (.int 1)))) ρ (pairsP w f g) [] μ =
    .ok ((List.range w).map fun k => .str (oS (mrg (f k) (g k)))) μ := by
  unfold pairsP
  rw [comp_map (ρ' := fun k => ρ.set 6 (some (.d (.tuple [.str (oS (f k)), .str (oS (g k))])))) (f := fun k => .str (oS (mrg (f k) (g k)))) (List.range w) [] (by simp; omega) (fun k _ => rfl) (fun k _ => ?_)]
  · rfl
  have hi' : (ρ.set 6 (some (.d (.tuple [.str (oS (f k)), .str (oS (g k))]))))[6]? = some (some (.d (.tuple [.str (oS (f k)), .str (oS (g k))]))) := List.getElem?_set_self hi
  have v6 : eVar 6 (ρ.set 6 (some (.d (.tuple [.str (oS (f k)), .str (oS (g k))])))) μ = .ok (.d (.tuple [.str (oS (f k)), .str (oS (g k))])) μ := by simp only [eVar, hi']
  have x0 : eOp fIx (eVar 6) (eC (.int 0)) (ρ.set 6 (some (.d (.tuple [.str (oS (f k)), .str (oS (g k))])))) μ = .ok (.d (.str (oS (f k)))) μ := op_of v6 rfl (by simp)
  have x1 : eOp fIx (eVar 6) (eC (.int 1)) (ρ.set 6 (some (.d (.tuple [.str (oS (f k)), .str (oS (g k))])))) μ = .ok (.d (.str (oS (g k)))) μ := op_of v6 rfl (by simp)
  have t : bVal (eOp fEq (eOp fIx (eVar 6) (eC (.int 1))) (eC c_ANY)) (ρ.set 6 (some (.d (.tuple [.str (oS (f k)), .str (oS (g k))])))) μ = .ok (decide (g k = none)) μ := by
    refine val_of (op_of (v := .str "") x1 rfl ?_)
    simp [oS_nil]
  simp only [eIf, t, R.bind]
  cases hg : g k with
  | none =>
    rw [hg] at x0
    simp only [decide_true, if_true, mrg]
    exact x0
  | some c =>
    rw [hg] at x1
    simp only [reduceCtorEq, decide_false, Bool.false_eq_true, if_false, mrg]
    exact x1
theorem ne_nil_list {xs : List PyData} (h : (PyData.list xs).canLay0 = true) : fNe (.list xs) (.list []) = some (.bool (!decide (xs = []))) := by
  have c2 : (PyData.list []).canLay0 = true := rfl
  simp only [fNe, eqD2, scalD, h, c2, min_depth0, eqv_nil, Bool.and_self, decide_true, if_true, Option.map_some]
abbrev laidB : DS := sSeq (sAsg (eCB bLstZip (aCons (eVar 3) (aCons (eVar 4) aNil))) (gNm 5))
  (sSeq (sIf (bVal (eOp fNe (eComp (iSeq (eVar 5)) (gNm 6) (bAnd (bVal (eOp fNotIn (eC c_ANY) (eVar 6))) (bVal (eOp fNe (eOp fIx (eVar 6) (eC (.int 0))) (eOp fIx (eVar 6) (eC (.int 1)))))) (eVar 6) [6]) (eLst aNil))) (sRet (eC .none)) sNx)
  (sDrop (eApp (eVar 2) (eCB bTup (aCons (eComp (iSeq (eVar 5)) (gNm 6) bYes (eIf (bVal (eOp fEq (eOp fIx (eVar 6) (eC (.int 1))) (eC c_ANY))) (eOp fIx (eVar 6) (eC (.int 0))) (eOp fIx (eVar 6) (eC (.int 1)))) [6]) aNil)))))
theorem laid_row {w h r : Nat} {f g : Patch} (hr : r < h) (hw : w ≤ 1000) (hh : h ≤ 1000) (x3 x4 x5 x6 : Option S) (μ : Mem) (acc : List PyData) (hacc : acc.length ≤ 1000) :
    ∃ ρ1, gTp [gNm 3, gNm 4] (.d (.tuple [rowP w (f r), rowP w (g r)])) (EL w h f g (some (.m μ.length)) x3 x4 x5 x6) = some ρ1 ∧
      laidB ρ1 (μ ++ [.lst acc]) =
        (if (List.range w).any (fun k => clash (f r k) (g r k)) then .rt (.d .none) (μ ++ [.lst acc])
          else .nx (EL w h f g (some (.m μ.length)) (some (.d (rowP w (f r)))) (some (.d (rowP w (g r)))) (some (.d (.list (pairsP w (f r) (g r))))) x6) (μ ++ [.lst (acc ++ [rowP w fun k => mrg (f r k) (g r k)])])) := by
  refine ⟨EL w h f g (some (.m μ.length)) (some (.d (rowP w (f r)))) (some (.d (rowP w (g r)))) x5 x6, rfl, ?_⟩
  refine seq_nx (ρ1 := EL w h f g (some (.m μ.length)) (some (.d (rowP w (f r)))) (some (.d (rowP w (g r)))) (some (.d (.list (pairsP w (f r) (g r))))) x6) (μ1 := μ ++ [.lst acc]) (asg_of (s := .d (.list (pairsP w (f r) (g r)))) ?_ rfl) ?_
  · have e : bLstZip [rowP w (f r), rowP w (g r)] = some (.list (pairsP w (f r) (g r))) := by
      simp only [rowP, bLstZip, small, List.length_map, List.length_range, show w ≤ 1000000 by omega, decide_true, if_true, zip_rowP]
    simp only [eCB, aCons, aNil, eVar, R.bind, List.getElem?_cons_succ, List.getElem?_cons_zero, rdL, rd, e, R.of]
  have hc := clash_go (w := w) (f := f r) (g := g r) (ρ := wipeD (EL w h f g (some (.m μ.length)) (some (.d (rowP w (f r)))) (some (.d (rowP w (g r)))) (some (.d (.list (pairsP w (f r) (g r))))) x6) [6]) (μ := μ ++ [.lst acc]) (by simp) hw
  have tst : bVal (eOp fNe (eComp (iSeq (eVar 5)) (gNm 6) (bAnd (bVal (eOp fNotIn (eC c_ANY) (eVar 6))) (bVal (eOp fNe (eOp fIx (eVar 6) (eC (.int 0))) (eOp fIx (eVar 6) (eC (.int 1)))))) (eVar 6) [6]) (eLst aNil)) (EL w h f g (some (.m μ.length)) (some (.d (rowP w (f r)))) (some (.d (rowP w (g r)))) (some (.d (.list (pairsP w (f r) (g r))))) x6) (μ ++ [.lst acc]) = .ok ((List.range w).any fun k => clash (f r k) (g r k)) (μ ++ [.lst acc]) := by
    refine val_of (op_of (comp_of (iseq_of rfl) hc) rfl ?_)
    rw [ne_nil_list (by
      simp only [PyData.canLay0]
      exact canLay_all _ fun k _ => by simp [PyData.canLay0, PyData.canLayAll0]), filter_ne]
    simp
  cases hb : (List.range w).any fun k => clash (f r k) (g r k) with
  | true =>
    rw [hb] at tst
    exact seq_rt (if_yes tst (ret_of rfl))
  | false =>
    rw [hb] at tst
    refine seq_nx (if_no tst rfl) ?_
    have hm := mrg_go (w := w) (f := f r) (g := g r) (ρ := wipeD (EL w h f g (some (.m μ.length)) (some (.d (rowP w (f r)))) (some (.d (rowP w (g r)))) (some (.d (.list (pairsP w (f r) (g r))))) x6) [6]) (μ := μ ++ [.lst acc]) (by simp) hw
    have ap := app_of (e := eCB bTup (aCons (eComp (iSeq (eVar 5)) (gNm 6) bYes (eIf (bVal (eOp fEq (eOp fIx (eVar 6) (eC (.int 1))) (eC c_ANY))) (eOp fIx (eVar 6) (eC (.int 0))) (eOp fIx (eVar 6) (eC (.int 1)))) [6]) aNil)) (i := 2) (h := μ.length) (xs := acc) (x := rowP w fun k => mrg (f r k) (g r k)) (μ := μ ++ [.lst acc]) (ρ := EL w h f g (some (.m μ.length)) (some (.d (rowP w (f r)))) (some (.d (rowP w (g r)))) (some (.d (.list (pairsP w (f r) (g r))))) x6) rfl (by simp) (cb1_of (f := bTup) (comp_of (iseq_of (xs := pairsP w (f r) (g r)) rfl) hm) rfl) (by omega)
    refine (drop_of ap).trans ?_
    simp
theorem least_of {p : Nat → Bool} : ∀ n : Nat, (∃ r, r < n ∧ p r = true) → ∃ r, r < n ∧ p r = true ∧ ∀ j, j < r → p j = false
  | 0, ⟨r, h, _⟩ => absurd h (by omega)
  | n + 1, ⟨r, h, e⟩ => by
    by_cases q : ∃ r, r < n ∧ p r = true
    · obtain ⟨r', h1, h2, h3⟩ := least_of n q
      exact ⟨r', by omega, h2, h3⟩
    · have hr : r = n := by
        by_cases hn : r < n
        · exact absurd ⟨r, hn, e⟩ q
        · omega
      subst hr
      refine ⟨r, by omega, e, fun j hj => ?_⟩
      cases hp : p j with
      | false => rfl
      | true => exact absurd ⟨j, hj, hp⟩ q
def clashR (w : Nat) (f g : Patch) (r : Nat) : Bool := (List.range w).any fun k => clash (f r k) (g r k)
theorem laid_ok {w h : Nat} {f g : Patch} (μ : Mem) (hw : w ≤ 1000) (hh : h ≤ 1000) :
    m_laid [.d (encP w h f), .d (encP w h g)] μ = .ok (.d (if (List.range h).any (clashR w f g) then .none else encP w h fun r k => mrg (f r k) (g r k))) μ := by
  unfold m_laid
  have body : ∀ (j : Nat), j < h → ∀ x3 x4 x5 x6, ∃ ρ1, gTp [gNm 3, gNm 4] (.d (.tuple [rowP w (f j), rowP w (g j)])) (EL w h f g (some (.m μ.length)) x3 x4 x5 x6) = some ρ1 ∧ _ := fun j hj x3 x4 x5 x6 => laid_row (w := w) (h := h) (f := f) (g := g) hj hw hh x3 x4 x5 x6 μ ((List.range j).map fun r => rowP w fun k => mrg (f r k) (g r k)) (by simp; omega)
  have turn : ∀ n, n ≤ h → (∀ j, j < n → clashR w f g j = false) → ∀ j, j < n → ∀ (ρ : Env) (μ' : Mem), ((∃ x3 x4 x5 x6, ρ = EL w h f g (some (.m μ.length)) x3 x4 x5 x6) ∧ μ' = μ ++ [.lst ((List.range j).map fun r => rowP w fun k => mrg (f r k) (g r k))]) →
      ∃ ρ1 ρ2 μ2, gTp [gNm 3, gNm 4] (.d (.tuple [rowP w (f j), rowP w (g j)])) ρ = some ρ1 ∧ laidB ρ1 μ' = .nx ρ2 μ2 ∧ ((∃ x3 x4 x5 x6, ρ2 = EL w h f g (some (.m μ.length)) x3 x4 x5 x6) ∧ μ2 = μ ++ [.lst ((List.range (j + 1)).map fun r => rowP w fun k => mrg (f r k) (g r k))]) := by
    rintro n hn hc j hj ρ μ' ⟨⟨x3, x4, x5, x6, rfl⟩, rfl⟩
    obtain ⟨ρ1, e1, e2⟩ := body j (by omega) x3 x4 x5 x6
    have hcj := hc j hj
    unfold clashR at hcj
    rw [hcj] at e2
    refine ⟨ρ1, _, _, e1, e2, ⟨_, _, _, _, rfl⟩, ?_⟩
    rw [List.range_succ, List.map_append]
    rfl
  by_cases hcl : ∃ r, r < h ∧ clashR w f g r = true
  · obtain ⟨r, hr, hp, hl⟩ := least_of h hcl
    have hany : (List.range h).any (clashR w f g) = true := List.any_eq_true.mpr ⟨r, List.mem_range.mpr hr, hp⟩
    rw [hany]
    refine call_rt (μ' := μ ++ [.lst ((List.range r).map fun r => rowP w fun k => mrg (f r k) (g r k))]) (ρ0 := [some (.d (encP w h f)), some (.d (encP w h g)), none, none, none, none, none]) rfl rfl ?_ (by simp)
    refine seq_nx new_of (seq_rt ?_)
    refine for_of (xs := (List.range r).map (fun r => .tuple [rowP w (f r), rowP w (g r)]) ++ (.tuple [rowP w (f r), rowP w (g r)] :: ((List.range h).drop (r + 1)).map fun r => .tuple [rowP w (f r), rowP w (g r)])) (μ1 := μ ++ [.lst []]) ?_ ?_
    · have e : (List.range r).map (fun r => PyData.tuple [rowP w (f r), rowP w (g r)]) ++ (.tuple [rowP w (f r), rowP w (g r)] :: ((List.range h).drop (r + 1)).map fun r => .tuple [rowP w (f r), rowP w (g r)]) = zipD (rowsP w h f) (rowsP w h g) := by
        rw [zip_rowsP]
        have e2 : List.range h = List.range r ++ (r :: (List.range h).drop (r + 1)) := by
          conv => lhs; rw [← List.take_append_drop r (List.range h)]
          rw [List.drop_eq_getElem_cons (by simpa using hr), List.take_range, Nat.min_eq_left (by omega)]
          simp
        conv => rhs; rw [e2, List.map_append, List.map_cons]
      rw [e]
      rfl
    · obtain ⟨ρ', μ', e, ⟨⟨x3, x4, x5, x6, rfl⟩, rfl⟩⟩ := for_pre (g := gTp [gNm 3, gNm 4]) (n := r) (f := fun r => PyData.tuple [rowP w (f r), rowP w (g r)]) (.tuple [rowP w (f r), rowP w (g r)] :: ((List.range h).drop (r + 1)).map fun r => .tuple [rowP w (f r), rowP w (g r)]) (fun j ρ μ' => (∃ x3 x4 x5 x6, ρ = EL w h f g (some (.m μ.length)) x3 x4 x5 x6) ∧ μ' = μ ++ [.lst ((List.range j).map fun r => rowP w fun k => mrg (f r k) (g r k))]) (ρ := EL w h f g (some (.m μ.length)) none none none none) (μ := μ ++ [.lst []]) ⟨⟨_, _, _, _, rfl⟩, rfl⟩ (turn r (by omega) hl)
      refine e.trans ?_
      obtain ⟨ρ1, e1, e2⟩ := body r hr x3 x4 x5 x6
      unfold clashR at hp
      rw [hp] at e2
      simp only [forGo, e1, e2, if_true]
  · have hall : ∀ j, j < h → clashR w f g j = false := fun j hj => by
      cases hp : clashR w f g j with
      | false => rfl
      | true => exact absurd ⟨j, hj, hp⟩ hcl
    have hany : (List.range h).any (clashR w f g) = false := by
      rw [List.any_eq_false]
      intro r hr
      rw [hall r (List.mem_range.mp hr)]
      simp
    rw [hany]
    refine call_rt (μ' := μ ++ [.lst (rowsP w h fun r k => mrg (f r k) (g r k))]) (ρ0 := [some (.d (encP w h f)), some (.d (encP w h g)), none, none, none, none, none]) rfl rfl ?_ (by simp)
    refine seq_nx new_of ?_
    obtain ⟨ρ', μ', e, ⟨⟨x3, x4, x5, x6, rfl⟩, rfl⟩⟩ := for_ix (g := gTp [gNm 3, gNm 4]) (n := h) (f := fun r => PyData.tuple [rowP w (f r), rowP w (g r)]) (fun j ρ μ' => (∃ x3 x4 x5 x6, ρ = EL w h f g (some (.m μ.length)) x3 x4 x5 x6) ∧ μ' = μ ++ [.lst ((List.range j).map fun r => rowP w fun k => mrg (f r k) (g r k))]) (ρ := EL w h f g (some (.m μ.length)) none none none none) (μ := μ ++ [.lst []]) ⟨⟨_, _, _, _, rfl⟩, rfl⟩ (turn h (Nat.le_refl _) hall)
    refine seq_nx (ρ1 := EL w h f g (some (.m μ.length)) x3 x4 x5 x6) (μ1 := μ ++ [.lst ((List.range h).map fun r => rowP w fun k => mrg (f r k) (g r k))]) (for_of (xs := zipD (rowsP w h f) (rowsP w h g)) (μ1 := μ ++ [.lst []]) rfl ?_) (ret_of ?_)
    · rw [zip_rowsP]
      exact e
    · simp [rowsP, encP]
end Bz
set_option Elab.async false
set_option linter.all false
set_option maxRecDepth 100000
set_option maxHeartbeats 2000000
/-! Reading: the parts that are left of a way by parts; a piece's own cells taken away. -/
namespace Bz
open PySem
def pwayB : Prt → Nat → Nat → Patch → Bool
  | .quartered, w, h, f => !((List.range (h / 2)).any (clashR (w / 2) f fun r k => f (r + h / 2) (k + w / 2))) && !((List.range (h / 2)).any (clashR (w / 2) (fun r k => f r (k + w / 2)) fun r k => f (r + h / 2) k))
  | _, _, _, _ => true
theorem clash_any {w h : Nat} {f g : Patch} : (List.range h).any (clashR w f g) = false ↔ ∀ r, r < h → ∀ k, k < w → agree (f r k) (g r k) := by
  constructor
  · intro e r hr k hk
    rw [List.any_eq_false] at e
    have e1 := e r (List.mem_range.mpr hr)
    rw [agree_iff]
    cases hc : clash (f r k) (g r k) with
    | false => rfl
    | true => exact absurd (List.any_eq_true.mpr ⟨k, List.mem_range.mpr hk, hc⟩) e1
  · intro e
    rw [List.any_eq_false]
    intro r hr z
    obtain ⟨k, hk, hc⟩ := List.any_eq_true.mp z
    have := agree_iff.mp (e r (List.mem_range.mp hr) k (List.mem_range.mp hk))
    rw [this] at hc
    cases hc
theorem pway_iff {p : Prt} {w h : Nat} {f : Patch} : pwayB p w h f = true ↔ PWay p w h f := by
  cases p with
  | party => simp [pwayB, PWay]
  | cut => simp [pwayB, PWay]
  | quartered =>
    unfold pwayB PWay
    rw [Bool.and_eq_true, Bool.not_eq_true', Bool.not_eq_true', clash_any, clash_any]
    constructor
    · rintro ⟨a, b⟩ _ r hr k hk
      exact ⟨a r hr k hk, b r hr k hk⟩
    · intro a
      exact ⟨fun r hr k hk => (a rfl r hr k hk).1, fun r hr k hk => (a rfl r hr k hk).2⟩
def partsD (p : Prt) (w h : Nat) (f : Patch) : PyData := if pwayB p w h f then .tuple [encP (pW p w) (pH p h) (one p w h f), encP (pW p w) (pH p h) (two p w h f)] else .none
theorem cut_as {w h w' h' r0 c0 : Nat} {f g : Patch} (μ : Mem) (hr : r0 + h' ≤ h) (hc : c0 + w' ≤ w) (hs : h' ≤ 1000) (e : ∀ r k, f (r0 + r) (c0 + k) = g r k) :
    m_cut_out [.d (encP w h f), .d (.int r0), .d (.int c0), .d (encS w' h')] μ = .ok (.d (encP w' h' g)) μ := by
  rw [cut_out_ok μ hr hc hs, encP_congr fun r _ k _ => e r k]
theorem half_c (n : Nat) : ((n : Int) / 2) = ((n / 2 : Nat) : Int) := by omega
theorem div2 (n : Nat) : fDiv (.int n) (.int 2) = some (.int ((n / 2 : Nat) : Int)) := by
  show (if decide ((0 : Int) < 2 ∧ (2 : Int) < 1073741824) then some (PyData.int ((n : Int) / 2)) else none) = _
  rw [if_pos (by decide), half_c]
theorem parts_of_ok (p : Prt) (w h : Nat) (f : Patch) (μ : Mem) (hw : Side w) (hh : Side h) (hf : fitP p w h = true) : m_parts_of [.d (encP w h f), .d (.str p.s)] μ = .ok (.d (partsD p w h f)) μ := by
  have w8 := hw.le
  have h8 := hh.le
  unfold m_parts_of
  refine call_rt (ρ0 := [some (.d (encP w h f)), some (.d (.str p.s)), none, none, none, none, none]) rfl rfl ?_ List.take_length
  refine seq_nx (ρ1 := [some (.d (encP w h f)), some (.d (.str p.s)), some (.d (.int w)), some (.d (.int h)), none, none, none]) (μ1 := μ) (asg_of (call_of rfl (size_of_ok w h f μ hh.pos)) rfl) ?_
  cases p with
  | party =>
    refine seq_rt (if_yes (μ1 := μ) (by simp [Prt.s]) (seq_nx (ρ1 := [some (.d (encP w h f)), some (.d (.str Prt.party.s)), some (.d (.int w)), some (.d (.int h)), some (.d (encS (w / 2) h)), none, none]) (μ1 := μ) (asg_of (tup_of (xs := [.int ((w / 2 : Nat) : Int), .int h]) (cons_of (op_of rfl rfl (div2 w)) (cons_of rfl rfl)) rfl (by simp)) rfl) (ret_of ?_)))
    exact tup_of (xs := [encP (w / 2) h (one .party w h f), encP (w / 2) h (two .party w h f)]) (cons_of (call_of rfl (cut_as (r0 := 0) (c0 := 0) μ (by omega) (by omega) (by omega) fun r k => by simp [one])) (cons_of (call_of (cons_of rfl (cons_of rfl (cons_of (op_of rfl rfl rfl) rfl))) (cut_as (r0 := 0) (c0 := w / 2) μ (by omega) (by omega) (by omega) fun r k => by simp [two, Nat.add_comm])) rfl)) rfl (by simp)
  | cut =>
    refine seq_nx (if_no (μ1 := μ) (by simp (config := {decide := true}) [Prt.s]) rfl) (seq_rt (if_yes (μ1 := μ) (by simp [Prt.s]) (seq_nx (ρ1 := [some (.d (encP w h f)), some (.d (.str Prt.cut.s)), some (.d (.int w)), some (.d (.int h)), some (.d (encS w (h / 2))), none, none]) (μ1 := μ) (asg_of (tup_of (xs := [.int w, .int ((h / 2 : Nat) : Int)]) (cons_of rfl (cons_of (op_of rfl rfl (div2 h)) rfl)) rfl (by simp)) rfl) (ret_of ?_))))
    exact tup_of (xs := [encP w (h / 2) (one .cut w h f), encP w (h / 2) (two .cut w h f)]) (cons_of (call_of rfl (cut_as (r0 := 0) (c0 := 0) μ (by omega) (by omega) (by omega) fun r k => by simp [one])) (cons_of (call_of (cons_of rfl (cons_of (op_of rfl rfl rfl) rfl)) (cut_as (r0 := h / 2) (c0 := 0) μ (by omega) (by omega) (by omega) fun r k => by simp [two, Nat.add_comm])) rfl)) rfl (by simp)
  | quartered =>
    refine seq_nx (if_no (μ1 := μ) (by simp (config := {decide := true}) [Prt.s]) rfl) (seq_nx (if_no (μ1 := μ) (by simp (config := {decide := true}) [Prt.s]) rfl) ?_)
    refine seq_nx (ρ1 := [some (.d (encP w h f)), some (.d (.str Prt.quartered.s)), some (.d (.int w)), some (.d (.int h)), some (.d (encS (w / 2) (h / 2))), none, none]) (μ1 := μ) (asg_of (tup_of (xs := [.int ((w / 2 : Nat) : Int), .int ((h / 2 : Nat) : Int)]) (cons_of (op_of rfl rfl (div2 w)) (cons_of (op_of rfl rfl (div2 h)) rfl)) rfl (by simp)) rfl) ?_
    have l1 := laid_ok (w := w / 2) (h := h / 2) (f := f) (g := fun r k => f (r + h / 2) (k + w / 2)) μ (by omega) (by omega)
    have l2 := laid_ok (w := w / 2) (h := h / 2) (f := fun r k => f r (k + w / 2)) (g := fun r k => f (r + h / 2) k) μ (by omega) (by omega)
    refine seq_nx (asg_of (call_of (cons_of (call_of rfl (cut_as (g := f) (r0 := 0) (c0 := 0) μ (by omega) (by omega) (by omega) fun r k => by simp)) (cons_of (call_of (cons_of rfl (cons_of (op_of rfl rfl rfl) (cons_of (op_of rfl rfl rfl) rfl))) (cut_as (g := fun r k => f (r + h / 2) (k + w / 2)) (r0 := h / 2) (c0 := w / 2) μ (by omega) (by omega) (by omega) fun r k => by simp [Nat.add_comm])) rfl)) l1) rfl) ?_
    refine seq_nx (asg_of (call_of (cons_of (call_of (cons_of rfl (cons_of rfl (cons_of (op_of rfl rfl rfl) rfl))) (cut_as (g := fun r k => f r (k + w / 2)) (r0 := 0) (c0 := w / 2) μ (by omega) (by omega) (by omega) fun r k => by simp [Nat.add_comm])) (cons_of (call_of (cons_of rfl (cons_of (op_of rfl rfl rfl) rfl)) (cut_as (g := fun r k => f (r + h / 2) k) (r0 := h / 2) (c0 := 0) μ (by omega) (by omega) (by omega) fun r k => by simp [Nat.add_comm])) rfl)) l2) rfl) ?_
    refine ret_of ?_
    have hp : partsD .quartered w h f = if (!((List.range (h / 2)).any (clashR (w / 2) f fun r k => f (r + h / 2) (k + w / 2))) && !((List.range (h / 2)).any (clashR (w / 2) (fun r k => f r (k + w / 2)) fun r k => f (r + h / 2) k))) = true then .tuple [encP (w / 2) (h / 2) (one .quartered w h f), encP (w / 2) (h / 2) (two .quartered w h f)] else .none := rfl
    rw [hp]
    generalize (List.range (h / 2)).any (clashR (w / 2) f fun r k => f (r + h / 2) (k + w / 2)) = A
    generalize (List.range (h / 2)).any (clashR (w / 2) (fun r k => f r (k + w / 2)) fun r k => f (r + h / 2) k) = B
    cases A <;> cases B <;> rfl
/-! ### all cells, the colours -/
def allC (w h : Nat) (f : Patch) : List (Option Col) := (List.range h).flatMap fun r => (List.range w).map (f r)
theorem flat_len {α : Type} (g : Nat → List α) (m : Nat) (hg : ∀ r, (g r).length ≤ m) : ∀ n : Nat, ((List.range n).flatMap g).length ≤ n * m
  | 0 => by simp
  | n + 1 => by
    rw [List.range_succ, List.flatMap_append, List.length_append, Nat.succ_mul]
    have h1 := flat_len g m hg n
    have h2 := hg n
    simp only [List.flatMap_cons, List.flatMap_nil, List.append_nil]
    omega
theorem flat_succ {α : Type} (g : Nat → List α) (n : Nat) : (List.range (n + 1)).flatMap g = (List.range n).flatMap g ++ g n := by
  rw [List.range_succ, List.flatMap_append]
  simp
theorem colours_in_ok {cs : List (Option Col)} (μ : Mem) (hl : cs.length ≤ 4000) : m_colours_in [.d (.list (cs.map fun c => .str (oS c)))] μ = .ok (.d (.list ((colsOf cs).map fun c => .str c.s))) μ := by
  unfold m_colours_in
  exact call_rt (ρ0 := [some (.d (.list (cs.map fun c => .str (oS c)))), none]) rfl rfl (ret_of (cb1_of (comp_of (iseq_of rfl) (colours_go (by simp) (by omega))) (colours_val cs hl))) List.take_length
theorem iseqM_of {i h : Nat} {ρ : Env} {μ : Mem} {xs : List PyData} (h1 : ρ[i]? = some (some (.m h))) (h2 : μ[h]? = some (.lst xs)) : iSeq (eVar i) ρ μ = .ok xs (μ.set h (.frz xs)) := by
  simp only [iSeq, eVar, h1, R.bind, h2]
theorem colours_in_M {cs : List (Option Col)} {h : Nat} (μ : Mem) (hl : cs.length ≤ 4000) (hm : μ[h]? = some (.lst (cs.map fun c => .str (oS c)))) : m_colours_in [.m h] μ = .ok (.d (.list ((colsOf cs).map fun c => .str c.s))) (μ.set h (.frz (cs.map fun c => .str (oS c)))) := by
  unfold m_colours_in
  exact call_rt (ρ0 := [some (.m h), none]) rfl rfl (ret_of (cb1_of (comp_of (iseqM_of rfl hm) (colours_go (by simp) (by omega))) (colours_val cs hl))) (List.take_of_length_le (by simp))
theorem extT_of {i h : Nat} {e : DE} {ρ : Env} {μ : Mem} {xs ys : List PyData} (h1 : ρ[i]? = some (some (.m h))) (h2 : μ[h]? = some (.lst xs)) (h3 : e ρ μ = .ok (.d (.tuple ys)) μ) (h4 : xs.length + ys.length ≤ 1000000) : eExt (eVar i) e ρ μ = .ok (.d .none) (μ.set h (.lst (xs ++ ys))) := by
  simp only [eExt, eVar, h1, R.bind, h2, h3, seqOf, small, h4, decide_true, if_true]
theorem all_cells_ok {w h : Nat} {f : Patch} (μ : Mem) (hw : w ≤ 8) (hh : h ≤ 8) : m_all_cells [.d (encP w h f)] μ = .ok (.d (.list ((allC w h f).map fun c => .str (oS c)))) μ := by
  unfold m_all_cells
  refine call_rtM (h := μ.length) (xs := (allC w h f).map fun c => .str (oS c)) (ρ0 := [some (.d (encP w h f)), none, none]) (μ' := μ ++ [.lst ((allC w h f).map fun c => .str (oS c))]) rfl rfl ?_ (Nat.le_refl _) (by simp) (by simp)
  refine seq_nx new_of ?_
  obtain ⟨ρ', μ', e, ⟨x2, rfl⟩, rfl⟩ := for_ix (g := gNm 2) (b := sDrop (eExt (eVar 1) (eVar 2))) (n := h) (f := fun r => rowP w (f r)) (fun j ρ μ' => (∃ x2, ρ = [some (.d (encP w h f)), some (.m μ.length), x2]) ∧ μ' = μ ++ [.lst (((List.range j).flatMap fun r => (List.range w).map (f r)).map fun c => .str (oS c))]) (ρ := [some (.d (encP w h f)), some (.m μ.length), none]) (μ := μ ++ [.lst []]) ⟨⟨_, rfl⟩, by simp⟩ (by
    rintro j hj ρ μ' ⟨⟨x2, rfl⟩, rfl⟩
    have fl := flat_len (fun r => (List.range w).map (f r)) w (fun r => by simp) j
    have h3 : j * w ≤ 8 * 8 := Nat.mul_le_mul (by omega) hw
    refine ⟨_, _, _, rfl, drop_of (extT_of (h := μ.length) (xs := ((List.range j).flatMap fun r => (List.range w).map (f r)).map fun c => .str (oS c)) (ys := (List.range w).map fun k => .str (oS (f j k))) rfl (by simp) rfl (by simp only [List.length_map, List.length_range] at fl ⊢; omega)), ⟨_, rfl⟩, ?_⟩
    rw [flat_succ]
    simp)
  refine seq_nx (ρ1 := [some (.d (encP w h f)), some (.m μ.length), x2]) (μ1 := μ ++ [.lst (((List.range h).flatMap fun r => (List.range w).map (f r)).map fun c => .str (oS c))]) (for_of (xs := rowsP w h f) (μ1 := μ ++ [.lst []]) (iseqT_of rfl) (by unfold rowsP; exact e)) (ret_of rfl)
end Bz
set_option Elab.async false
set_option linter.all false
set_option maxRecDepth 100000
set_option maxHeartbeats 2000000
/-! Reading: without a piece's own cells. -/
namespace Bz
open PySem
def ownR (q : Pc) (w h : Nat) (f : Patch) (r : Nat) : List (Option Col) := ((List.range w).filter fun k => own q w h r k).map (f r)
def ownC (q : Pc) (w h : Nat) (f : Patch) : List (Option Col) := (List.range h).flatMap (ownR q w h f)
theorem ownR_len {q : Pc} {w h : Nat} {f : Patch} (r : Nat) : (ownR q w h f r).length ≤ w := by
  unfold ownR
  rw [List.length_map]
  exact Nat.le_trans (List.length_filter_le _ _) (by simp)
def wownD (q : Pc) (w h : Nat) (f : Patch) : PyData := match colsOf (ownC q w h f) with
  | [c] => .tuple [.str c.s, encP w h (blank q w h f)]
  | _ => .none
abbrev EO (w h : Nat) (f : Patch) (q : Pc) (n : Nat) (x5 x6 x7 : Option S) : Env := [some (.d (encP w h f)), some (.d (.str q.s)), some (.d (encS w h)), some (.m n), some (.m (n + 1)), x5, x6, x7]
abbrev ownB : DS := (sSeq (sDrop (eExt (eVar 3) (eComp (iRng1 (aCons (eOp fIx (eVar 2) (eC (.int 0))) aNil)) (gNm 7) (bVal (eCall m_is_own (aCons (eVar 2) (aCons (eVar 1) (aCons (eVar 5) (aCons (eVar 7) aNil)))))) (eOp fIx (eOp fIx (eVar 0) (eVar 5)) (eVar 7)) [7])))
  (sDrop (eApp (eVar 4) (eCB bTup (aCons (eComp (iRng1 (aCons (eOp fIx (eVar 2) (eC (.int 0))) aNil)) (gNm 7) bYes (eIf (bVal (eCall m_is_own (aCons (eVar 2) (aCons (eVar 1) (aCons (eVar 5) (aCons (eVar 7) aNil)))))) (eC c_ANY) (eOp fIx (eOp fIx (eVar 0) (eVar 5)) (eVar 7))) [7]) aNil)))))
theorem own_row {w h r : Nat} {f : Patch} {q : Pc} (hw : w ≤ 8) (hr : r < h) (x6 x7 : Option S) (μ : Mem) (as bs : List PyData) (ha : as.length ≤ 1000) (hb : bs.length ≤ 1000) :
    ownB (EO w h f q μ.length (some (.d (.int r))) x6 x7) (μ ++ [.lst as, .lst bs]) = .nx (EO w h f q μ.length (some (.d (.int r))) x6 x7) (μ ++ [.lst (as ++ (ownR q w h f r).map fun c => .str (oS c)), .lst (bs ++ [rowP w (blank q w h f r)])]) := by
  have hl := ownR_len (q := q) (w := w) (h := h) (f := f) r
  have c1 : ∀ μ' : Mem, compGo (gNm 7) (bVal (eCall m_is_own (aCons (eVar 2) (aCons (eVar 1) (aCons (eVar 5) (aCons (eVar 7) aNil)))))) (eOp fIx (eOp fIx (eVar 0) (eVar 5)) (eVar 7)) (wipeD (EO w h f q μ.length (some (.d (.int r))) x6 x7) [7]) (upFrom 0 w) [] μ' = .ok ((ownR q w h f r).map fun c => .str (oS c)) μ' := fun μ' => by
    rw [upFrom0, comp_fm (p := fun k => own q w h r k) (f := fun k => .str (oS (f r k))) (List.range w) [] (by simp; omega) (fun k hk => ?_) (fun k hk => ?_)]
    · simp [ownR, List.map_map, Function.comp_def]
    · exact val_of (call_of rfl (is_own_ok q w h r k μ' hr (List.mem_range.mp hk)))
    · exact op_of (op_of rfl rfl (ix_encP hr)) rfl (ix_rowP (List.mem_range.mp hk))
  have c2 : ∀ μ' : Mem, compGo (gNm 7) bYes (eIf (bVal (eCall m_is_own (aCons (eVar 2) (aCons (eVar 1) (aCons (eVar 5) (aCons (eVar 7) aNil)))))) (eC c_ANY) (eOp fIx (eOp fIx (eVar 0) (eVar 5)) (eVar 7))) (wipeD (EO w h f q μ.length (some (.d (.int r))) x6 x7) [7]) (upFrom 0 w) [] μ' = .ok ((List.range w).map fun k => .str (oS (blank q w h f r k))) μ' := fun μ' => by
    rw [upFrom0, comp_map (ρ' := fun (k : Nat) => (wipeD (EO w h f q μ.length (some (.d (.int r))) x6 x7) [7]).set 7 (some (.d (.int k)))) (f := fun k => .str (oS (blank q w h f r k))) (List.range w) [] (by simp; omega) (fun k _ => rfl) (fun k hk => ?_)]
    · rfl
    · have t : bVal (eCall m_is_own (aCons (eVar 2) (aCons (eVar 1) (aCons (eVar 5) (aCons (eVar 7) aNil))))) ((wipeD (EO w h f q μ.length (some (.d (.int r))) x6 x7) [7]).set 7 (some (.d (.int k)))) μ' = .ok (own q w h r k) μ' := val_of (call_of rfl (is_own_ok q w h r k μ' hr (List.mem_range.mp hk)))
      unfold eIf
      rw [t]
      simp only [R.bind, blank]
      cases own q w h r k with
      | true => rfl
      | false =>
        simp only [Bool.false_eq_true, if_false]
        exact op_of (op_of rfl rfl (ix_encP hr)) rfl (ix_rowP (List.mem_range.mp hk))
  have s1 := drop_of (ext_of (e := eComp (iRng1 (aCons (eOp fIx (eVar 2) (eC (.int 0))) aNil)) (gNm 7) (bVal (eCall m_is_own (aCons (eVar 2) (aCons (eVar 1) (aCons (eVar 5) (aCons (eVar 7) aNil)))))) (eOp fIx (eOp fIx (eVar 0) (eVar 5)) (eVar 7)) [7]) (i := 3) (h := μ.length) (xs := as) (ys := (ownR q w h f r).map fun c => .str (oS c)) (ρ := EO w h f q μ.length (some (.d (.int r))) x6 x7) (μ := μ ++ [.lst as, .lst bs]) rfl (by simp) (comp_of (xs := upFrom 0 w) (rng_of (by simp [encS]) (by omega)) (c1 _)) (by simp; omega))
  refine seq_nx s1 ?_
  have s2 := drop_of (app_of (e := eCB bTup (aCons (eComp (iRng1 (aCons (eOp fIx (eVar 2) (eC (.int 0))) aNil)) (gNm 7) bYes (eIf (bVal (eCall m_is_own (aCons (eVar 2) (aCons (eVar 1) (aCons (eVar 5) (aCons (eVar 7) aNil)))))) (eC c_ANY) (eOp fIx (eOp fIx (eVar 0) (eVar 5)) (eVar 7))) [7]) aNil)) (i := 4) (h := μ.length + 1) (xs := bs) (x := rowP w (blank q w h f r)) (ρ := EO w h f q μ.length (some (.d (.int r))) x6 x7) (μ := μ ++ [.lst (as ++ (ownR q w h f r).map fun c => .str (oS c)), .lst bs]) rfl (by simp) (cb1_of (f := bTup) (comp_of (xs := upFrom 0 w) (rng_of (by simp [encS]) (by omega)) (c2 _)) rfl) (by omega))
  have e : (μ ++ [M.lst as, .lst bs]).set μ.length (.lst (as ++ (ownR q w h f r).map fun c => .str (oS c))) = μ ++ [.lst (as ++ (ownR q w h f r).map fun c => .str (oS c)), .lst bs] := by simp
  rw [e]
  refine s2.trans ?_
  simp
theorem without_own_ok {w h : Nat} {f : Patch} {q : Pc} (μ : Mem) (hw : Side w) (hh : Side h) : m_without_own [.d (encP w h f), .d (.str q.s)] μ = .ok (.d (wownD q w h f)) μ := by
  have w8 := hw.le
  have h8 := hh.le
  have hlen : (ownC q w h f).length ≤ 64 := Nat.le_trans (flat_len _ w ownR_len h) (Nat.mul_le_mul h8 w8)
  unfold m_without_own
  refine call_rt (ρ0 := [some (.d (encP w h f)), some (.d (.str q.s)), none, none, none, none, none, none]) (μ' := μ ++ [.frz ((ownC q w h f).map fun c => .str (oS c)), .lst (rowsP w h (blank q w h f))]) rfl rfl ?_ (by simp)
  refine seq_nx (asg_of (call_of rfl (size_of_ok w h f μ hh.pos)) rfl) (seq_nx new_of ?_)
  refine seq_nx (ρ1 := EO w h f q μ.length none none none) (μ1 := μ ++ [.lst [], .lst []]) (by rw [new_of]; simp [EO]) ?_
  obtain ⟨ρ', μ', e, ⟨x5, rfl⟩, rfl⟩ := for_ix (g := gNm 5) (b := ownB) (n := h) (f := fun (i : Nat) => PyData.int (i : Int)) (fun j ρ μ' => (∃ x5, ρ = EO w h f q μ.length x5 none none) ∧ μ' = μ ++ [.lst (((List.range j).flatMap (ownR q w h f)).map fun c => .str (oS c)), .lst ((List.range j).map fun r => rowP w (blank q w h f r))]) (ρ := EO w h f q μ.length none none none) (μ := μ ++ [.lst [], .lst []]) ⟨⟨_, rfl⟩, by simp⟩ (by
    rintro j hj ρ μ' ⟨⟨x5, rfl⟩, rfl⟩
    have fl := flat_len (ownR q w h f) w ownR_len j
    have h3 : j * w ≤ 8 * 8 := Nat.mul_le_mul (by omega) w8
    refine ⟨_, _, _, rfl, own_row (w := w) (h := h) (f := f) (q := q) w8 hj none none μ _ _ (by rw [List.length_map]; omega) (by simp; omega), ⟨_, rfl⟩, ?_⟩
    rw [flat_succ, List.range_succ, List.map_append, List.map_append]
    rfl)
  refine seq_nx (ρ1 := EO w h f q μ.length x5 none none) (μ1 := μ ++ [.lst ((ownC q w h f).map fun c => .str (oS c)), .lst (rowsP w h (blank q w h f))]) (for_of (xs := upFrom 0 h) (μ1 := μ ++ [.lst [], .lst []]) (rng_of (by simp [encS]) (by omega)) (by rw [upFrom0]; exact e)) ?_
  have ci := colours_in_M (h := μ.length) (μ ++ [.lst ((ownC q w h f).map fun c => .str (oS c)), .lst (rowsP w h (blank q w h f))]) (cs := ownC q w h f) (by omega) (by simp)
  have e2 : (μ ++ [M.lst ((ownC q w h f).map fun c => .str (oS c)), .lst (rowsP w h (blank q w h f))]).set μ.length (.frz ((ownC q w h f).map fun c => .str (oS c))) = μ ++ [.frz ((ownC q w h f).map fun c => .str (oS c)), .lst (rowsP w h (blank q w h f))] := by simp
  rw [e2] at ci
  refine seq_nx (asg_of (call_of rfl ci) rfl) (ret_of ?_)
  unfold wownD
  have tst : ∀ xs : List Col, fEq (.int ((xs.map fun c => PyData.str c.s).length : Nat)) (.int 1) = some (.bool (decide (xs.length = 1))) := fun xs => by
    simp only [fEq, eqD2, scalD, Option.map_some, List.length_map]
    congr 2
    rw [Bool.eq_iff_iff]
    simp only [decide_eq_true_eq]
    omega
  have t2 : ∀ ρ : Env, ρ[6]? = some (some (.d (.list ((colsOf (ownC q w h f)).map fun c => .str c.s)))) → bVal (eOp fEq (eCB bLen (aCons (eVar 6) aNil)) (eC (.int 1))) ρ (μ ++ [.frz ((ownC q w h f).map fun c => .str (oS c)), .lst (rowsP w h (blank q w h f))]) = .ok (decide ((colsOf (ownC q w h f)).length = 1)) (μ ++ [.frz ((ownC q w h f).map fun c => .str (oS c)), .lst (rowsP w h (blank q w h f))]) := fun ρ hρ =>
    val_of (op_of (cb1_of (x := .list ((colsOf (ownC q w h f)).map fun c => .str c.s)) (by simp only [eVar, hρ]) rfl) rfl (tst _))
  unfold eIf
  rw [t2 _ rfl]
  simp only [R.bind]
  have rd1 : rd (μ ++ [.frz ((ownC q w h f).map fun c => .str (oS c)), .lst (rowsP w h (blank q w h f))]) (.m (μ.length + 1)) = some (.list (rowsP w h (blank q w h f))) := by simp
  generalize hcs : colsOf (ownC q w h f) = cs
  match cs, hcs with
  | [], hcs => rfl
  | [c], hcs =>
    simp only [List.length_singleton, decide_true, if_true]
    refine tup_of (xs := [.str c.s, encP w h (blank q w h f)]) (cons_of (op_of rfl rfl (by simp)) (cons_of (s := .d (encP w h (blank q w h f))) ?_ rfl)) rfl (by simp)
    simp only [eCB, aCons, aNil, eVar, List.getElem?_cons_succ, List.getElem?_cons_zero, List.set_cons_succ, List.set_cons_zero, R.bind, rdL, rd1, bTup, R.of]
    rfl
  | c :: d :: cs, hcs => simp
end Bz
set_option Elab.async false
set_option linter.all false
set_option maxRecDepth 100000
set_option maxHeartbeats 400000
/-! Reading: the ways of a patch; the shortest of some sayings. -/
namespace Bz
open PySem
inductive Way where
  | part (p : Prt)
  | piece (q : Pc) (c : Col)
def encWay (w h : Nat) (f : Patch) : Way → PyData
  | .part p => .tuple [.tuple [.str p.s], .tuple [encP (pW p w) (pH p h) (one p w h f), encP (pW p w) (pH p h) (two p w h f)]]
  | .piece q c => .tuple [.tuple [.str q.s, .str c.s], .tuple [encP w h (blank q w h f)]]
def partW (w h : Nat) (f : Patch) (p : Prt) : List Way := if fitP p w h && pwayB p w h f then [.part p] else []
def pieceW (w h : Nat) (f : Patch) (q : Pc) : List Way := if fitQ q w h then (match colsOf (ownC q w h f) with
  | [c] => [.piece q c]
  | _ => []) else []
def threeP : List Prt := [.party, .cut, .quartered]
def fourQ : List Pc := [.band, .edge, .head, .pillar]
def waysL (w h : Nat) (f : Patch) : List Way := threeP.flatMap (partW w h f) ++ fourQ.flatMap (pieceW w h f)
/-- a loop over a list, by what is done -/
theorem for_pref {α : Type} {g : DG} {b : DS} {enc : α → PyData} (I : List α → Env → Mem → Prop) : ∀ (xs pre : List α) (ρ : Env) (μ : Mem), I pre ρ μ → (∀ x ∈ xs, ∀ pre ρ μ, I pre ρ μ → ∃ ρ1 ρ2 μ2, g (.d (enc x)) ρ = some ρ1 ∧ b ρ1 μ = .nx ρ2 μ2 ∧ I (pre ++ [x]) ρ2 μ2) →
    ∃ ρ' μ', forGo g b (xs.map enc) ρ μ = .nx ρ' μ' ∧ I (pre ++ xs) ρ' μ'
  | [], pre, ρ, μ, h, _ => ⟨ρ, μ, rfl, by simpa using h⟩
  | x :: xs, pre, ρ, μ, h, hs => by
    obtain ⟨ρ1, ρ2, μ2, h1, h2, h3⟩ := hs x (by simp) pre ρ μ h
    obtain ⟨ρ', μ', h4, h5⟩ := for_pref I xs (pre ++ [x]) ρ2 μ2 h3 fun y hy => hs y (by simp [hy])
    refine ⟨ρ', μ', ?_, by simpa using h5⟩
    simp only [List.map_cons, forGo, h1, h2]
    exact h4
abbrev EY (w h : Nat) (f : Patch) (n : Nat) (x2 x3 x4 x5 : Option S) : Env := [some (.d (encP w h f)), some (.m n), x2, x3, x4, x5]
theorem isnot_tup (xs : List PyData) : fIsNot (.tuple xs) .none = some (.bool true) := rfl
theorem part_step {w h : Nat} {f : Patch} (hw : Side w) (hh : Side h) (p : Prt) (n : Nat) (x3 x4 x5 : Option S) (μ : Mem) (acc : List PyData) (ha : acc.length ≤ 1000) (hn : n = μ.length) : ∃ x3',
    (sIf (bVal (eCall m_fits (aCons (eCall m_size_of (aCons (eVar 0) aNil)) (aCons (eVar 2) aNil)))) (sSeq (sAsg (eCall m_parts_of (aCons (eVar 0) (aCons (eVar 2) aNil))) (gNm 3)) (sIf (bVal (eOp fIsNot (eVar 3) (eC .none))) (sDrop (eApp (eVar 1) (eTup (aCons (eTup (aCons (eVar 2) aNil)) (aCons (eVar 3) aNil))))) sNx)) sNx)
      (EY w h f n (some (.d (.str p.s))) x3 x4 x5) (μ ++ [.lst acc]) = .nx (EY w h f n (some (.d (.str p.s))) x3' x4 x5) (μ ++ [.lst (acc ++ (partW w h f p).map (encWay w h f))]) := by
  subst hn
  have tst : bVal (eCall m_fits (aCons (eCall m_size_of (aCons (eVar 0) aNil)) (aCons (eVar 2) aNil))) (EY w h f μ.length (some (.d (.str p.s))) x3 x4 x5) (μ ++ [.lst acc]) = .ok (fitP p w h) (μ ++ [.lst acc]) :=
    val_of (call_of (cons_of (call_of rfl (size_of_ok w h f _ hh.pos)) rfl) (prog_fitsP p w h _))
  cases hf : fitP p w h with
  | false =>
    rw [hf] at tst
    exact ⟨x3, by rw [if_no tst rfl]; simp [partW, hf]⟩
  | true =>
    rw [hf] at tst
    refine ⟨some (.d (partsD p w h f)), if_yes tst (seq_nx (asg_of (call2_of rfl rfl (parts_of_ok p w h f _ hw hh hf)) rfl) ?_)⟩
    cases hp : pwayB p w h f with
    | false =>
      have e : partsD p w h f = .none := by unfold partsD; rw [hp]; rfl
      rw [e]
      refine (if_no (μ1 := μ ++ [.lst acc]) (val_of (op_of rfl rfl rfl)) rfl).trans ?_
      simp [partW, hp, EY]
    | true =>
      have e : partsD p w h f = .tuple [encP (pW p w) (pH p h) (one p w h f), encP (pW p w) (pH p h) (two p w h f)] := by unfold partsD; rw [hp]; rfl
      rw [e]
      refine (if_yes (μ1 := μ ++ [.lst acc]) (val_of (op_of rfl rfl (isnot_tup _))) rfl).trans ?_
      have ap := app_of (i := 1) (h := μ.length) (xs := acc) (x := encWay w h f (.part p)) (e := eTup (aCons (eTup (aCons (eVar 2) aNil)) (aCons (eVar 3) aNil))) (ρ := EY w h f μ.length (some (.d (.str p.s))) (some (.d (.tuple [encP (pW p w) (pH p h) (one p w h f), encP (pW p w) (pH p h) (two p w h f)]))) x4 x5) (μ := μ ++ [.lst acc]) rfl (by simp) (tup_of (cons_of (tup_of (xs := [.str p.s]) rfl rfl (by simp)) (cons_of rfl rfl)) rfl (by simp)) (by omega)
      refine (drop_of ap).trans ?_
      simp [partW, hp, hf]
theorem piece_step {w h : Nat} {f : Patch} (hw : Side w) (hh : Side h) (q : Pc) (n : Nat) (x2 x3 x5 : Option S) (μ : Mem) (acc : List PyData) (ha : acc.length ≤ 1000) (hn : n = μ.length) : ∃ x5',
    (sIf (bVal (eCall m_fits (aCons (eCall m_size_of (aCons (eVar 0) aNil)) (aCons (eVar 4) aNil)))) (sSeq (sAsg (eCall m_without_own (aCons (eVar 0) (aCons (eVar 4) aNil))) (gNm 5)) (sIf (bVal (eOp fIsNot (eVar 5) (eC .none))) (sDrop (eApp (eVar 1) (eTup (aCons (eTup (aCons (eVar 4) (aCons (eOp fIx (eVar 5) (eC (.int 0))) aNil))) (aCons (eTup (aCons (eOp fIx (eVar 5) (eC (.int 1))) aNil)) aNil))))) sNx)) sNx)
      (EY w h f n x2 x3 (some (.d (.str q.s))) x5) (μ ++ [.lst acc]) = .nx (EY w h f n x2 x3 (some (.d (.str q.s))) x5') (μ ++ [.lst (acc ++ (pieceW w h f q).map (encWay w h f))]) := by
  subst hn
  have tst : bVal (eCall m_fits (aCons (eCall m_size_of (aCons (eVar 0) aNil)) (aCons (eVar 4) aNil))) (EY w h f μ.length x2 x3 (some (.d (.str q.s))) x5) (μ ++ [.lst acc]) = .ok (fitQ q w h) (μ ++ [.lst acc]) :=
    val_of (call_of (cons_of (call_of rfl (size_of_ok w h f _ hh.pos)) rfl) (prog_fitsQ q w h _))
  cases hf : fitQ q w h with
  | false =>
    rw [hf] at tst
    exact ⟨x5, by rw [if_no tst rfl]; simp [pieceW, hf]⟩
  | true =>
    rw [hf] at tst
    refine ⟨some (.d (wownD q w h f)), if_yes tst (seq_nx (asg_of (call2_of rfl rfl (without_own_ok _ hw hh)) rfl) ?_)⟩
    have hno : ∀ cs, colsOf (ownC q w h f) = cs → (∀ c, cs ≠ [c]) → wownD q w h f = .none ∧ pieceW w h f q = [] := fun cs hc hn => by
      unfold wownD pieceW
      rw [hf, hc]
      match cs, hn with
      | [], _ => exact ⟨rfl, rfl⟩
      | [c], hn => exact absurd rfl (hn c)
      | _ :: _ :: _, _ => exact ⟨rfl, rfl⟩
    by_cases hone : ∃ c, colsOf (ownC q w h f) = [c]
    · obtain ⟨c, hc⟩ := hone
      have e : wownD q w h f = .tuple [.str c.s, encP w h (blank q w h f)] := by unfold wownD; rw [hc]
      rw [e]
      refine (if_yes (μ1 := μ ++ [.lst acc]) (val_of (op_of rfl rfl (isnot_tup _))) rfl).trans ?_
      have ap := app_of (i := 1) (h := μ.length) (xs := acc) (x := encWay w h f (.piece q c)) (e := eTup (aCons (eTup (aCons (eVar 4) (aCons (eOp fIx (eVar 5) (eC (.int 0))) aNil))) (aCons (eTup (aCons (eOp fIx (eVar 5) (eC (.int 1))) aNil)) aNil))) (ρ := EY w h f μ.length x2 x3 (some (.d (.str q.s))) (some (.d (.tuple [.str c.s, encP w h (blank q w h f)])))) (μ := μ ++ [.lst acc]) rfl (by simp) (tup_of (cons_of (tup_of (xs := [.str q.s, .str c.s]) (cons_of rfl (cons_of (op_of rfl rfl (by simp)) rfl)) rfl (by simp)) (cons_of (tup_of (xs := [encP w h (blank q w h f)]) (cons_of (op_of rfl rfl (by simp)) rfl) rfl (by simp)) rfl)) rfl (by simp)) (by omega)
      refine (drop_of ap).trans ?_
      simp [pieceW, hc, hf]
    · obtain ⟨e1, e2⟩ := hno _ rfl fun c hc => hone ⟨c, hc⟩
      rw [e1, e2]
      refine (if_no (μ1 := μ ++ [.lst acc]) (val_of (op_of rfl rfl rfl)) rfl).trans ?_
      simp [EY]
theorem partW_len {w h : Nat} {f : Patch} (xs : List Prt) : (xs.flatMap (partW w h f)).length ≤ xs.length := by
  induction xs with
  | nil => simp
  | cons x xs ih =>
    simp only [List.flatMap_cons, List.length_append, List.length_cons]
    have : (partW w h f x).length ≤ 1 := by unfold partW; split <;> simp
    omega
theorem pieceW_len {w h : Nat} {f : Patch} (xs : List Pc) : (xs.flatMap (pieceW w h f)).length ≤ xs.length := by
  induction xs with
  | nil => simp
  | cons x xs ih =>
    simp only [List.flatMap_cons, List.length_append, List.length_cons]
    have : (pieceW w h f x).length ≤ 1 := by
      unfold pieceW
      split
      · split <;> simp
      · simp
    omega
theorem for_all {α : Type} {g : DG} {b : DS} {enc : α → PyData} (I : List α → Env → Mem → Prop) (all : List α) {ρ : Env} {μ : Mem} (h0 : I [] ρ μ) (hs : ∀ pre x post, pre ++ x :: post = all → ∀ ρ μ, I pre ρ μ → ∃ ρ1 ρ2 μ2, g (.d (enc x)) ρ = some ρ1 ∧ b ρ1 μ = .nx ρ2 μ2 ∧ I (pre ++ [x]) ρ2 μ2) :
    ∃ ρ' μ', forGo g b (all.map enc) ρ μ = .nx ρ' μ' ∧ I all ρ' μ' := by
  suffices H : ∀ (xs pre : List α), pre ++ xs = all → ∀ ρ μ, I pre ρ μ → ∃ ρ' μ', forGo g b (xs.map enc) ρ μ = .nx ρ' μ' ∧ I all ρ' μ' from H all [] rfl ρ μ h0
  intro xs
  induction xs with
  | nil =>
    intro pre hp ρ μ h
    rw [List.append_nil] at hp
    subst hp
    exact ⟨ρ, μ, rfl, h⟩
  | cons x xs ih =>
    intro pre hp ρ μ h
    obtain ⟨ρ1, ρ2, μ2, h1, h2, h3⟩ := hs pre x xs hp ρ μ h
    obtain ⟨ρ', μ', h4, h5⟩ := ih (pre ++ [x]) (by simpa using hp) ρ2 μ2 h3
    refine ⟨ρ', μ', ?_, h5⟩
    simp only [List.map_cons, forGo, h1, h2]
    exact h4
theorem ways_ok {w h : Nat} {f : Patch} (μ : Mem) (hw : Side w) (hh : Side h) : m_ways [.d (encP w h f)] μ = .ok (.d (.list ((waysL w h f).map (encWay w h f)))) μ := by
  unfold m_ways
  refine call_rtM (h := μ.length) (xs := (waysL w h f).map (encWay w h f)) (ρ0 := [some (.d (encP w h f)), none, none, none, none, none]) (μ' := μ ++ [.lst ((waysL w h f).map (encWay w h f))]) rfl rfl ?_ (Nat.le_refl _) (by simp) (by simp)
  refine seq_nx (ρ1 := EY w h f μ.length none none none none) (μ1 := μ ++ [.lst []]) new_of ?_
  obtain ⟨ρ1, μ1, e1, ⟨x2, x3, rfl⟩, rfl⟩ := for_all (g := gNm 2) (enc := fun p : Prt => PyData.str p.s) (b := (sIf (bVal (eCall m_fits (aCons (eCall m_size_of (aCons (eVar 0) aNil)) (aCons (eVar 2) aNil)))) (sSeq (sAsg (eCall m_parts_of (aCons (eVar 0) (aCons (eVar 2) aNil))) (gNm 3)) (sIf (bVal (eOp fIsNot (eVar 3) (eC .none))) (sDrop (eApp (eVar 1) (eTup (aCons (eTup (aCons (eVar 2) aNil)) (aCons (eVar 3) aNil))))) sNx)) sNx))
    (fun pre ρ μ' => (∃ x2 x3, ρ = EY w h f μ.length x2 x3 none none) ∧ μ' = μ ++ [.lst ((pre.flatMap (partW w h f)).map (encWay w h f))]) threeP (ρ := EY w h f μ.length none none none none) (μ := μ ++ [.lst []]) ⟨⟨_, _, rfl⟩, rfl⟩ (by
      rintro pre p post hp ρ μ' ⟨⟨x2, x3, rfl⟩, rfl⟩
      have hl : pre.length ≤ 3 := by
        have := congrArg List.length hp
        simp [threeP] at this
        omega
      have hl2 := partW_len (w := w) (h := h) (f := f) pre
      obtain ⟨x3', e⟩ := part_step (f := f) hw hh p μ.length x3 none none μ ((pre.flatMap (partW w h f)).map (encWay w h f)) (by rw [List.length_map]; omega) rfl
      refine ⟨_, _, _, rfl, e, ⟨_, x3', rfl⟩, ?_⟩
      rw [List.flatMap_append, List.map_append]
      simp)
  refine seq_nx (ρ1 := EY w h f μ.length x2 x3 none none) (μ1 := μ ++ [.lst ((threeP.flatMap (partW w h f)).map (encWay w h f))]) (for_of (xs := threeP.map fun p => PyData.str p.s) (μ1 := μ ++ [.lst []]) (iseqT_of (e := eC c_PARTS) rfl) ?_) ?_
  · exact e1
  obtain ⟨ρ2, μ2, e2, ⟨x4, x5, rfl⟩, rfl⟩ := for_all (g := gNm 4) (enc := fun q : Pc => PyData.str q.s) (b := (sIf (bVal (eCall m_fits (aCons (eCall m_size_of (aCons (eVar 0) aNil)) (aCons (eVar 4) aNil)))) (sSeq (sAsg (eCall m_without_own (aCons (eVar 0) (aCons (eVar 4) aNil))) (gNm 5)) (sIf (bVal (eOp fIsNot (eVar 5) (eC .none))) (sDrop (eApp (eVar 1) (eTup (aCons (eTup (aCons (eVar 4) (aCons (eOp fIx (eVar 5) (eC (.int 0))) aNil))) (aCons (eTup (aCons (eOp fIx (eVar 5) (eC (.int 1))) aNil)) aNil))))) sNx)) sNx))
    (fun pre ρ μ' => (∃ x4 x5, ρ = EY w h f μ.length x2 x3 x4 x5) ∧ μ' = μ ++ [.lst ((threeP.flatMap (partW w h f) ++ pre.flatMap (pieceW w h f)).map (encWay w h f))]) fourQ (ρ := EY w h f μ.length x2 x3 none none) (μ := μ ++ [.lst ((threeP.flatMap (partW w h f)).map (encWay w h f))]) ⟨⟨_, _, rfl⟩, by simp⟩ (by
      rintro pre q post hp ρ μ' ⟨⟨x4, x5, rfl⟩, rfl⟩
      have hl : pre.length ≤ 4 := by
        have := congrArg List.length hp
        simp [fourQ] at this
        omega
      have hl2 := pieceW_len (w := w) (h := h) (f := f) pre
      have hl3 := partW_len (w := w) (h := h) (f := f) threeP
      have hl4 : threeP.length = 3 := rfl
      obtain ⟨x5', e⟩ := piece_step (f := f) hw hh q μ.length x2 x3 x5 μ ((threeP.flatMap (partW w h f) ++ pre.flatMap (pieceW w h f)).map (encWay w h f)) (by rw [List.length_map, List.length_append]; omega) rfl
      refine ⟨_, _, _, rfl, e, ⟨_, x5', rfl⟩, ?_⟩
      rw [List.flatMap_append]
      simp)
  refine seq_nx (ρ1 := EY w h f μ.length x2 x3 x4 x5) (μ1 := μ ++ [.lst ((waysL w h f).map (encWay w h f))]) (for_of (xs := fourQ.map fun q => PyData.str q.s) (μ1 := μ ++ [.lst ((threeP.flatMap (partW w h f)).map (encWay w h f))]) (iseqT_of (e := eC c_PIECES) rfl) ?_) (ret_of rfl)
  exact e2
end Bz
set_option Elab.async false
set_option linter.all false
set_option maxRecDepth 100000
set_option maxHeartbeats 1000000
/-! Reading: the shortest of some sayings. -/
namespace Bz
open PySem
theorem lt_strs : ∀ a b : List Str, PyProof.Rows.lexLt PyProof.Rows.itemOrd (PySem.W.keyToksAll (a.map PyData.str)) (PySem.W.keyToksAll (b.map PyData.str)) = true ↔ ¬ leL b a
  | [], [] => by simp [leL, PySem.W.keyToksAll, PyProof.Rows.lexLt, PyProof.Rows.itemLt]
  | [], y :: b => by simp [leL, PySem.W.keyToksAll, PyProof.Rows.lexLt, PyProof.Rows.itemLt]
  | x :: a, [] => by simp [leL, PySem.W.keyToksAll, PyProof.Rows.lexLt, PyProof.Rows.itemLt]
  | x :: a, y :: b => by
    have al : PySem.W.alike (PyData.str x) (PyData.str y) = true := rfl
    have ih := lt_strs a b
    rw [List.map_cons, List.map_cons, PySem.W.dataLt_cons al]
    by_cases e : x = y
    · subst e
      have h1 : PyData.eqv (.str x) (.str x) = true := by simp [PyData.eqv]
      rw [h1]
      simp only [if_true]
      rw [ih, show leL (x :: b) (x :: a) = (ltS x x ∨ (x = x ∧ leL b a)) from rfl]
      constructor
      · intro h z
        rcases z with z | ⟨_, z⟩
        · exact ltS_irrefl _ z
        · exact h z
      · intro h z
        exact h (.inr ⟨rfl, z⟩)
    · have h1 : PyData.eqv (.str x) (.str y) = false := by simp [PyData.eqv, e]
      rw [h1]
      simp only [Bool.false_eq_true, if_false, PySem.W.dataLt_str, decide_eq_true_eq]
      rw [show leL (y :: b) (x :: a) = (ltS y x ∨ (y = x ∧ leL b a)) from rfl]
      constructor
      · intro h z
        rcases z with z | ⟨z, _⟩
        · exact ltS_asymm h z
        · exact e z.symm
      · intro h
        rcases ltS_tri e with z | z
        · exact z
        · exact absurd (.inl z) h
theorem alike_strs : ∀ a b : List Str, PySem.W.alike (strsD a) (strsD b) = true := by
  intro a
  simp only [strsD, PySem.W.alike]
  induction a with
  | nil => intro b; simp [PySem.W.alikeAll]
  | cons x a ih => intro b; cases b <;> simp [PySem.W.alikeAll, PySem.W.alike, ih]
def keyD (a : List Str) : PyData := .tuple [.int a.length, strsD a]
theorem lt_key (a b : List Str) : PySem.W.dataLt (keyD a) (keyD b) = true ↔ ¬ leW b a := by
  have h1 : PySem.W.alike (PyData.int a.length) (PyData.int b.length) = true := rfl
  have h2 : PySem.W.alike (strsD a) (strsD b) = true := alike_strs a b
  unfold keyD
  rw [PySem.W.dataLt_pair h1 h2]
  have e1 : PyData.eqv (PyData.int a.length) (PyData.int b.length) = decide (a.length = b.length) := by
    simp only [PyData.eqv]
    rw [Bool.eq_iff_iff]
    simp only [beq_iff_eq, decide_eq_true_eq]
    omega
  rw [e1]
  by_cases hl : a.length = b.length
  · simp only [hl, decide_true, if_true, eqv_strs]
    by_cases he : a = b
    · subst he
      simp only [decide_true, if_true, Bool.false_eq_true, false_iff, Classical.not_not]
      exact leW_refl a
    · simp only [he, decide_false, Bool.false_eq_true, if_false, strsD]
      rw [PySem.W.dataLt_tuple, lt_strs]
      unfold leW
      constructor
      · intro h z
        rcases z with z | ⟨_, z⟩
        · omega
        · exact h z
      · intro h z
        exact h (.inr ⟨hl.symm, z⟩)
  · simp only [hl, decide_false, Bool.false_eq_true, if_false, PySem.W.dataLt_int, decide_eq_true_eq]
    unfold leW
    constructor
    · intro h z
      rcases z with z | ⟨z, _⟩ <;> omega
    · intro h
      by_cases q : a.length < b.length
      · omega
      · exact absurd (.inl (by omega)) h
def okW (a : List Str) : Prop := (∀ x ∈ a, PyData.strOk x = true) ∧ a.length ≤ 1000
theorem key_of {a : List Str} (μ : Mem) : eTup (aCons (eCB bLen (aCons (eVar 0) aNil)) (aCons (eVar 0) aNil)) [some (.d (strsD a))] μ = .ok (.d (keyD a)) μ :=
  tup_of (xs := [.int a.length, strsD a]) (cons_of (cb1_of rfl (by simp [strsD])) rfl) rfl (by simp)
theorem ord_key {a b : List Str} (ha : okW a) (hb : okW b) : ordK (keyD a) (keyD b) = true := by
  have h2 : PySem.W.alike (strsD a) (strsD b) = true := alike_strs a b
  have d1 := depth_strsD a
  have h3 : (keyD a).depth ≤ 30 := by simp only [keyD, PyData.depth, PyData.depthAll]; omega
  have h4 : ∀ {c : List Str}, okW c → (keyD c).canLay0 = true := fun hc => by
    have := canLay_strsD hc.1
    simp only [keyD, PyData.canLay0, PyData.canLayAll0, this, Bool.and_self, Bool.and_true]
  have h5 : PySem.W.alike (keyD a) (keyD b) = true := by simp only [keyD, PySem.W.alike, PySem.W.alikeAll, h2, Bool.and_self]
  unfold ordK
  rw [h4 ha, h4 hb, h5]
  rw [decide_eq_true h3]
  rfl
theorem min_words (μ : Mem) : ∀ (xs : List (List Str)) (b : List Str), okW b → (∀ x ∈ xs, okW x) → ∃ m, m ∈ b :: xs ∧ (∀ x ∈ b :: xs, leW m x) ∧ minGo (eTup (aCons (eCB bLen (aCons (eVar 0) aNil)) (aCons (eVar 0) aNil))) (strsD b) (keyD b) (xs.map strsD) μ = .ok (strsD m) μ
  | [], b, hb, _ => ⟨b, by simp, fun x hx => by simp at hx; rw [hx]; exact leW_refl b, rfl⟩
  | x :: xs, b, hb, hx => by
    have hox := hx x (by simp)
    simp only [List.map_cons, minGo, key_of, ord_key hox hb, if_true]
    by_cases hlt : PySem.W.dataLt (keyD x) (keyD b) = true
    · rw [if_pos hlt]
      obtain ⟨m, h1, h2, h3⟩ := min_words μ xs x hox fun y hy => hx y (by simp [hy])
      have hxb : leW x b := (leW_total x b).resolve_right ((lt_key x b).mp hlt)
      refine ⟨m, List.mem_cons_of_mem _ h1, fun y hy => ?_, h3⟩
      rcases List.mem_cons.mp hy with e | e
      · rw [e]
        exact leW_trans (h2 x (by simp)) hxb
      · exact h2 y e
    · rw [if_neg hlt]
      obtain ⟨m, h1, h2, h3⟩ := min_words μ xs b hb fun y hy => hx y (by simp [hy])
      have hbx : leW b x := Classical.byContradiction fun z => hlt ((lt_key x b).mpr z)
      refine ⟨m, ?_, fun y hy => ?_, h3⟩
      · rcases List.mem_cons.mp h1 with e | e
        · rw [e]; simp
        · simp [e]
      · rcases List.mem_cons.mp hy with e | e
        · rw [e]; exact h2 b (by simp)
        · rcases List.mem_cons.mp e with e | e
          · rw [e]; exact leW_trans (h2 b (by simp)) hbx
          · exact h2 y (by simp [e])
theorem shorter_ok {h : Nat} {ws : List (List Str)} (μ : Mem) (hne : ws ≠ []) (hok : ∀ x ∈ ws, okW x) (hm : μ[h]? = some (.lst (ws.map strsD))) : ∃ m, m ∈ ws ∧ (∀ x ∈ ws, leW m x) ∧ m_shorter [.m h] μ = .ok (.d (strsD m)) (μ.set h (.frz (ws.map strsD))) := by
  cases ws with
  | nil => exact absurd rfl hne
  | cons b xs =>
    obtain ⟨m, h1, h2, h3⟩ := min_words (μ.set h (.frz ((b :: xs).map strsD))) xs b (hok b (by simp)) fun x hx => hok x (by simp [hx])
    refine ⟨m, h1, h2, ?_⟩
    unfold m_shorter
    refine call_rt (ρ0 := [some (.m h)]) rfl rfl (ret_of ?_) (List.take_of_length_le (by simp))
    have e : minOf (eTup (aCons (eCB bLen (aCons (eVar 0) aNil)) (aCons (eVar 0) aNil))) ((b :: xs).map strsD) (μ.set h (.frz ((b :: xs).map strsD))) = .ok (strsD m) (μ.set h (.frz ((b :: xs).map strsD))) := by
      simp only [List.map_cons, minOf, key_of]
      exact h3
    simp only [eMinK, eVar, List.getElem?_cons_zero, R.bind, hm]
    rw [e]
    rfl
end Bz
set_option Elab.async false
set_option linter.all false
set_option maxRecDepth 100000
set_option maxHeartbeats 1000000
/-! Reading: what is known; the length of the shortest. -/
namespace Bz
open PySem
theorem cov_congr {t : Tree} {w h : Nat} {f g : Patch} (e : ∀ r, r < h → ∀ k, k < w → f r k = g r k) (H : Cov t w h f) : Cov t w h g := fun r hr k hk c hc => H r hr k hk c (by rw [e r hr k hk]; exact hc)
theorem BestF.congr {w h : Nat} {f g : Patch} {ws : List Str} (e : ∀ r, r < h → ∀ k, k < w → f r k = g r k) (H : BestF w h f ws) : BestF w h g ws := by
  obtain ⟨⟨t, h1, h2, h3⟩, h4⟩ := H
  exact ⟨⟨t, h1, cov_congr e h2, h3⟩, fun u hu cu => h4 u hu (cov_congr (fun r hr k hk => (e r hr k hk).symm) cu)⟩
theorem BestL.congr {w h : Nat} {f g : Patch} {ws : List Str} (e : ∀ r, r < h → ∀ k, k < w → f r k = g r k) (H : BestL w h f ws) : BestL w h g ws := by
  obtain ⟨⟨t, h1, h2, h3⟩, h4⟩ := H
  exact ⟨⟨t, h1, cov_congr e h2, h3⟩, fun u hu cu => h4 u hu (cov_congr (fun r hr k hk => (e r hr k hk).symm) cu)⟩
/-- cell by cell -/
theorem some_tree : ∀ (n w h : Nat) (f : Patch), w + h ≤ n → Side w → Side h → ∃ t : Tree, t.Fit w h ∧ Cov t w h f ∧ t.words.length + 1 ≤ 2 * (w * h)
  | 0, w, h, f, hn, hw, hh => by have := hw.pos; omega
  | n + 1, w, h, f, hn, hw, hh => by
    by_cases h2w : 2 ≤ w
    · obtain ⟨hs, he⟩ := hw.half h2w
      have fp : fitP .party w h = true := by simp [fitP]; omega
      obtain ⟨a, a1, a2, a3⟩ := some_tree n (w / 2) h (one .party w h f) (by omega) hs hh
      obtain ⟨b, b1, b2, b3⟩ := some_tree n (w / 2) h (two .party w h f) (by omega) hs hh
      refine ⟨.part .party a b, ⟨fp, a1, b1⟩, (cov_part hw hh fp).mpr ⟨(fun z => nomatch z), a2, b2⟩, ?_⟩
      simp only [Tree.words, List.length_cons, List.length_append]
      have e : w * h = w / 2 * h + w / 2 * h := by rw [← Nat.add_mul]; congr 1; omega
      omega
    · by_cases h2h : 2 ≤ h
      · obtain ⟨hs, he⟩ := hh.half h2h
        have fp : fitP .cut w h = true := by simp [fitP]; omega
        obtain ⟨a, a1, a2, a3⟩ := some_tree n w (h / 2) (one .cut w h f) (by omega) hw hs
        obtain ⟨b, b1, b2, b3⟩ := some_tree n w (h / 2) (two .cut w h f) (by omega) hw hs
        refine ⟨.part .cut a b, ⟨fp, a1, b1⟩, (cov_part hw hh fp).mpr ⟨(fun z => nomatch z), a2, b2⟩, ?_⟩
        simp only [Tree.words, List.length_cons, List.length_append]
        have e : w * h = w * (h / 2) + w * (h / 2) := by rw [← Nat.mul_add]; congr 1; omega
        omega
      · have e1 : w = 1 := by have := hw.pos; omega
        have e2 : h = 1 := by have := hh.pos; omega
        subst e1 e2
        refine ⟨.col ((f 0 0).getD .white), True.intro, fun r hr k hk c hc => ?_, by simp [Tree.words]⟩
        obtain rfl : r = 0 := by omega
        obtain rfl : k = 0 := by omega
        rw [hc]
        rfl
theorem bestF_ok {w h : Nat} {f : Patch} {ws : List Str} (hw : Side w) (hh : Side h) (H : BestF w h f ws) : okW ws ∧ ws.length ≤ 127 := by
  obtain ⟨t, t1, t2, t3⟩ := some_tree (w + h) w h f (Nat.le_refl _) hw hh
  have l1 := (H.2 t t1 t2).len
  have l2 : w * h ≤ 8 * 8 := Nat.mul_le_mul hw.le hh.le
  obtain ⟨⟨u, _, _, rfl⟩, _⟩ := H
  exact ⟨⟨u.wordsOk, by omega⟩, by omega⟩
theorem trim_mem {x : Str} : ∀ {xs : List Str}, x ∈ trim xs → x ∈ xs
  | [], h => by simp [trim] at h
  | y :: ys, h => by
    rw [trim] at h
    split at h
    · simp at h
    · rcases List.mem_cons.mp h with e | e
      · rw [e]; simp
      · exact List.mem_cons_of_mem _ (trim_mem e)
theorem bestL_ok {w h : Nat} {f : Patch} {ws : List Str} (hw : Side w) (hh : Side h) (H : BestL w h f ws) : okW ws ∧ ws.length ≤ 127 := by
  obtain ⟨t, t1, t2, t3⟩ := some_tree (w + h) w h f (Nat.le_refl _) hw hh
  have l1 := (H.2 t t1 t2).len
  have l3 := trim_len t.words
  have l2 : w * h ≤ 8 * 8 := Nat.mul_le_mul hw.le hh.le
  obtain ⟨⟨u, _, _, rfl⟩, _⟩ := H
  exact ⟨⟨fun x hx => u.wordsOk x (trim_mem hx), by omega⟩, by omega⟩
/-! ### keys -/
def keyP (w h : Nat) (f : Patch) : NestedKey := .tup ((List.range h).map fun r => .tup ((List.range w).map fun k => .text (oS (f r k))))
theorem nkAll_map {α : Type} {g : α → PyData} {g' : α → NestedKey} : ∀ (xs : List α), (∀ x, nkOf (g x) = some (g' x)) → nkAll (xs.map g) = some (xs.map g')
  | [], _ => by simp [nkAll]
  | x :: xs, h => by
    have ih := nkAll_map xs h
    simp only [List.map_cons, nkAll, h x, ih]
theorem nk_encP (w h : Nat) (f : Patch) : nkOf (encP w h f) = some (keyP w h f) := by
  have h1 : ∀ r, nkOf (rowP w (f r)) = some (.tup ((List.range w).map fun k => .text (oS (f r k)))) := fun r => by
    have q := nkAll_map (g := fun k => PyData.str (oS (f r k))) (g' := fun k => NestedKey.text (oS (f r k))) (List.range w) fun k => by simp [nkOf]
    simp only [rowP, nkOf, q]
  have q := nkAll_map (List.range h) h1
  simp only [encP, rowsP, nkOf, q, keyP]
theorem keyP_inj {w h w' h' : Nat} {f f' : Patch} (h1 : 1 ≤ h) (e : keyP w h f = keyP w' h' f') : w = w' ∧ h = h' ∧ ∀ r, r < h → ∀ k, k < w → f r k = f' r k := by
  simp only [keyP, NestedKey.tup.injEq] at e
  have hl : h = h' := by simpa using congrArg List.length e
  subst hl
  have row : ∀ r, r < h → (List.range w).map (fun k => NestedKey.text (oS (f r k))) = (List.range w').map fun k => NestedKey.text (oS (f' r k)) := fun r hr => by
    have q := congrArg (fun l => l[r]?) e
    simpa [hr] using q
  have hw : w = w' := by simpa using congrArg List.length (row 0 (by omega))
  subst hw
  refine ⟨rfl, rfl, fun r hr k hk => ?_⟩
  have q := congrArg (fun l => l[k]?) (row r hr)
  have q2 : oS (f r k) = oS (f' r k) := by simpa [hk] using q
  exact oS_inj q2
/-- what is known holds -/
def KOk (kvs : List (PyData × PyData)) : Prop := ∀ p ∈ kvs, ∃ w h f ws vs, Side w ∧ Side h ∧ p.1 = encP w h f ∧ BestF w h f ws ∧ BestL w h f vs ∧ p.2 = .tuple [strsD ws, strsD vs]
theorem lookN_mem : ∀ {kvs : List (PyData × PyData)} {n : NestedKey} {d : PyData}, lookN kvs n = some d → ∃ a, (a, d) ∈ kvs ∧ nkOf a = some n
  | [], n, d, h => by simp [lookN] at h
  | (a, e) :: r, n, d, h => by
    simp only [lookN] at h
    split at h
    · cases h
      exact ⟨a, by simp, by assumption⟩
    · obtain ⟨b, h1, h2⟩ := lookN_mem h
      exact ⟨b, List.mem_cons_of_mem _ h1, h2⟩
theorem look_best {kvs : List (PyData × PyData)} (K : KOk kvs) {w h : Nat} {f : Patch} {d : PyData} (hh : Side h) (e : lookN kvs (keyP w h f) = some d) : ∃ ws vs, BestF w h f ws ∧ BestL w h f vs ∧ d = .tuple [strsD ws, strsD vs] := by
  obtain ⟨a, h1, h2⟩ := lookN_mem e
  obtain ⟨w', h', f', ws, vs, s1, s2, e1, b1, b2, e2⟩ := K _ h1
  simp only at e1 e2
  rw [e1, nk_encP] at h2
  obtain ⟨rfl, rfl, ef⟩ := keyP_inj s2.pos (Option.some.inj h2)
  exact ⟨ws, vs, b1.congr ef, b2.congr ef, e2⟩
theorem put_ok {kvs : List (PyData × PyData)} (K : KOk kvs) {x d : PyData} {n : NestedKey} (h : ∃ w h f ws vs, Side w ∧ Side h ∧ x = encP w h f ∧ BestF w h f ws ∧ BestL w h f vs ∧ d = .tuple [strsD ws, strsD vs]) (hn : nkOf x = some n) : KOk (putN kvs x n d) := by
  induction kvs with
  | nil => intro p hp; simp [putN] at hp; subst hp; exact h
  | cons q r ih =>
    obtain ⟨a, e⟩ := q
    have Kr : KOk r := fun p hp => K p (List.mem_cons_of_mem _ hp)
    intro p hp
    simp only [putN] at hp
    split at hp
    · rename_i ha
      rcases List.mem_cons.mp hp with z | z
      · subst z
        obtain ⟨w1, h1, f1, ws1, vs1, s1, s2, e1, b1, b2, e2⟩ := K (a, e) (by simp)
        obtain ⟨w2, h2, f2, ws2, vs2, t1, t2, g1, c1, c2, g2⟩ := h
        simp only at e1 e2
        subst g1
        rw [e1, nk_encP] at ha
        rw [nk_encP] at hn
        have hk : keyP w1 h1 f1 = keyP w2 h2 f2 := (Option.some.inj ha).trans (Option.some.inj hn).symm
        obtain ⟨rfl, rfl, ef⟩ := keyP_inj s2.pos hk
        exact ⟨w1, h1, f1, ws2, vs2, s1, s2, e1, c1.congr fun r hr k hk => (ef r hr k hk).symm, c2.congr fun r hr k hk => (ef r hr k hk).symm, g2⟩
      · exact Kr p z
    · rcases List.mem_cons.mp hp with z | z
      · subst z
        exact K (a, e) (by simp)
      · exact ih Kr p z
theorem look_put {kvs : List (PyData × PyData)} {x d : PyData} {n : NestedKey} (hn : nkOf x = some n) : lookN (putN kvs x n d) n = some d := by
  induction kvs with
  | nil => simp [putN, lookN, hn]
  | cons q r ih =>
    obtain ⟨a, e⟩ := q
    simp only [putN]
    split
    · rename_i ha
      simp [lookN, ha]
    · rename_i ha
      simp [lookN, ha, ih]
end Bz
set_option Elab.async false
set_option linter.all false
set_option maxRecDepth 100000
set_option maxHeartbeats 1000000
/-! Reading: the colours of a patch; the ways as Fulls and Lasts. -/
namespace Bz
open PySem
theorem mem_allC {w h : Nat} {f : Patch} {o : Option Col} : o ∈ allC w h f ↔ ∃ r, r < h ∧ ∃ k, k < w ∧ f r k = o := by
  unfold allC
  simp only [List.mem_flatMap, List.mem_map, List.mem_range]
theorem mem_ownC {q : Pc} {w h : Nat} {f : Patch} {o : Option Col} : o ∈ ownC q w h f ↔ ∃ r, r < h ∧ ∃ k, k < w ∧ own q w h r k = true ∧ f r k = o := by
  unfold ownC ownR
  simp only [List.mem_flatMap, List.mem_map, List.mem_range, List.mem_filter]
  constructor
  · rintro ⟨r, hr, k, ⟨hk, ho⟩, e⟩
    exact ⟨r, hr, k, hk, ho, e⟩
  · rintro ⟨r, hr, k, hk, ho, e⟩
    exact ⟨r, hr, k, ⟨hk, ho⟩, e⟩
theorem mem_colsOf {cs : List (Option Col)} {c : Col} : c ∈ colsOf cs ↔ some c ∈ cs := by
  unfold colsOf
  rw [List.mem_filter]
  exact ⟨fun h => by simpa using h.2, fun h => ⟨six_all c, by simpa using h⟩⟩
theorem cols_nodup (cs : List (Option Col)) : (colsOf cs).Nodup := by
  unfold colsOf
  exact List.Nodup.sublist List.filter_sublist (by decide)
theorem mem_cols {w h : Nat} {f : Patch} {c : Col} : c ∈ colsOf (allC w h f) ↔ Has w h f c := by
  rw [mem_colsOf, mem_allC]
  rfl
theorem two_of {cs : List Col} (hn : cs.Nodup) (h : ¬ cs.length < 2) : ∃ a b, a ∈ cs ∧ b ∈ cs ∧ a ≠ b := by
  match cs, hn, h with
  | [], _, h => simp at h
  | [a], _, h => simp at h
  | a :: b :: r, hn, _ =>
    rw [List.nodup_cons] at hn
    exact ⟨a, b, by simp, by simp, fun e => hn.1 (by rw [e]; simp)⟩
theorem plain_iff {w h : Nat} {f : Patch} : (colsOf (allC w h f)).length < 2 ↔ Plain w h f := by
  constructor
  · intro hl r hr k hk r' hr' k' hk' c c' e e'
    have h1 : c ∈ colsOf (allC w h f) := mem_cols.mpr ⟨r, hr, k, hk, e⟩
    have h2 : c' ∈ colsOf (allC w h f) := mem_cols.mpr ⟨r', hr', k', hk', e'⟩
    match colsOf (allC w h f), h1, h2, hl with
    | [d], h1, h2, _ => rw [List.mem_singleton.mp h1, List.mem_singleton.mp h2]
    | _ :: _ :: _, _, _, hl => simp only [List.length_cons] at hl; omega
  · intro hp
    by_cases hl : (colsOf (allC w h f)).length < 2
    · exact hl
    · obtain ⟨a, b, ha, hb, hab⟩ := two_of (cols_nodup _) hl
      obtain ⟨r, hr, k, hk, e⟩ := mem_cols.mp ha
      obtain ⟨r', hr', k', hk', e'⟩ := mem_cols.mp hb
      exact absurd (hp r hr k hk r' hr' k' hk' a b e e') hab
theorem own_one {q : Pc} {w h : Nat} {f : Patch} {c : Col} : colsOf (ownC q w h f) = [c] ↔ OwnHas q w h f ∧ OwnAre q c w h f := by
  constructor
  · intro e
    have hm : c ∈ colsOf (ownC q w h f) := by rw [e]; simp
    obtain ⟨r, hr, k, hk, ho, hc⟩ := mem_ownC.mp (mem_colsOf.mp hm)
    refine ⟨⟨r, hr, k, hk, ho, c, hc⟩, fun r' hr' k' hk' ho' d hd => ?_⟩
    have : d ∈ colsOf (ownC q w h f) := mem_colsOf.mpr (mem_ownC.mpr ⟨r', hr', k', hk', ho', hd⟩)
    rw [e] at this
    exact List.mem_singleton.mp this
  · rintro ⟨⟨r, hr, k, hk, ho, d, hd⟩, ha⟩
    have all : ∀ x ∈ colsOf (ownC q w h f), x = c := fun x hx => by
      obtain ⟨r', hr', k', hk', ho', hc⟩ := mem_ownC.mp (mem_colsOf.mp hx)
      exact ha r' hr' k' hk' ho' x hc
    have hm : c ∈ colsOf (ownC q w h f) := by
      have := ha r hr k hk ho d hd
      subst this
      exact mem_colsOf.mpr (mem_ownC.mpr ⟨r, hr, k, hk, ho, hd⟩)
    have nd := cols_nodup (ownC q w h f)
    match colsOf (ownC q w h f), all, hm, nd with
    | [x], all, _, _ => rw [all x (by simp)]
    | x :: y :: r, all, _, nd =>
      rw [List.nodup_cons] at nd
      exact absurd (by rw [all x (by simp), all y (by simp)]; simp) nd.1
/-- a way of a patch -/
def IsWay (w h : Nat) (f : Patch) : Way → Prop
  | .part p => fitP p w h = true ∧ PWay p w h f
  | .piece q c => fitQ q w h = true ∧ OwnHas q w h f ∧ OwnAre q c w h f
theorem mem_ways {w h : Nat} {f : Patch} {x : Way} : x ∈ waysL w h f ↔ IsWay w h f x := by
  unfold waysL
  rw [List.mem_append, List.mem_flatMap, List.mem_flatMap]
  cases x with
  | part p =>
    constructor
    · rintro (⟨p', _, h⟩ | ⟨q, _, h⟩)
      · unfold partW at h
        split at h
        · rename_i hc
          rw [Bool.and_eq_true] at hc
          cases List.mem_singleton.mp h
          exact ⟨hc.1, pway_iff.mp hc.2⟩
        · simp at h
      · unfold pieceW at h
        split at h
        · split at h
          · cases List.mem_singleton.mp h
          · simp at h
        · simp at h
    · rintro ⟨h1, h2⟩
      refine .inl ⟨p, by cases p <;> simp [threeP], ?_⟩
      unfold partW
      rw [h1, pway_iff.mpr h2]
      simp
  | piece q c =>
    constructor
    · rintro (⟨p', _, h⟩ | ⟨q', _, h⟩)
      · unfold partW at h
        split at h
        · cases List.mem_singleton.mp h
        · simp at h
      · unfold pieceW at h
        split at h
        · rename_i hf
          split at h
          · rename_i d hd
            cases List.mem_singleton.mp h
            obtain ⟨a, b⟩ := own_one.mp hd
            exact ⟨hf, a, b⟩
          · simp at h
        · simp at h
    · rintro ⟨h1, h2, h3⟩
      refine .inr ⟨q, by cases q <;> simp [fourQ], ?_⟩
      unfold pieceW
      rw [h1, own_one.mpr ⟨h2, h3⟩]
      simp
/-- what a way puts to the full sayings, to those without the end -/
def FullG (w h : Nat) (f : Patch) : Way → List (List Str) → Prop
  | .part p, xs => ∃ a b, BestF (pW p w) (pH p h) (one p w h f) a ∧ BestF (pW p w) (pH p h) (two p w h f) b ∧ xs = [p.s :: (a ++ b)]
  | .piece q c, xs => ∃ a, BestF w h (blank q w h f) a ∧ xs = [q.s :: c.s :: a]
def LastG (w h : Nat) (f : Patch) : Way → List (List Str) → Prop
  | .part p, xs => ∃ a la lb, BestF (pW p w) (pH p h) (one p w h f) a ∧ BestL (pW p w) (pH p h) (one p w h f) la ∧ BestL (pW p w) (pH p h) (two p w h f) lb ∧ xs = [p.s :: (a ++ lb)] ++ (if lb = [] then [p.s :: la] else [])
  | .piece q c, xs => ∃ la, BestL w h (blank q w h f) la ∧ xs = [q.s :: c.s :: la]
inductive Gath (G : Way → List (List Str) → Prop) : List Way → List (List Str) → Prop
  | nil : Gath G [] []
  | snoc {L : List Way} {x : Way} {xs g : List (List Str)} : Gath G L xs → G x g → Gath G (L ++ [x]) (xs ++ g)
theorem Gath.get {G : Way → List (List Str) → Prop} {L : List Way} {xs : List (List Str)} (H : Gath G L xs) {x : Way} (hx : x ∈ L) : ∃ g, G x g ∧ ∀ y ∈ g, y ∈ xs := by
  induction H with
  | nil => simp at hx
  | snoc _ hg ih =>
    rcases List.mem_append.mp hx with e | e
    · obtain ⟨g, h1, h2⟩ := ih e
      exact ⟨g, h1, fun y hy => List.mem_append_left _ (h2 y hy)⟩
    · rw [List.mem_singleton.mp e]
      exact ⟨_, hg, fun y hy => List.mem_append_right _ hy⟩
theorem Gath.of {G : Way → List (List Str) → Prop} {L : List Way} {xs : List (List Str)} (H : Gath G L xs) {y : List Str} (hy : y ∈ xs) : ∃ x ∈ L, ∃ g, G x g ∧ y ∈ g := by
  induction H with
  | nil => simp at hy
  | snoc _ hg ih =>
    rcases List.mem_append.mp hy with e | e
    · obtain ⟨x, h1, g, h2, h3⟩ := ih e
      exact ⟨x, List.mem_append_left _ h1, g, h2, h3⟩
    · exact ⟨_, by simp, _, hg, e⟩
theorem fulls_of {w h : Nat} {f : Patch} {xs : List (List Str)} (H : Gath (FullG w h f) (waysL w h f) xs) : Fulls w h f xs where
  prt := fun p hf hp => by
    obtain ⟨g, ⟨a, b, h1, h2, rfl⟩, h3⟩ := H.get (x := .part p) (mem_ways.mpr ⟨hf, hp⟩)
    exact ⟨a, b, h1, h2, h3 _ (by simp)⟩
  pc := fun q c hf ho ha => by
    obtain ⟨g, ⟨a, h1, rfl⟩, h3⟩ := H.get (x := .piece q c) (mem_ways.mpr ⟨hf, ho, ha⟩)
    exact ⟨a, h1, h3 _ (by simp)⟩
  all := fun y hy => by
    obtain ⟨x, hx, g, hg, hyg⟩ := H.of hy
    have hw := mem_ways.mp hx
    cases x with
    | part p =>
      obtain ⟨a, b, h1, h2, rfl⟩ := hg
      exact .inl ⟨p, a, b, hw.1, hw.2, h1, h2, List.mem_singleton.mp hyg⟩
    | piece q c =>
      obtain ⟨a, h1, rfl⟩ := hg
      exact .inr ⟨q, c, a, hw.1, hw.2.2, h1, List.mem_singleton.mp hyg⟩
theorem lasts_of {w h : Nat} {f : Patch} {xs : List (List Str)} (H : Gath (LastG w h f) (waysL w h f) xs) : Lasts w h f xs where
  prt := fun p hf hp => by
    obtain ⟨g, ⟨a, la, lb, h1, h2, h4, rfl⟩, h3⟩ := H.get (x := .part p) (mem_ways.mpr ⟨hf, hp⟩)
    exact ⟨a, la, lb, h1, h2, h4, h3 _ (by simp), fun e => h3 _ (by simp [e])⟩
  pc := fun q c hf ho ha => by
    obtain ⟨g, ⟨a, h1, rfl⟩, h3⟩ := H.get (x := .piece q c) (mem_ways.mpr ⟨hf, ho, ha⟩)
    exact ⟨a, h1, h3 _ (by simp)⟩
  all := fun y hy => by
    obtain ⟨x, hx, g, hg, hyg⟩ := H.of hy
    have hw := mem_ways.mp hx
    cases x with
    | part p =>
      obtain ⟨a, la, lb, h1, h2, h4, rfl⟩ := hg
      refine .inl ⟨p, a, la, lb, hw.1, hw.2, h1, h2, h4, ?_⟩
      rcases List.mem_append.mp hyg with e | e
      · exact .inl (List.mem_singleton.mp e)
      · split at e
        · rename_i hlb
          exact .inr ⟨hlb, List.mem_singleton.mp e⟩
        · simp at e
    | piece q c =>
      obtain ⟨a, h1, rfl⟩ := hg
      exact .inr ⟨q, c, a, hw.1, hw.2.2, h1, List.mem_singleton.mp hyg⟩
end Bz
set_option Elab.async false
set_option linter.all false
set_option maxRecDepth 100000
set_option maxHeartbeats 1000000
/-! Reading: the dict's keys, the measure. -/
namespace Bz
open PySem
/-- the keys are apart, and all of C -/
def KC (C : List NestedKey) (kvs : List (PyData × PyData)) : Prop := (kvs.map fun p => nkOf p.1).Nodup ∧ ∀ p ∈ kvs, ∃ n ∈ C, nkOf p.1 = some n
theorem nodup_le {α : Type} : ∀ {xs ys : List α}, xs.Nodup → (∀ x ∈ xs, x ∈ ys) → xs.length ≤ ys.length
  | [], ys, _, _ => by simp
  | x :: xs, ys, hn, hs => by
    rw [List.nodup_cons] at hn
    obtain ⟨a, b, rfl⟩ := List.append_of_mem (hs x (by simp))
    have ih := nodup_le (xs := xs) (ys := a ++ b) hn.2 fun y hy => by
      have := hs y (by simp [hy])
      simp only [List.mem_append, List.mem_cons] at this ⊢
      rcases this with e | e | e
      · exact .inl e
      · subst e; exact absurd hy hn.1
      · exact .inr e
    simp only [List.length_append, List.length_cons] at ih ⊢
    omega
theorem KC.len {C : List NestedKey} {kvs : List (PyData × PyData)} (H : KC C kvs) : kvs.length ≤ C.length := by
  have h := nodup_le (xs := kvs.map fun p => nkOf p.1) (ys := C.map some) H.1 fun x hx => by
    obtain ⟨p, hp, rfl⟩ := List.mem_map.mp hx
    obtain ⟨n, hn, e⟩ := H.2 p hp
    rw [e]
    exact List.mem_map.mpr ⟨n, hn, rfl⟩
  simpa using h
theorem put_keys {kvs : List (PyData × PyData)} {x d : PyData} {n : NestedKey} (hn : nkOf x = some n) : (putN kvs x n d).map (fun p => nkOf p.1) = if (lookN kvs n).isSome then kvs.map (fun p => nkOf p.1) else kvs.map (fun p => nkOf p.1) ++ [some n] := by
  induction kvs with
  | nil => simp [putN, lookN, hn]
  | cons q r ih =>
    obtain ⟨a, e⟩ := q
    by_cases ha : nkOf a = some n
    · simp [putN, lookN, ha]
    · simp only [putN, lookN, if_neg ha, List.map_cons, ih]
      split <;> simp
theorem look_none {kvs : List (PyData × PyData)} {n : NestedKey} (h : (lookN kvs n).isSome = false) : some n ∉ kvs.map fun p => nkOf p.1 := by
  induction kvs with
  | nil => simp
  | cons q r ih =>
    obtain ⟨a, e⟩ := q
    by_cases ha : nkOf a = some n
    · simp [lookN, ha] at h
    · simp only [lookN, if_neg ha] at h
      simp only [List.map_cons, List.mem_cons, not_or]
      exact ⟨fun z => ha z.symm, ih h⟩
theorem KC.put {C : List NestedKey} {kvs : List (PyData × PyData)} (H : KC C kvs) {x d : PyData} {n : NestedKey} (hn : nkOf x = some n) (hc : n ∈ C) : KC C (putN kvs x n d) := by
  have e := put_keys (kvs := kvs) (d := d) hn
  refine ⟨?_, fun p hp => ?_⟩
  · rw [e]
    cases hl : (lookN kvs n).isSome with
    | true => simpa using H.1
    | false =>
      have := look_none hl
      simp only [Bool.false_eq_true, if_false]
      rw [List.nodup_append]
      exact ⟨H.1, by simp, fun a ha b hb => by
        simp at hb
        subst hb
        intro z
        subst z
        exact this ha⟩
  · have hm : nkOf p.1 ∈ (putN kvs x n d).map fun p => nkOf p.1 := List.mem_map.mpr ⟨p, hp, rfl⟩
    rw [e] at hm
    have old : nkOf p.1 ∈ kvs.map (fun p => nkOf p.1) → ∃ n ∈ C, nkOf p.1 = some n := fun hq => by
      obtain ⟨p', hp', e'⟩ := List.mem_map.mp hq
      obtain ⟨m, h1, h2⟩ := H.2 p' hp'
      exact ⟨m, h1, by rw [← e', h2]⟩
    split at hm
    · exact old hm
    · rcases List.mem_append.mp hm with q | q
      · exact old q
      · exact ⟨n, hc, List.mem_singleton.mp q⟩
/-! ### the measure -/
def lg (n : Nat) : Nat := if n ≤ 1 then 0 else if n ≤ 2 then 1 else if n ≤ 4 then 2 else 3
def hasB (w h : Nat) (f : Patch) (q : Pc) : Bool := decide (colsOf (ownC q w h f) ≠ [])
theorem hasB_iff {w h : Nat} {f : Patch} {q : Pc} : hasB w h f q = true ↔ OwnHas q w h f := by
  unfold hasB
  rw [decide_eq_true_eq]
  constructor
  · intro hne
    obtain ⟨c, hc⟩ := List.exists_mem_of_ne_nil _ hne
    obtain ⟨r, hr, k, hk, ho, e⟩ := mem_ownC.mp (mem_colsOf.mp hc)
    exact ⟨r, hr, k, hk, ho, c, e⟩
  · rintro ⟨r, hr, k, hk, ho, c, e⟩ z
    have : c ∈ colsOf (ownC q w h f) := mem_colsOf.mpr (mem_ownC.mpr ⟨r, hr, k, hk, ho, e⟩)
    rw [z] at this
    simp at this
def meas (w h : Nat) (f : Patch) : Nat := 5 * (lg w + lg h) + (fourQ.filter (hasB w h f)).length
theorem cnt_le (w h : Nat) (f : Patch) : (fourQ.filter (hasB w h f)).length ≤ 4 := List.length_filter_le _ _
theorem meas_top {w h : Nat} (f : Patch) : meas w h f ≤ 34 := by
  have := cnt_le w h f
  unfold meas lg
  split <;> split <;> (try split) <;> (try split) <;> (try split) <;> (try split) <;> omega
theorem meas_part {p : Prt} {w h : Nat} (hw : Side w) (hh : Side h) (hf : fitP p w h = true) (f g : Patch) : meas (pW p w) (pH p h) g < meas w h f := by
  have h1 := cnt_le (pW p w) (pH p h) g
  have h2 : lg (pW p w) + lg (pH p h) + 1 ≤ lg w + lg h := by
    rcases hw with rfl | rfl | rfl | rfl <;> rcases hh with rfl | rfl | rfl | rfl <;> cases p <;> first | (revert hf; decide) | decide
  unfold meas
  omega
theorem filter_lt {α : Type} [DecidableEq α] {p q : α → Bool} : ∀ (xs : List α) (a : α), a ∈ xs → p a = false → q a = true → (∀ x, p x = true → q x = true) → (xs.filter p).length < (xs.filter q).length
  | [], a, h, _, _, _ => by simp at h
  | x :: xs, a, h, hp, hq, hs => by
    have le : (xs.filter p).length ≤ (xs.filter q).length := by
      rw [← List.countP_eq_length_filter, ← List.countP_eq_length_filter]
      exact List.countP_mono_left fun x _ hx => hs x hx
    rcases List.mem_cons.mp h with e | e
    · subst e
      simp only [List.filter_cons, hp, hq, Bool.false_eq_true, if_false, if_true, List.length_cons]
      omega
    · have ih := filter_lt xs a e hp hq hs
      simp only [List.filter_cons]
      cases hx : p x with
      | true => simp only [hs x hx, if_true, List.length_cons]; omega
      | false =>
        simp only [Bool.false_eq_true, if_false]
        split
        · simp only [List.length_cons]; omega
        · exact ih
theorem meas_piece {q : Pc} {w h : Nat} {f : Patch} (ho : OwnHas q w h f) : meas w h (blank q w h f) < meas w h f := by
  have hlt := filter_lt (p := hasB w h (blank q w h f)) (q := hasB w h f) fourQ q (by cases q <;> simp [fourQ]) (by
    cases e : hasB w h (blank q w h f) q with
    | false => rfl
    | true =>
      obtain ⟨r, hr, k, hk, o, c, hc⟩ := hasB_iff.mp e
      simp [blank, o] at hc) (hasB_iff.mpr ho) (fun x hx => by
    obtain ⟨r, hr, k, hk, o, c, hc⟩ := hasB_iff.mp hx
    refine hasB_iff.mpr ⟨r, hr, k, hk, o, c, ?_⟩
    unfold blank at hc
    split at hc
    · cases hc
    · exact hc)
  unfold meas
  omega
theorem depthAll_map {α : Type} {g : α → NestedKey} {n : Nat} : ∀ (xs : List α), (∀ x, (g x).depth ≤ n) → NestedKey.depthAll (xs.map g) ≤ n
  | [], _ => by simp [NestedKey.depthAll]
  | x :: xs, h => by
    have h1 := h x
    have h2 := depthAll_map xs h
    simp only [List.map_cons, NestedKey.depthAll]
    omega
/-- such keys are not deep -/
theorem depth_keyP (w h : Nat) (f : Patch) : (keyP w h f).depth ≤ 8 := by
  have h1 : ∀ r, (NestedKey.tup ((List.range w).map fun k => .text (oS (f r k)))).depth ≤ 2 := fun r => by
    have := depthAll_map (g := fun k => NestedKey.text (oS (f r k))) (n := 1) (List.range w) fun k => by simp [NestedKey.depth]
    simp only [NestedKey.depth]
    omega
  have := depthAll_map (List.range h) h1
  simp only [keyP, NestedKey.depth]
  omega
theorem nkT_encP (w h : Nat) (f : Patch) : nkT (encP w h f) = some (keyP w h f) := by
  have e : nkT (encP w h f) = match nkOf (encP w h f) with | some k => if k.depth ≤ 8 then some k else none | none => none := rfl
  rw [e, nk_encP]
  simp only [depth_keyP, if_true]
/-! ### the dict's steps -/
theorem inD_of {i j hk : Nat} {w h : Nat} {f : Patch} {ρ : Env} {μ : Mem} {kvs : List (PyData × PyData)} (hi : ρ[i]? = some (some (.d (encP w h f)))) (hj : ρ[j]? = some (some (.m hk))) (hm : μ[hk]? = some (.dic kvs)) : eInD (eVar i) (eVar j) ρ μ = .ok (.d (.bool (lookN kvs (keyP w h f)).isSome)) μ := by
  simp only [eInD, eVar, hi, hj, R.bind, nkT_encP, hm, Option.bind, dicOf]
theorem getD_of {i j hk : Nat} {w h : Nat} {f : Patch} {ρ : Env} {μ : Mem} {kvs : List (PyData × PyData)} {d : PyData} (hi : ρ[i]? = some (some (.d (encP w h f)))) (hj : ρ[j]? = some (some (.m hk))) (hm : μ[hk]? = some (.dic kvs)) (hl : lookN kvs (keyP w h f) = some d) : eGetD (eVar j) (eVar i) ρ μ = .ok (.d d) μ := by
  simp only [eGetD, eVar, hi, hj, R.bind, nkT_encP, hm, Option.bind, dicOf, hl, R.of]
theorem setD_of {i j hk : Nat} {w h : Nat} {f : Patch} {e : DE} {ρ : Env} {μ μ1 : Mem} {kvs : List (PyData × PyData)} {d : PyData} (he : e ρ μ = .ok (.d d) μ1) (hi : ρ[i]? = some (some (.d (encP w h f)))) (hj : ρ[j]? = some (some (.m hk))) (hm : μ1[hk]? = some (.dic kvs)) (hl : kvs.length ≤ 1000000) :
    sSetD e (eVar j) (eVar i) ρ μ = .nx ρ (μ1.set hk (.dic (putN kvs (encP w h f) (keyP w h f) d))) := by
  simp only [sSetD, he, eVar, hi, hj, R.out, nkT_encP, hm, small, hl, decide_true, if_true]
end Bz
set_option Elab.async false
set_option linter.all false
set_option maxRecDepth 100000
set_option maxHeartbeats 1000000
/-! Reading: best, the plain ones. -/
namespace Bz
open PySem
/-- keys that hold those of all that is left -/
structure Clo (C : List NestedKey) : Prop where
  len : C.length ≤ 1000000
  part : ∀ (w h : Nat) (f : Patch) (p : Prt), Side w → Side h → keyP w h f ∈ C → fitP p w h = true → PWay p w h f → keyP (pW p w) (pH p h) (one p w h f) ∈ C ∧ keyP (pW p w) (pH p h) (two p w h f) ∈ C
  piece : ∀ (w h : Nat) (f : Patch) (q : Pc), Side w → Side h → keyP w h f ∈ C → fitQ q w h = true → keyP w h (blank q w h f) ∈ C
def plainW : List Col → List Str
  | [] => ["black"]
  | c :: _ => [c.s]
def plainV : List Col → List Str
  | [] => []
  | c :: _ => if c = .white then [] else [c.s]
theorem plain_best {w h : Nat} {f : Patch} (hp : (colsOf (allC w h f)).length < 2) : BestF w h f (plainW (colsOf (allC w h f))) ∧ BestL w h f (plainV (colsOf (allC w h f))) := by
  have pl := plain_iff.mp hp
  have mem : ∀ c, c ∈ colsOf (allC w h f) ↔ Has w h f c := fun c => mem_cols
  generalize colsOf (allC w h f) = cs at hp mem
  match cs, hp, mem with
  | [], _, mem =>
    have hn : ∀ d, ¬ Has w h f d := fun d hd => by
      have := (mem d).mpr hd
      simp at this
    exact ⟨bestF_plain (c := .black) pl (.inr ⟨hn, rfl⟩), bestL_white fun d hd => absurd hd (hn d)⟩
  | [c], _, mem =>
    have hc : Has w h f c := (mem c).mp (by simp)
    refine ⟨bestF_plain pl (.inl hc), ?_⟩
    show BestL w h f (if c = .white then [] else [c.s])
    by_cases e : c = .white
    · rw [if_pos e]
      refine bestL_white fun d hd => ?_
      have := (mem d).mpr hd
      rw [List.mem_singleton.mp this, e]
    · rw [if_neg e]
      exact bestL_plain pl hc e
  | _ :: _ :: _, hp, _ => simp only [List.length_cons] at hp; omega
theorem in_two (cs : List Col) (hl : cs.length < 2) : fIn (.list (cs.map fun c => PyData.str c.s)) (.tuple [.list [], .list [.str "white"]]) = some (.bool (decide (plainV cs = []))) := by
  match cs, hl with
  | [], _ =>
    simp (config := {decide := true}) [plainV, inD, PyData.eqv, PyData.eqvAll]
    decide +kernel
  | [c], _ => cases c <;> simp (config := {decide := true}) [plainV, inD, PyData.eqv, PyData.eqvAll, Col.s] <;> (constructor <;> decide +kernel)
  | _ :: _ :: _, h => simp only [List.length_cons] at h; omega
abbrev EB (w h : Nat) (f : Patch) (hk : Nat) (x2 x3 x4 x5 x6 x7 x8 x9 : Option S) : Env := [some (.d (encP w h f)), some (.m hk), x2, x3, x4, x5, x6, x7, x8, x9]
theorem plain_step {w h hk : Nat} {f : Patch} {μ : Mem} {kvs : List (PyData × PyData)} (cs : List Col) (hl : cs.length < 2) (hm : μ[hk]? = some (.dic kvs)) (hz : kvs.length ≤ 1000000) (x3 x4 x5 x6 x7 x8 x9 : Option S) :
    (sSeq (sAsg (eOp fIx (eOp fAdd (eVar 2) (eLst (aCons (eC (.str "black")) aNil))) (eC (.int 0))) (gNm 3))
      (sSeq (sSetD (eTup (aCons (eTup (aCons (eVar 3) aNil)) (aCons (eIf (bVal (eOp fIn (eVar 2) (eTup (aCons (eLst aNil) (aCons (eLst (aCons (eC (.str "white")) aNil)) aNil))))) (eTup aNil) (eTup (aCons (eVar 3) aNil))) aNil))) (eVar 1) (eVar 0))
        (sRet (eGetD (eVar 1) (eVar 0))))) (EB w h f hk (some (.d (.list (cs.map fun c => .str c.s)))) x3 x4 x5 x6 x7 x8 x9) μ =
      .rt (.d (.tuple [strsD (plainW cs), strsD (plainV cs)])) (μ.set hk (.dic (putN kvs (encP w h f) (keyP w h f) (.tuple [strsD (plainW cs), strsD (plainV cs)])))) := by
  obtain ⟨c0, hc0, hw0⟩ : ∃ c0 : Col, fIx (.list (cs.map (fun c => PyData.str c.s) ++ [.str "black"])) (.int 0) = some (.str c0.s) ∧ plainW cs = [c0.s] := by
    match cs with
    | [] => exact ⟨.black, rfl, rfl⟩
    | c :: r => exact ⟨c, by simp, rfl⟩
  have hv0 : plainV cs = [] ∨ plainV cs = [c0.s] := by
    match cs, hw0 with
    | [], _ => exact .inl rfl
    | c :: r, hw0 =>
      simp only [plainW, List.cons.injEq, and_true] at hw0
      by_cases e : c = .white
      · exact .inl (show (if c = .white then ([] : List Str) else [c.s]) = [] from if_pos e)
      · exact .inr ((show (if c = .white then ([] : List Str) else [c.s]) = [c.s] from if_neg e).trans (by rw [hw0]))
  refine seq_nx (asg_of (op_of (op_of (u := .list (cs.map fun c => .str c.s)) (v := .list [.str "black"]) rfl rfl (add_lists (by simp only [List.length_map, List.length_singleton]; omega))) rfl hc0) rfl) ?_
  have tst : bVal (eOp fIn (eVar 2) (eTup (aCons (eLst aNil) (aCons (eLst (aCons (eC (.str "white")) aNil)) aNil)))) (EB w h f hk (some (.d (.list (cs.map fun c => .str c.s)))) (some (.d (.str c0.s))) x4 x5 x6 x7 x8 x9) μ = .ok (decide (plainV cs = [])) μ :=
    val_of (op_of (v := .tuple [.list [], .list [.str "white"]]) rfl rfl (in_two cs hl))
  have val : eTup (aCons (eTup (aCons (eVar 3) aNil)) (aCons (eIf (bVal (eOp fIn (eVar 2) (eTup (aCons (eLst aNil) (aCons (eLst (aCons (eC (.str "white")) aNil)) aNil))))) (eTup aNil) (eTup (aCons (eVar 3) aNil))) aNil)) (EB w h f hk (some (.d (.list (cs.map fun c => .str c.s)))) (some (.d (.str c0.s))) x4 x5 x6 x7 x8 x9) μ = .ok (.d (.tuple [strsD (plainW cs), strsD (plainV cs)])) μ := by
    refine tup_of (xs := [strsD (plainW cs), strsD (plainV cs)]) (cons_of (s := .d (strsD (plainW cs))) (by rw [hw0]; rfl) (cons_of (s := .d (strsD (plainV cs))) ?_ rfl)) rfl (by simp)
    unfold eIf
    rw [tst]
    simp only [R.bind]
    rcases hv0 with e | e
    · rw [e]
      rfl
    · rw [e]
      rfl
  refine seq_nx (setD_of val rfl rfl hm hz) (ret_of (getD_of (kvs := putN kvs (encP w h f) (keyP w h f) (.tuple [strsD (plainW cs), strsD (plainV cs)])) rfl rfl ?_ (look_put (nk_encP w h f))))
  obtain ⟨hlt, _⟩ := List.getElem?_eq_some_iff.mp hm
  exact List.getElem?_set_self hlt
end Bz
set_option Elab.async false
set_option linter.all false
set_option maxRecDepth 100000
set_option maxHeartbeats 1000000
/-! Reading: best, what is found of a way's parts. -/
namespace Bz
open PySem
/-- F tells the best of a patch -/
def BestAt (C : List NestedKey) (F : Fn) (w h : Nat) (f : Patch) : Prop := ∀ (hk : Nat) (kvs : List (PyData × PyData)) (μ : Mem), μ[hk]? = some (.dic kvs) → KOk kvs → KC C kvs →
  ∃ kvs' ws vs, KOk kvs' ∧ KC C kvs' ∧ BestF w h f ws ∧ BestL w h f vs ∧ F [.d (encP w h f), .m hk] μ = .ok (.d (.tuple [strsD ws, strsD vs])) (μ.set hk (.dic kvs'))
abbrev fndE (F : Fn) : DE := eComp (iSeq (eVar 7)) (gNm 9) bYes (eCall F (aCons (eVar 9) (aCons (eVar 1) aNil))) [9]
theorem call_best {C : List NestedKey} {F : Fn} {w h hk : Nat} {f : Patch} (H : BestAt C F w h f) {ρ : Env} {μ : Mem} {kvs : List (PyData × PyData)} (h1 : ρ[1]? = some (some (.m hk))) (hl : 9 < ρ.length) (hm : μ[hk]? = some (.dic kvs)) (K : KOk kvs) (Kc : KC C kvs) :
    ∃ kvs' ws vs, KOk kvs' ∧ KC C kvs' ∧ BestF w h f ws ∧ BestL w h f vs ∧ eCall F (aCons (eVar 9) (aCons (eVar 1) aNil)) (ρ.set 9 (some (.d (encP w h f)))) μ = .ok (.d (.tuple [strsD ws, strsD vs])) (μ.set hk (.dic kvs')) ∧ (μ.set hk (.dic kvs'))[hk]? = some (.dic kvs') := by
  obtain ⟨kvs', ws, vs, a1, a2, a3, a4, e⟩ := H hk kvs μ hm K Kc
  refine ⟨kvs', ws, vs, a1, a2, a3, a4, ?_, ?_⟩
  · have e9 : (ρ.set 9 (some (.d (encP w h f))))[9]? = some (some (.d (encP w h f))) := List.getElem?_set_self hl
    have e1 : (ρ.set 9 (some (.d (encP w h f))))[1]? = some (some (.m hk)) := by rw [List.getElem?_set_ne (by decide)]; exact h1
    have v9 : eVar 9 (ρ.set 9 (some (.d (encP w h f)))) μ = .ok (.d (encP w h f)) μ := by simp only [eVar, e9]
    have v1 : eVar 1 (ρ.set 9 (some (.d (encP w h f)))) μ = .ok (.m hk) μ := by simp only [eVar, e1]
    exact call_of (cons_of v9 (cons_of v1 rfl)) e
  · obtain ⟨hlt, _⟩ := List.getElem?_eq_some_iff.mp hm
    exact List.getElem?_set_self hlt
theorem found1 {C : List NestedKey} {F : Fn} {w h hk : Nat} {f : Patch} (H : BestAt C F w h f) {ρ : Env} {μ : Mem} {kvs : List (PyData × PyData)} (h7 : ρ[7]? = some (some (.d (.tuple [encP w h f])))) (h1 : ρ[1]? = some (some (.m hk))) (hl : 9 < ρ.length) (hm : μ[hk]? = some (.dic kvs)) (K : KOk kvs) (Kc : KC C kvs) :
    ∃ kvs' ws vs, KOk kvs' ∧ KC C kvs' ∧ BestF w h f ws ∧ BestL w h f vs ∧ fndE F ρ μ = .ok (.d (.list [.tuple [strsD ws, strsD vs]])) (μ.set hk (.dic kvs')) := by
  obtain ⟨kvs', ws, vs, a1, a2, a3, a4, e, _⟩ := call_best H (ρ := wipeD ρ [9]) (by simp [h1]) (by simpa using hl) hm K Kc
  refine ⟨kvs', ws, vs, a1, a2, a3, a4, comp_of (xs := [encP w h f]) (μ1 := μ) (iseqT_of (by simp only [eVar, h7])) ?_⟩
  simp only [compGo, gNm, bYes, R.bindN, if_true, e]
  rfl
theorem found2 {C : List NestedKey} {F : Fn} {w h hk : Nat} {f g : Patch} (H : BestAt C F w h f) (H' : BestAt C F w h g) {ρ : Env} {μ : Mem} {kvs : List (PyData × PyData)} (h7 : ρ[7]? = some (some (.d (.tuple [encP w h f, encP w h g])))) (h1 : ρ[1]? = some (some (.m hk))) (hl : 9 < ρ.length) (hm : μ[hk]? = some (.dic kvs)) (K : KOk kvs) (Kc : KC C kvs) :
    ∃ kvs' ws vs ws' vs', KOk kvs' ∧ KC C kvs' ∧ BestF w h f ws ∧ BestL w h f vs ∧ BestF w h g ws' ∧ BestL w h g vs' ∧ fndE F ρ μ = .ok (.d (.list [.tuple [strsD ws, strsD vs], .tuple [strsD ws', strsD vs']])) (μ.set hk (.dic kvs')) := by
  obtain ⟨k1, ws, vs, a1, a2, a3, a4, e, hm1⟩ := call_best H (ρ := wipeD ρ [9]) (by simp [h1]) (by simpa using hl) hm K Kc
  obtain ⟨k2, ws', vs', b1, b2, b3, b4, e', _⟩ := call_best H' (ρ := wipeD ρ [9]) (by simp [h1]) (by simpa using hl) hm1 a1 a2
  refine ⟨k2, ws, vs, ws', vs', b1, b2, a3, a4, b3, b4, comp_of (xs := [encP w h f, encP w h g]) (μ1 := μ) (iseqT_of (by simp only [eVar, h7])) ?_⟩
  rw [List.set_set] at e'
  simp only [compGo, gNm, bYes, R.bindN, if_true, e, e', List.nil_append, small, List.length_nil, List.length_singleton]
  rfl
end Bz
set_option Elab.async false
set_option linter.all false
set_option maxRecDepth 100000
set_option maxHeartbeats 1000000
/-! Reading: best, one way. -/
namespace Bz
open PySem
abbrev wayB (F : Fn) : DS := (sSeq (sAsg (fndE F) (gNm 8)) (sSeq (sIf (bVal (eOp fEq (eCB bLen (aCons (eVar 8) aNil)) (eC (.int 2)))) (sSeq (sDrop (eApp (eVar 4) (eOp fAdd (eOp fAdd (eVar 6) (eOp fIx (eOp fIx (eVar 8) (eC (.int 0))) (eC (.int 0)))) (eOp fIx (eOp fIx (eVar 8) (eC (.int 1))) (eC (.int 0)))))) (sDrop (eApp (eVar 5) (eOp fAdd (eOp fAdd (eVar 6) (eOp fIx (eOp fIx (eVar 8) (eC (.int 0))) (eC (.int 0)))) (eOp fIx (eOp fIx (eVar 8) (eC (.int 1))) (eC (.int 1))))))) (sDrop (eApp (eVar 4) (eOp fAdd (eVar 6) (eOp fIx (eOp fIx (eVar 8) (eC (.int 0))) (eC (.int 0)))))))
  (sIf (bOr (bVal (eOp fEq (eOp fIx (eOp fIx (eVar 8) (eUn fNeg (eC (.int 1)))) (eC (.int 1))) (eTup aNil))) (bVal (eOp fEq (eCB bLen (aCons (eVar 8) aNil)) (eC (.int 1))))) (sDrop (eApp (eVar 5) (eOp fAdd (eVar 6) (eOp fIx (eOp fIx (eVar 8) (eC (.int 0))) (eC (.int 1)))))) sNx)))
/-- the memory in the loop -/
def Mm (μ : Mem) (hk : Nat) (kvs : List (PyData × PyData)) (fs ls : List (List Str)) : Mem := μ.set hk (.dic kvs) ++ [.lst (fs.map strsD), .lst (ls.map strsD)]
theorem Mm_dic {μ : Mem} {hk : Nat} {kvs : List (PyData × PyData)} {fs ls : List (List Str)} (h : hk < μ.length) : (Mm μ hk kvs fs ls)[hk]? = some (.dic kvs) := by
  unfold Mm
  rw [List.getElem?_append_left (by simpa using h)]
  exact List.getElem?_set_self h
theorem Mm_set {μ : Mem} {hk : Nat} {kvs kvs' : List (PyData × PyData)} {fs ls : List (List Str)} (h : hk < μ.length) : (Mm μ hk kvs fs ls).set hk (.dic kvs') = Mm μ hk kvs' fs ls := by
  unfold Mm
  rw [List.set_append_left _ _ (by simpa using h), List.set_set]
theorem Mm_f {μ : Mem} {hk : Nat} {kvs : List (PyData × PyData)} {fs ls : List (List Str)} : (Mm μ hk kvs fs ls)[μ.length]? = some (.lst (fs.map strsD)) := by simp [Mm]
theorem Mm_l {μ : Mem} {hk : Nat} {kvs : List (PyData × PyData)} {fs ls : List (List Str)} : (Mm μ hk kvs fs ls)[μ.length + 1]? = some (.lst (ls.map strsD)) := by simp [Mm]
theorem Mm_setf {μ : Mem} {hk : Nat} {kvs : List (PyData × PyData)} {fs ls : List (List Str)} {x : List Str} : (Mm μ hk kvs fs ls).set μ.length (.lst (fs.map strsD ++ [strsD x])) = Mm μ hk kvs (fs ++ [x]) ls := by simp [Mm]
theorem Mm_setl {μ : Mem} {hk : Nat} {kvs : List (PyData × PyData)} {fs ls : List (List Str)} {x : List Str} : (Mm μ hk kvs fs ls).set (μ.length + 1) (.lst (ls.map strsD ++ [strsD x])) = Mm μ hk kvs fs (ls ++ [x]) := by simp [Mm]
theorem eq_nil_strs {ws : List Str} (h : okW ws) : fEq (strsD ws) (.tuple []) = some (.bool (decide (ws = []))) := by
  have := eqD_strs (ws := ws) (vs := []) h.1 (by simp)
  simp only [fEq]
  rw [show (PyData.tuple []) = strsD [] from rfl, this]
  rfl
theorem way_part {C : List NestedKey} {F : Fn} {w h w' h' hk : Nat} {f a b : Patch} (hw' : Side w') (hh' : Side h') (p : Prt) (Ha : BestAt C F w' h' a) (Hb : BestAt C F w' h' b) {μ : Mem} {kvs : List (PyData × PyData)} {fs ls : List (List Str)} (hlt : hk < μ.length) (K : KOk kvs) (Kc : KC C kvs) (hf : fs.length ≤ 1000) (hl : ls.length ≤ 1000) (x2 x3 x8 x9 : Option S) :
    ∃ kvs' wa va wb vb x8', KOk kvs' ∧ KC C kvs' ∧ BestF w' h' a wa ∧ BestL w' h' a va ∧ BestF w' h' b wb ∧ BestL w' h' b vb ∧
      wayB F (EB w h f hk x2 x3 (some (.m μ.length)) (some (.m (μ.length + 1))) (some (.d (.tuple [.str p.s]))) (some (.d (.tuple [encP w' h' a, encP w' h' b]))) x8 x9) (Mm μ hk kvs fs ls) =
        .nx (EB w h f hk x2 x3 (some (.m μ.length)) (some (.m (μ.length + 1))) (some (.d (.tuple [.str p.s]))) (some (.d (.tuple [encP w' h' a, encP w' h' b]))) x8' x9) (Mm μ hk kvs' (fs ++ [p.s :: (wa ++ wb)]) (ls ++ ([p.s :: (wa ++ vb)] ++ if vb = [] then [p.s :: va] else []))) := by
  obtain ⟨k2, wa, va, wb, vb, a1, a2, b1, b2, b3, b4, e⟩ := found2 Ha Hb (ρ := EB w h f hk x2 x3 (some (.m μ.length)) (some (.m (μ.length + 1))) (some (.d (.tuple [.str p.s]))) (some (.d (.tuple [encP w' h' a, encP w' h' b]))) x8 x9) rfl rfl (by simp) (Mm_dic hlt) K Kc
  rw [Mm_set hlt] at e
  have la := (bestF_ok hw' hh' b1).2
  have lva := (bestL_ok hw' hh' b2).2
  have lb := (bestF_ok hw' hh' b3).2
  have lvb := (bestL_ok hw' hh' b4)
  refine ⟨k2, wa, va, wb, vb, some (.d (.list [.tuple [strsD wa, strsD va], .tuple [strsD wb, strsD vb]])), a1, a2, b1, b2, b3, b4, ?_⟩
  refine seq_nx (asg_of e rfl) ?_
  have g00 : ∀ M' : Mem, eOp fIx (eOp fIx (eVar 8) (eC (.int 0))) (eC (.int 0)) (EB w h f hk x2 x3 (some (.m μ.length)) (some (.m (μ.length + 1))) (some (.d (.tuple [.str p.s]))) (some (.d (.tuple [encP w' h' a, encP w' h' b]))) (some (.d (.list [.tuple [strsD wa, strsD va], .tuple [strsD wb, strsD vb]]))) x9) M' = .ok (.d (strsD wa)) M' := fun M' => op_of (op_of rfl rfl rfl) rfl rfl
  have add1 : ∀ ys : List Str, ys.length ≤ 300 → fAdd (.tuple [.str p.s]) (strsD ys) = some (strsD (p.s :: ys)) := fun ys hy => by
    have := add_strs (us := [p.s]) (vs := ys) (by simp; omega)
    exact this
  have add2 : ∀ xs ys : List Str, xs.length ≤ 200 → ys.length ≤ 200 → fAdd (strsD (p.s :: xs)) (strsD ys) = some (strsD (p.s :: (xs ++ ys))) := fun xs ys hx hy => by
    have := add_strs (us := p.s :: xs) (vs := ys) (by simp; omega)
    exact this
  refine seq_nx (ρ1 := EB w h f hk x2 x3 (some (.m μ.length)) (some (.m (μ.length + 1))) (some (.d (.tuple [.str p.s]))) (some (.d (.tuple [encP w' h' a, encP w' h' b]))) (some (.d (.list [.tuple [strsD wa, strsD va], .tuple [strsD wb, strsD vb]]))) x9) (μ1 := Mm μ hk k2 (fs ++ [p.s :: (wa ++ wb)]) (ls ++ [p.s :: (wa ++ vb)])) (if_yes (μ1 := Mm μ hk k2 fs ls) (val_of (op_of (u := .int 2) rfl rfl rfl)) ?_) ?_
  · refine seq_nx (drop_of (app_of (h := μ.length) (x := strsD (p.s :: (wa ++ wb))) rfl Mm_f (op_of (op_of rfl (g00 _) (add1 wa (by omega))) (op_of (op_of rfl rfl rfl) rfl rfl) (add2 wa wb (by omega) (by omega))) (by simp; omega))) ?_
    rw [Mm_setf]
    refine (drop_of (app_of (h := μ.length + 1) (x := strsD (p.s :: (wa ++ vb))) rfl Mm_l (op_of (op_of rfl (g00 _) (add1 wa (by omega))) (op_of (op_of rfl rfl rfl) rfl rfl) (add2 wa vb (by omega) (by omega))) (by simp; omega))).trans ?_
    rw [Mm_setl]
  · have t1 : bVal (eOp fEq (eOp fIx (eOp fIx (eVar 8) (eUn fNeg (eC (.int 1)))) (eC (.int 1))) (eTup aNil)) (EB w h f hk x2 x3 (some (.m μ.length)) (some (.m (μ.length + 1))) (some (.d (.tuple [.str p.s]))) (some (.d (.tuple [encP w' h' a, encP w' h' b]))) (some (.d (.list [.tuple [strsD wa, strsD va], .tuple [strsD wb, strsD vb]]))) x9) (Mm μ hk k2 (fs ++ [p.s :: (wa ++ wb)]) (ls ++ [p.s :: (wa ++ vb)])) = .ok (decide (vb = [])) (Mm μ hk k2 (fs ++ [p.s :: (wa ++ wb)]) (ls ++ [p.s :: (wa ++ vb)])) :=
      val_of (op_of (u := strsD vb) (op_of (op_of rfl rfl rfl) rfl rfl) rfl (eq_nil_strs lvb.1))
    by_cases hv : vb = []
    · have t2 : bOr (bVal (eOp fEq (eOp fIx (eOp fIx (eVar 8) (eUn fNeg (eC (.int 1)))) (eC (.int 1))) (eTup aNil))) (bVal (eOp fEq (eCB bLen (aCons (eVar 8) aNil)) (eC (.int 1)))) (EB w h f hk x2 x3 (some (.m μ.length)) (some (.m (μ.length + 1))) (some (.d (.tuple [.str p.s]))) (some (.d (.tuple [encP w' h' a, encP w' h' b]))) (some (.d (.list [.tuple [strsD wa, strsD va], .tuple [strsD wb, strsD vb]]))) x9) (Mm μ hk k2 (fs ++ [p.s :: (wa ++ wb)]) (ls ++ [p.s :: (wa ++ vb)])) = .ok true (Mm μ hk k2 (fs ++ [p.s :: (wa ++ wb)]) (ls ++ [p.s :: (wa ++ vb)])) := by
        rw [decide_eq_true hv] at t1
        simp only [bOr, t1, R.bind, if_true]
      refine (if_yes t2 (drop_of (app_of (h := μ.length + 1) (x := strsD (p.s :: va)) rfl Mm_l (op_of rfl (op_of (op_of rfl rfl rfl) rfl rfl) (add1 va (by omega))) (by simp; omega)))).trans ?_
      rw [Mm_setl, if_pos hv, List.append_assoc]
    · have t2 : bOr (bVal (eOp fEq (eOp fIx (eOp fIx (eVar 8) (eUn fNeg (eC (.int 1)))) (eC (.int 1))) (eTup aNil))) (bVal (eOp fEq (eCB bLen (aCons (eVar 8) aNil)) (eC (.int 1)))) (EB w h f hk x2 x3 (some (.m μ.length)) (some (.m (μ.length + 1))) (some (.d (.tuple [.str p.s]))) (some (.d (.tuple [encP w' h' a, encP w' h' b]))) (some (.d (.list [.tuple [strsD wa, strsD va], .tuple [strsD wb, strsD vb]]))) x9) (Mm μ hk k2 (fs ++ [p.s :: (wa ++ wb)]) (ls ++ [p.s :: (wa ++ vb)])) = .ok false (Mm μ hk k2 (fs ++ [p.s :: (wa ++ wb)]) (ls ++ [p.s :: (wa ++ vb)])) := by
        rw [decide_eq_false hv] at t1
        simp only [bOr, t1, R.bind, Bool.false_eq_true, if_false]
        exact val_of (op_of (u := .int 2) (v := .int 1) rfl rfl rfl)
      refine (if_no t2 rfl).trans ?_
      show Out.nx _ _ = Out.nx _ _
      rw [if_neg hv, List.append_nil]
end Bz
set_option Elab.async false
set_option linter.all false
set_option maxRecDepth 100000
set_option maxHeartbeats 1000000
/-! Reading: best, one way by a piece. -/
namespace Bz
open PySem
theorem way_piece {C : List NestedKey} {F : Fn} {w h w' h' hk : Nat} {f a : Patch} (hw' : Side w') (hh' : Side h') (q : Pc) (c : Col) (Ha : BestAt C F w' h' a) {μ : Mem} {kvs : List (PyData × PyData)} {fs ls : List (List Str)} (hlt : hk < μ.length) (K : KOk kvs) (Kc : KC C kvs) (hf : fs.length ≤ 1000) (hl : ls.length ≤ 1000) (x2 x3 x8 x9 : Option S) :
    ∃ kvs' wa va x8', KOk kvs' ∧ KC C kvs' ∧ BestF w' h' a wa ∧ BestL w' h' a va ∧
      wayB F (EB w h f hk x2 x3 (some (.m μ.length)) (some (.m (μ.length + 1))) (some (.d (.tuple [.str q.s, .str c.s]))) (some (.d (.tuple [encP w' h' a]))) x8 x9) (Mm μ hk kvs fs ls) =
        .nx (EB w h f hk x2 x3 (some (.m μ.length)) (some (.m (μ.length + 1))) (some (.d (.tuple [.str q.s, .str c.s]))) (some (.d (.tuple [encP w' h' a]))) x8' x9) (Mm μ hk kvs' (fs ++ [q.s :: c.s :: wa]) (ls ++ [q.s :: c.s :: va])) := by
  obtain ⟨k2, wa, va, a1, a2, b1, b2, e⟩ := found1 Ha (ρ := EB w h f hk x2 x3 (some (.m μ.length)) (some (.m (μ.length + 1))) (some (.d (.tuple [.str q.s, .str c.s]))) (some (.d (.tuple [encP w' h' a]))) x8 x9) rfl rfl (by simp) (Mm_dic hlt) K Kc
  rw [Mm_set hlt] at e
  have la := (bestF_ok hw' hh' b1).2
  have lva := bestL_ok hw' hh' b2
  refine ⟨k2, wa, va, some (.d (.list [.tuple [strsD wa, strsD va]])), a1, a2, b1, b2, ?_⟩
  refine seq_nx (asg_of e rfl) ?_
  have add1 : ∀ ys : List Str, ys.length ≤ 300 → fAdd (.tuple [.str q.s, .str c.s]) (strsD ys) = some (strsD (q.s :: c.s :: ys)) := fun ys hy => by
    have := add_strs (us := [q.s, c.s]) (vs := ys) (by simp; omega)
    exact this
  refine seq_nx (ρ1 := EB w h f hk x2 x3 (some (.m μ.length)) (some (.m (μ.length + 1))) (some (.d (.tuple [.str q.s, .str c.s]))) (some (.d (.tuple [encP w' h' a]))) (some (.d (.list [.tuple [strsD wa, strsD va]]))) x9) (μ1 := Mm μ hk k2 (fs ++ [q.s :: c.s :: wa]) ls) (if_no (μ1 := Mm μ hk k2 fs ls) (val_of (op_of (u := .int 1) rfl rfl rfl)) ?_) ?_
  · refine (drop_of (app_of (h := μ.length) (x := strsD (q.s :: c.s :: wa)) rfl Mm_f (op_of rfl (op_of (op_of rfl rfl rfl) rfl rfl) (add1 wa (by omega))) (by simp; omega))).trans ?_
    exact congrArg (Out.nx _) Mm_setf
  · have t1 : bVal (eOp fEq (eOp fIx (eOp fIx (eVar 8) (eUn fNeg (eC (.int 1)))) (eC (.int 1))) (eTup aNil)) (EB w h f hk x2 x3 (some (.m μ.length)) (some (.m (μ.length + 1))) (some (.d (.tuple [.str q.s, .str c.s]))) (some (.d (.tuple [encP w' h' a]))) (some (.d (.list [.tuple [strsD wa, strsD va]]))) x9) (Mm μ hk k2 (fs ++ [q.s :: c.s :: wa]) ls) = .ok (decide (va = [])) (Mm μ hk k2 (fs ++ [q.s :: c.s :: wa]) ls) :=
      val_of (op_of (u := strsD va) (op_of (op_of rfl rfl rfl) rfl rfl) rfl (eq_nil_strs lva.1))
    have t3 : bVal (eOp fEq (eCB bLen (aCons (eVar 8) aNil)) (eC (.int 1))) (EB w h f hk x2 x3 (some (.m μ.length)) (some (.m (μ.length + 1))) (some (.d (.tuple [.str q.s, .str c.s]))) (some (.d (.tuple [encP w' h' a]))) (some (.d (.list [.tuple [strsD wa, strsD va]]))) x9) (Mm μ hk k2 (fs ++ [q.s :: c.s :: wa]) ls) = .ok true (Mm μ hk k2 (fs ++ [q.s :: c.s :: wa]) ls) :=
      val_of (op_of (u := .int 1) (v := .int 1) rfl rfl rfl)
    have t2 : bOr (bVal (eOp fEq (eOp fIx (eOp fIx (eVar 8) (eUn fNeg (eC (.int 1)))) (eC (.int 1))) (eTup aNil))) (bVal (eOp fEq (eCB bLen (aCons (eVar 8) aNil)) (eC (.int 1)))) (EB w h f hk x2 x3 (some (.m μ.length)) (some (.m (μ.length + 1))) (some (.d (.tuple [.str q.s, .str c.s]))) (some (.d (.tuple [encP w' h' a]))) (some (.d (.list [.tuple [strsD wa, strsD va]]))) x9) (Mm μ hk k2 (fs ++ [q.s :: c.s :: wa]) ls) = .ok true (Mm μ hk k2 (fs ++ [q.s :: c.s :: wa]) ls) := by
      unfold bOr
      rw [t1]
      simp only [R.bind]
      cases decide (va = []) with
      | true => rfl
      | false => simpa using t3
    refine (if_yes t2 (drop_of (app_of (h := μ.length + 1) (x := strsD (q.s :: c.s :: va)) rfl Mm_l (op_of rfl (op_of (op_of rfl rfl rfl) rfl rfl) (add1 va (by omega))) (by simp; omega)))).trans ?_
    exact congrArg (Out.nx _) Mm_setl
/-- the loop over all ways -/
theorem ways_loop {C : List NestedKey} {F : Fn} {w h hk : Nat} {f : Patch} (hC : Clo C) (hw : Side w) (hh : Side h) (hin : keyP w h f ∈ C) (HP : ∀ p : Prt, fitP p w h = true → PWay p w h f → BestAt C F (pW p w) (pH p h) (one p w h f) ∧ BestAt C F (pW p w) (pH p h) (two p w h f)) (HQ : ∀ q : Pc, fitQ q w h = true → OwnHas q w h f → BestAt C F w h (blank q w h f))
    {μ : Mem} {kvs : List (PyData × PyData)} (hlt : hk < μ.length) (K : KOk kvs) (Kc : KC C kvs) (x2 x3 : Option S) :
    ∃ kvs' fs ls x6 x7 x8, KOk kvs' ∧ KC C kvs' ∧ Gath (FullG w h f) (waysL w h f) fs ∧ Gath (LastG w h f) (waysL w h f) ls ∧
      sFor (iSeq (eCall m_ways (aCons (eVar 0) aNil))) (gTp [(gNm 6), (gNm 7)]) (wayB F) (EB w h f hk x2 x3 (some (.m μ.length)) (some (.m (μ.length + 1))) none none none none) (Mm μ hk kvs [] []) = .nx (EB w h f hk x2 x3 (some (.m μ.length)) (some (.m (μ.length + 1))) x6 x7 x8 none) (Mm μ hk kvs' fs ls) := by
  have wl : (waysL w h f).length ≤ 7 := by
    unfold waysL
    rw [List.length_append]
    have h1 := partW_len (w := w) (h := h) (f := f) threeP
    have h2 := pieceW_len (w := w) (h := h) (f := f) fourQ
    have h3 : threeP.length = 3 := rfl
    have h4 : fourQ.length = 4 := rfl
    omega
  obtain ⟨ρ', μ', e, kvs', fs, ls, x6, x7, x8, k1, k2, g1, g2, l1, l2, rfl, rfl⟩ := for_all (g := gTp [(gNm 6), (gNm 7)]) (b := wayB F) (enc := encWay w h f)
    (fun pre ρ μ' => ∃ kvs' fs ls x6 x7 x8, KOk kvs' ∧ KC C kvs' ∧ Gath (FullG w h f) pre fs ∧ Gath (LastG w h f) pre ls ∧ fs.length ≤ pre.length ∧ ls.length ≤ 2 * pre.length ∧ ρ = EB w h f hk x2 x3 (some (.m μ.length)) (some (.m (μ.length + 1))) x6 x7 x8 none ∧ μ' = Mm μ hk kvs' fs ls) (waysL w h f) (ρ := EB w h f hk x2 x3 (some (.m μ.length)) (some (.m (μ.length + 1))) none none none none) (μ := Mm μ hk kvs [] []) ⟨kvs, [], [], none, none, none, K, Kc, .nil, .nil, by simp, by simp, rfl, rfl⟩ (by
      rintro pre x post hp ρ μ' ⟨kvs', fs, ls, x6, x7, x8, k1, k2, g1, g2, l1, l2, rfl, rfl⟩
      have hpl : pre.length ≤ 7 := by
        have := congrArg List.length hp
        simp only [List.length_append, List.length_cons] at this
        omega
      have hx : x ∈ waysL w h f := by rw [← hp]; simp
      have hway := mem_ways.mp hx
      cases x with
      | part p =>
        obtain ⟨ha, hb⟩ := HP p hway.1 hway.2
        obtain ⟨k3, wa, va, wb, vb, x8', c1, c2, c3, c4, c5, c6, e⟩ := way_part (w := w) (h := h) (f := f) (fs := fs) (ls := ls) (hw.pW (h := h) hway.1) (hh.pH (w := w) hway.1) p ha hb hlt k1 k2 (by omega) (by omega) x2 x3 x8 none
        refine ⟨_, _, _, rfl, e, k3, _, _, _, _, x8', c1, c2, .snoc g1 ⟨wa, wb, c3, c5, rfl⟩, .snoc g2 ⟨wa, va, vb, c3, c4, c6, rfl⟩, by simp; omega, ?_, rfl, rfl⟩
        simp only [List.length_append, List.length_cons, List.length_nil]
        split <;> simp <;> omega
      | piece q c =>
        obtain ⟨k3, wa, va, x8', c1, c2, c3, c4, e⟩ := way_piece (w := w) (h := h) (f := f) (fs := fs) (ls := ls) hw hh q c (HQ q hway.1 hway.2.1) hlt k1 k2 (by omega) (by omega) x2 x3 x8 none
        exact ⟨_, _, _, rfl, e, k3, _, _, _, _, x8', c1, c2, .snoc g1 ⟨wa, c3, rfl⟩, .snoc g2 ⟨va, c4, rfl⟩, by simp; omega, by simp; omega, rfl, rfl⟩)
  refine ⟨kvs', fs, ls, x6, x7, x8, k1, k2, g1, g2, for_of (xs := (waysL w h f).map (encWay w h f)) (μ1 := Mm μ hk kvs [] []) (iseq_of (call_of rfl (ways_ok _ hw hh))) e⟩
end Bz
set_option Elab.async false
set_option linter.all false
set_option maxRecDepth 100000
set_option maxHeartbeats 1000000
/-! Reading: best. -/
namespace Bz
open PySem
theorem set_same {μ : Mem} {hk : Nat} {x : M} (h : μ[hk]? = some x) : μ.set hk x = μ := by
  obtain ⟨hl, e⟩ := List.getElem?_eq_some_iff.mp h
  rw [← e]
  exact List.set_getElem_self hl
def Mf (μ : Mem) (hk : Nat) (kvs : List (PyData × PyData)) (a b : M) : Mem := μ.set hk (.dic kvs) ++ [a, b]
theorem lt2 (cs : List Col) : fLt (.int ((cs.map fun c => PyData.str c.s).length : Nat)) (.int 2) = some (.bool (decide (cs.length < 2))) := by
  simp only [fLt, List.length_map]
  congr 2
  rw [Bool.eq_iff_iff]
  simp only [decide_eq_true_eq]
  omega
theorem gath_ne {G : Way → List (List Str) → Prop} {L : List Way} {xs : List (List Str)} (H : Gath G L xs) {x : Way} (hx : x ∈ L) (hg : ∀ g, G x g → g ≠ []) : xs ≠ [] := by
  obtain ⟨g, h1, h2⟩ := H.get hx
  intro e
  subst e
  have := hg g h1
  cases g with
  | nil => exact this rfl
  | cons y g => exact absurd (h2 y (by simp)) (by simp)
theorem has_way {w h : Nat} {f : Patch} (hw : Side w) (hh : Side h) (hp : ¬ Plain w h f) : ∃ p : Prt, .part p ∈ waysL w h f := by
  by_cases h2 : 2 ≤ w
  · exact ⟨.party, mem_ways.mpr ⟨by simp [fitP]; omega, fun z => nomatch z⟩⟩
  · by_cases h3 : 2 ≤ h
    · exact ⟨.cut, mem_ways.mpr ⟨by simp [fitP]; omega, fun z => nomatch z⟩⟩
    · exfalso
      refine hp fun r hr k hk r' hr' k' hk' c c' e e' => ?_
      have : r = r' := by omega
      have : k = k' := by omega
      subst r' k'
      rw [e] at e'
      exact Option.some.inj e'
theorem gath_ok {w h : Nat} {f : Patch} (hw : Side w) (hh : Side h) {xs : List (List Str)} (H : Gath (FullG w h f) (waysL w h f) xs) : ∀ x ∈ xs, okW x := by
  intro y hy
  obtain ⟨x, hx, g, hg, hyg⟩ := H.of hy
  have hway := mem_ways.mp hx
  cases x with
  | part p =>
    obtain ⟨a, b, h1, h2, rfl⟩ := hg
    rw [List.mem_singleton.mp hyg]
    obtain ⟨⟨o1, _⟩, l1⟩ := bestF_ok (hw.pW (h := h) hway.1) (hh.pH (w := w) hway.1) h1
    obtain ⟨⟨o2, _⟩, l2⟩ := bestF_ok (hw.pW (h := h) hway.1) (hh.pH (w := w) hway.1) h2
    refine ⟨fun z hz => ?_, by simp; omega⟩
    simp only [List.mem_cons, List.mem_append] at hz
    rcases hz with e | e | e
    · rw [e]; exact p.ok
    · exact o1 z e
    · exact o2 z e
  | piece q c =>
    obtain ⟨a, h1, rfl⟩ := hg
    rw [List.mem_singleton.mp hyg]
    obtain ⟨⟨o1, _⟩, l1⟩ := bestF_ok hw hh h1
    refine ⟨fun z hz => ?_, by simp; omega⟩
    simp only [List.mem_cons] at hz
    rcases hz with e | e | e
    · rw [e]; exact q.ok
    · rw [e]; exact c.ok
    · exact o1 z e
theorem gathL_ok {w h : Nat} {f : Patch} (hw : Side w) (hh : Side h) {xs : List (List Str)} (H : Gath (LastG w h f) (waysL w h f) xs) : ∀ x ∈ xs, okW x := by
  intro y hy
  obtain ⟨x, hx, g, hg, hyg⟩ := H.of hy
  have hway := mem_ways.mp hx
  cases x with
  | part p =>
    obtain ⟨a, la, lb, h1, h2, h3, rfl⟩ := hg
    obtain ⟨⟨o1, _⟩, l1⟩ := bestF_ok (hw.pW (h := h) hway.1) (hh.pH (w := w) hway.1) h1
    obtain ⟨⟨o2, _⟩, l2⟩ := bestL_ok (hw.pW (h := h) hway.1) (hh.pH (w := w) hway.1) h2
    obtain ⟨⟨o3, _⟩, l3⟩ := bestL_ok (hw.pW (h := h) hway.1) (hh.pH (w := w) hway.1) h3
    rcases List.mem_append.mp hyg with e | e
    · rw [List.mem_singleton.mp e]
      refine ⟨fun z hz => ?_, by simp; omega⟩
      simp only [List.mem_cons, List.mem_append] at hz
      rcases hz with e | e | e
      · rw [e]; exact p.ok
      · exact o1 z e
      · exact o3 z e
    · split at e
      · rw [List.mem_singleton.mp e]
        refine ⟨fun z hz => ?_, by simp; omega⟩
        simp only [List.mem_cons] at hz
        rcases hz with e | e
        · rw [e]; exact p.ok
        · exact o2 z e
      · simp at e
  | piece q c =>
    obtain ⟨a, h1, rfl⟩ := hg
    rw [List.mem_singleton.mp hyg]
    obtain ⟨⟨o1, _⟩, l1⟩ := bestL_ok hw hh h1
    refine ⟨fun z hz => ?_, by simp; omega⟩
    simp only [List.mem_cons] at hz
    rcases hz with e | e | e
    · rw [e]; exact q.ok
    · rw [e]; exact c.ok
    · exact o1 z e
end Bz
set_option Elab.async false
set_option linter.all false
set_option maxRecDepth 100000
set_option maxHeartbeats 1000000
/-! Reading: best. -/
namespace Bz
open PySem
theorem best_ok {C : List NestedKey} (hC : Clo C) : ∀ (j w h : Nat) (f : Patch), meas w h f < j → Side w → Side h → keyP w h f ∈ C → BestAt C (m_best j) w h f := by
  intro j
  induction j with
  | zero => intro w h f hj; omega
  | succ j ih =>
    intro w h f hj hw hh hin hk kvs μ hm K Kc
    have w8 := hw.le
    have h8 := hh.le
    obtain ⟨hlt, _⟩ := List.getElem?_eq_some_iff.mp hm
    have ksz : ∀ {k : List (PyData × PyData)}, KC C k → k.length ≤ 1000000 := fun hk => Nat.le_trans hk.len hC.len
    have tin : bVal (eInD (eVar 0) (eVar 1)) (EB w h f hk none none none none none none none none) μ = .ok (lookN kvs (keyP w h f)).isSome μ := val_of (inD_of rfl rfl hm)
    cases hl : lookN kvs (keyP w h f) with
    | some d =>
      obtain ⟨ws, vs, b1, b2, rfl⟩ := look_best K hh hl
      refine ⟨kvs, ws, vs, K, Kc, b1, b2, ?_⟩
      rw [set_same hm]
      rw [hl] at tin
      exact call_rt (ρ0 := EB w h f hk none none none none none none none none) rfl rfl (seq_rt (if_yes tin (ret_of (getD_of rfl rfl hm hl)))) List.take_length
    | none =>
      rw [hl] at tin
      have alen : (allC w h f).length ≤ 64 := Nat.le_trans (flat_len (fun r => (List.range w).map (f r)) w (fun r => by simp) h) (Nat.mul_le_mul h8 w8)
      have tlt : ∀ M' : Mem, bVal (eOp fLt (eCB bLen (aCons (eVar 2) aNil)) (eC (.int 2))) (EB w h f hk (some (.d (.list ((colsOf (allC w h f)).map fun c => .str c.s)))) none none none none none none none) M' = .ok (decide ((colsOf (allC w h f)).length < 2)) M' := fun M' =>
        val_of (op_of (cb1_of (x := .list ((colsOf (allC w h f)).map fun c => .str c.s)) rfl rfl) rfl (lt2 _))
      by_cases hp : (colsOf (allC w h f)).length < 2
      · obtain ⟨b1, b2⟩ := plain_best hp
        refine ⟨_, _, _, put_ok K ⟨w, h, f, _, _, hw, hh, rfl, b1, b2, rfl⟩ (nk_encP w h f), Kc.put (nk_encP w h f) hin, b1, b2, ?_⟩
        have ps := plain_step (w := w) (h := h) (f := f) (colsOf (allC w h f)) hp hm (ksz Kc) none none none none none none none
        rw [decide_eq_true hp] at tlt
        refine call_rt (ρ0 := EB w h f hk none none none none none none none none) rfl rfl (seq_nx (if_no tin rfl) (seq_nx (asg_of (call_of (cons_of (call_of rfl (all_cells_ok μ w8 h8)) rfl) (colours_in_ok μ (by omega))) rfl) (seq_rt (if_yes (tlt _) ps)))) (List.take_of_length_le (by simp))
      · rw [decide_eq_false hp] at tlt
        have hnp : ¬ Plain w h f := fun z => hp (plain_iff.mpr z)
        obtain ⟨k2, fs, ls, x6, x7, x8, K2, Kc2, g1, g2, e⟩ := ways_loop (F := m_best j) hC hw hh hin (fun p hf hpw => by
          obtain ⟨c1, c2⟩ := hC.part w h f p hw hh hin hf hpw
          exact ⟨ih _ _ _ (by have := meas_part hw hh hf f (one p w h f); omega) (hw.pW (h := h) hf) (hh.pH (w := w) hf) c1, ih _ _ _ (by have := meas_part hw hh hf f (two p w h f); omega) (hw.pW (h := h) hf) (hh.pH (w := w) hf) c2⟩)
          (fun q hf ho => ih _ _ _ (by have := meas_piece (q := q) (f := f) ho; omega) hw hh (hC.piece w h f q hw hh hin hf)) hlt K Kc (some (.d (.list ((colsOf (allC w h f)).map fun c => .str c.s)))) none
        obtain ⟨p0, hp0⟩ := has_way hw hh hnp
        have nf : fs ≠ [] := gath_ne g1 hp0 fun g hg => by obtain ⟨a, b, _, _, rfl⟩ := hg; simp
        have nl : ls ≠ [] := gath_ne g2 hp0 fun g hg => by obtain ⟨a, b, c, _, _, _, rfl⟩ := hg; simp
        obtain ⟨m1, i1, i2, i3⟩ := shorter_ok (Mm μ hk k2 fs ls) nf (gath_ok hw hh g1) Mm_f
        have e1 : (Mm μ hk k2 fs ls).set μ.length (.frz (fs.map strsD)) = Mf μ hk k2 (.frz (fs.map strsD)) (.lst (ls.map strsD)) := by simp [Mm, Mf]
        rw [e1] at i3
        obtain ⟨m2, j1, j2, j3⟩ := shorter_ok (h := μ.length + 1) (Mf μ hk k2 (.frz (fs.map strsD)) (.lst (ls.map strsD))) nl (gathL_ok hw hh g2) (by simp [Mf])
        have e2 : (Mf μ hk k2 (.frz (fs.map strsD)) (.lst (ls.map strsD))).set (μ.length + 1) (.frz (ls.map strsD)) = Mf μ hk k2 (.frz (fs.map strsD)) (.frz (ls.map strsD)) := by simp [Mf]
        rw [e2] at j3
        have b1 := bestF_of hw hh (fulls_of g1) hnp i1 i2
        have b2 := bestL_of hw hh (lasts_of g2) hnp j1 j2
        have hd : ∀ a b, (Mf μ hk k2 a b)[hk]? = some (.dic k2) := fun a b => by
          unfold Mf
          rw [List.getElem?_append_left (by simpa using hlt)]
          exact List.getElem?_set_self hlt
        have hs : ∀ a b k3, (Mf μ hk k2 a b).set hk (.dic k3) = Mf μ hk k3 a b := fun a b k3 => by
          unfold Mf
          rw [List.set_append_left _ _ (by simpa using hlt), List.set_set]
        refine ⟨putN k2 (encP w h f) (keyP w h f) (.tuple [strsD m1, strsD m2]), m1, m2, put_ok K2 ⟨w, h, f, m1, m2, hw, hh, rfl, b1, b2, rfl⟩ (nk_encP w h f), Kc2.put (nk_encP w h f) hin, b1, b2, ?_⟩
        have start : (μ ++ [M.lst []]) ++ [M.lst []] = Mm μ hk kvs [] [] := by
          unfold Mm
          rw [set_same hm]
          simp
        refine call_rt (ρ0 := EB w h f hk none none none none none none none none) (μ' := Mf μ hk (putN k2 (encP w h f) (keyP w h f) (.tuple [strsD m1, strsD m2])) (.frz (fs.map strsD)) (.frz (ls.map strsD))) rfl rfl (seq_nx (if_no tin rfl) (seq_nx (asg_of (call_of (cons_of (call_of rfl (all_cells_ok μ w8 h8)) rfl) (colours_in_ok μ (by omega))) rfl) (seq_nx (if_no (tlt _) rfl) ?_))) (by unfold Mf; rw [List.take_left' (by simp)])
        refine seq_nx new_of (seq_nx (ρ1 := EB w h f hk (some (.d (.list ((colsOf (allC w h f)).map fun c => .str c.s)))) none (some (.m μ.length)) (some (.m (μ.length + 1))) none none none none) (μ1 := Mm μ hk kvs [] []) (by rw [new_of, start]; simp) (seq_nx e ?_))
        have val : eTup (aCons (eCall m_shorter (aCons (eVar 4) aNil)) (aCons (eCall m_shorter (aCons (eVar 5) aNil)) aNil)) (EB w h f hk (some (.d (.list ((colsOf (allC w h f)).map fun c => .str c.s)))) none (some (.m μ.length)) (some (.m (μ.length + 1))) x6 x7 x8 none) (Mm μ hk k2 fs ls) = .ok (.d (.tuple [strsD m1, strsD m2])) (Mf μ hk k2 (.frz (fs.map strsD)) (.frz (ls.map strsD))) :=
          tup_of (cons_of (call_of rfl i3) (cons_of (call_of rfl j3) rfl)) rfl (by simp)
        have sd := setD_of (i := 0) (j := 1) val rfl rfl (hd _ _) (ksz Kc2)
        rw [hs] at sd
        refine seq_nx sd (ret_of (getD_of (kvs := putN k2 (encP w h f) (keyP w h f) (.tuple [strsD m1, strsD m2])) rfl rfl ?_ (look_put (nk_encP w h f))))
        unfold Mf
        rw [List.getElem?_append_left (by simpa using hlt)]
        exact List.getElem?_set_self hlt
end Bz
set_option Elab.async false
set_option linter.all false
set_option maxRecDepth 100000
set_option maxHeartbeats 1000000
/-! Reading: said. -/
namespace Bz
open PySem
theorem notin_cols (c : Col) : fNotIn (.str c.s) c_COLOURS = some (.bool false) := by cases c <;> simp (config := {decide := true}) [Col.s, c_COLOURS, inD, PyData.eqv]
theorem filter_no {α : Type} (xs : List α) : xs.filter (fun _ => false) = [] := by
  induction xs with
  | nil => rfl
  | cons x xs ih => simp [List.filter_cons, ih]
theorem ne_nats (a : Nat) : fNe (.int a) (.int a) = some (.bool false) := by simp
theorem is_drawing_ok {w h : Nat} {g : Nat → Nat → Col} (μ : Mem) (hw : Side w) (hh : Side h) : m_is_drawing [.d (encS w h), .d (encM w h g)] μ = .ok (.d (.bool true)) μ := by
  have w8 := hw.le
  have h8 := hh.le
  unfold m_is_drawing
  refine call_rt (ρ0 := [some (.d (encS w h)), some (.d (encM w h g)), none, none]) rfl rfl ?_ List.take_length
  refine seq_nx (drop_of (call_of rfl (need_size_ok w h hw hh μ))) ?_
  have c1 : compGo (gNm 2) (bVal (eOp fNe (eCB bLen (aCons (eVar 2) aNil)) (eOp fIx (eVar 0) (eC (.int 0))))) (eVar 2) [some (.d (encS w h)), some (.d (encM w h g)), none, none] (rowsL w h g) [] μ = .ok [] μ := by
    have := comp_filter (g := fun r => rowD w (g r)) (i := 2) (τ := bVal (eOp fNe (eCB bLen (aCons (eVar 2) aNil)) (eOp fIx (eVar 0) (eC (.int 0))))) (e := eVar 2) (ρ := [some (.d (encS w h)), some (.d (encM w h g)), none, none]) (p := fun _ => false) (μ := μ) (List.range h) [] (by simp; omega) (fun r _ => val_of (op_of (u := .int w) (v := .int w) (cb1_of rfl (by simp [rowD])) rfl (ne_nats w))) (fun r _ => rfl)
    rw [filter_no] at this
    exact this
  have ne0 : fNe (.list []) (.list []) = some (.bool false) := by
    rw [ne_nil_list rfl]
    rfl
  refine seq_nx (if_no (μ1 := μ) ?_ rfl) ?_
  · have t1 : bVal (eOp fNe (eCB bLen (aCons (eVar 1) aNil)) (eOp fIx (eVar 0) (eC (.int 1)))) [some (.d (encS w h)), some (.d (encM w h g)), none, none] μ = .ok false μ := val_of (op_of (u := .int h) (v := .int h) (cb1_of rfl (by simp [encM, rowsL])) rfl (ne_nats h))
    simp only [bOr, t1, R.bind, Bool.false_eq_true, if_false]
    exact val_of (op_of (comp_of (iseqT_of rfl) c1) rfl ne0)
  · obtain ⟨ρ', μ', e, ⟨x2, rfl⟩, hμ⟩ := for_ix (g := gNm 2) (b := sIf (bVal (eOp fNe (eComp (iSeq (eVar 2)) (gNm 3) (bVal (eOp fNotIn (eVar 3) (eC c_COLOURS))) (eVar 3) [3]) (eLst aNil))) (sRet (eC (.bool false))) sNx) (n := h) (f := fun r => rowD w (g r)) (fun j ρ μ' => (∃ x2, ρ = [some (.d (encS w h)), some (.d (encM w h g)), x2, none]) ∧ μ' = μ) (ρ := [some (.d (encS w h)), some (.d (encM w h g)), none, none]) (μ := μ) ⟨⟨_, rfl⟩, rfl⟩ (by
      rintro j hj ρ μ' ⟨⟨x2, rfl⟩, rfl⟩
      have c2 := comp_filter (g := fun k => PyData.str (g j k).s) (i := 3) (τ := bVal (eOp fNotIn (eVar 3) (eC c_COLOURS))) (e := eVar 3) (ρ := [some (.d (encS w h)), some (.d (encM w h g)), some (.d (rowD w (g j))), none]) (p := fun _ => false) (μ := μ') (List.range w) [] (by simp; omega) (fun k _ => val_of (op_of rfl rfl (notin_cols _))) (fun k _ => rfl)
      have c3 : compGo (gNm 3) (bVal (eOp fNotIn (eVar 3) (eC c_COLOURS))) (eVar 3) [some (.d (encS w h)), some (.d (encM w h g)), some (.d (rowD w (g j))), none] ((List.range w).map fun k => PyData.str (g j k).s) [] μ' = .ok [] μ' := by
        rw [filter_no] at c2
        exact c2
      exact ⟨_, _, _, rfl, if_no (val_of (op_of (comp_of (iseqT_of rfl) c3) rfl ne0)) rfl, ⟨_, rfl⟩, rfl⟩)
    rw [hμ] at e
    refine seq_nx (ρ1 := [some (.d (encS w h)), some (.d (encM w h g)), x2, none]) (μ1 := μ) (for_of (xs := rowsL w h g) (μ1 := μ) (iseqT_of rfl) (by unfold rowsL; exact e)) (ret_of rfl)
theorem need_drawing_ok {w h : Nat} {g : Nat → Nat → Col} (μ : Mem) (hw : Side w) (hh : Side h) : m_need_drawing [.d (encS w h), .d (encM w h g)] μ = .ok (.d .none) μ := by
  unfold m_need_drawing
  exact call_nx (ρ0 := [some (.d (encS w h)), some (.d (encM w h g))]) rfl rfl (if_no (not_of (c := true) (val_of (call_of rfl (is_drawing_ok μ hw hh)))) rfl) List.take_length
theorem said_ok {C : List NestedKey} (hC : Clo C) {w h : Nat} {g : Nat → Nat → Col} (μ : Mem) (hw : Side w) (hh : Side h) (hin : keyP w h (fun r k => some (g r k)) ∈ C) : ∃ vs, BestL w h (fun r k => some (g r k)) vs ∧ m_said [.d (encS w h), .d (encM w h g)] μ = .ok (.d (strsD vs)) μ := by
  obtain ⟨kvs', ws, vs, _, _, _, b2, e⟩ := best_ok hC 40 w h (fun r k => some (g r k)) (by have := meas_top (w := w) (h := h) (fun r k => some (g r k)); omega) hw hh hin μ.length [] (μ ++ [M.dic []]) (by simp) (fun p hp => by simp at hp) ⟨by simp, fun p hp => by simp at hp⟩
  refine ⟨vs, b2, ?_⟩
  unfold m_said
  refine call_rt (ρ0 := [some (.d (encS w h)), some (.d (encM w h g))]) (μ' := (μ ++ [M.dic []]).set μ.length (.dic kvs')) rfl rfl (seq_nx (drop_of (call_of rfl (need_drawing_ok μ hw hh))) (ret_of (op_of (u := .tuple [strsD ws, strsD vs]) (call_of (cons_of rfl (cons_of rfl rfl)) e) rfl rfl))) (by simp)
end Bz
set_option Elab.async false
set_option linter.all false
set_option maxRecDepth 100000
set_option maxHeartbeats 1000000
/-! Reading: keys that hold those of all that is left; pieces taken away. -/
namespace Bz
open PySem
/-- some pieces' own cells taken away -/
def blankB (b : Pc → Bool) (w h : Nat) (f : Patch) : Patch := fun r k => if fourQ.any (fun q => b q && own q w h r k) then none else f r k
def orB (b : Pc → Bool) (q : Pc) : Pc → Bool := fun x => b x || decide (x = q)
theorem blank_B (b : Pc → Bool) (q : Pc) (w h : Nat) (f : Patch) : blank q w h (blankB b w h f) = blankB (orB b q) w h f := by
  funext r k
  unfold blank blankB orB fourQ
  simp only [List.any_cons, List.any_nil, Bool.or_false]
  cases q <;> cases h1 : own .band w h r k <;> cases h2 : own .edge w h r k <;> cases h3 : own .head w h r k <;> cases h4 : own .pillar w h r k <;> simp
theorem blank_no (w h : Nat) (f : Patch) : blankB (fun _ => false) w h f = f := by
  funext r k
  simp [blankB]
/-- all choices of pieces that fit -/
def bs1 (w h : Nat) (q : Pc) : List Bool := if fitQ q w h then [false, true] else [false]
def bsAll (w h : Nat) : List (Pc → Bool) := (bs1 w h .band).flatMap fun x1 => (bs1 w h .edge).flatMap fun x2 => (bs1 w h .head).flatMap fun x3 => (bs1 w h .pillar).map fun x4 => fun q => match q with
  | .band => x1
  | .edge => x2
  | .head => x3
  | .pillar => x4
theorem mem_bs1 {w h : Nat} {q : Pc} {x : Bool} : x ∈ bs1 w h q ↔ (x = true → fitQ q w h = true) := by
  unfold bs1
  cases fitQ q w h <;> cases x <;> simp
theorem mem_bsAll {w h : Nat} {b : Pc → Bool} : b ∈ bsAll w h ↔ ∀ q, b q = true → fitQ q w h = true := by
  unfold bsAll
  simp only [List.mem_flatMap, List.mem_map, mem_bs1]
  constructor
  · rintro ⟨x1, h1, x2, h2, x3, h3, x4, h4, rfl⟩ q hq
    cases q
    · exact h1 hq
    · exact h2 hq
    · exact h3 hq
    · exact h4 hq
  · intro H
    refine ⟨b .band, H _, b .edge, H _, b .head, H _, b .pillar, H _, ?_⟩
    funext q
    cases q <;> rfl
end Bz
set_option Elab.async false
set_option linter.all false
set_option maxRecDepth 100000
set_option maxHeartbeats 1000000
/-! Reading: keys that hold those of all that is left. -/
namespace Bz
open PySem
def Agr (w h : Nat) (f g : Patch) : Prop := ∀ r, r < h → ∀ k, k < w → f r k = g r k
theorem keyP_congr {w h : Nat} {f g : Patch} (e : Agr w h f g) : keyP w h f = keyP w h g := by
  unfold keyP
  congr 1
  refine List.map_congr_left fun r hr => ?_
  congr 1
  refine List.map_congr_left fun k hk => ?_
  rw [e r (List.mem_range.mp hr) k (List.mem_range.mp hk)]
/-! all patches of few cells -/
def optCols : List (Option Col) := [none, some .black, some .blue, some .green, some .red, some .white, some .yellow]
theorem mem_optCols (x : Option Col) : x ∈ optCols := by
  cases x with
  | none => simp [optCols]
  | some c => cases c <;> simp [optCols]
def tups : Nat → List (List (Option Col))
  | 0 => [[]]
  | n + 1 => (tups n).flatMap fun xs => optCols.map fun c => c :: xs
theorem flatN_len {α β : Type} {f : α → List β} {n : Nat} : ∀ (xs : List α), (∀ x, (f x).length = n) → (xs.flatMap f).length = xs.length * n
  | [], _ => by simp
  | x :: xs, h => by
    rw [List.flatMap_cons, List.length_append, h x, flatN_len xs h, List.length_cons, Nat.succ_mul, Nat.add_comm]
theorem tups_len : ∀ n, (tups n).length = 7 ^ n
  | 0 => rfl
  | n + 1 => by
    rw [tups, flatN_len (n := 7) _ (fun xs => by rw [List.length_map]; rfl), tups_len n, Nat.pow_succ]
theorem mem_tups : ∀ xs : List (Option Col), xs ∈ tups xs.length
  | [] => by simp [tups]
  | x :: xs => by
    rw [List.length_cons, tups, List.mem_flatMap]
    exact ⟨xs, mem_tups xs, List.mem_map.mpr ⟨x, mem_optCols x, rfl⟩⟩
def ofL (w : Nat) (xs : List (Option Col)) : Patch := fun r k => (xs[r * w + k]?).getD none
def allP (w h : Nat) : List Patch := (tups (w * h)).map (ofL w)
theorem mem_allP {w h : Nat} (f : Patch) : ∃ g ∈ allP w h, Agr w h f g := by
  refine ⟨ofL w ((List.range (w * h)).map fun i => f (i / w) (i % w)), ?_, fun r hr k hk => ?_⟩
  · refine List.mem_map.mpr ⟨_, ?_, rfl⟩
    have := mem_tups ((List.range (w * h)).map fun i => f (i / w) (i % w))
    rwa [List.length_map, List.length_range] at this
  · have hlt : r * w + k < w * h := by
      have h1 : (r + 1) * w ≤ h * w := Nat.mul_le_mul_right w hr
      rw [Nat.succ_mul, Nat.mul_comm h w] at h1
      omega
    unfold ofL
    rw [List.getElem?_map, List.getElem?_range hlt]
    simp only [Option.map, Option.getD]
    rw [Nat.mul_comm r w, Nat.mul_add_div (by omega), Nat.mul_add_mod, Nat.div_eq_of_lt hk, Nat.mod_eq_of_lt hk, Nat.add_zero]
/-! levels -/
def ext (w h : Nat) (ts : List Patch) : List Patch := if w * h ≤ 4 then allP w h else ts.flatMap fun t => (bsAll w h).map fun b => blankB b w h t
def cnE (w h n : Nat) : Nat := if w * h ≤ 4 then 7 ^ (w * h) else n * (bsAll w h).length
theorem ext_len (w h : Nat) (ts : List Patch) : (ext w h ts).length = cnE w h ts.length := by
  unfold ext cnE
  split
  · rw [allP, List.length_map, tups_len]
  · exact flatN_len _ fun t => List.length_map _
theorem ext_mem {w h : Nat} {ts : List Patch} {t : Patch} (ht : t ∈ ts) : ∃ g ∈ ext w h ts, Agr w h t g := by
  unfold ext
  split
  · exact mem_allP t
  · refine ⟨t, List.mem_flatMap.mpr ⟨t, ht, List.mem_map.mpr ⟨fun _ => false, mem_bsAll.mpr (fun q h => by cases h), blank_no w h t⟩⟩, fun _ _ _ _ => rfl⟩
theorem ext_blank {w h : Nat} {ts : List Patch} {g : Patch} {q : Pc} (hg : g ∈ ext w h ts) (hq : fitQ q w h = true) : ∃ g' ∈ ext w h ts, Agr w h (blank q w h g) g' := by
  unfold ext at hg ⊢
  split
  · exact mem_allP _
  · rename_i hn
    rw [if_neg hn] at hg
    obtain ⟨t, ht, hb0⟩ := List.mem_flatMap.mp hg
    obtain ⟨b, hb, rfl⟩ := List.mem_map.mp hb0
    rw [blank_B]
    refine ⟨blankB (orB b q) w h t, List.mem_flatMap.mpr ⟨t, ht, List.mem_map.mpr ⟨orB b q, mem_bsAll.mpr fun x hx => ?_, rfl⟩⟩, fun _ _ _ _ => rfl⟩
    simp only [orB, Bool.or_eq_true, decide_eq_true_eq] at hx
    rcases hx with hx | rfl
    · exact mem_bsAll.mp hb x hx
    · exact hq
def ones (p : Prt) (w h : Nat) (gs : List Patch) : List Patch := gs.flatMap fun g => [one p w h g, two p w h g]
theorem ones_len (p : Prt) (w h : Nat) (gs : List Patch) : (ones p w h gs).length = gs.length * 2 := flatN_len _ fun _ => rfl
theorem ones_mem {p : Prt} {w h : Nat} {gs : List Patch} {g : Patch} (hg : g ∈ gs) : one p w h g ∈ ones p w h gs ∧ two p w h g ∈ ones p w h gs :=
  ⟨List.mem_flatMap.mpr ⟨g, hg, by simp⟩, List.mem_flatMap.mpr ⟨g, hg, by simp⟩⟩
def clZ (I J : Nat) (F : Patch) : Nat → List Patch
  | 0 => ext (2 ^ I) (2 ^ J) [F]
  | b + 1 => ext (2 ^ I) (2 ^ (J - (b + 1))) (ones .cut (2 ^ I) (2 ^ (J - b)) (clZ I J F b))
def clS (I J a : Nat) (prev : Nat → List Patch) : Nat → List Patch
  | 0 => ext (2 ^ (I - (a + 1))) (2 ^ J) (ones .party (2 ^ (I - a)) (2 ^ J) (prev 0))
  | b + 1 => ext (2 ^ (I - (a + 1))) (2 ^ (J - (b + 1))) (ones .party (2 ^ (I - a)) (2 ^ (J - (b + 1))) (prev (b + 1)) ++ ones .cut (2 ^ (I - (a + 1))) (2 ^ (J - b)) (clS I J a prev b) ++ ones .quartered (2 ^ (I - a)) (2 ^ (J - b)) (prev b))
def cl (I J : Nat) (F : Patch) : Nat → Nat → List Patch
  | 0 => clZ I J F
  | a + 1 => clS I J a (cl I J F a)
def cnZ (I J : Nat) : Nat → Nat
  | 0 => cnE (2 ^ I) (2 ^ J) 1
  | b + 1 => cnE (2 ^ I) (2 ^ (J - (b + 1))) (cnZ I J b * 2)
def cnS (I J a : Nat) (prev : Nat → Nat) : Nat → Nat
  | 0 => cnE (2 ^ (I - (a + 1))) (2 ^ J) (prev 0 * 2)
  | b + 1 => cnE (2 ^ (I - (a + 1))) (2 ^ (J - (b + 1))) (prev (b + 1) * 2 + cnS I J a prev b * 2 + prev b * 2)
def cn (I J : Nat) : Nat → Nat → Nat
  | 0 => cnZ I J
  | a + 1 => cnS I J a (cn I J a)
theorem clZ_len (I J : Nat) (F : Patch) : ∀ b, (clZ I J F b).length = cnZ I J b
  | 0 => by rw [clZ, cnZ, ext_len]; rfl
  | b + 1 => by rw [clZ, cnZ, ext_len, ones_len, clZ_len I J F b]
theorem clS_len (I J a : Nat) (prev : Nat → List Patch) (pn : Nat → Nat) (hp : ∀ b, (prev b).length = pn b) : ∀ b, (clS I J a prev b).length = cnS I J a pn b
  | 0 => by rw [clS, cnS, ext_len, ones_len, hp]
  | b + 1 => by rw [clS, cnS, ext_len, List.length_append, List.length_append, ones_len, ones_len, ones_len, hp, hp, clS_len I J a prev pn hp b]
theorem cl_len (I J : Nat) (F : Patch) : ∀ a b, (cl I J F a b).length = cn I J a b
  | 0, b => clZ_len I J F b
  | a + 1, b => clS_len I J a _ _ (cl_len I J F a) b
theorem cl_party (I J : Nat) (F : Patch) (a b : Nat) : ∃ ts, cl I J F (a + 1) b = ext (2 ^ (I - (a + 1))) (2 ^ (J - b)) ts ∧ ∀ g ∈ cl I J F a b, one .party (2 ^ (I - a)) (2 ^ (J - b)) g ∈ ts ∧ two .party (2 ^ (I - a)) (2 ^ (J - b)) g ∈ ts := by
  cases b with
  | zero => exact ⟨_, rfl, fun g hg => ones_mem hg⟩
  | succ b => exact ⟨_, rfl, fun g hg => ⟨List.mem_append_left _ (List.mem_append_left _ (ones_mem hg).1), List.mem_append_left _ (List.mem_append_left _ (ones_mem hg).2)⟩⟩
theorem cl_cut (I J : Nat) (F : Patch) (a b : Nat) : ∃ ts, cl I J F a (b + 1) = ext (2 ^ (I - a)) (2 ^ (J - (b + 1))) ts ∧ ∀ g ∈ cl I J F a b, one .cut (2 ^ (I - a)) (2 ^ (J - b)) g ∈ ts ∧ two .cut (2 ^ (I - a)) (2 ^ (J - b)) g ∈ ts := by
  cases a with
  | zero => exact ⟨_, rfl, fun g hg => ones_mem hg⟩
  | succ a => exact ⟨_, rfl, fun g hg => ⟨List.mem_append_left _ (List.mem_append_right _ (ones_mem hg).1), List.mem_append_left _ (List.mem_append_right _ (ones_mem hg).2)⟩⟩
theorem cl_quart (I J : Nat) (F : Patch) (a b : Nat) : ∃ ts, cl I J F (a + 1) (b + 1) = ext (2 ^ (I - (a + 1))) (2 ^ (J - (b + 1))) ts ∧ ∀ g ∈ cl I J F a b, one .quartered (2 ^ (I - a)) (2 ^ (J - b)) g ∈ ts ∧ two .quartered (2 ^ (I - a)) (2 ^ (J - b)) g ∈ ts :=
  ⟨_, rfl, fun g hg => ⟨List.mem_append_right _ (ones_mem hg).1, List.mem_append_right _ (ones_mem hg).2⟩⟩
theorem cl_ext (I J : Nat) (F : Patch) (a b : Nat) : ∃ ts, cl I J F a b = ext (2 ^ (I - a)) (2 ^ (J - b)) ts := by
  cases a with
  | zero => cases b <;> exact ⟨_, rfl⟩
  | succ a => cases b <;> exact ⟨_, rfl⟩
/-! keys -/
def keysOf (I J : Nat) (F : Patch) : List NestedKey := (List.range (I + 1)).flatMap fun a => (List.range (J + 1)).flatMap fun b => (cl I J F a b).map (keyP (2 ^ (I - a)) (2 ^ (J - b)))
def tot (I J : Nat) : Nat := ((List.range (I + 1)).map fun a => ((List.range (J + 1)).map fun b => cn I J a b).sum).sum
theorem keys_len (I J : Nat) (F : Patch) : (keysOf I J F).length = tot I J := by
  unfold keysOf tot
  simp only [List.length_flatMap, List.length_map, cl_len]
theorem tot_le : ∀ I, I < 4 → ∀ J, J < 4 → tot I J ≤ 1000000 := by decide +kernel
theorem mem_keys {I J a b : Nat} {F f g : Patch} (ha : a ≤ I) (hb : b ≤ J) (hg : g ∈ cl I J F a b) (e : Agr (2 ^ (I - a)) (2 ^ (J - b)) f g) : keyP (2 ^ (I - a)) (2 ^ (J - b)) f ∈ keysOf I J F := by
  refine List.mem_flatMap.mpr ⟨a, List.mem_range.mpr (by omega), List.mem_flatMap.mpr ⟨b, List.mem_range.mpr (by omega), List.mem_map.mpr ⟨g, hg, (keyP_congr e).symm⟩⟩⟩
theorem Agr.one {p : Prt} {w h : Nat} {f g : Patch} (e : Agr w h f g) : Agr (pW p w) (pH p h) (Bz.one p w h f) (Bz.one p w h g) ∧ Agr (pW p w) (pH p h) (two p w h f) (two p w h g) := by
  cases p with
  | party => exact ⟨fun r hr k hk => e r hr k (by simp only [pW] at hk; omega), fun r hr k hk => e r hr (k + w / 2) (by simp only [pW] at hk; omega)⟩
  | cut => exact ⟨fun r hr k hk => e r (by simp only [pH] at hr; omega) k hk, fun r hr k hk => e (r + h / 2) (by simp only [pH] at hr; omega) k hk⟩
  | quartered =>
    refine ⟨fun r hr k hk => ?_, fun r hr k hk => ?_⟩
    · simp only [pW, pH] at hr hk
      simp only [Bz.one]
      rw [e r (by omega) k (by omega), e (r + h / 2) (by omega) (k + w / 2) (by omega)]
    · simp only [pW, pH] at hr hk
      simp only [two]
      rw [e r (by omega) (k + w / 2) (by omega), e (r + h / 2) (by omega) k (by omega)]
theorem Agr.blank {q : Pc} {w h : Nat} {f g : Patch} (e : Agr w h f g) : Agr w h (Bz.blank q w h f) (Bz.blank q w h g) := fun r hr k hk => by
  unfold Bz.blank
  rw [e r hr k hk]
theorem Agr.trans {w h : Nat} {f g k : Patch} (e : Agr w h f g) (e' : Agr w h g k) : Agr w h f k := fun r hr c hc => (e r hr c hc).trans (e' r hr c hc)
theorem pow_half {n : Nat} (h : 1 ≤ n) : 2 ^ n / 2 = 2 ^ (n - 1) := by
  obtain ⟨m, rfl⟩ : ∃ m, n = m + 1 := ⟨n - 1, by omega⟩
  rw [Nat.pow_succ, Nat.mul_div_cancel _ (by omega), Nat.add_sub_cancel]
theorem pow_two_le {n : Nat} (h : 2 ≤ 2 ^ n) : 1 ≤ n := by
  cases n with
  | zero => simp at h
  | succ n => omega
theorem clo_keys {I J : Nat} (hI : I < 4) (hJ : J < 4) (F : Patch) : Clo (keysOf I J F) := by
  have ex : ∀ w h f, Side w → Side h → keyP w h f ∈ keysOf I J F → ∃ a b g, a ≤ I ∧ b ≤ J ∧ w = 2 ^ (I - a) ∧ h = 2 ^ (J - b) ∧ g ∈ cl I J F a b ∧ Agr w h f g := fun w h f hw hh hk => by
    obtain ⟨a, ha, h1⟩ := List.mem_flatMap.mp hk
    obtain ⟨b, hb, h2⟩ := List.mem_flatMap.mp h1
    obtain ⟨g, hg, e⟩ := List.mem_map.mp h2
    obtain ⟨e1, e2, e3⟩ := keyP_inj hh.pos e.symm
    rw [List.mem_range] at ha hb
    exact ⟨a, b, g, by omega, by omega, e1, e2, hg, e3⟩
  refine ⟨by rw [keys_len]; exact tot_le I hI J hJ, ?_, ?_⟩
  · intro w h f p hw hh hk hf _
    obtain ⟨a, b, g, ha, hb, e1, e2, hg, e⟩ := ex w h f hw hh hk
    have fin : ∀ a' b' ts, a' ≤ I → b' ≤ J → pW p w = 2 ^ (I - a') → pH p h = 2 ^ (J - b') → cl I J F a' b' = ext (2 ^ (I - a')) (2 ^ (J - b')) ts → one p w h g ∈ ts → two p w h g ∈ ts → keyP (pW p w) (pH p h) (one p w h f) ∈ keysOf I J F ∧ keyP (pW p w) (pH p h) (two p w h f) ∈ keysOf I J F := fun a' b' ts ha' hb' q1 q2 q3 m1 m2 => by
      obtain ⟨g1, h1, a1⟩ := ext_mem (w := 2 ^ (I - a')) (h := 2 ^ (J - b')) m1
      obtain ⟨g2, h2, a2⟩ := ext_mem (w := 2 ^ (I - a')) (h := 2 ^ (J - b')) m2
      rw [← q3] at h1 h2
      have ag := e.one (p := p)
      rw [q1, q2] at ag ⊢
      exact ⟨mem_keys ha' hb' h1 (ag.1.trans a1), mem_keys ha' hb' h2 (ag.2.trans a2)⟩
    cases p with
    | party =>
      have h2 : 2 ≤ w := by simpa [fitP] using hf
      rw [e1] at h2
      have h3 := pow_two_le h2
      obtain ⟨ts, t1, t2⟩ := cl_party I J F a b
      have t3 := t2 g hg
      rw [← e1, ← e2] at t3
      exact fin (a + 1) b ts (by omega) hb (by show w / 2 = _; rw [e1, pow_half h3]; rfl) e2 t1 t3.1 t3.2
    | cut =>
      have h2 : 2 ≤ h := by simpa [fitP] using hf
      rw [e2] at h2
      have h3 := pow_two_le h2
      obtain ⟨ts, t1, t2⟩ := cl_cut I J F a b
      have t3 := t2 g hg
      rw [← e1, ← e2] at t3
      exact fin a (b + 1) ts ha (by omega) e1 (by show h / 2 = _; rw [e2, pow_half h3]; rfl) t1 t3.1 t3.2
    | quartered =>
      have h2 : 2 ≤ w ∧ 2 ≤ h := by simpa [fitP] using hf
      rw [e1, e2] at h2
      have h3 := pow_two_le h2.1
      have h4 := pow_two_le h2.2
      obtain ⟨ts, t1, t2⟩ := cl_quart I J F a b
      have t3 := t2 g hg
      rw [← e1, ← e2] at t3
      exact fin (a + 1) (b + 1) ts (by omega) (by omega) (by show w / 2 = _; rw [e1, pow_half h3]; rfl) (by show h / 2 = _; rw [e2, pow_half h4]; rfl) t1 t3.1 t3.2
  · intro w h f q hw hh hk hf
    obtain ⟨a, b, g, ha, hb, e1, e2, hg, e⟩ := ex w h f hw hh hk
    obtain ⟨ts, t1⟩ := cl_ext I J F a b
    rw [t1, ← e1, ← e2] at hg
    obtain ⟨g', h1, a1⟩ := ext_blank hg hf
    rw [e1, e2, ← t1] at h1
    have ag := (e.blank (q := q)).trans a1
    rw [e1, e2] at ag ⊢
    exact mem_keys ha hb h1 ag
/-- there are such keys -/
theorem clo_top {w h : Nat} (hw : Side w) (hh : Side h) (F : Patch) : ∃ C, Clo C ∧ keyP w h F ∈ C := by
  have pw : ∀ n, Side n → ∃ i, i < 4 ∧ n = 2 ^ i := fun n hn => by
    rcases hn with rfl | rfl | rfl | rfl
    · exact ⟨0, by omega, rfl⟩
    · exact ⟨1, by omega, rfl⟩
    · exact ⟨2, by omega, rfl⟩
    · exact ⟨3, by omega, rfl⟩
  obtain ⟨I, hI, rfl⟩ := pw w hw
  obtain ⟨J, hJ, rfl⟩ := pw h hh
  refine ⟨keysOf I J F, clo_keys hI hJ F, ?_⟩
  obtain ⟨g, h1, a1⟩ := ext_mem (w := 2 ^ I) (h := 2 ^ J) (ts := [F]) (t := F) (by simp)
  exact mem_keys (a := 0) (b := 0) (by omega) (by omega) (g := g) h1 a1
/-- said tells the shortest -/
theorem said_is {w h : Nat} {g : Nat → Nat → Col} (μ : Mem) (hw : Side w) (hh : Side h) : ∃ vs, BestL w h (fun r k => some (g r k)) vs ∧ m_said [.d (encS w h), .d (encM w h g)] μ = .ok (.d (strsD vs)) μ := by
  obtain ⟨C, h1, h2⟩ := clo_top hw hh (fun r k => some (g r k))
  exact said_ok h1 μ hw hh h2
end Bz
set_option Elab.async false
set_option linter.all false
set_option maxRecDepth 100000
set_option maxHeartbeats 1000000
/-! What is said: sayings that tell a tree; said, trimmed, alike by them. -/
namespace Bz
open PySem
/-! ### how deep, how long -/
theorem lg_part {p : Prt} {w h : Nat} (hw : Side w) (hh : Side h) (hf : fitP p w h = true) : lg (pW p w) + lg (pH p h) + 1 ≤ lg w + lg h := by
  rcases hw with rfl | rfl | rfl | rfl <;> rcases hh with rfl | rfl | rfl | rfl <;> cases p <;> first | (revert hf; decide) | decide
theorem lg_le {n : Nat} : lg n ≤ 3 := by
  unfold lg
  split <;> (try split) <;> (try split) <;> omega
theorem depth_trim : ∀ (t : Tree) (w h : Nat), Side w → Side h → t.Fit w h → 2 * t.depth ≤ (trim t.words).length + 1 + (lg w + lg h)
  | .col c, w, h, _, _, _ => by simp [Tree.depth]
  | .piece q c t, w, h, hw, hh, hf => by
    have ih := depth_trim t w h hw hh hf.2
    by_cases e : trim t.words = [] ∧ c = .white
    · obtain ⟨e1, rfl⟩ := e
      have := trim_nil e1
      subst this
      simp only [Tree.depth]
      have : trim (Tree.piece q .white (.col .white)).words = [q.s] := by rw [Tree.words, trim_cons_ne q.ne_white]; rfl
      rw [this, List.length_singleton]
      omega
    · rw [trim_piece q c t e]
      simp only [Tree.depth, List.length_cons]
      omega
  | .part p a b, w, h, hw, hh, hf => by
    have ia := depth_trim a _ _ (hw.pW (h := h) hf.1) (hh.pH (w := w) hf.1) hf.2.1
    have ib := depth_trim b _ _ (hw.pW (h := h) hf.1) (hh.pH (w := w) hf.1) hf.2.2
    have hl := lg_part hw hh hf.1
    have la := trim_len a.words
    have pa := words_pos a
    rw [trim_part]
    simp only [Tree.depth]
    split
    · rename_i e
      have := trim_nil e
      subst this
      simp only [List.length_cons, Tree.depth]
      omega
    · simp only [List.length_cons, List.length_append]
      omega
theorem len_trim : ∀ t : Tree, t.words.length ≤ 2 * (trim t.words).length + 1
  | .col c => by simp [Tree.words]
  | .piece q c t => by
    have ih := len_trim t
    by_cases e : trim t.words = [] ∧ c = .white
    · obtain ⟨e1, rfl⟩ := e
      have := trim_nil e1
      subst this
      have : trim (Tree.piece q .white (.col .white)).words = [q.s] := by rw [Tree.words, trim_cons_ne q.ne_white]; rfl
      rw [this]
      simp [Tree.words]
    · rw [trim_piece q c t e]
      simp only [Tree.words, List.length_cons]
      omega
  | .part p a b => by
    have ia := len_trim a
    have ib := len_trim b
    have la := trim_len a.words
    rw [trim_part]
    split
    · rename_i e
      have := trim_nil e
      subst this
      simp only [List.length_cons, Tree.words, List.length_append, List.length_nil]
      omega
    · simp only [List.length_cons, List.length_append, Tree.words]
      omega
/-! ### sayings -/
structure Says (us : List Str) (t : Tree) (w h : Nat) : Prop where
  sees : Sees us 0 t.words
  le : us.length ≤ t.words.length
  fit : t.Fit w h
  dep : t.depth < 90
  short : t.words.length < 1000
theorem Says.self {t : Tree} {w h : Nat} (f : t.Fit w h) (d : t.depth < 90) (s : t.words.length < 1000) : Says t.words t w h := ⟨.self _, Nat.le_refl _, f, d, s⟩
theorem sees_split {ws us : List Str} (h : Sees ws 0 us) (hl : ws.length ≤ us.length) : us = ws ++ List.replicate (us.length - ws.length) ("white" : Str) := by
  refine List.ext_getElem (by simp; omega) fun i h1 h2 => ?_
  have e := h i h1
  rw [Nat.zero_add] at e
  by_cases hi : i < ws.length
  · rw [List.getElem?_eq_getElem hi] at e
    rw [List.getElem_append_left hi, ← e]
    rfl
  · rw [List.getElem?_eq_none (by omega)] at e
    rw [List.getElem_append_right (by omega), List.getElem_replicate, ← e]
    rfl
theorem sees_white (ws : List Str) (n : Nat) : Sees ws 0 (ws ++ List.replicate n ("white" : Str)) := fun i hi => by
  rw [Nat.zero_add]
  by_cases h : i < ws.length
  · rw [List.getElem?_eq_getElem h, List.getElem_append_left h]
    rfl
  · rw [List.getElem?_eq_none (by omega), List.getElem_append_right (by omega), List.getElem_replicate]
    rfl
theorem Says.split {us : List Str} {t : Tree} {w h : Nat} (T : Says us t w h) : t.words = us ++ List.replicate (t.words.length - us.length) ("white" : Str) := sees_split T.sees T.le
theorem Says.trim {us : List Str} {t : Tree} {w h : Nat} (T : Says us t w h) : Bz.trim us = Bz.trim t.words := by
  rw [T.split, trim_add_white]
theorem Says.of_trim {us : List Str} {t : Tree} {w h : Nat} (T : Says us t w h) : Says (Bz.trim us) t w h := by
  obtain ⟨n, e⟩ := trim_split us
  have l := trim_len us
  refine ⟨?_, by have := T.le; omega, T.fit, T.dep, T.short⟩
  have s := T.split
  have e2 : t.words = Bz.trim us ++ List.replicate (n + (t.words.length - us.length)) ("white" : Str) := by
    rw [← List.replicate_append_replicate, ← List.append_assoc, ← e]
    exact s
  rw [e2]
  exact sees_white _ _
theorem Says.ok {us : List Str} {t : Tree} {w h : Nat} (T : Says us t w h) : ∀ u ∈ us, PyData.strOk u = true := fun u hu => by
  refine t.wordsOk u ?_
  rw [T.split]
  exact List.mem_append_left _ hu
theorem Says.len {us : List Str} {t : Tree} {w h : Nat} (T : Says us t w h) : us.length < 1000 := Nat.lt_of_le_of_lt T.le T.short
theorem Says.drawn {us : List Str} {t : Tree} {w h : Nat} (T : Says us t w h) (hw : Side w) (hh : Side h) (μ : Mem) : m_drawn [.d (encS w h), .d (strsD us)] μ = .ok (.d (encM w h (cell t w h))) μ := drawn_of t w h μ hw hh T.dep T.fit T.sees T.le
theorem Says.filled {us : List Str} {t : Tree} {w h : Nat} (T : Says us t w h) (hw : Side w) (hh : Side h) (μ : Mem) : m_filled [.d (encS w h), .d (strsD us)] μ = .ok (.d (strsD t.words)) μ := filled_of t w h μ hw hh T.dep T.fit T.sees T.le (by have := T.short; omega)
theorem Says.alike {us vs : List Str} {t u : Tree} {w h : Nat} (T : Says us t w h) (U : Says vs u w h) (hw : Side w) (hh : Side h) (μ : Mem) : m_alike [.d (encS w h), .d (strsD us), .d (strsD vs)] μ = .ok (.d (.bool (sameM w h (cell t w h) (cell u w h)))) μ := alike_of (T.drawn hw hh μ) (U.drawn hw hh μ)
/-! ### trimmed -/
theorem whW_step {t : DT} {b : DS} {n : Nat} {ρ ρ2 : Env} {μ μ1 μ2 : Mem} {o : Out} (h1 : t ρ μ = .ok true μ1) (h2 : b ρ μ1 = .nx ρ2 μ2) (h3 : whGo t b n ρ2 μ2 = o) : whGo t b (n + 1) ρ μ = o := by
  simp only [whGo, h1, R.out, if_true, h2, h3]
theorem whW_end {t : DT} {b : DS} {n : Nat} {ρ : Env} {μ μ1 : Mem} (h1 : t ρ μ = .ok false μ1) : whGo t b (n + 1) ρ μ = .nx ρ μ1 := by
  simp [whGo, h1]
theorem trim_take {us : List Str} : ∀ m, m ≤ us.length → trim (us.take m) = if m = 0 then [] else if us[m - 1]? = some ("white" : Str) then trim (us.take (m - 1)) else us.take m := by
  intro m hm
  cases m with
  | zero => rfl
  | succ m =>
    have e1 : us[m]? = some us[m] := List.getElem?_eq_getElem (by omega)
    rw [if_neg (by omega), Nat.add_sub_cancel, e1, List.take_succ, e1, Option.toList, trim_append]
    by_cases hw : us[m] = "white"
    · rw [if_pos (by rw [hw]; rfl), if_pos (by rw [hw])]
    · rw [if_neg (by simp [trim, hw]), if_neg (by simpa using hw)]
      simp [trim, hw]
theorem end_loop {us : List Str} (μ : Mem) : ∀ (m fuel : Nat), m ≤ us.length → m < fuel →
    whGo (bAnd (bVal (eOp fGt (eVar 1) (eC (.int 0)))) (bVal (eOp fEq (eOp fIx (eVar 0) (eOp fSub (eVar 1) (eC (.int 1)))) (eC (.str "white"))))) (sAsg (eOp fSub (eVar 1) (eC (.int 1))) (gNm 1)) fuel [some (.d (strsD us)), some (.d (.int m))] μ =
      .nx [some (.d (strsD us)), some (.d (.int (trim (us.take m)).length))] μ ∧ us.take (trim (us.take m)).length = trim (us.take m) := by
  intro m
  induction m with
  | zero =>
    intro fuel _ hf
    obtain ⟨fuel, rfl⟩ : ∃ j, fuel = j + 1 := ⟨fuel - 1, by omega⟩
    exact ⟨whW_end (by simp), by simp [trim]⟩
  | succ m ih =>
    intro fuel hl hf
    obtain ⟨fuel, rfl⟩ : ∃ j, fuel = j + 1 := ⟨fuel - 1, by omega⟩
    have e1 : us[m]? = some us[m] := List.getElem?_eq_getElem (by omega)
    have e2 : ((m + 1 : Nat) : Int) - 1 = (m : Int) := by omega
    have tt := trim_take (us := us) (m + 1) hl
    rw [if_neg (by omega), Nat.add_sub_cancel, e1] at tt
    by_cases hm : us[m] = "white"
    · rw [if_pos (by rw [hm])] at tt
      obtain ⟨h2, h3⟩ := ih fuel (by omega) (by omega)
      rw [tt]
      refine ⟨whW_step (μ1 := μ) (ρ2 := [some (.d (strsD us)), some (.d (.int m))]) (μ2 := μ) ?_ ?_ h2, h3⟩
      · simp [strsD, e1, hm, show (0 : Int) < m + 1 by omega]
      · simp
    · rw [if_neg (by simpa using hm)] at tt
      rw [tt]
      refine ⟨?_, by rw [List.length_take, Nat.min_eq_left hl]⟩
      rw [List.length_take, Nat.min_eq_left hl]
      refine whW_end ?_
      simp [strsD, e1, hm, show (0 : Int) < m + 1 by omega]
theorem sIxN (n d m : Nat) (h : m ≤ n) : HT.sIx n d (some (m : Int)) = m := by
  unfold HT.sIx
  simp only
  rw [if_neg (by omega)]
  simp
  omega
theorem cutTo (xs : List PyData) (b : Nat) (hb : b ≤ xs.length) : cutD xs none (some (b : Int)) = xs.take b := by
  unfold cutD
  have e1 : HT.sIx xs.length 0 none = 0 := rfl
  rw [e1, sIxN _ _ _ hb]
  simp
theorem without_end_ok {us : List Str} (μ : Mem) (hl : us.length < 1000) : m_without_end [.d (strsD us)] μ = .ok (.d (strsD (trim us))) μ := by
  obtain ⟨h1, h2⟩ := end_loop (us := us) μ us.length 1000 (Nat.le_refl _) hl
  rw [List.take_length] at h1 h2
  have l := trim_len us
  unfold m_without_end
  refine call_rt (ρ0 := [some (.d (strsD us)), none]) rfl rfl ?_ List.take_length
  refine seq_nx (ρ1 := [some (.d (strsD us)), some (.d (.int us.length))]) (μ1 := μ) (by simp [strsD]) (seq_nx h1 (ret_of ?_))
  have e : fSl none (some ((trim us).length : Int)) (strsD us) = some (strsD (trim us)) := by
    show some (PyData.tuple (cutD (us.map PyData.str) none (some ((trim us).length : Int)))) = _
    rw [cutTo _ _ (by simpa using l), ← List.map_take, h2]
    rfl
  show eSl (eVar 0) oNo (oYes (eVar 1)) [some (.d (strsD us)), some (.d (.int (trim us).length))] μ = _
  simp only [eSl, oNo, oYes, eVar, List.getElem?_cons_zero, List.getElem?_cons_succ, R.bind, rd, e, R.of]
theorem Says.trimmed {us : List Str} {t : Tree} {w h : Nat} (T : Says us t w h) (hw : Side w) (hh : Side h) (μ : Mem) : m_trimmed [.d (encS w h), .d (strsD us)] μ = .ok (.d (strsD (Bz.trim t.words))) μ := by
  unfold m_trimmed
  rw [← T.trim]
  refine call_rt (ρ0 := [some (.d (encS w h)), some (.d (strsD us))]) rfl rfl (seq_nx (drop_of (call2_of rfl rfl (tree_of_ok t w h μ hw hh T.dep T.fit T.sees T.le))) (ret_of (call_of (cons_of rfl rfl) (without_end_ok μ T.len)))) List.take_length
/-! ### said -/
/-- a drawing as a patch -/
def full (g : Nat → Nat → Col) : Patch := fun r k => some (g r k)
theorem cov_full {t : Tree} {w h : Nat} {g : Nat → Nat → Col} : Cov t w h (full g) ↔ ∀ r, r < h → ∀ k, k < w → cell t w h r k = g r k :=
  ⟨fun H r hr k hk => H r hr k hk _ rfl, fun H r hr k hk c e => by rw [H r hr k hk]; exact Option.some.inj e⟩
structure SaidOf (w h : Nat) (g : Nat → Nat → Col) (vs : List Str) (t : Tree) : Prop where
  best : BestL w h (full g) vs
  says : Says vs t w h
  draws : ∀ r, r < h → ∀ k, k < w → cell t w h r k = g r k
  trm : trim t.words = vs
  run : ∀ μ, m_said [.d (encS w h), .d (encM w h g)] μ = .ok (.d (strsD vs)) μ
theorem said_of {w h : Nat} (g : Nat → Nat → Col) (hw : Side w) (hh : Side h) : ∃ vs t, SaidOf w h g vs t := by
  obtain ⟨vs, b, _⟩ := said_is (g := g) [] hw hh
  have bo := bestL_ok hw hh b
  obtain ⟨⟨t, t1, t2, t3⟩, _⟩ := id b
  have d := depth_trim t w h hw hh t1
  have l := len_trim t
  have g1 := lg_le (n := w)
  have g2 := lg_le (n := h)
  rw [t3] at d l
  have S : Says t.words t w h := .self t1 (by omega) (by omega)
  refine ⟨vs, t, b, ?_, cov_full.mp t2, t3, fun μ => ?_⟩
  · rw [← t3]
    exact S.of_trim
  · obtain ⟨vs', b', e⟩ := said_is (g := g) μ hw hh
    rw [e, b.uniq b']
theorem SaidOf.least {w h : Nat} {g : Nat → Nat → Col} {vs : List Str} {t u : Tree} (S : SaidOf w h g vs t) (fu : u.Fit w h) (e : ∀ r, r < h → ∀ k, k < w → cell u w h r k = g r k) : leW vs (trim u.words) := S.best.2 u fu (cov_full.mpr e)
theorem SaidOf.short {w h : Nat} {g : Nat → Nat → Col} {vs : List Str} {t : Tree} (S : SaidOf w h g vs t) (hw : Side w) (hh : Side h) : vs.length ≤ 127 := (bestL_ok hw hh S.best).2
theorem SaidOf.congr {w h : Nat} {g f : Nat → Nat → Col} {vs : List Str} {t : Tree} (S : SaidOf w h g vs t) (e : ∀ r, r < h → ∀ k, k < w → g r k = f r k) : SaidOf w h f vs t := by
  refine ⟨S.best.congr fun r hr k hk => by unfold full; rw [e r hr k hk], S.says, fun r hr k hk => (S.draws r hr k hk).trans (e r hr k hk), S.trm, fun μ => ?_⟩
  rw [← encM_congr e]
  exact S.run μ
theorem SaidOf.uniq {w h : Nat} {g : Nat → Nat → Col} {vs us : List Str} {t u : Tree} (S : SaidOf w h g vs t) (S' : SaidOf w h g us u) : vs = us := S.best.uniq S'.best
/-- of one colour -/
theorem SaidOf.plain {w h : Nat} {c : Col} {vs : List Str} {t : Tree} (S : SaidOf w h (fun _ _ => c) vs t) (hw : Side w) (hh : Side h) : vs = if c = .white then [] else [c.s] := by
  refine S.best.uniq ?_
  by_cases e : c = .white
  · rw [if_pos e, e]
    refine bestL_white fun d ⟨_, _, _, _, hd⟩ => (Option.some.inj hd).symm
  · rw [if_neg e]
    exact bestL_plain (fun _ _ _ _ _ _ _ _ _ _ h1 h2 => (Option.some.inj h1).symm.trans (Option.some.inj h2)) ⟨0, hh.pos, 0, hw.pos, rfl⟩ e
theorem sameM_iff {w h : Nat} {f g : Nat → Nat → Col} : sameM w h f g = true ↔ ∀ r, r < h → ∀ k, k < w → f r k = g r k := by
  constructor
  · intro H r hr k hk
    unfold sameM at H
    rw [List.all_eq_true] at H
    have H1 := H r (List.mem_range.mpr hr)
    rw [List.all_eq_true] at H1
    exact Col.inj (of_decide_eq_true (H1 k (List.mem_range.mpr hk)))
  · exact sameM_of
end Bz
set_option Elab.async false
set_option linter.all false
set_option maxRecDepth 100000
set_option maxHeartbeats 4000000
/-! Small steps that several laws share. -/
namespace Bz
open PySem
theorem or_of {t u : DT} {ρ : Env} {μ : Mem} {a b : Bool} (h1 : t ρ μ = .ok a μ) (h2 : u ρ μ = .ok b μ) : bOr t u ρ μ = .ok (a || b) μ := by
  simp only [bOr, h1, R.bind]
  cases a
  · simpa using h2
  · rfl
theorem and2_of {t u : DT} {ρ : Env} {μ : Mem} {a b : Bool} (h1 : t ρ μ = .ok a μ) (h2 : u ρ μ = .ok b μ) : bAnd t u ρ μ = .ok (a && b) μ := by
  simp only [bAnd, h1, R.bind]
  cases a
  · rfl
  · simpa using h2
theorem gt_no {a z : Int} (h : a ≤ z) : fGt (.int a) (.int z) = some (.bool false) := by
  simp only [fGt, Option.some.injEq, PyData.bool.injEq, decide_eq_false_iff_not]
  omega
theorem len_strs (vs : List Str) : bLen [strsD vs] = some (.int vs.length) := by simp [strsD]
theorem ne_encM_no {w h : Nat} {f g : Nat → Nat → Col} (e : ∀ r, r < h → ∀ k, k < w → f r k = g r k) : fNe (encM w h f) (encM w h g) = some (.bool false) := by
  rw [ne_encM, sameM_of e]
  rfl
theorem ne_strs {us vs : List Str} (h1 : ∀ w ∈ us, PyData.strOk w = true) (h2 : ∀ w ∈ vs, PyData.strOk w = true) : fNe (strsD us) (strsD vs) = some (.bool (!decide (us = vs))) := by
  simp only [fNe, eqD_strs h1 h2, Option.map]
theorem eq_strs {us vs : List Str} (h1 : ∀ w ∈ us, PyData.strOk w = true) (h2 : ∀ w ∈ vs, PyData.strOk w = true) : fEq (strsD us) (strsD vs) = some (.bool (decide (us = vs))) := by
  simp only [fEq, eqD_strs h1 h2, Option.map]
theorem ne_strs_no {us vs : List Str} (h1 : ∀ w ∈ us, PyData.strOk w = true) (e : us = vs) : fNe (strsD us) (strsD vs) = some (.bool false) := by
  subst e
  rw [ne_strs h1 h1]
  simp
theorem eq_bools2 (a b : Bool) : fEq (.bool a) (.bool b) = some (.bool (a == b)) := by cases a <;> cases b <;> rfl
theorem ne_bools (a b : Bool) : fNe (.bool a) (.bool b) = some (.bool (a != b)) := by cases a <;> cases b <;> rfl
theorem mul2 (z : Int) : fMul (.int 2) (.int z) = some (.int (2 * z)) := by simp [big64]
theorem ifE_yes {t : DT} {a b : DE} {ρ : Env} {μ μ1 : Mem} {r : R S} (h1 : t ρ μ = .ok true μ1) (h2 : a ρ μ1 = r) : eIf t a b ρ μ = r := by
  simp only [eIf, h1, R.bind, if_true, h2]
theorem ifE_no {t : DT} {a b : DE} {ρ : Env} {μ μ1 : Mem} {r : R S} (h1 : t ρ μ = .ok false μ1) (h2 : b ρ μ1 = r) : eIf t a b ρ μ = r := by
  simp only [eIf, h1, R.bind, Bool.false_eq_true, if_false, h2]
theorem ifE_of {t : DT} {a b : DE} {ρ : Env} {μ μ1 : Mem} {c : Bool} {r : R S} (h1 : t ρ μ = .ok c μ1) (h2 : c = true → a ρ μ1 = r) (h3 : c = false → b ρ μ1 = r) : eIf t a b ρ μ = r := by
  cases c
  · exact ifE_no h1 (h3 rfl)
  · exact ifE_yes h1 (h2 rfl)
theorem eq_party (p : Prt) : fEq (.str p.s) (.str "party") = some (.bool (decide (p = .party))) := by
  cases p <;> simp (config := {decide := true}) [Prt.s]
theorem eq_cut2 (p : Prt) : fEq (.str p.s) (.str "cut") = some (.bool (decide (p = .cut))) := by
  cases p <;> simp (config := {decide := true}) [Prt.s]
theorem eq_quart (p : Prt) : fEq (.str p.s) (.str "quartered") = some (.bool (decide (p = .quartered))) := by
  cases p <;> simp (config := {decide := true}) [Prt.s]
theorem eq_white (c : Col) : fEq (.str c.s) (.str "white") = some (.bool (decide (c = .white))) := by
  cases c <;> simp (config := {decide := true}) [Col.s]
theorem eq_cols (a b : Col) : fEq (.str a.s) (.str b.s) = some (.bool (decide (a = b))) := by
  cases a <;> cases b <;> simp (config := {decide := true}) [Col.s]
theorem ne_cols (a b : Col) : fNe (.str a.s) (.str b.s) = some (.bool (!decide (a = b))) := by
  cases a <;> cases b <;> simp (config := {decide := true}) [Col.s]
theorem in_light2 (c : Col) : fIn (.str c.s) (.tuple [.str "white", .str "yellow"]) = some (.bool (light c)) := by
  cases c <;> simp (config := {decide := true}) [Col.s, light, inD, PyData.eqv]
theorem mem_prts {x : PyData} (h : x ∈ [PyData.str "party", .str "cut", .str "quartered"]) : ∃ p : Prt, x = .str p.s := by
  simp only [List.mem_cons, List.not_mem_nil, or_false] at h
  rcases h with rfl | rfl | rfl
  · exact ⟨.party, rfl⟩
  · exact ⟨.cut, rfl⟩
  · exact ⟨.quartered, rfl⟩
theorem mem_pcs {x : PyData} (h : x ∈ [PyData.str "pillar", .str "band", .str "head", .str "edge"]) : ∃ q : Pc, x = .str q.s := by
  simp only [List.mem_cons, List.not_mem_nil, or_false] at h
  rcases h with rfl | rfl | rfl | rfl
  · exact ⟨.pillar, rfl⟩
  · exact ⟨.band, rfl⟩
  · exact ⟨.head, rfl⟩
  · exact ⟨.edge, rfl⟩
theorem fit2P (p : Prt) {w h : Nat} (hw : 2 ≤ w) (hh : 2 ≤ h) : fitP p w h = true := by cases p <;> simp [fitP] <;> omega
theorem cutTo2 (xs : List PyData) (b : Nat) : cutD xs none (some (b : Int)) = xs.take b := by
  by_cases h : b ≤ xs.length
  · exact cutTo xs b h
  · have e : HT.sIx xs.length xs.length (some (b : Int)) = xs.length := by
      unfold HT.sIx
      simp only
      rw [if_neg (by omega)]
      simp
      omega
    unfold cutD
    rw [e]
    simp only [HT.sIx, List.drop_zero, Nat.sub_zero]
    rw [List.take_of_length_le (Nat.le_refl _), List.take_of_length_le (by omega)]
theorem cutFrom (xs : List PyData) (a : Nat) (h : a ≤ xs.length) : cutD xs (some (a : Int)) none = xs.drop a := by
  unfold cutD
  rw [sIxN _ _ _ h]
  simp only [HT.sIx]
  rw [List.take_of_length_le (by simp)]
theorem sl2_to {a e : DE} {ρ : Env} {μ μ1 μ2 : Mem} {x z : PyData} {n : Int} (h1 : a ρ μ = .ok (.d x) μ1) (h2 : e ρ μ1 = .ok (.d (.int n)) μ2) (h3 : fSl none (some n) x = some z) : eSl a oNo (oYes e) ρ μ = .ok (.d z) μ2 := by
  simp only [eSl, h1, oNo, oYes, h2, R.bind, rd, h3, R.of]
theorem sl2_from {a e : DE} {ρ : Env} {μ μ1 μ2 : Mem} {x z : PyData} {n : Int} (h1 : a ρ μ = .ok (.d x) μ1) (h2 : e ρ μ1 = .ok (.d (.int n)) μ2) (h3 : fSl (some n) none x = some z) : eSl a (oYes e) oNo ρ μ = .ok (.d z) μ2 := by
  simp only [eSl, h1, oNo, oYes, h2, R.bind, rd, h3, R.of]
theorem eq_nilP {α : Type} (xs : List α) (g : α → PyData) (hg : ∀ x, (g x).canLay0 = true) : fEq (.list (xs.map g)) (.list []) = some (.bool (decide (xs.map g = []))) := by
  have h := ne_nilP xs g hg
  simp only [fNe, fEq, Option.map_eq_some_iff] at h ⊢
  obtain ⟨b, h1, h2⟩ := h
  refine ⟨b, h1, ?_⟩
  simp only [PyData.bool.injEq] at h2 ⊢
  cases b <;> simp_all
theorem words_lt (t : Tree) {n : Nat} (h : t.depth < n) : 1 ≤ t.words.length ∧ t.words.length < 2 ^ n := by
  have := words_len t
  exact ⟨this.1, Nat.lt_of_lt_of_le this.2 (Nat.pow_le_pow_right (by omega) h)⟩
end Bz
set_option Elab.async false
set_option linter.all false
set_option maxRecDepth 100000
set_option maxHeartbeats 1000000
/-! Texts of sayings; beginnings of sayings. -/
namespace Bz
open PySem
theorem Tree.words_all {P : Str → Prop} (hc : ∀ c : Col, P c.s) (hp : ∀ p : Prt, P p.s) (hq : ∀ q : Pc, P q.s) : ∀ t : Tree, ∀ x ∈ t.words, P x
  | .col c, x, hx => by
    rw [Tree.words, List.mem_singleton] at hx
    rw [hx]
    exact hc c
  | .part p a b, x, hx => by
    simp only [Tree.words, List.mem_cons, List.mem_append] at hx
    rcases hx with rfl | hx | hx
    · exact hp p
    · exact Tree.words_all hc hp hq a x hx
    · exact Tree.words_all hc hp hq b x hx
  | .piece q c t, x, hx => by
    simp only [Tree.words, List.mem_cons] at hx
    rcases hx with rfl | rfl | hx
    · exact hq q
    · exact hc c
    · exact Tree.words_all hc hp hq t x hx
/-- a word of a saying: short, no blank in it, not empty -/
def WOk (x : Str) : Prop := x.length ≤ 9 ∧ 32 ∉ TL.tl x ∧ TL.tl x ≠ []
theorem Tree.wok (t : Tree) : ∀ x ∈ t.words, WOk x := Tree.words_all (P := WOk) (fun c => by cases c <;> (unfold WOk; decide +kernel)) (fun c => by cases c <;> (unfold WOk; decide +kernel)) (fun c => by cases c <;> (unfold WOk; decide +kernel)) t
theorem Says.wok {us : List Str} {t : Tree} {w h : Nat} (T : Says us t w h) : ∀ x ∈ us, WOk x := fun x hx => t.wok x (by rw [T.split]; exact List.mem_append_left _ hx)
theorem sum_le {us : List Str} (h : ∀ x ∈ us, x.length ≤ 9) : (us.map fun y => y.length).sum ≤ us.length * 9 := by
  induction us with
  | nil => simp
  | cons u us ih =>
    have h1 := h u (by simp)
    have h2 := ih fun x hx => h x (List.mem_cons_of_mem _ hx)
    simp only [List.map_cons, List.sum_cons, List.length_cons, Nat.succ_mul]
    omega
theorem joinL_len {S : List Nat} : ∀ ps : List (List Nat), (∀ p ∈ ps, p.length ≤ 9) → (TL.joinL S ps).length ≤ ps.length * (9 + S.length)
  | [], _ => by simp [TL.joinL]
  | [p], h => by
    have := h p (by simp)
    simp only [TL.joinL, List.length_singleton, Nat.one_mul]
    omega
  | p :: q :: r, h => by
    have h1 := h p (by simp)
    have h2 := joinL_len (S := S) (q :: r) fun x hx => h x (List.mem_cons_of_mem _ hx)
    simp only [TL.joinL, List.length_append]
    rw [List.length_cons, Nat.succ_mul]
    omega
theorem join_len {us : List Str} (h : ∀ x ∈ us, x.length ≤ 9) : (Txt.join " " us).length ≤ us.length * 10 := by
  rw [TL.len_tl, TL.join_eq, TL.tl_join]
  have q := joinL_len (S := TL.tl " ") (us.map TL.tl) fun p hp => by
    obtain ⟨x, hx, rfl⟩ := List.mem_map.mp hp
    rw [← TL.len_tl]
    exact h x hx
  rw [List.length_map] at q
  have e : (TL.tl " ").length = 1 := by decide +kernel
  rw [e] at q
  exact q
theorem split_back {us : List Str} (hne : us ≠ []) (h : ∀ x ∈ us, 32 ∉ TL.tl x) : Txt.split (Txt.join " " us) " " = us := TL.split_join (y := " ") (s := 32) (S := []) (by decide +kernel) (by decide +kernel) hne h
theorem join_ok {us : List Str} (hl : us.length ≤ 10000) (h : ∀ x ∈ us, x.length ≤ 9) : joinOk " " us = true := by
  have h1 := sum_le h
  have e : (" " : Str).length = 1 := by decide +kernel
  unfold joinOk
  rw [e]
  exact decide_eq_true (by omega)
theorem blank_len : decide (((" " : Str).length == 0) = false) = true := by decide +kernel
theorem fJoin_of {us : List Str} (hl : us.length ≤ 10000) (h : ∀ x ∈ us, x.length ≤ 9) : fJoin " " (strsD us) = some (.str (Txt.join " " us)) := by
  have e := strsOf_map (fun x : Str => x) us
  simp only [List.map_id'] at e
  simp only [strsD, fJoin, e, join_ok hl h, if_true]
theorem fSplit_of {us : List Str} (hl : us.length ≤ 10000) (hne : us ≠ []) (h : ∀ x ∈ us, x.length ≤ 9) (h2 : ∀ x ∈ us, 32 ∉ TL.tl x) : fSplit (Txt.join " " us) (.str " ") = some (.list (us.map PyData.str)) := by
  have l := join_len h
  have hs : small (Txt.join " " us).length = true := by
    unfold small
    exact decide_eq_true (by omega)
  simp only [fSplit, blank_len, hs, Bool.and_self, if_true, split_back hne h2]
theorem strM_of {f : Str → PyData → Option PyData} {o e : DE} {ρ : Env} {μ μ1 μ2 : Mem} {a : Str} {y z : PyData} (h1 : o ρ μ = .ok (.d (.str a)) μ1) (h2 : e ρ μ1 = .ok (.d y) μ2) (h3 : f a y = some z) : eStrM f o e ρ μ = .ok (.d z) μ2 := by
  simp only [eStrM, h1, h2, R.bind, rd, h3, R.of]
theorem Says.written {us : List Str} {t : Tree} {w h : Nat} (T : Says us t w h) (hw : Side w) (hh : Side h) (μ : Mem) : m_written [.d (encS w h), .d (strsD us)] μ = .ok (.d (.str (Txt.join " " us))) μ := by
  have l := T.len
  unfold m_written
  refine call_rt (ρ0 := [some (.d (encS w h)), some (.d (strsD us))]) rfl rfl (seq_nx (drop_of (call2_of rfl rfl (tree_of_ok t w h μ hw hh T.dep T.fit T.sees T.le))) (ret_of (strM_of (a := " ") rfl rfl (fJoin_of (by omega) fun x hx => (T.wok x hx).1)))) List.take_length
theorem eqv_str_nil (x : Str) (hx : PyData.strOk x = true) : fNe (.str x) (.str "") = some (.bool (!decide (x = ""))) := by simp
theorem join_nil_iff {us : List Str} (h : ∀ x ∈ us, WOk x) : Txt.join " " us = "" ↔ us = [] := by
  constructor
  · intro e
    by_cases hn : us = []
    · exact hn
    · have q := split_back hn fun x hx => (h x hx).2.1
      rw [e] at q
      have q2 : Txt.split ("" : Str) " " = [("" : Str)] := by
        have := split_back (us := [("" : Str)]) (by simp) (by simp; decide +kernel)
        have e2 : Txt.join " " [("" : Str)] = "" := by
          rw [TL.join_eq]
          rfl
        rw [e2] at this
        exact this
      rw [q2] at q
      subst q
      have := (h "" (by simp)).2.2
      exact absurd (by decide +kernel) this
  · rintro rfl
    rw [TL.join_eq]
    rfl
theorem Says.read {us : List Str} {t : Tree} {w h : Nat} (T : Says us t w h) (hw : Side w) (hh : Side h) (μ : Mem) : m_read [.d (encS w h), .d (.str (Txt.join " " us))] μ = .ok (.d (strsD us)) μ := by
  have l := T.len
  have iff := join_nil_iff T.wok
  unfold m_read
  have ne : fNe (.str (Txt.join " " us)) (.str "") = some (.bool (!decide (Txt.join " " us = ""))) := by simp
  refine call_rt (ρ0 := [some (.d (encS w h)), some (.d (.str (Txt.join " " us))), none]) rfl rfl (seq_nx (ρ1 := [some (.d (encS w h)), some (.d (.str (Txt.join " " us))), some (.d (strsD us))]) (μ1 := μ) (asg_of (s := .d (strsD us)) ?_ rfl) (seq_nx (drop_of (call2_of rfl rfl (tree_of_ok t w h μ hw hh T.dep T.fit T.sees T.le))) (ret_of rfl))) List.take_length
  by_cases hn : us = []
  · have e := iff.mpr hn
    refine ifE_no (μ1 := μ) (val_of (op_of rfl rfl (ne.trans (by rw [decide_eq_true e]; rfl)))) ?_
    rw [hn]
    rfl
  · have e : Txt.join " " us ≠ "" := fun z => hn (iff.mp z)
    refine ifE_yes (μ1 := μ) (val_of (op_of rfl rfl (ne.trans (by rw [decide_eq_false e]; rfl)))) ?_
    exact cb1_of (strM_of rfl rfl (fSplit_of (by omega) hn (fun x hx => (T.wok x hx).1) fun x hx => (T.wok x hx).2.1)) rfl
/-- the tree of a beginning -/
theorem cut_tree : ∀ (t : Tree) (w h : Nat), t.Fit w h → ∀ k, k ≤ t.words.length → ∃ u : Tree, u.Fit w h ∧ u.depth ≤ t.depth ∧ ∃ n, u.words = t.words.take k ++ List.replicate n ("white" : Str)
  | t, w, h, hf, 0, _ => ⟨.col .white, True.intro, by simp [Tree.depth], 1, by simp [Tree.words]; rfl⟩
  | .col c, w, h, hf, k + 1, hk => by
    simp only [Tree.words, List.length_singleton] at hk
    have : k = 0 := by omega
    subst this
    exact ⟨.col c, True.intro, Nat.le_refl _, 0, by simp [Tree.words]⟩
  | .piece q c t, w, h, hf, 1, _ => ⟨.piece q .white (.col .white), ⟨hf.1, True.intro⟩, by simp [Tree.depth], 2, by simp [Tree.words]; rfl⟩
  | .piece q c t, w, h, hf, k + 2, hk => by
    simp only [Tree.words, List.length_cons] at hk
    obtain ⟨u, u1, u2, n, u3⟩ := cut_tree t w h hf.2 k (by omega)
    exact ⟨.piece q c u, ⟨hf.1, u1⟩, by simp only [Tree.depth]; omega, n, by simp [Tree.words, u3]⟩
  | .part p a b, w, h, hf, k + 1, hk => by
    simp only [Tree.words, List.length_cons, List.length_append] at hk
    by_cases hl : k ≤ a.words.length
    · obtain ⟨u, u1, u2, n, u3⟩ := cut_tree a _ _ hf.2.1 k hl
      refine ⟨.part p u (.col .white), ⟨hf.1, u1, True.intro⟩, by simp only [Tree.depth]; omega, n + 1, ?_⟩
      simp only [Tree.words, u3, List.take_succ_cons, List.cons_append, List.append_assoc]
      rw [List.take_append_of_le_length hl, List.replicate_succ']
      rfl
    · obtain ⟨u, u1, u2, n, u3⟩ := cut_tree b _ _ hf.2.2 (k - a.words.length) (by omega)
      refine ⟨.part p a u, ⟨hf.1, hf.2.1, u1⟩, by simp only [Tree.depth]; omega, n, ?_⟩
      have e : (a.words ++ b.words).take k = a.words ++ b.words.take (k - a.words.length) := by rw [List.take_append, List.take_of_length_le (show a.words.length ≤ k by omega)]
      simp only [Tree.words, u3, List.take_succ_cons, List.cons_append, List.append_assoc, e]
theorem says_cut {t : Tree} {w h k m : Nat} (hf : t.Fit w h) (hk : k ≤ t.words.length) (hd : t.depth < m) (hm : m ≤ 9) : ∃ u : Tree, u.depth < m ∧ Says (t.words.take k) u w h := by
  obtain ⟨u, u1, u2, n, u3⟩ := cut_tree t w h hf k hk
  have l := words_lt u (n := m) (by omega)
  have p : 2 ^ m ≤ 2 ^ 9 := Nat.pow_le_pow_right (by omega) hm
  have e : (t.words.take k).length = k := by rw [List.length_take]; omega
  refine ⟨u, by omega, ?_, ?_, u1, by omega, by omega⟩
  · rw [u3]
    exact sees_white _ _
  · rw [u3, List.length_append]
    omega
end Bz
set_option Elab.async false
set_option linter.all false
set_option maxRecDepth 100000
set_option maxHeartbeats 2000000
/-! Words of any kind: a saying, or refused with a place. -/
namespace Bz
open PySem
theorem in_strs {s : Str} {ws : List Str} : fIn (.str s) (.tuple (ws.map PyData.str)) = some (.bool (decide (s ∈ ws))) := by
  have h : (ws.map PyData.str).all flatD = true := by
    rw [List.all_eq_true]
    intro x hx
    obtain ⟨y, _, rfl⟩ := List.mem_map.mp hx
    rfl
  simp only [fIn, flatD, h, Bool.and_self, if_true, inD_str]
theorem notin_strs {s : Str} {ws : List Str} : fNotIn (.str s) (.tuple (ws.map PyData.str)) = some (.bool (!decide (s ∈ ws))) := by
  have h : (ws.map PyData.str).all flatD = true := by
    rw [List.all_eq_true]
    intro x hx
    obtain ⟨y, _, rfl⟩ := List.mem_map.mp hx
    rfl
  simp only [fNotIn, flatD, h, Bool.and_self, if_true, inD_str]
def colS : List Str := ["black", "blue", "green", "red", "white", "yellow"]
def prtS : List Str := ["party", "cut", "quartered"]
def pcS : List Str := ["band", "edge", "head", "pillar"]
theorem col_mem {s : Str} : s ∈ colS ↔ ∃ c : Col, s = c.s := by
  constructor
  · intro h
    simp only [colS, List.mem_cons, List.not_mem_nil, or_false] at h
    rcases h with rfl | rfl | rfl | rfl | rfl | rfl
    · exact ⟨.black, rfl⟩
    · exact ⟨.blue, rfl⟩
    · exact ⟨.green, rfl⟩
    · exact ⟨.red, rfl⟩
    · exact ⟨.white, rfl⟩
    · exact ⟨.yellow, rfl⟩
  · rintro ⟨c, rfl⟩
    cases c <;> simp [colS, Col.s]
theorem prt_mem {s : Str} : s ∈ prtS ↔ ∃ p : Prt, s = p.s := by
  constructor
  · intro h
    simp only [prtS, List.mem_cons, List.not_mem_nil, or_false] at h
    rcases h with rfl | rfl | rfl
    · exact ⟨.party, rfl⟩
    · exact ⟨.cut, rfl⟩
    · exact ⟨.quartered, rfl⟩
  · rintro ⟨c, rfl⟩
    cases c <;> simp [prtS, Prt.s]
theorem pc_mem {s : Str} : s ∈ pcS ↔ ∃ q : Pc, s = q.s := by
  constructor
  · intro h
    simp only [pcS, List.mem_cons, List.not_mem_nil, or_false] at h
    rcases h with rfl | rfl | rfl | rfl
    · exact ⟨.band, rfl⟩
    · exact ⟨.edge, rfl⟩
    · exact ⟨.head, rfl⟩
    · exact ⟨.pillar, rfl⟩
  · rintro ⟨c, rfl⟩
    cases c <;> simp [pcS, Pc.s]
theorem col_ne_prt (c : Col) (p : Prt) : c.s ≠ p.s := by cases c <;> cases p <;> decide +kernel
theorem col_ne_pc (c : Col) (p : Pc) : c.s ≠ p.s := by cases c <;> cases p <;> decide +kernel
theorem prt_ne_pc (c : Prt) (p : Pc) : c.s ≠ p.s := by cases c <;> cases p <;> decide +kernel
/-- one saying only begins at a place -/
theorem sees_uniq {us : List Str} : ∀ (t u : Tree) (n : Nat), Sees us n t.words → Sees us n u.words → t = u
  | .col c, .col d, n, h1, h2 => by rw [Col.inj (h1.head.symm.trans h2.head)]
  | .col c, .part p a b, n, h1, h2 => absurd (h1.head.symm.trans (Sees.head (u := p.s) h2)) (col_ne_prt c p)
  | .col c, .piece q d t, n, h1, h2 => absurd (h1.head.symm.trans (Sees.head (u := q.s) h2)) (col_ne_pc c q)
  | .part p a b, .col c, n, h1, h2 => absurd (h2.head.symm.trans (Sees.head (u := p.s) h1)) (col_ne_prt c p)
  | .part p a b, .part p' a' b', n, h1, h2 => by
    have e := Prt.inj ((Sees.head (u := p.s) h1).symm.trans (Sees.head (u := p'.s) h2))
    have ea := sees_uniq a a' (n + 1) (Sees.tail (u := p.s) h1).left (Sees.tail (u := p'.s) h2).left
    subst ea
    have eb := sees_uniq b b' _ (Sees.tail (u := p.s) h1).right (Sees.tail (u := p'.s) h2).right
    rw [e, eb]
  | .part p a b, .piece q c t, n, h1, h2 => absurd ((Sees.head (u := p.s) h1).symm.trans (Sees.head (u := q.s) h2)) (prt_ne_pc p q)
  | .piece q c t, .col d, n, h1, h2 => absurd (h2.head.symm.trans (Sees.head (u := q.s) h1)) (col_ne_pc d q)
  | .piece q c t, .part p a b, n, h1, h2 => absurd ((Sees.head (u := p.s) h2).symm.trans (Sees.head (u := q.s) h1)) (prt_ne_pc p q)
  | .piece q c t, .piece q' c' t', n, h1, h2 => by
    have e := Pc.inj ((Sees.head (u := q.s) h1).symm.trans (Sees.head (u := q'.s) h2))
    have e1 := Sees.tail (u := q.s) h1
    have e2 := Sees.tail (u := q'.s) h2
    have ec := Col.inj ((Sees.head (u := c.s) e1).symm.trans (Sees.head (u := c'.s) e2))
    have et := sees_uniq t t' _ (Sees.tail (u := c.s) e1) (Sees.tail (u := c'.s) e2)
    rw [e, ec, et]
theorem Says.uniq {us : List Str} {t u : Tree} {w h : Nat} (T : Says us t w h) (U : Says us u w h) : t = u := sees_uniq t u 0 T.sees U.sees
/-- the pieces among the words behind -/
def pcsN (us : List Str) (n : Nat) : Nat := ((us.drop n).filter fun s => decide (s ∈ pcS)).length
theorem pcsN_step (us : List Str) (n : Nat) : pcsN us (n + 1) ≤ pcsN us n := by
  unfold pcsN
  by_cases h : n < us.length
  · rw [List.drop_eq_getElem_cons h, List.filter_cons]
    split <;> simp
  · rw [List.drop_of_length_le (by omega), List.drop_of_length_le (by omega)]
    exact Nat.le_refl _
theorem pcsN_mono (us : List Str) {n m : Nat} (h : n ≤ m) : pcsN us m ≤ pcsN us n := by
  induction m with
  | zero =>
    have : n = 0 := by omega
    subst this
    exact Nat.le_refl _
  | succ m ih =>
    by_cases e : n = m + 1
    · subst e
      exact Nat.le_refl _
    · exact Nat.le_trans (pcsN_step us m) (ih (by omega))
theorem pcsN_pc {us : List Str} {n : Nat} {q : Pc} (h : (us[n]?).getD "white" = q.s) : pcsN us (n + 1) + 1 ≤ pcsN us n := by
  have hl : n < us.length := by
    by_cases hl : n < us.length
    · exact hl
    · rw [List.getElem?_eq_none (by omega)] at h
      exact absurd h (by cases q <;> decide +kernel)
  rw [List.getElem?_eq_getElem hl] at h
  have h' : us[n] = q.s := h
  unfold pcsN
  rw [List.drop_eq_getElem_cons hl, List.filter_cons, if_pos (by rw [h']; exact decide_eq_true (pc_mem.mpr ⟨q, rfl⟩))]
  simp
theorem eRaise {n : Nat} {e : DE} {ρ : Env} {μ μ1 : Mem} {i : Int} (h : e ρ μ = .ok (.d (.int i)) μ1) : sRaiseP n e ρ μ = .err ⟨n, some i⟩ μ1 := by
  simp only [sRaiseP, h, R.out]
theorem call_err {np n : Nat} {b : DS} {args : List S} {ρ0 : Env} {μ μ' μ1 : Mem} {e : Exn} (hl : args.length = np) (hρ : args.map some ++ List.replicate (n - np) none = ρ0) (h : b ρ0 μ = .err e μ') (hμ : μ'.take μ.length = μ1) : callD np n b args μ = .err e μ1 := by
  unfold callD
  rw [if_pos hl, hρ, h, ← hμ]
theorem asg_err {e : DE} {g : DG} {ρ : Env} {μ μ1 : Mem} {x : Exn} (h1 : e ρ μ = .err x μ1) : sAsg e g ρ μ = .err x μ1 := by
  unfold sAsg R.out
  rw [h1]
theorem if_err {t : DT} {a b : DS} {ρ : Env} {μ μ1 : Mem} {c : Bool} {x : Exn} {μ2 : Mem} (h1 : t ρ μ = .ok c μ1) (h2 : (if c then a ρ μ1 else b ρ μ1) = .err x μ2) : sIf t a b ρ μ = .err x μ2 := if_of h1 h2
theorem callE_of {F : Fn} {as : DA} {ρ : Env} {μ μ1 μ2 : Mem} {ss : List S} {x : Exn} (h1 : as ρ μ = .ok ss μ1) (h2 : F ss μ1 = .err x μ2) : eCall F as ρ μ = .err x μ2 := by
  simp only [eCall, h1, R.bind, h2]
abbrev TE8 (w h : Nat) (us : List Str) (n : Nat) (a3 a4 a5 a6 a7 : Option S) : Env := [some (.d (encS w h)), some (.d (strsD us)), some (.d (.int n)), a3, a4, a5, a6, a7]
theorem tree_at_any {us : List Str} : ∀ (k n w h : Nat) (μ : Mem), pcsN us n + (lg w + lg h) < k → Side w → Side h →
    (∃ t : Tree, t.Fit w h ∧ Sees us n t.words ∧ t.depth < k ∧ m_tree_at k [.d (encS w h), .d (strsD us), .d (.int n)] μ = .ok (.d (.tuple [encT n t, .int ((n + t.words.length : Nat) : Int)])) μ) ∨
    (∃ p : Int, m_tree_at k [.d (encS w h), .d (strsD us), .d (.int n)] μ = .err ⟨4, some p⟩ μ ∧ ∀ t : Tree, t.Fit w h → ¬ Sees us n t.words) := by
  intro k
  induction k with
  | zero => intro n w h μ hk; omega
  | succ k ih =>
    intro n w h μ hk hw hh
    have e1 : ((n : Int) + 1) = ((n + 1 : Nat) : Int) := by omega
    have e2 : ((n : Int) + 2) = ((n + 2 : Nat) : Int) := by omega
    generalize hs0 : (us[n]?).getD "white" = s
    have inC : fIn (.str s) c_COLOURS = some (.bool (decide (s ∈ colS))) := in_strs (ws := colS)
    have inP : fIn (.str s) c_PARTS = some (.bool (decide (s ∈ prtS))) := in_strs (ws := prtS)
    have addPP : fAdd c_PARTS c_PIECES = some (.tuple ((prtS ++ pcS).map PyData.str)) := rfl
    have niA : fNotIn (.str s) (.tuple ((prtS ++ pcS).map PyData.str)) = some (.bool (!decide (s ∈ prtS ++ pcS))) := notin_strs
    have wd := word_at (ws := us) (n := n) (ρ := TE8 w h us n none none none none none) (μ := μ) (i := 1) (j := 2) rfl rfl
    rw [hs0] at wd
    have root : ∀ {t : Tree} {x : Str} {xs : List Str}, t.words = x :: xs → Sees us n t.words → s = x := fun {t x xs} e h => by
      rw [e] at h
      exact hs0.symm.trans h.head
    by_cases hc : s ∈ colS
    · obtain ⟨c, rfl⟩ := col_mem.mp hc
      refine .inl ⟨.col c, True.intro, fun i hi => ?_, by simp [Tree.depth], ?_⟩
      · simp only [Tree.words, List.length_singleton] at hi
        have : i = 0 := by omega
        subst this
        exact hs0
      · unfold m_tree_at
        refine call_rt (ρ0 := TE8 w h us n none none none none none) rfl rfl ?_ List.take_length
        refine seq_nx (asg_of wd rfl) (seq_rt (if_yes (μ1 := μ) (val_of (op_of rfl rfl (inC.trans (by rw [decide_eq_true hc])))) (ret_of ?_)))
        simp [encT, Tree.words]
    · have st1 : ∀ r : DS, ∀ o : Out, r (TE8 w h us n (some (.d (.str s))) none none none none) μ = o → sSeq (sIf (bVal (eOp fIn (eVar 3) (eC c_COLOURS))) (sRet (eTup (aCons (eTup (aCons (eVar 3) (aCons (eVar 2) (aCons (eVar 3) (aCons (eTup aNil) aNil))))) (aCons (eOp fAdd (eVar 2) (eC (.int 1))) aNil)))) sNx) r (TE8 w h us n (some (.d (.str s))) none none none none) μ = o := fun r o hr =>
        seq_nx (if_no (val_of (op_of rfl rfl (inC.trans (by rw [decide_eq_false hc])))) rfl) hr
      have noC : ∀ c : Col, s ≠ c.s := fun c z => hc (col_mem.mpr ⟨c, z⟩)
      by_cases ha : s ∈ prtS ++ pcS
      · have niA1 := niA
        rw [decide_eq_true ha] at niA1
        have t1 : bVal (eOp fNotIn (eVar 3) (eOp fAdd (eC c_PARTS) (eC c_PIECES))) (TE8 w h us n (some (.d (.str s))) none none none none) μ = .ok false μ := val_of (op_of rfl (op_of rfl rfl addPP) niA1)
        rcases List.mem_append.mp ha with hp | hq
        · obtain ⟨p, rfl⟩ := prt_mem.mp hp
          by_cases fp : fitP p w h = true
          · have hsw : Side (pW p w) := hw.pW (h := h) fp
            have hsh : Side (pH p h) := hh.pH (w := w) fp
            have hlg := lg_part hw hh fp
            have pm1 := pcsN_mono us (show n ≤ n + 1 by omega)
            have t2 : bNot (bVal (eCall m_fits (aCons (eVar 0) (aCons (eVar 3) aNil)))) (TE8 w h us n (some (.d (.str p.s))) none none none none) μ = .ok false μ := not_of (c := true) (val_of (call2_of rfl rfl (by rw [prog_fitsP, fp])))
            have t3 : bVal (eOp fIn (eVar 3) (eC c_PARTS)) (TE8 w h us n (some (.d (.str p.s))) none none none none) μ = .ok true μ := val_of (op_of rfl rfl (inP.trans (by rw [decide_eq_true hp])))
            have arg1 : aCons (eCall m_part_of (aCons (eVar 0) (aCons (eVar 3) aNil))) (aCons (eVar 1) (aCons (eOp fAdd (eVar 2) (eC (.int 1))) aNil)) (TE8 w h us n (some (.d (.str p.s))) none none none none) μ = .ok [.d (encS (pW p w) (pH p h)), .d (strsD us), .d (.int ((n + 1 : Nat) : Int))] μ :=
              cons_of (call2_of rfl rfl (prog_part p w h μ)) (cons_of rfl (cons_of (op_of (z := .int ((n + 1 : Nat) : Int)) rfl rfl (by simp only [fAdd, e1])) rfl))
            rcases ih (n + 1) (pW p w) (pH p h) μ (by omega) hsw hsh with ⟨a, fa, sa, da, ea⟩ | ⟨pp, ea, na⟩
            · have pm2 := pcsN_mono us (show n ≤ n + 1 + a.words.length by omega)
              have arg2 : aCons (eCall m_part_of (aCons (eVar 0) (aCons (eVar 3) aNil))) (aCons (eVar 1) (aCons (eVar 5) aNil)) (TE8 w h us n (some (.d (.str p.s))) (some (.d (encT (n + 1) a))) (some (.d (.int ((n + 1 + a.words.length : Nat) : Int)))) none none) μ = .ok [.d (encS (pW p w) (pH p h)), .d (strsD us), .d (.int ((n + 1 + a.words.length : Nat) : Int))] μ :=
                cons_of (call2_of rfl rfl (prog_part p w h μ)) (cons_of rfl (cons_of rfl rfl))
              rcases ih (n + 1 + a.words.length) (pW p w) (pH p h) μ (by omega) hsw hsh with ⟨b, fb, sb, db, eb⟩ | ⟨pp, eb, nb⟩
              · have sees : Sees us n (Tree.part p a b).words := fun i hi => by
                  simp only [Tree.words] at hi ⊢
                  cases i with
                  | zero => exact hs0
                  | succ i =>
                    simp only [List.length_cons, List.length_append] at hi
                    by_cases hl : i < a.words.length
                    · rw [List.getElem_cons_succ, List.getElem_append_left hl, ← sa i hl, show n + (i + 1) = n + 1 + i by omega]
                    · rw [List.getElem_cons_succ, List.getElem_append_right (by omega), ← sb (i - a.words.length) (by omega), show n + (i + 1) = n + 1 + a.words.length + (i - a.words.length) by omega]
                refine .inl ⟨.part p a b, ⟨fp, fa, fb⟩, sees, by simp only [Tree.depth]; omega, ?_⟩
                unfold m_tree_at
                refine call_rt (ρ0 := TE8 w h us n none none none none none) rfl rfl ?_ List.take_length
                refine seq_nx (asg_of wd rfl) (st1 _ _ (seq_nx (if_no (or_of (a := false) (b := false) t1 t2) rfl) (seq_rt (if_yes t3 (seq_nx (asg_of (call_of arg1 ea) rfl) (seq_nx (asg_of (call_of arg2 eb) rfl) (ret_of ?_)))))))
                simp [encT, Tree.words]
                omega
              · refine .inr ⟨pp, ?_, fun t ft hs => ?_⟩
                · unfold m_tree_at
                  refine call_err (ρ0 := TE8 w h us n none none none none none) rfl rfl ?_ List.take_length
                  refine seq_nx (asg_of wd rfl) (st1 _ _ (seq_nx (if_no (or_of (a := false) (b := false) t1 t2) rfl) (seq_err (if_err t3 (seq_nx (asg_of (call_of arg1 ea) rfl) (seq_err (asg_err (callE_of arg2 eb))))))))
                · cases t with
                  | col c => exact noC c (root rfl hs)
                  | piece q c t => exact prt_ne_pc p q (root rfl hs)
                  | part p' a' b' =>
                    have ep := Prt.inj (root rfl hs)
                    subst ep
                    have tl := Sees.tail (u := p.s) hs
                    have eab := sees_uniq a a' _ sa tl.left
                    subst eab
                    exact nb b' ft.2.2 tl.right
            · refine .inr ⟨pp, ?_, fun t ft hs => ?_⟩
              · unfold m_tree_at
                refine call_err (ρ0 := TE8 w h us n none none none none none) rfl rfl ?_ List.take_length
                refine seq_nx (asg_of wd rfl) (st1 _ _ (seq_nx (if_no (or_of (a := false) (b := false) t1 t2) rfl) (seq_err (if_err t3 (seq_err (asg_err (callE_of arg1 ea)))))))
              · cases t with
                | col c => exact noC c (root rfl hs)
                | piece q c t => exact prt_ne_pc p q (root rfl hs)
                | part p' a' b' =>
                  have ep := Prt.inj (root rfl hs)
                  subst ep
                  exact na a' ft.2.1 (Sees.tail (u := p.s) hs).left
          · have fp' : fitP p w h = false := Bool.eq_false_iff.mpr fp
            have t2 : bNot (bVal (eCall m_fits (aCons (eVar 0) (aCons (eVar 3) aNil)))) (TE8 w h us n (some (.d (.str p.s))) none none none none) μ = .ok true μ := not_of (c := false) (val_of (call2_of rfl rfl (by rw [prog_fitsP, fp'])))
            refine .inr ⟨n, ?_, fun t ft hs => ?_⟩
            · unfold m_tree_at
              refine call_err (ρ0 := TE8 w h us n none none none none none) rfl rfl ?_ List.take_length
              exact seq_nx (asg_of wd rfl) (st1 _ _ (seq_err (if_err (or_of (a := false) (b := true) t1 t2) (eRaise rfl))))
            · cases t with
              | col c => exact noC c (root rfl hs)
              | piece q c t => exact prt_ne_pc p q (root rfl hs)
              | part p' a' b' =>
                have ep := Prt.inj (root rfl hs)
                subst ep
                exact fp ft.1
        · obtain ⟨q, rfl⟩ := pc_mem.mp hq
          have notP : q.s ∉ prtS := fun z => by
            obtain ⟨p, e⟩ := prt_mem.mp z
            exact prt_ne_pc p q e.symm
          by_cases fq : fitQ q w h = true
          · have t2 : bNot (bVal (eCall m_fits (aCons (eVar 0) (aCons (eVar 3) aNil)))) (TE8 w h us n (some (.d (.str q.s))) none none none none) μ = .ok false μ := not_of (c := true) (val_of (call2_of rfl rfl (by rw [prog_fitsQ, fq])))
            have t3 : bVal (eOp fIn (eVar 3) (eC c_PARTS)) (TE8 w h us n (some (.d (.str q.s))) none none none none) μ = .ok false μ := val_of (op_of rfl rfl (inP.trans (by rw [decide_eq_false notP])))
            have pq := pcsN_pc hs0
            have pm2 := pcsN_mono us (show n + 1 ≤ n + 2 by omega)
            have wd1 := word_at1 (ws := us) (n := n) (ρ := TE8 w h us n (some (.d (.str q.s))) none none none none) (μ := μ) (i := 1) (j := 2) rfl rfl
            generalize hs1 : (us[n + 1]?).getD "white" = s1 at wd1
            have niC : fNotIn (.str s1) c_COLOURS = some (.bool (!decide (s1 ∈ colS))) := notin_strs (ws := colS)
            by_cases hc1 : s1 ∈ colS
            · obtain ⟨c, rfl⟩ := col_mem.mp hc1
              have t4 : bVal (eOp fNotIn (eVar 7) (eC c_COLOURS)) (TE8 w h us n (some (.d (.str q.s))) none none none (some (.d (.str c.s)))) μ = .ok false μ := val_of (op_of rfl rfl (niC.trans (by rw [decide_eq_true hc1]; rfl)))
              have arg : aCons (eVar 0) (aCons (eVar 1) (aCons (eOp fAdd (eVar 2) (eC (.int 2))) aNil)) (TE8 w h us n (some (.d (.str q.s))) none none none (some (.d (.str c.s)))) μ = .ok [.d (encS w h), .d (strsD us), .d (.int ((n + 2 : Nat) : Int))] μ :=
                cons_of rfl (cons_of rfl (cons_of (op_of (z := .int ((n + 2 : Nat) : Int)) rfl rfl (by simp only [fAdd, e2])) rfl))
              rcases ih (n + 2) w h μ (by omega) hw hh with ⟨t, ft, st, dt, et⟩ | ⟨pp, et, nt⟩
              · have sees : Sees us n (Tree.piece q c t).words := fun i hi => by
                  simp only [Tree.words] at hi ⊢
                  cases i with
                  | zero => exact hs0
                  | succ i =>
                    cases i with
                    | zero => exact hs1
                    | succ i =>
                      simp only [List.length_cons] at hi
                      rw [List.getElem_cons_succ, List.getElem_cons_succ, ← st i (by omega), show n + (i + 1 + 1) = n + 2 + i by omega]
                refine .inl ⟨.piece q c t, ⟨fq, ft⟩, sees, by simp only [Tree.depth]; omega, ?_⟩
                unfold m_tree_at
                refine call_rt (ρ0 := TE8 w h us n none none none none none) rfl rfl ?_ List.take_length
                refine seq_nx (asg_of wd rfl) (st1 _ _ (seq_nx (if_no (or_of (a := false) (b := false) t1 t2) rfl) (seq_nx (if_no t3 rfl) (seq_nx (asg_of wd1 rfl) (seq_nx (if_no t4 rfl) (seq_nx (asg_of (call_of arg et) rfl) (ret_of ?_)))))))
                simp [encT, Tree.words]
                omega
              · refine .inr ⟨pp, ?_, fun t ft hs => ?_⟩
                · unfold m_tree_at
                  refine call_err (ρ0 := TE8 w h us n none none none none none) rfl rfl ?_ List.take_length
                  exact seq_nx (asg_of wd rfl) (st1 _ _ (seq_nx (if_no (or_of (a := false) (b := false) t1 t2) rfl) (seq_nx (if_no t3 rfl) (seq_nx (asg_of wd1 rfl) (seq_nx (if_no t4 rfl) (seq_err (asg_err (callE_of arg et))))))))
                · cases t with
                  | col c => exact noC c (root rfl hs)
                  | part p a b => exact prt_ne_pc p q (root rfl hs).symm
                  | piece q' c' t => exact nt t ft.2 (Sees.tail (u := c'.s) (Sees.tail (u := q'.s) hs))
            · have t4 : bVal (eOp fNotIn (eVar 7) (eC c_COLOURS)) (TE8 w h us n (some (.d (.str q.s))) none none none (some (.d (.str s1)))) μ = .ok true μ := val_of (op_of rfl rfl (niC.trans (by rw [decide_eq_false hc1]; rfl)))
              refine .inr ⟨((n + 1 : Nat) : Int), ?_, fun t ft hs => ?_⟩
              · unfold m_tree_at
                refine call_err (ρ0 := TE8 w h us n none none none none none) rfl rfl ?_ List.take_length
                exact seq_nx (asg_of wd rfl) (st1 _ _ (seq_nx (if_no (or_of (a := false) (b := false) t1 t2) rfl) (seq_nx (if_no t3 rfl) (seq_nx (asg_of wd1 rfl) (seq_err (if_err t4 (eRaise (op_of (z := .int ((n + 1 : Nat) : Int)) rfl rfl (by simp only [fAdd, e1])))))))))
              · cases t with
                | col c => exact noC c (root rfl hs)
                | part p a b => exact prt_ne_pc p q (root rfl hs).symm
                | piece q' c' t => exact hc1 (col_mem.mpr ⟨c', hs1.symm.trans (Sees.head (u := c'.s) (Sees.tail (u := q'.s) hs))⟩)
          · have fq' : fitQ q w h = false := Bool.eq_false_iff.mpr fq
            have t2 : bNot (bVal (eCall m_fits (aCons (eVar 0) (aCons (eVar 3) aNil)))) (TE8 w h us n (some (.d (.str q.s))) none none none none) μ = .ok true μ := not_of (c := false) (val_of (call2_of rfl rfl (by rw [prog_fitsQ, fq'])))
            refine .inr ⟨n, ?_, fun t ft hs => ?_⟩
            · unfold m_tree_at
              refine call_err (ρ0 := TE8 w h us n none none none none none) rfl rfl ?_ List.take_length
              exact seq_nx (asg_of wd rfl) (st1 _ _ (seq_err (if_err (or_of (a := false) (b := true) t1 t2) (eRaise rfl))))
            · cases t with
              | col c => exact noC c (root rfl hs)
              | part p a b => exact prt_ne_pc p q (root rfl hs).symm
              | piece q' c' t =>
                have eq := Pc.inj (root rfl hs)
                subst eq
                exact fq ft.1
      · have niA1 := niA
        rw [decide_eq_false ha] at niA1
        refine .inr ⟨n, ?_, fun t ft hs => ?_⟩
        · unfold m_tree_at
          refine call_err (ρ0 := TE8 w h us n none none none none none) rfl rfl ?_ List.take_length
          refine seq_nx (asg_of wd rfl) (st1 _ _ (seq_err (if_err (c := true) (μ1 := μ) ?_ (eRaise rfl))))
          have t1 : bVal (eOp fNotIn (eVar 3) (eOp fAdd (eC c_PARTS) (eC c_PIECES))) (TE8 w h us n (some (.d (.str s))) none none none none) μ = .ok true μ := val_of (op_of rfl (op_of rfl rfl addPP) niA1)
          unfold bOr
          rw [t1]
          rfl
        · cases t with
          | col c => exact noC c (root rfl hs)
          | part p a b => exact ha (List.mem_append_left _ (prt_mem.mpr ⟨p, root rfl hs⟩))
          | piece q c t => exact ha (List.mem_append_right _ (pc_mem.mpr ⟨q, root rfl hs⟩))
end Bz
set_option Elab.async false
set_option linter.all false
set_option maxRecDepth 100000
set_option maxHeartbeats 2000000
/-! few: all drawings of few words. -/
namespace Bz
open PySem
open Classical in
/-- words that are a saying of a size -/
def Sy (w h : Nat) (us : List Str) (t : Tree) : Prop := t.Fit w h ∧ Sees us 0 t.words ∧ us.length ≤ t.words.length
theorem tree_of_any {us : List Str} {w h : Nat} (μ : Mem) (hw : Side w) (hh : Side h) (hp : pcsN us 0 + (lg w + lg h) < 90) :
    (∃ t, Sy w h us t ∧ t.depth < 90 ∧ m_tree_of [.d (encS w h), .d (strsD us)] μ = .ok (.d (encT 0 t)) μ) ∨
    (∃ p : Int, m_tree_of [.d (encS w h), .d (strsD us)] μ = .err ⟨4, some p⟩ μ ∧ ∀ t, ¬ Sy w h us t) := by
  rcases tree_at_any (us := us) 90 0 w h μ hp hw hh with ⟨t, ft, st, dt, et⟩ | ⟨p, et, nt⟩
  · by_cases hl : us.length ≤ t.words.length
    · exact .inl ⟨t, ⟨ft, st, hl⟩, dt, tree_of_ok t w h μ hw hh dt ft st hl⟩
    · refine .inr ⟨((0 + t.words.length : Nat) : Int), ?_, fun u hu => ?_⟩
      · unfold m_tree_of
        refine call_err (ρ0 := [some (.d (encS w h)), some (.d (strsD us)), none, none]) rfl rfl ?_ List.take_length
        refine seq_nx (drop_of (call_of (cons_of rfl rfl) (need_size_ok w h hw hh μ))) ?_
        refine seq_nx (asg_of (call3_of rfl rfl rfl et) rfl) ?_
        refine seq_err (if_err (c := true) (μ1 := μ) (val_of (op_of rfl (cb1_of rfl (len_strs us)) ?_)) (eRaise rfl))
        have : ((0 + t.words.length : Nat) : Int) < (us.length : Int) := by omega
        simp only [fLt, this, decide_true]
      · have e := sees_uniq t u 0 st hu.2.1
        subst e
        exact hl hu.2.2
  · refine .inr ⟨p, ?_, fun u hu => nt u hu.1 hu.2.1⟩
    unfold m_tree_of
    refine call_err (ρ0 := [some (.d (encS w h)), some (.d (strsD us)), none, none]) rfl rfl ?_ List.take_length
    refine seq_nx (drop_of (call_of (cons_of rfl rfl) (need_size_ok w h hw hh μ))) ?_
    exact seq_err (asg_err (callE_of (cons_of rfl (cons_of rfl (cons_of rfl rfl))) et))
theorem dn_any {us : List Str} {w h : Nat} (μ : Mem) (hw : Side w) (hh : Side h) (hp : pcsN us 0 + (lg w + lg h) < 90) :
    (∃ t, Sy w h us t ∧ m_drawing_or_none [.d (encS w h), .d (strsD us)] μ = .ok (.d (encM w h (cell t w h))) μ) ∨
    (m_drawing_or_none [.d (encS w h), .d (strsD us)] μ = .ok (.d .none) μ ∧ ∀ t, ¬ Sy w h us t) := by
  rcases tree_of_any μ hw hh hp with ⟨t, st, dt, et⟩ | ⟨p, et, nt⟩
  · refine .inl ⟨t, st, ?_⟩
    unfold m_drawing_or_none
    refine call_rt (ρ0 := [some (.d (encS w h)), some (.d (strsD us))]) rfl rfl ?_ List.take_length
    have e : sRet (eCall m_drawn (aCons (eVar 0) (aCons (eVar 1) aNil))) [some (.d (encS w h)), some (.d (strsD us))] μ = .rt (.d (encM w h (cell t w h))) μ := ret_of (call2_of rfl rfl (drawn_of t w h μ hw hh dt st.1 st.2.1 st.2.2))
    show sTry _ _ _ _ _ = _
    unfold sTry
    rw [e]
  · refine .inr ⟨?_, nt⟩
    unfold m_drawing_or_none
    refine call_rt (ρ0 := [some (.d (encS w h)), some (.d (strsD us))]) rfl rfl ?_ List.take_length
    have d : m_drawn [.d (encS w h), .d (strsD us)] μ = .err ⟨4, some p⟩ μ := by
      unfold m_drawn
      refine call_err (ρ0 := [some (.d (encS w h)), some (.d (strsD us))]) rfl rfl ?_ List.take_length
      have e2 : eCall m_tree_of (aCons (eVar 0) (aCons (eVar 1) aNil)) [some (.d (encS w h)), some (.d (strsD us))] μ = .err ⟨4, some p⟩ μ := callE_of (cons_of rfl (cons_of rfl rfl)) et
      have e3 : eCall (m_drawing_of 90) (aCons (eVar 0) (aCons (eCall m_tree_of (aCons (eVar 0) (aCons (eVar 1) aNil))) aNil)) [some (.d (encS w h)), some (.d (strsD us))] μ = .err ⟨4, some p⟩ μ := by
        unfold eCall at e2 ⊢
        simp only [aCons, eVar, List.getElem?_cons_zero, List.getElem?_cons_succ, R.bind, aNil] at e2 ⊢
        rw [e2]
      show sRet _ _ _ = _
      unfold sRet
      rw [e3]
      rfl
    have e : sRet (eCall m_drawn (aCons (eVar 0) (aCons (eVar 1) aNil))) [some (.d (encS w h)), some (.d (strsD us))] μ = .err ⟨4, some p⟩ μ := by
      unfold sRet
      rw [callE_of (cons_of rfl (cons_of rfl rfl)) d]
      rfl
    show sTry _ _ _ _ _ = _
    unfold sTry
    rw [e]
    rfl
/-! ### all words in turn -/
def W13 : List Str := colS ++ prtS ++ pcS
theorem word_W13 {t : Tree} {x : Str} (h : x ∈ t.words) : x ∈ W13 := by
  refine Tree.words_all (P := fun x => x ∈ W13) (fun c => ?_) (fun p => ?_) (fun q => ?_) t x h
  · exact List.mem_append_left _ (List.mem_append_left _ (col_mem.mpr ⟨c, rfl⟩))
  · exact List.mem_append_left _ (List.mem_append_right _ (prt_mem.mpr ⟨p, rfl⟩))
  · exact List.mem_append_right _ (pc_mem.mpr ⟨q, rfl⟩)
open Classical in
noncomputable def nxt (w h : Nat) (us : List Str) : List (List Str) := if ∃ t, Sy w h us t then W13.map fun x => us ++ [x] else []
noncomputable def grow (w h : Nat) : Nat → List (List Str)
  | 0 => [[]]
  | j + 1 => (grow w h j).flatMap (nxt w h)
theorem nxt_len (w h : Nat) (us : List Str) : (nxt w h us).length ≤ 13 := by
  unfold nxt
  split
  · rw [List.length_map]
    decide
  · simp
theorem flat_le {α β : Type} {f : α → List β} {n : Nat} : ∀ (xs : List α), (∀ x, (f x).length ≤ n) → (xs.flatMap f).length ≤ xs.length * n
  | [], _ => by simp
  | x :: xs, h => by
    have h1 := h x
    have h2 := flat_le xs h
    rw [List.flatMap_cons, List.length_append, List.length_cons, Nat.succ_mul]
    omega
theorem grow_le (w h : Nat) : ∀ j, (grow w h j).length ≤ 13 ^ j
  | 0 => by simp [grow]
  | j + 1 => by
    have h1 := flat_le (grow w h j) (nxt_len w h)
    have h2 := Nat.mul_le_mul_right 13 (grow_le w h j)
    rw [grow, Nat.pow_succ]
    omega
theorem grow_len {w h : Nat} : ∀ {j : Nat} {us : List Str}, us ∈ grow w h j → us.length = j
  | 0, us, hu => by
    simp only [grow, List.mem_singleton] at hu
    simp [hu]
  | j + 1, us, hu => by
    rw [grow, List.mem_flatMap] at hu
    obtain ⟨vs, h1, h2⟩ := hu
    unfold nxt at h2
    split at h2
    · obtain ⟨x, _, rfl⟩ := List.mem_map.mp h2
      simp [grow_len h1]
    · simp at h2
theorem Sy.split {w h : Nat} {us : List Str} {t : Tree} (T : Sy w h us t) : t.words = us ++ List.replicate (t.words.length - us.length) ("white" : Str) := sees_split T.2.1 T.2.2
theorem Sy.pre {w h : Nat} {us vs : List Str} {t : Tree} (T : Sy w h (us ++ vs) t) : ∃ u, Sy w h us u := by
  have e := T.split
  have hl := T.2.2
  rw [List.length_append] at hl
  obtain ⟨u, u1, u2, n, u3⟩ := cut_tree t w h T.1 us.length (by omega)
  have e2 : t.words.take us.length = us := by
    rw [e, List.append_assoc, List.take_left]
  rw [e2] at u3
  refine ⟨u, u1, ?_, ?_⟩
  · rw [u3]
    exact sees_white _ _
  · rw [u3, List.length_append]
    omega
theorem grow_all {w h : Nat} : ∀ {n : Nat} {us : List Str} {t : Tree}, us.length = n → Sy w h us t → us ∈ grow w h n
  | 0, us, t, hl, T => by
    rw [List.length_eq_zero_iff.mp hl]
    simp [grow]
  | n + 1, us, t, hl, T => by
    rcases List.eq_nil_or_concat us with rfl | ⟨vs, x, rfl⟩
    · simp at hl
    · simp only [List.concat_eq_append] at T hl ⊢
      obtain ⟨u, hu⟩ := T.pre
      have hv : vs.length = n := by simpa using hl
      rw [grow, List.mem_flatMap]
      refine ⟨vs, grow_all hv hu, ?_⟩
      unfold nxt
      rw [if_pos ⟨u, hu⟩]
      refine List.mem_map.mpr ⟨x, word_W13 (t := t) ?_, rfl⟩
      rw [T.split]
      simp
/-! ### the dict -/
def keysD (kvs : List (PyData × PyData)) : List PyData := kvs.map (·.1)
theorem putN_keys {kvs : List (PyData × PyData)} {x d : PyData} {n : NestedKey} : keysD (putN kvs x n d) = if (lookN kvs n).isSome then keysD kvs else keysD kvs ++ [x] := by
  unfold keysD
  induction kvs with
  | nil => simp [putN, lookN]
  | cons q r ih =>
    obtain ⟨a, e⟩ := q
    by_cases ha : nkOf a = some n
    · simp [putN, lookN, ha]
    · simp only [putN, lookN, if_neg ha, List.map_cons, ih]
      split <;> simp
theorem look_some {kvs : List (PyData × PyData)} {n : NestedKey} (h : (lookN kvs n).isSome = true) : ∃ a ∈ keysD kvs, nkOf a = some n := by
  obtain ⟨d, hd⟩ := Option.isSome_iff_exists.mp h
  obtain ⟨a, h1, h2⟩ := lookN_mem hd
  exact ⟨a, List.mem_map.mpr ⟨_, h1, rfl⟩, h2⟩
theorem look_no {kvs : List (PyData × PyData)} {n : NestedKey} (h : ¬ (lookN kvs n).isSome = true) : ∀ a ∈ keysD kvs, nkOf a ≠ some n := by
  intro a ha
  obtain ⟨p, hp, rfl⟩ := List.mem_map.mp ha
  intro e
  have : some n ∉ kvs.map fun p => nkOf p.1 := look_none (by cases hl : (lookN kvs n).isSome with | false => rfl | true => exact absurd hl h)
  exact this (List.mem_map.mpr ⟨p, hp, e⟩)
theorem encM_key {w h : Nat} (hh : 1 ≤ h) {f g : Nat → Nat → Col} (e : nkOf (encM w h f) = nkOf (encM w h g)) : encM w h f = encM w h g := by
  have q : keyP w h (full f) = keyP w h (full g) := by
    have e1 : nkOf (encM w h f) = some (keyP w h (full f)) := nk_encP w h (full f)
    have e2 : nkOf (encM w h g) = some (keyP w h (full g)) := nk_encP w h (full g)
    rw [e1, e2] at e
    exact Option.some.inj e
  obtain ⟨_, _, a⟩ := keyP_inj hh q
  exact encM_congr fun r hr k hk => Option.some.inj (a r hr k hk)
structure DcI (w h : Nat) (kvs : List (PyData × PyData)) (dn : List (List Str)) : Prop where
  from_ : ∀ d ∈ keysD kvs, ∃ us ∈ dn, ∃ t, Sy w h us t ∧ d = encM w h (cell t w h)
  all : ∀ us ∈ dn, ∀ t, Sy w h us t → encM w h (cell t w h) ∈ keysD kvs
  nd : (keysD kvs).Nodup
  len : kvs.length ≤ dn.length
theorem Sy.uniq {w h : Nat} {us : List Str} {t u : Tree} (T : Sy w h us t) (U : Sy w h us u) : t = u := sees_uniq t u 0 T.2.1 U.2.1
theorem DcI.skip {w h : Nat} {kvs : List (PyData × PyData)} {dn : List (List Str)} (D : DcI w h kvs dn) {us : List Str} (hn : ∀ t, ¬ Sy w h us t) : DcI w h kvs (dn ++ [us]) := by
  refine ⟨fun d hd => ?_, fun vs hv t T => ?_, D.nd, ?_⟩
  · obtain ⟨vs, h1, h2⟩ := D.from_ d hd
    exact ⟨vs, List.mem_append_left _ h1, h2⟩
  · rcases List.mem_append.mp hv with hv | hv
    · exact D.all vs hv t T
    · rw [List.mem_singleton.mp hv] at T
      exact absurd T (hn t)
  · have := D.len
    rw [List.length_append]
    omega
theorem DcI.put {w h : Nat} (hh : 1 ≤ h) {kvs : List (PyData × PyData)} {dn : List (List Str)} (D : DcI w h kvs dn) {us : List Str} {t : Tree} (T : Sy w h us t) (v : PyData) : DcI w h (putN kvs (encM w h (cell t w h)) (keyP w h (full (cell t w h))) v) (dn ++ [us]) := by
  have nk : nkOf (encM w h (cell t w h)) = some (keyP w h (full (cell t w h))) := nk_encP w h (full (cell t w h))
  have ek := putN_keys (kvs := kvs) (x := encM w h (cell t w h)) (d := v) (n := keyP w h (full (cell t w h)))
  have lk : (putN kvs (encM w h (cell t w h)) (keyP w h (full (cell t w h))) v).length = (keysD (putN kvs (encM w h (cell t w h)) (keyP w h (full (cell t w h))) v)).length := by simp [keysD]
  have l0 : (keysD kvs).length = kvs.length := by simp [keysD]
  have dl := D.len
  by_cases hs : (lookN kvs (keyP w h (full (cell t w h)))).isSome = true
  · rw [if_pos hs] at ek
    obtain ⟨a, ha, e⟩ := look_some hs
    have hin : encM w h (cell t w h) ∈ keysD kvs := by
      obtain ⟨vs, _, u, _, rfl⟩ := D.from_ a ha
      rw [encM_key hh (nk.trans e.symm)]
      exact ha
    refine ⟨fun d hd => ?_, fun vs hv u U => ?_, by rw [ek]; exact D.nd, by rw [lk, ek, l0, List.length_append]; omega⟩
    · rw [ek] at hd
      obtain ⟨vs, h1, h2⟩ := D.from_ d hd
      exact ⟨vs, List.mem_append_left _ h1, h2⟩
    · rw [ek]
      rcases List.mem_append.mp hv with hv | hv
      · exact D.all vs hv u U
      · rw [List.mem_singleton.mp hv] at U
        rw [← T.uniq U]
        exact hin
  · rw [if_neg hs] at ek
    refine ⟨fun d hd => ?_, fun vs hv u U => ?_, ?_, by rw [lk, ek, List.length_append, List.length_append, l0, List.length_singleton, List.length_singleton]; omega⟩
    · rw [ek] at hd
      rcases List.mem_append.mp hd with hd | hd
      · obtain ⟨vs, h1, h2⟩ := D.from_ d hd
        exact ⟨vs, List.mem_append_left _ h1, h2⟩
      · exact ⟨us, by simp, t, T, List.mem_singleton.mp hd⟩
    · rw [ek]
      rcases List.mem_append.mp hv with hv | hv
      · exact List.mem_append_left _ (D.all vs hv u U)
      · rw [List.mem_singleton.mp hv] at U
        rw [← T.uniq U]
        simp
    · rw [ek, List.nodup_append]
      refine ⟨D.nd, by simp, fun a ha b hb => ?_⟩
      rw [List.mem_singleton.mp hb]
      intro z
      exact look_no hs a ha (by rw [z, nk])
/-! ### the loops -/
abbrev FE (w h n : Nat) (a2 a3 a4 a5 a6 a7 : Option S) : Env := [some (.d (encS w h)), some (.d (.int n)), a2, a3, a4, a5, a6, a7, none]
abbrev fewB : DS := (sSeq (sAsg (eCall m_drawing_or_none (aCons (eVar 0) (aCons (eVar 6) aNil))) (gNm 7))
  (sIf (bVal (eOp fIsNot (eVar 7) (eC .none))) (sSeq (sSetD (eC (.bool true)) (eVar 3) (eVar 7))
  (sDrop (eExt (eVar 5) (eComp (iSeq (eOp fAdd (eOp fAdd (eC c_COLOURS) (eC c_PARTS)) (eC c_PIECES))) (gNm 8) bYes (eOp fAdd (eVar 6) (eTup (aCons (eVar 8) aNil))) [8])))) sNx))
/-- what stands in the memory: all as at first, the dict, the list that grows -/
structure FM (μ N : Mem) (hd hl : Nat) (kvs : List (PyData × PyData)) (ls : List (List Str)) : Prop where
  old : N.take μ.length = μ
  dd : N[hd]? = some (.dic kvs)
  ll : N[hl]? = some (.lst (ls.map strsD))
theorem take_set {μ N : Mem} {i : Nat} {o : M} (h : N.take μ.length = μ) (hi : μ.length ≤ i) : (N.set i o).take μ.length = μ := by
  rw [List.take_set_of_le hi]
  exact h
theorem few_words {w h n : Nat} (hw : Side w) (hh : Side h) {μ : Mem} {hd hl : Nat} (h1 : μ.length ≤ hd) (h2 : μ.length ≤ hl) (hne : hd ≠ hl) {a2 a4 : Option S} (all dn0 : List (List Str)) (ha : ∀ us ∈ all, us.length ≤ 3) (hlen : dn0.length + all.length ≤ 10000) {a6 a7 : Option S} {N : Mem} {kvs : List (PyData × PyData)} (F : FM μ N hd hl kvs []) (D : DcI w h kvs dn0) :
    ∃ b6 b7 M' kvs', forGo (gNm 6) fewB (all.map strsD) (FE w h n a2 (some (.m hd)) a4 (some (.m hl)) a6 a7) N = .nx (FE w h n a2 (some (.m hd)) a4 (some (.m hl)) b6 b7) M' ∧ FM μ M' hd hl kvs' (all.flatMap (nxt w h)) ∧ DcI w h kvs' (dn0 ++ all) := by
  have w8 := hw.le
  have h8 := hh.le
  have g1 := lg_le (n := w)
  have g2 := lg_le (n := h)
  obtain ⟨ρ', M', e, b6, b7, kvs', rfl, F', D'⟩ := for_all (g := gNm 6) (b := fewB) (enc := strsD) (fun pre ρ N => ∃ b6 b7 kvs, ρ = FE w h n a2 (some (.m hd)) a4 (some (.m hl)) b6 b7 ∧ FM μ N hd hl kvs (pre.flatMap (nxt w h)) ∧ DcI w h kvs (dn0 ++ pre)) all (ρ := FE w h n a2 (some (.m hd)) a4 (some (.m hl)) a6 a7) (μ := N) ⟨_, _, kvs, rfl, F, by rw [List.append_nil]; exact D⟩ (by
    rintro pre us post hp ρ N ⟨b6, b7, kvs, rfl, F, D⟩
    have hus : us.length ≤ 3 := ha us (by rw [← hp]; simp)
    have hpl : pre.length < all.length := by rw [← hp]; simp
    have hpc : pcsN us 0 ≤ 3 := by
      unfold pcsN
      exact Nat.le_trans (List.length_filter_le _ _) (by simpa using hus)
    have hfl := flat_le pre (nxt_len w h)
    have hdl := D.len
    rw [List.length_append] at hdl
    have w13 : W13.length = 13 := by decide
    rcases dn_any (us := us) N hw hh (by omega) with ⟨t, T, et⟩ | ⟨et, nt⟩
    · have nx : nxt w h us = W13.map fun x => us ++ [x] := by
        unfold nxt
        rw [if_pos ⟨t, T⟩]
      have hlt : hd < N.length := (List.getElem?_eq_some_iff.mp F.dd).1
      have hlt2 : hl < N.length := (List.getElem?_eq_some_iff.mp F.ll).1
      have ll2 : (N.set hd (.dic (putN kvs (encM w h (cell t w h)) (keyP w h (full (cell t w h))) (.bool true))))[hl]? = some (.lst ((pre.flatMap (nxt w h)).map strsD)) := by
        rw [List.getElem?_set_ne hne]
        exact F.ll
      refine ⟨_, FE w h n a2 (some (.m hd)) a4 (some (.m hl)) (some (.d (strsD us))) (some (.d (encM w h (cell t w h)))), (N.set hd (.dic (putN kvs (encM w h (cell t w h)) (keyP w h (full (cell t w h))) (.bool true)))).set hl (.lst ((pre.flatMap (nxt w h)).map strsD ++ (W13.map fun x => us ++ [x]).map strsD)), rfl, ?_, _, _, putN kvs (encM w h (cell t w h)) (keyP w h (full (cell t w h))) (.bool true), rfl, ⟨?_, ?_, ?_⟩, ?_⟩
      · refine seq_nx (asg_of (call2_of rfl rfl et) rfl) ?_
        refine if_yes (μ1 := N) (val_of (op_of rfl rfl rfl)) ?_
        refine seq_nx (setD_of (w := w) (h := h) (f := full (cell t w h)) (kvs := kvs) (d := .bool true) (hk := hd) (μ1 := N) rfl rfl rfl F.dd (by omega)) ?_
        refine drop_of (ext_of (ys := (W13.map fun x => us ++ [x]).map strsD) rfl ll2 ?_ (by simp only [List.length_map, w13]; omega))
        refine comp_of (xs := W13.map PyData.str) (iseqT_of rfl) ?_
        have c := comp_map (gt := gNm 8) (g := PyData.str) (f := fun x : Str => strsD (us ++ [x])) (ρ' := fun x : Str => [some (.d (encS w h)), some (.d (.int n)), a2, some (.m hd), a4, some (.m hl), some (.d (strsD us)), some (.d (encM w h (cell t w h))), some (.d (.str x))]) (e := eOp fAdd (eVar 6) (eTup (aCons (eVar 8) aNil))) (ρ := [some (.d (encS w h)), some (.d (.int n)), a2, some (.m hd), a4, some (.m hl), some (.d (strsD us)), some (.d (encM w h (cell t w h))), none]) (μ := N.set hd (.dic (putN kvs (encM w h (cell t w h)) (keyP w h (full (cell t w h))) (.bool true)))) W13 [] (by decide) (fun x _ => rfl) (fun x _ => op_of (v := strsD [x]) rfl rfl (add_strs (by simp; omega)))
        refine c.trans ?_
        rw [List.nil_append, List.map_map]
        rfl
      · exact take_set (take_set F.old h1) h2
      · rw [List.getElem?_set_ne (Ne.symm hne)]
        exact List.getElem?_set_self hlt
      · rw [List.getElem?_set_self (by simpa using hlt2), List.flatMap_append, List.map_append]
        simp [nx]
      · rw [← List.append_assoc]
        exact D.put hh.pos T _
    · have nx : nxt w h us = [] := by
        unfold nxt
        rw [if_neg]
        rintro ⟨t, T⟩
        exact nt t T
      refine ⟨_, FE w h n a2 (some (.m hd)) a4 (some (.m hl)) (some (.d (strsD us))) (some (.d .none)), N, rfl, ?_, _, _, kvs, rfl, ⟨F.old, F.dd, ?_⟩, ?_⟩
      · exact seq_nx (asg_of (call2_of rfl rfl et) rfl) (if_no (μ1 := N) (val_of (op_of rfl rfl rfl)) rfl)
      · rw [List.flatMap_append]
        simp [nx, F.ll]
      · rw [← List.append_assoc]
        exact D.skip nt)
  exact ⟨b6, b7, M', kvs', e, F', D'⟩
end Bz
set_option Elab.async false
set_option linter.all false
set_option maxRecDepth 100000
set_option maxHeartbeats 2000000
/-! few: what it tells. -/
namespace Bz
open PySem
abbrev fewT : DS := (sSeq (sAsg (eNew (eLst aNil)) (gNm 5)) (sSeq (sFor (iSeq (eVar 2)) (gNm 6) fewB) (sAsg (eVar 5) (gNm 2))))
noncomputable def upTo (w h j : Nat) : List (List Str) := (List.range j).flatMap (grow w h)
theorem upTo_succ (w h j : Nat) : upTo w h (j + 1) = upTo w h j ++ grow w h j := by
  unfold upTo
  rw [List.range_succ, List.flatMap_append]
  simp
theorem pow13 {j : Nat} (h : j ≤ 3) : 13 ^ j ≤ 2197 := Nat.pow_le_pow_right (by omega) h
theorem upTo_len (w h : Nat) : ∀ j, j ≤ 4 → (upTo w h j).length ≤ j * 2197
  | 0, _ => by simp [upTo]
  | j + 1, hj => by
    have h1 := upTo_len w h j (by omega)
    have h2 := grow_le w h j
    have h3 := pow13 (j := j) (by omega)
    rw [upTo_succ, List.length_append]
    omega
structure TI (w h n : Nat) (μ : Mem) (hd j : Nat) (ρ : Env) (N : Mem) : Prop where
  ex : ∃ a2 a4 a5 a6 a7 kvs, ρ = FE w h n a2 (some (.m hd)) a4 a5 a6 a7 ∧ N.take μ.length = μ ∧ N[hd]? = some (.dic kvs) ∧ DcI w h kvs (upTo w h j) ∧
    (a2 = some (.d (.list ((grow w h j).map strsD))) ∨ ∃ hs, a2 = some (.m hs) ∧ hd < hs ∧ N[hs]? = some (.lst ((grow w h j).map strsD)))
theorem few_turns {w h n : Nat} (hw : Side w) (hh : Side h) (hn : n ≤ 3) {μ : Mem} {hd : Nat} (h1 : μ.length ≤ hd) {ρ : Env} {N : Mem} (H : TI w h n μ hd 0 ρ N) : ∃ ρ' N', forGo (gNm 4) fewT (upFrom 0 (n + 1)) ρ N = .nx ρ' N' ∧ TI w h n μ hd (n + 1) ρ' N' := by
  rw [upFrom0]
  refine for_ix (TI w h n μ hd) H ?_
  rintro j hj ρ N ⟨a2, a4, a5, a6, a7, kvs, rfl, ho, hdd, D, ha⟩
  have hlt : hd < N.length := (List.getElem?_eq_some_iff.mp hdd).1
  have hul := upTo_len w h j (by omega)
  have hgl := grow_le w h j
  have hp := pow13 (j := j) (by omega)
  obtain ⟨N2, xs0, e2, F2⟩ : ∃ N2, ∃ (_ : Unit), iSeq (eVar 2) (FE w h n a2 (some (.m hd)) (some (.d (.int j))) (some (.m N.length)) a6 a7) (N ++ [.lst []]) = .ok ((grow w h j).map strsD) N2 ∧ FM μ N2 hd N.length kvs [] := by
    have oldA : (N ++ [M.lst []]).take μ.length = μ := by
      rw [List.take_append_of_le_length (by omega)]
      exact ho
    have ddA : (N ++ [M.lst []])[hd]? = some (.dic kvs) := by
      rw [List.getElem?_append_left hlt]
      exact hdd
    have llA : (N ++ [M.lst []])[N.length]? = some (.lst []) := by simp
    rcases ha with rfl | ⟨hs, rfl, hs1, hs2⟩
    · exact ⟨_, (), iseq_of rfl, ⟨oldA, ddA, llA⟩⟩
    · have hsl : hs < N.length := (List.getElem?_eq_some_iff.mp hs2).1
      have hsA : (N ++ [M.lst []])[hs]? = some (.lst ((grow w h j).map strsD)) := by
        rw [List.getElem?_append_left hsl]
        exact hs2
      refine ⟨_, (), iseqM_of rfl hsA, ⟨take_set oldA (by omega), ?_, ?_⟩⟩
      · rw [List.getElem?_set_ne (by omega)]
        exact ddA
      · rw [List.getElem?_set_ne (by omega)]
        exact llA
  obtain ⟨b6, b7, N3, kvs3, e3, F3, D3⟩ := few_words (n := n) hw hh h1 (show μ.length ≤ N.length by omega) (show hd ≠ N.length by omega) (a2 := a2) (a4 := some (.d (.int j))) (grow w h j) (upTo w h j) (fun us hu => by rw [grow_len hu]; omega) (by omega) (a6 := a6) (a7 := a7) F2 D
  refine ⟨_, FE w h n (some (.m N.length)) (some (.m hd)) (some (.d (.int j))) (some (.m N.length)) b6 b7, N3, rfl, ?_, ⟨_, _, _, _, _, kvs3, rfl, F3.old, F3.dd, by rw [upTo_succ]; exact D3, .inr ⟨N.length, rfl, hlt, F3.ll⟩⟩⟩
  refine seq_nx new_of ?_
  exact seq_nx (for_of e2 e3) (asg_of rfl rfl)
theorem alike_rowD {w : Nat} {f g : Nat → Col} : PySem.W.alike (rowD w f) (rowD w g) = true := by
  unfold rowD
  simp only [PySem.W.alike]
  generalize List.range w = ks
  induction ks with
  | nil => rfl
  | cons k ks ih => simp [PySem.W.alikeAll, PySem.W.alike, ih]
theorem alike_encM {w h : Nat} {f g : Nat → Nat → Col} : PySem.W.alike (encM w h f) (encM w h g) = true := by
  unfold encM rowsL
  simp only [PySem.W.alike]
  generalize List.range h = ks
  induction ks with
  | nil => rfl
  | cons k ks ih => simp [PySem.W.alikeAll, alike_rowD, ih]
/-- drawings of a size -/
def AreM (w h : Nat) (ks : List PyData) : Prop := ∀ d ∈ ks, ∃ f, d = encM w h f
theorem alikeAt_M {w h : Nat} {ks : List PyData} (H : AreM w h ks) : alikeAt ks = true := by
  unfold alikeAt
  rw [List.all_eq_true]
  intro d hd
  obtain ⟨f, rfl⟩ := H d hd
  rw [Bool.and_eq_true, Bool.and_eq_true, List.all_eq_true]
  have := depth_encM w h f
  refine ⟨⟨canLay_encM w h f, decide_eq_true (by omega)⟩, fun d' hd' => ?_⟩
  obtain ⟨g, rfl⟩ := H d' hd'
  exact alike_encM
theorem isTup_M {w h : Nat} (hh : 1 ≤ h) {ks : List PyData} (H : AreM w h ks) : ks.all isTupC = true := by
  rw [List.all_eq_true]
  intro d hd
  obtain ⟨f, rfl⟩ := H d hd
  obtain ⟨h, rfl⟩ : ∃ m, h = m + 1 := ⟨h - 1, by omega⟩
  simp [encM, rowsL, List.range_succ_eq_map, isTupC]
theorem sortD_M {w h : Nat} (hh : 1 ≤ h) {ks : List PyData} (H : AreM w h ks) (hl : ks.length ≤ 1000000) : bSortD ks = some (.list (ks.mergeSort dLe)) := by
  have hs : small ks.length = true := decide_eq_true hl
  simp only [bSortD, hs, alikeAt_M H, isTup_M hh H, Bool.and_self, if_true]
theorem max_side {w h : Nat} (hw : Side w) (hh : Side h) (h4 : w ≤ 4) (h4' : h ≤ 4) : ∃ z : Int, bMax [encS w h] = some (.int z) ∧ z ≤ 4 := by
  rcases hw with rfl | rfl | rfl | rfl <;> rcases hh with rfl | rfl | rfl | rfl <;> first | omega | exact ⟨_, rfl, by decide⟩
/-! order -/
theorem dLe_trans (a b c : PyData) (h1 : dLe a b = true) (h2 : dLe b c = true) : dLe a c = true := by
  unfold dLe at *
  cases h : PySem.W.dataLt c a with
  | false => rfl
  | true =>
    have q := (PyProof.Rows.listOrd PyProof.Rows.itemOrd).negTrans (PySem.W.keyToks c) (PySem.W.keyToks b) (PySem.W.keyToks a) h
    rcases q with q | q
    · have q' : PySem.W.dataLt c b = true := q
      rw [q'] at h2
      cases h2
    · have q' : PySem.W.dataLt b a = true := q
      rw [q'] at h1
      cases h1
theorem dLe_total (a b : PyData) : (dLe a b || dLe b a) = true := by
  unfold dLe
  cases h1 : PySem.W.dataLt b a with
  | false => rfl
  | true =>
    cases h2 : PySem.W.dataLt a b with
    | false => rfl
    | true =>
      have q := (PyProof.Rows.listOrd PyProof.Rows.itemOrd).trans _ _ _ h1 h2
      rw [(PyProof.Rows.listOrd PyProof.Rows.itemOrd).irrefl] at q
      cases q
theorem dLe_anti {w h : Nat} {f g : Nat → Nat → Col} (h1 : dLe (encM w h f) (encM w h g) = true) (h2 : dLe (encM w h g) (encM w h f) = true) : encM w h f = encM w h g := by
  unfold dLe at h1 h2
  have e : PySem.W.keyToks (encM w h f) = PySem.W.keyToks (encM w h g) := (PyProof.Rows.listOrd PyProof.Rows.itemOrd).total _ _ (by
    cases q : PySem.W.dataLt (encM w h f) (encM w h g) with
    | false => exact q
    | true => rw [q] at h2; cases h2) (by
    cases q : PySem.W.dataLt (encM w h g) (encM w h f) with
    | false => exact q
    | true => rw [q] at h1; cases h1)
  have t := PySem.W.toks_eqv (encM w h f) (encM w h g) alike_encM
  cases q : PyData.eqv (encM w h f) (encM w h g) with
  | true =>
    rw [eqv_encM] at q
    exact encM_congr (sameM_iff.mp q)
  | false =>
    have z := t.2 q [.inl 0] [.inl 1]
    rw [e, PySem.W.lex_pre] at z
    have z1 : PyProof.Rows.lexLt PyProof.Rows.itemOrd [.inl 0] [.inl 1] = true := by decide
    have z2 : PyProof.Rows.lexLt PyProof.Rows.itemOrd (PySem.W.keyToks (encM w h g)) (PySem.W.keyToks (encM w h g)) = false := (PyProof.Rows.listOrd PyProof.Rows.itemOrd).irrefl _
    rw [z1, z2] at z
    cases z
theorem perm_of {α : Type} : ∀ {xs ys : List α}, xs.Nodup → ys.Nodup → (∀ a, a ∈ xs ↔ a ∈ ys) → xs.Perm ys
  | [], ys, _, _, h => by
    cases ys with
    | nil => exact .nil
    | cons y ys => exact absurd ((h y).mpr (by simp)) (by simp)
  | x :: xs, ys, nx, ny, h => by
    obtain ⟨a, b, rfl⟩ := List.append_of_mem ((h x).mp (by simp))
    rw [List.nodup_cons] at nx
    have ny2 := List.perm_middle.nodup_iff.mp ny
    rw [List.nodup_cons] at ny2
    refine .trans (.cons x (perm_of nx.2 ny2.2 fun z => ?_)) List.perm_middle.symm
    have hz := h z
    simp only [List.mem_cons, List.mem_append] at hz ⊢
    constructor
    · intro hzx
      rcases hz.mp (.inr hzx) with q | q | q
      · exact .inl q
      · subst q
        exact absurd hzx nx.1
      · exact .inr q
    · intro hq
      rcases hz.mpr (by rcases hq with q | q; exact .inl q; exact .inr (.inr q)) with q | q
      · subst q
        exact absurd (List.mem_append.mpr hq) ny2.1
      · exact q
theorem sort_pw (ks : List PyData) : (ks.mergeSort dLe).Pairwise fun a b => dLe a b = true := List.pairwise_mergeSort dLe_trans dLe_total ks
theorem sort_uniq {w h : Nat} {ks ls : List PyData} (H : AreM w h ks) (p : ks.Perm ls) : ks.mergeSort dLe = ls.mergeSort dLe := by
  refine List.Perm.eq_of_pairwise (le := fun a b => dLe a b = true) (fun a b ha hb h1 h2 => ?_) (sort_pw ks) (sort_pw ls) ((List.mergeSort_perm ks dLe).trans (p.trans (List.mergeSort_perm ls dLe).symm))
  obtain ⟨f, rfl⟩ := H a (List.mem_mergeSort.mp ha)
  obtain ⟨g, rfl⟩ := H b (p.mem_iff.mpr (List.mem_mergeSort.mp hb))
  exact dLe_anti h1 h2
theorem sort_sorted {ks : List PyData} (h : ks.Pairwise fun a b => dLe a b = true) : ks.mergeSort dLe = ks := List.mergeSort_of_pairwise h
/-- what few tells: the drawings that are said with so many words, each once, sorted -/
structure FewOf (w h n : Nat) (ks : List PyData) : Prop where
  nd : ks.Nodup
  mem : ∀ d, d ∈ ks ↔ ∃ us t, us.length ≤ n ∧ Sy w h us t ∧ d = encM w h (cell t w h)
  len : ks.length ≤ 10000
theorem FewOf.are {w h n : Nat} {ks : List PyData} (F : FewOf w h n ks) : AreM w h ks := fun d hd => by
  obtain ⟨us, t, _, _, rfl⟩ := (F.mem d).mp hd
  exact ⟨_, rfl⟩
theorem FewOf.uniq {w h n : Nat} {ks ls : List PyData} (F : FewOf w h n ks) (G : FewOf w h n ls) : ks.mergeSort dLe = ls.mergeSort dLe := sort_uniq F.are (perm_of F.nd G.nd fun d => (F.mem d).trans (G.mem d).symm)
theorem few_ok {w h n : Nat} (hw : Side w) (hh : Side h) (h4 : w ≤ 4) (h4' : h ≤ 4) (hn : n ≤ 3) : ∃ ks, FewOf w h n ks ∧ ∀ μ, m_few [.d (encS w h), .d (.int n)] μ = .ok (.d (.list (ks.mergeSort dLe))) μ := by
  have one : ∀ μ, ∃ ks, FewOf w h n ks ∧ m_few [.d (encS w h), .d (.int n)] μ = .ok (.d (.list (ks.mergeSort dLe))) μ := fun μ => by
    obtain ⟨z, ez, hz⟩ := max_side hw hh h4 h4'
    obtain ⟨ρ', N', e, ⟨a2, a4, a5, a6, a7, kvs, rfl, ho, hdd, D, _⟩⟩ := few_turns (w := w) (h := h) (n := n) hw hh hn (μ := μ) (hd := μ.length) (Nat.le_refl _) (ρ := FE w h n (some (.d (.list [.tuple []]))) (some (.m μ.length)) none none none none) (N := μ ++ [.dic []]) ⟨_, _, _, _, _, [], rfl, by simp, by simp, ⟨fun d hd => by simp [keysD] at hd, fun us hu => by simp [upTo] at hu, by simp [keysD], by simp⟩, .inl rfl⟩
    have hul := upTo_len w h (n + 1) (by omega)
    have are : AreM w h (keysD kvs) := fun d hd => by
      obtain ⟨us, _, t, _, rfl⟩ := D.from_ d hd
      exact ⟨_, rfl⟩
    have lk : (keysD kvs).length = kvs.length := by simp [keysD]
    have dl := D.len
    refine ⟨keysD kvs, ⟨D.nd, fun d => ⟨fun hd => ?_, ?_⟩, by omega⟩, ?_⟩
    · obtain ⟨us, hu, t, T, rfl⟩ := D.from_ d hd
      unfold upTo at hu
      obtain ⟨j, hj, hg⟩ := List.mem_flatMap.mp hu
      rw [List.mem_range] at hj
      exact ⟨us, t, by rw [grow_len hg]; omega, T, rfl⟩
    · rintro ⟨us, t, hl, T, rfl⟩
      exact D.all us (List.mem_flatMap.mpr ⟨us.length, List.mem_range.mpr (by omega), grow_all rfl T⟩) t T
    · unfold m_few
      refine call_rt (ρ0 := FE w h n none none none none none none) (μ' := N') rfl rfl ?_ ho
      refine seq_nx (drop_of (call_of (cons_of rfl rfl) (need_size_ok w h hw hh μ))) ?_
      refine seq_nx (if_no (val_of (op_of (cb1_of rfl ez) rfl (gt_no hz))) rfl) ?_
      refine seq_nx (if_no (μ1 := μ) (not_of (c := true) (val_of ?_)) rfl) ?_
      · have c1 : decide ((0 : Int) ≤ n) = true := decide_eq_true (by omega)
        have c2 : decide ((n : Int) ≤ 3) = true := decide_eq_true (by omega)
        simp only [eChain, eC, eVar, List.getElem?_cons_zero, List.getElem?_cons_succ, R.bind, rd, fLe, c1, c_MOST_WORDS, c2, R.of]
      refine seq_nx (asg_of (s := .d (.list [.tuple []])) rfl rfl) ?_
      refine seq_nx (asg_of (s := .m μ.length) (μ1 := μ ++ [.dic []]) rfl rfl) ?_
      refine seq_nx (for_of (xs := upFrom 0 (n + 1)) (rng_of (cons_of (op_of (z := .int ((n + 1 : Nat) : Int)) rfl rfl rfl) rfl) (by omega)) e) (ret_of ?_)
      show eSortD (eVar 3) _ _ = _
      have hs := sortD_M hh.pos are (by omega)
      simp only [eSortD, eVar, List.getElem?_cons_zero, List.getElem?_cons_succ, R.bind, hdd]
      show R.of (bSortD (keysD kvs)) N' = _
      rw [hs]
      rfl
  obtain ⟨ks, F, e0⟩ := one []
  refine ⟨ks, F, fun μ => ?_⟩
  obtain ⟨ls, G, e⟩ := one μ
  rw [e, F.uniq G]
end Bz
set_option Elab.async false
set_option linter.all false
set_option maxRecDepth 100000
set_option maxHeartbeats 4000000
namespace Bz
open PySem PySem.Spec PyProof.Rows L2
def topS (i : Nat) : Stmt := PySem.Challenge.pw_blazonry_k20_whole_few_words_more.main.body.getD i (.Pass ⟨0, 0, 0, 0⟩)
/-! ### _law_taken -/
abbrev s__law_taken : Stmt := topS 42
abbrev N__law_taken : List Str := ["_law_row", "_law_many", "_law_found", "_law_cell"]
theorem sc__law_taken : FnScope N__law_taken ["_law_row", "_law_many"] (defScope s__law_taken) := ⟨rfl, rfl, rfl, by decide +kernel, rfl, by decide +kernel, by decide +kernel⟩
/-! ### _law_part -/
abbrev s__law_part : Stmt := topS 46
abbrev N__law_part : List Str := ["_law_size_here", "_law_word"]
theorem sc__law_part : FnScope N__law_part ["_law_size_here", "_law_word"] (defScope s__law_part) := ⟨rfl, rfl, rfl, by decide +kernel, rfl, by decide +kernel, by decide +kernel⟩
/-! ### _law_fits -/
abbrev s__law_fits : Stmt := topS 45
abbrev N__law_fits : List Str := ["_law_size_here", "_law_word", "_law_least", "_law_width", "_law_height"]
theorem sc__law_fits : FnScope N__law_fits ["_law_size_here", "_law_word"] (defScope s__law_fits) := ⟨rfl, rfl, rfl, by decide +kernel, rfl, by decide +kernel, by decide +kernel⟩
/-! ### _law_colour -/
abbrev s__law_colour : Stmt := topS 44
abbrev N__law_colour : List Str := ["_law_row"]
theorem sc__law_colour : FnScope N__law_colour ["_law_row"] (defScope s__law_colour) := ⟨rfl, rfl, rfl, by decide +kernel, rfl, by decide +kernel, by decide +kernel⟩
/-! ### _law_saying -/
abbrev s__law_saying : Stmt := topS 47
abbrev N__law_saying : List Str := ["_law_row", "_law_size_here", "_law_deep", "_law_word", "_law_some", "_law_way", "_law_part_here"]
theorem sc__law_saying : FnScope N__law_saying ["_law_row", "_law_size_here", "_law_deep"] (defScope s__law_saying) := ⟨rfl, rfl, rfl, by decide +kernel, rfl, by decide +kernel, by decide +kernel⟩
/-! ### need_size -/
abbrev s_need_size : Stmt := topS 9
abbrev N_need_size : List Str := ["size"]
theorem sc_need_size : FnScope N_need_size ["size"] (defScope s_need_size) := ⟨rfl, rfl, rfl, by decide +kernel, rfl, by decide +kernel, by decide +kernel⟩
/-! ### part_of -/
abbrev s_part_of : Stmt := topS 15
abbrev N_part_of : List Str := ["size", "word", "width", "height"]
theorem sc_part_of : FnScope N_part_of ["size", "word"] (defScope s_part_of) := ⟨rfl, rfl, rfl, by decide +kernel, rfl, by decide +kernel, by decide +kernel⟩
/-! ### is_own -/
abbrev s_is_own : Stmt := topS 19
abbrev N_is_own : List Str := ["size", "piece", "row", "column", "width", "height"]
theorem sc_is_own : FnScope N_is_own ["size", "piece", "row", "column"] (defScope s_is_own) := ⟨rfl, rfl, rfl, by decide +kernel, rfl, by decide +kernel, by decide +kernel⟩
/-! ### drawing_of -/
abbrev s_drawing_of : Stmt := topS 20
abbrev N_drawing_of : List Str := ["size", "tree", "word", "at", "colour", "parts", "behind", "rows", "row", "cells", "one", "other", "beside", "part", "left", "right", "k"]
theorem sc_drawing_of : FnScope N_drawing_of ["size", "tree"] (defScope s_drawing_of) := ⟨rfl, rfl, rfl, by decide +kernel, rfl, by decide +kernel, by decide +kernel⟩
/-! ### fits -/
abbrev s_fits : Stmt := topS 14
abbrev N_fits : List Str := ["size", "word", "width", "height"]
theorem sc_fits : FnScope N_fits ["size", "word"] (defScope s_fits) := ⟨rfl, rfl, rfl, by decide +kernel, rfl, by decide +kernel, by decide +kernel⟩
/-! ### tree_at -/
abbrev s_tree_at : Stmt := topS 16
abbrev N_tree_at : List Str := ["size", "words", "at", "word", "one", "behind", "other", "colour"]
theorem sc_tree_at : FnScope N_tree_at ["size", "words", "at"] (defScope s_tree_at) := ⟨rfl, rfl, rfl, by decide +kernel, rfl, by decide +kernel, by decide +kernel⟩
/-! ### tree_of -/
abbrev s_tree_of : Stmt := topS 17
abbrev N_tree_of : List Str := ["size", "words", "tree", "behind"]
theorem sc_tree_of : FnScope N_tree_of ["size", "words"] (defScope s_tree_of) := ⟨rfl, rfl, rfl, by decide +kernel, rfl, by decide +kernel, by decide +kernel⟩
/-! ### drawn -/
abbrev s_drawn : Stmt := topS 21
abbrev N_drawn : List Str := ["size", "words"]
theorem sc_drawn : FnScope N_drawn ["size", "words"] (defScope s_drawn) := ⟨rfl, rfl, rfl, by decide +kernel, rfl, by decide +kernel, by decide +kernel⟩
/-! ### drawing_or_none -/
abbrev s_drawing_or_none : Stmt := topS 26
abbrev N_drawing_or_none : List Str := ["size", "words"]
theorem sc_drawing_or_none : FnScope N_drawing_or_none ["size", "words"] (defScope s_drawing_or_none) := ⟨rfl, rfl, rfl, by decide +kernel, rfl, by decide +kernel, by decide +kernel⟩
/-! ### few -/
abbrev s_few : Stmt := topS 25
abbrev N_few : List Str := ["size", "many", "some", "found", "turn", "longer", "words", "rows", "word"]
theorem sc_few : FnScope N_few ["size", "many"] (defScope s_few) := ⟨rfl, rfl, rfl, by decide +kernel, rfl, by decide +kernel, by decide +kernel⟩
/-! ### is_drawing -/
abbrev s_is_drawing : Stmt := topS 10
abbrev N_is_drawing : List Str := ["size", "rows", "row", "cell"]
theorem sc_is_drawing : FnScope N_is_drawing ["size", "rows"] (defScope s_is_drawing) := ⟨rfl, rfl, rfl, by decide +kernel, rfl, by decide +kernel, by decide +kernel⟩
/-! ### need_drawing -/
abbrev s_need_drawing : Stmt := topS 39
abbrev N_need_drawing : List Str := ["size", "rows"]
theorem sc_need_drawing : FnScope N_need_drawing ["size", "rows"] (defScope s_need_drawing) := ⟨rfl, rfl, rfl, by decide +kernel, rfl, by decide +kernel, by decide +kernel⟩
/-! ### colours_in -/
abbrev s_colours_in : Stmt := topS 30
abbrev N_colours_in : List Str := ["cells", "cell"]
theorem sc_colours_in : FnScope N_colours_in ["cells"] (defScope s_colours_in) := ⟨rfl, rfl, rfl, by decide +kernel, rfl, by decide +kernel, by decide +kernel⟩
/-! ### size_of -/
abbrev s_size_of : Stmt := topS 29
abbrev N_size_of : List Str := ["patch"]
theorem sc_size_of : FnScope N_size_of ["patch"] (defScope s_size_of) := ⟨rfl, rfl, rfl, by decide +kernel, rfl, by decide +kernel, by decide +kernel⟩
/-! ### laid -/
abbrev s_laid : Stmt := topS 33
abbrev N_laid : List Str := ["one", "other", "rows", "left", "right", "pairs", "pair"]
theorem sc_laid : FnScope N_laid ["one", "other"] (defScope s_laid) := ⟨rfl, rfl, rfl, by decide +kernel, rfl, by decide +kernel, by decide +kernel⟩
/-! ### cut_out -/
abbrev s_cut_out : Stmt := topS 32
abbrev N_cut_out : List Str := ["patch", "row", "column", "size", "one"]
theorem sc_cut_out : FnScope N_cut_out ["patch", "row", "column", "size"] (defScope s_cut_out) := ⟨rfl, rfl, rfl, by decide +kernel, rfl, by decide +kernel, by decide +kernel⟩
/-! ### parts_of -/
abbrev s_parts_of : Stmt := topS 34
abbrev N_parts_of : List Str := ["patch", "word", "width", "height", "half", "first", "second"]
theorem sc_parts_of : FnScope N_parts_of ["patch", "word"] (defScope s_parts_of) := ⟨rfl, rfl, rfl, by decide +kernel, rfl, by decide +kernel, by decide +kernel⟩
/-! ### without_own -/
abbrev s_without_own : Stmt := topS 35
abbrev N_without_own : List Str := ["patch", "piece", "size", "own", "rows", "row", "some", "k"]
theorem sc_without_own : FnScope N_without_own ["patch", "piece"] (defScope s_without_own) := ⟨rfl, rfl, rfl, by decide +kernel, rfl, by decide +kernel, by decide +kernel⟩
/-! ### ways -/
abbrev s_ways : Stmt := topS 36
abbrev N_ways : List Str := ["patch", "found", "word", "some", "piece", "left"]
theorem sc_ways : FnScope N_ways ["patch"] (defScope s_ways) := ⟨rfl, rfl, rfl, by decide +kernel, rfl, by decide +kernel, by decide +kernel⟩
/-! ### all_cells -/
abbrev s_all_cells : Stmt := topS 31
abbrev N_all_cells : List Str := ["patch", "found", "row"]
theorem sc_all_cells : FnScope N_all_cells ["patch"] (defScope s_all_cells) := ⟨rfl, rfl, rfl, by decide +kernel, rfl, by decide +kernel, by decide +kernel⟩
/-! ### shorter -/
abbrev s_shorter : Stmt := topS 37
abbrev N_shorter : List Str := ["some"]
theorem sc_shorter : FnScope N_shorter ["some"] (defScope s_shorter) := ⟨rfl, rfl, rfl, by decide +kernel, rfl, by decide +kernel, by decide +kernel⟩
/-! ### best -/
abbrev s_best : Stmt := topS 38
abbrev N_best : List Str := ["patch", "known", "some", "colour", "fulls", "lasts", "words", "left", "found", "one"]
theorem sc_best : FnScope N_best ["patch", "known"] (defScope s_best) := ⟨rfl, rfl, rfl, by decide +kernel, rfl, by decide +kernel, by decide +kernel⟩
/-! ### said -/
abbrev s_said : Stmt := topS 40
abbrev N_said : List Str := ["size", "rows"]
theorem sc_said : FnScope N_said ["size", "rows"] (defScope s_said) := ⟨rfl, rfl, rfl, by decide +kernel, rfl, by decide +kernel, by decide +kernel⟩
/-! ### law -/
abbrev s_law : Stmt := topS 48
abbrev N_law : List Str := ["_law_script", "_law_row", "_law_size_here", "_law_many", "_law_lists", "_law_k", "_law_more", "_law_one", "_law_turn", "_law_rows", "_law_words", "_law_colours", "_law_word", "_law_piece", "_law_colour_here"]
theorem sc_law : FnScope N_law ["_law_script"] (defScope s_law) := ⟨rfl, rfl, rfl, by decide +kernel, rfl, by decide +kernel, by decide +kernel⟩
abbrev s_ini : Stmt := match topS 5 with
  | .ClassDef _ _ _ b _ _ _ _ _ _ _ => b.getD 0 (.Pass ⟨0, 0, 0, 0⟩)
  | _ => .Pass ⟨0, 0, 0, 0⟩
theorem sc_ini : FnScope ["self", "place"] ["self", "place"] (defScope s_ini) := ⟨rfl, rfl, rfl, by decide +kernel, rfl, by decide +kernel, by decide +kernel⟩
/-- what the text says -/
structure Txt [Wd] (K : PySem.W.Frag) (mg : Str → Option Value) (base : Heap) (c PT : Addr) (cx : Nat → Option Addr) : Prop where
  l_tb : LamX.TabB base mg c PT
  l_mem : (PT, ("shorter.<locals>.<lambda>" : Str)) ∈ Wd.T
  l_uni : ∀ p ∈ Wd.T, p.1 = PT → p.2 = "shorter.<locals>.<lambda>"
  b_int : mg "int" = none
  b_len : mg "len" = none
  b_list : mg "list" = none
  b_max : mg "max" = none
  b_min : mg "min" = none
  b_range : mg "range" = none
  b_set : mg "set" = none
  b_sorted : mg "sorted" = none
  b_tuple : mg "tuple" = none
  b_zip : mg "zip" = none
  s_BadSaying : ExN K mg cx "BadSaying" (subL [false, false, false, false, true])
  x_BadDrawing : ExC K mg cx 2 "BadDrawing"
  x_BadNumber : ExC K mg cx 3 "BadNumber"
  x_BadSaying : ExP K mg cx 4 "BadSaying" 1
  x_BadSize : ExC K mg cx 1 "BadSize"
  c_SIDES : GlobC K mg "SIDES" c_SIDES
  c_COLOURS : GlobC K mg "COLOURS" c_COLOURS
  c_PARTS : GlobC K mg "PARTS" c_PARTS
  c_PIECES : GlobC K mg "PIECES" c_PIECES
  c_MOST_SIDE : GlobC K mg "MOST_SIDE" c_MOST_SIDE
  c_MOST_WORDS : GlobC K mg "MOST_WORDS" c_MOST_WORDS
  c_ANY : GlobC K mg "ANY" c_ANY
  d__law_taken : At K mg "_law_taken" s__law_taken ["_law_row", "_law_many"]
  d__law_part : At K mg "_law_part" s__law_part ["_law_size_here", "_law_word"]
  d__law_fits : At K mg "_law_fits" s__law_fits ["_law_size_here", "_law_word"]
  d__law_colour : At K mg "_law_colour" s__law_colour ["_law_row"]
  d__law_saying : At K mg "_law_saying" s__law_saying ["_law_row", "_law_size_here", "_law_deep"]
  d_need_size : At K mg "need_size" s_need_size ["size"]
  d_part_of : At K mg "part_of" s_part_of ["size", "word"]
  d_is_own : At K mg "is_own" s_is_own ["size", "piece", "row", "column"]
  d_drawing_of : At K mg "drawing_of" s_drawing_of ["size", "tree"]
  d_fits : At K mg "fits" s_fits ["size", "word"]
  d_tree_at : At K mg "tree_at" s_tree_at ["size", "words", "at"]
  d_tree_of : At K mg "tree_of" s_tree_of ["size", "words"]
  d_drawn : At K mg "drawn" s_drawn ["size", "words"]
  d_drawing_or_none : At K mg "drawing_or_none" s_drawing_or_none ["size", "words"]
  d_few : At K mg "few" s_few ["size", "many"]
  d_is_drawing : At K mg "is_drawing" s_is_drawing ["size", "rows"]
  d_need_drawing : At K mg "need_drawing" s_need_drawing ["size", "rows"]
  d_colours_in : At K mg "colours_in" s_colours_in ["cells"]
  d_size_of : At K mg "size_of" s_size_of ["patch"]
  d_laid : At K mg "laid" s_laid ["one", "other"]
  d_cut_out : At K mg "cut_out" s_cut_out ["patch", "row", "column", "size"]
  d_parts_of : At K mg "parts_of" s_parts_of ["patch", "word"]
  d_without_own : At K mg "without_own" s_without_own ["patch", "piece"]
  d_ways : At K mg "ways" s_ways ["patch"]
  d_all_cells : At K mg "all_cells" s_all_cells ["patch"]
  d_shorter : AtC K mg "shorter" s_shorter ["some"] c
  d_best : At K mg "best" s_best ["patch", "known"]
  d_said : At K mg "said" s_said ["size", "rows"]
section
variable [wd : Wd] {P : Program} {K : PySem.W.Frag} {mg : Str → Option Value} {base : Heap} {cx : Nat → Option Addr} {c PT : Addr}
theorem D__law_taken (T : Txt K mg base c PT cx) : Def P Wd.w K mg base cx "_law_taken" 1 2 m__law_taken := At.walk (N := N__law_taken) T.d__law_taken sc__law_taken fun f cdv A outer s H E hr => ((css_cons (cs_if (ct_cmp (op_gtA (r64 hr)) gtD (ce_ix (ce_var 0) ce_int) ce_int (nomark _)) (css_cons (cs_set 2 sc__law_taken.nd (ce_op op_mod modD (ce_callTy (call_int1) intD T.b_int (by decide +kernel) (ca_cons (ce_ix (ce_var 0) ce_int) ca_nil)) (ce_var 1)))
  (css_cons (cs_setix (ce_op op_fdiv divD (ce_ix (ce_var 0) ce_int) (ce_var 1)) (ce_var 0) ce_int)
  (css_one (cs_ret (ce_var 2))))) css_nil)
  (css_cons (cs_setix (ce_op op_addD addD (ce_ix (ce_var 0) ce_int) ce_int) (ce_var 0) ce_int)
  (css_cons (cs_if (ct_cmp (op_gtA (r64 hr)) gtD (ce_ix (ce_var 0) ce_int) (ce_callB (call_len) lenD T.b_len PySem.boot_len (ca_cons (ce_ix (ce_var 0) ce_int) ca_nil)) (nomark _)) (css_cons (cs_setix (ce_op op_mod modD (ce_callTy (call_int1) intD T.b_int (by decide +kernel) (ca_cons (ce_op op_addD addD (ce_op op_mulA mulD (ce_ix (ce_var 0) ce_int) ce_int) ce_int) ca_nil)) ce_int) (ce_var 0) ce_int)
  (css_one (cs_ret (ce_op op_mod modD (ce_callTy (call_int1) intD T.b_int (by decide +kernel) (ca_cons (ce_op op_fdiv divD (ce_ix (ce_var 0) ce_int) ce_int) ca_nil)) (ce_var 1))))) css_nil)
  (css_cons (cs_set 3 sc__law_taken.nd (ce_ix (ce_ix (ce_var 0) ce_int) (ce_op op_sub subD (ce_ix (ce_var 0) ce_int) ce_int)))
  (css_cons (cs_setix (ce_op op_mod modD (ce_callTy (call_int1) intD T.b_int (by decide +kernel) (ca_cons (ce_op op_addD addD (ce_op op_addD addD (ce_op op_mulA mulD (ce_ix (ce_var 0) ce_int) ce_int) (ce_var 3)) ce_int) ca_nil)) ce_int) (ce_var 0) ce_int)
  (css_cons (cs_if (ct_cmp op_ge geD (ce_var 3) (ce_op op_pow powD ce_int ce_int) (nomark _)) (css_one (cs_setix (ce_op op_fdiv divD (ce_var 3) (ce_var 1)) (ce_var 0) ce_int)) css_nil)
  (css_one (cs_ret (ce_op op_mod modD (ce_callTy (call_int1) intD T.b_int (by decide +kernel) (ca_cons (ce_var 3) ca_nil)) (ce_var 1)))))))))))
theorem D__law_part (T : Txt K mg base c PT cx) : Def P Wd.w K mg base cx "_law_part" 1 2 m__law_part := At.walk (N := N__law_part) T.d__law_part sc__law_part fun f cdv A outer s H E hr => ((css_cons (cs_if (ct_cmp (op_inA (r100 hr)) inDD (ce_var 1) (ce_tup (ca_cons ce_str (ca_cons ce_str ca_nil))) (by rfl)) (css_one (cs_ret (ce_ix (ce_lst (ca_cons (ce_tup (ca_cons (ce_ix (ce_var 0) ce_int) (ca_cons (ce_op op_fdiv divD (ce_ix (ce_var 0) ce_int) ce_int) ca_nil))) (ca_cons (ce_tup (ca_cons (ce_op op_fdiv divD (ce_ix (ce_var 0) ce_int) ce_int) (ca_cons (ce_ix (ce_var 0) ce_int) ca_nil))) ca_nil))) (ce_callTy (call_int1) intD T.b_int (by decide +kernel) (ca_cons (ce_cmp (op_eqA (r64 hr)) eqD (ce_var 1) ce_str (nomark _)) ca_nil))))) css_nil)
  (css_one (cs_ret (ce_tup (ca_cons (ce_op op_fdiv divD (ce_ix (ce_var 0) ce_int) ce_int) (ca_cons (ce_op op_fdiv divD (ce_ix (ce_var 0) ce_int) ce_int) ca_nil)))))))
theorem D__law_fits (T : Txt K mg base c PT cx) : Def P Wd.w K mg base cx "_law_fits" 1 2 m__law_fits := At.walk (N := N__law_fits) T.d__law_fits sc__law_fits fun f cdv A outer s H E hr => ((css_cons (cs_set 2 sc__law_fits.nd (ce_dict (cp_cons ce_str (ce_tup (ca_cons ce_int (ca_cons ce_int ca_nil))) (cp_cons ce_str (ce_tup (ca_cons ce_int (ca_cons ce_int ca_nil))) (cp_cons ce_str (ce_tup (ca_cons ce_int (ca_cons ce_int ca_nil))) (cp_cons ce_str (ce_tup (ca_cons ce_int (ca_cons ce_int ca_nil))) (cp_cons ce_str (ce_tup (ca_cons ce_int (ca_cons ce_int ca_nil))) (cp_cons ce_str (ce_tup (ca_cons ce_int (ca_cons ce_int ca_nil))) cp_nil))))))))
  (css_cons (cs_asg (ce_get2 (r100 hr) (ce_var 2) (ce_var 1) (ce_tup (ca_cons ce_int (ca_cons ce_int ca_nil)))) (cg_tup rfl (cgs_cons (cg_name 3 sc__law_fits.nd) (cgs_cons (cg_name 4 sc__law_fits.nd) cgs_nil))))
  (css_one (cs_ret (ce_and (ce_cmp op_ge geD (ce_ix (ce_var 0) ce_int) (ce_var 3) (nomark _)) (ce_one (ce_cmp op_ge geD (ce_ix (ce_var 0) ce_int) (ce_var 4) (nomark _)))))))))
theorem D__law_colour (T : Txt K mg base c PT cx) : Def P Wd.w K mg base cx "_law_colour" 2 1 m__law_colour := At.walk (N := N__law_colour) T.d__law_colour sc__law_colour fun f cdv A outer s H E hr => ((css_one (cs_ret (ce_ix (ce_lst (ca_cons ce_str (ca_cons ce_str (ca_cons ce_str (ca_cons ce_str (ca_cons ce_str (ca_cons ce_str (ca_cons ce_str (ca_cons ce_str ca_nil))))))))) (ce_call (D__law_taken T) hr tkOf (ca_cons (ce_var 0) (ca_cons ce_int ca_nil)))))))
theorem D__law_saying (T : Txt K mg base c PT cx) : ∀ j : Nat, Def P Wd.w K mg base cx "_law_saying" (2 + j) 3 (m__law_saying j)
  | 0 => At.zero T.d__law_saying
  | j + 1 => At.walk (k := 2 + j) (N := N__law_saying) T.d__law_saying sc__law_saying fun f cdv A outer s H E hr => ((css_cons (cs_setC 4 rfl sc__law_saying.nd (ci_seq (ce_tup (ca_cons ce_str (ca_cons ce_str (ca_cons ce_str (ca_cons ce_str (ca_cons ce_str (ca_cons ce_str (ca_cons ce_str ca_nil))))))))) (blkOk_by (own := [("_law_word", 3)]) (N := N__law_saying) (sc := defScope s__law_saying) (by decide +kernel)) (by decide) (fun _ _ _ _ _ => (cg_name 3 sc__law_saying.nd)) (fun _ _ _ _ _ => (cts_one (ct_val (ce_callC (D__law_fits T) hr rfl (ca_cons (ce_var 1) (ca_cons (ce_var 3) ca_nil)))))) (fun _ _ _ _ _ => (ce_var 3)))
  (css_cons (cs_set 5 sc__law_saying.nd (ce_call (D__law_taken T) hr tkOf (ca_cons (ce_var 0) (ca_cons ce_int ca_nil))))
  (css_cons (cs_if (ct_w (cw_or (ct_cmp (op_eqA (r64 hr)) eqD (ce_var 2) ce_int (nomark _)) (cw_or (ct_cmp (op_eqA (r64 hr)) eqD (ce_var 4) (ce_lst ca_nil) (nomark _)) (cw_or1 (ct_cmp (op_ltA (r64 hr)) ltD (ce_var 5) ce_int (nomark _)))))) (css_one (cs_ret (ce_tup (ca_cons (ce_call (D__law_colour T) hr tkOf (ca_cons (ce_var 0) ca_nil)) ca_nil)))) css_nil)
  (css_cons (cs_set 3 sc__law_saying.nd (ce_ix (ce_var 4) (ce_call (D__law_taken T) hr tkOf (ca_cons (ce_var 0) (ca_cons (ce_callB (call_len) lenD T.b_len PySem.boot_len (ca_cons (ce_var 4) ca_nil)) ca_nil)))))
  (css_cons (cs_if (ct_cmp (op_inA (r100 hr)) inDD (ce_var 3) (ce_tup (ca_cons ce_str (ca_cons ce_str (ca_cons ce_str ca_nil)))) (by rfl)) (css_cons (cs_set 6 sc__law_saying.nd (ce_call (D__law_part T) hr tkOf (ca_cons (ce_var 1) (ca_cons (ce_var 3) ca_nil))))
  (css_one (cs_ret (ce_op op_addD addD (ce_op op_addD addD (ce_tup (ca_cons (ce_var 3) ca_nil)) (ce_call (D__law_saying T j) hr tkOf (ca_cons (ce_var 0) (ca_cons (ce_var 6) (ca_cons (ce_op op_sub subD (ce_var 2) ce_int) ca_nil))))) (ce_call (D__law_saying T j) hr tkOf (ca_cons (ce_var 0) (ca_cons (ce_var 6) (ca_cons (ce_op op_sub subD (ce_var 2) ce_int) ca_nil)))))))) css_nil)
  (css_one (cs_ret (ce_op op_addD addD (ce_tup (ca_cons (ce_var 3) (ca_cons (ce_call (D__law_colour T) hr tkOf (ca_cons (ce_var 0) ca_nil)) ca_nil))) (ce_call (D__law_saying T j) hr tkOf (ca_cons (ce_var 0) (ca_cons (ce_var 1) (ca_cons (ce_op op_sub subD (ce_var 2) ce_int) ca_nil)))))))))))))
theorem D_need_size (T : Txt K mg base c PT cx) : Def P Wd.w K mg base cx "need_size" 3 1 m_need_size := At.walk (N := N_need_size) T.d_need_size sc_need_size fun f cdv A outer s H E hr => ((css_one (cs_if (ct_w (cw_or (ct_cmp (op_notInA (r100 hr)) notInDD (ce_ix (ce_var 0) ce_int) (ce_globX T.c_SIDES) (by rfl)) (cw_or1 (ct_cmp (op_notInA (r100 hr)) notInDD (ce_ix (ce_var 0) ce_int) (ce_globX T.c_SIDES) (by rfl))))) (css_one (cs_raise (k := 1) rfl tkOf rfl T.x_BadSize)) css_nil)))
theorem D_part_of (T : Txt K mg base c PT cx) : Def P Wd.w K mg base cx "part_of" 1 2 m_part_of := At.walk (N := N_part_of) T.d_part_of sc_part_of fun f cdv A outer s H E hr => ((css_cons (cs_asg (ce_var 0) (cg_tup rfl (cgs_cons (cg_name 2 sc_part_of.nd) (cgs_cons (cg_name 3 sc_part_of.nd) cgs_nil))))
  (css_one (cs_ret (ce_tup (ca_cons (ce_if (ct_cmp (op_eqA (r64 hr)) eqD (ce_var 1) ce_str (nomark _)) (ce_var 2) (ce_op op_fdiv divD (ce_var 2) ce_int)) (ca_cons (ce_if (ct_cmp (op_eqA (r64 hr)) eqD (ce_var 1) ce_str (nomark _)) (ce_var 3) (ce_op op_fdiv divD (ce_var 3) ce_int)) ca_nil)))))))
theorem D_is_own (T : Txt K mg base c PT cx) : Def P Wd.w K mg base cx "is_own" 1 4 m_is_own := At.walk (N := N_is_own) T.d_is_own sc_is_own fun f cdv A outer s H E hr => ((css_cons (cs_asg (ce_var 0) (cg_tup rfl (cgs_cons (cg_name 4 sc_is_own.nd) (cgs_cons (cg_name 5 sc_is_own.nd) cgs_nil))))
  (css_cons (cs_if (ct_cmp (op_eqA (r64 hr)) eqD (ce_var 1) ce_str (nomark _)) (css_one (cs_ret (ce_chain op_le leD (op_ltA (r64 hr)) ltD (ce_op op_fdiv divD (ce_var 4) ce_int) (ce_var 3) (ce_op op_sub subD (ce_var 4) (ce_op op_fdiv divD (ce_var 4) ce_int))))) css_nil)
  (css_cons (cs_if (ct_cmp (op_eqA (r64 hr)) eqD (ce_var 1) ce_str (nomark _)) (css_one (cs_ret (ce_chain op_le leD (op_ltA (r64 hr)) ltD (ce_op op_fdiv divD (ce_var 5) ce_int) (ce_var 2) (ce_op op_sub subD (ce_var 5) (ce_op op_fdiv divD (ce_var 5) ce_int))))) css_nil)
  (css_cons (cs_if (ct_cmp (op_eqA (r64 hr)) eqD (ce_var 1) ce_str (nomark _)) (css_one (cs_ret (ce_cmp (op_ltA (r64 hr)) ltD (ce_var 2) (ce_op op_fdiv divD (ce_var 5) ce_int) (nomark _)))) css_nil)
  (css_one (cs_ret (ce_or (ce_cmp (op_inA (r100 hr)) inDD (ce_var 2) (ce_tup (ca_cons ce_int (ca_cons (ce_op op_sub subD (ce_var 5) ce_int) ca_nil))) (by rfl)) (ce_one (ce_cmp (op_inA (r100 hr)) inDD (ce_var 3) (ce_tup (ca_cons ce_int (ca_cons (ce_op op_sub subD (ce_var 4) ce_int) ca_nil))) (by rfl)))))))))))
theorem D_drawing_of (T : Txt K mg base c PT cx) : ∀ j : Nat, Def P Wd.w K mg base cx "drawing_of" (1 + j) 2 (m_drawing_of j)
  | 0 => At.zero T.d_drawing_of
  | j + 1 => At.walk (k := 1 + j) (N := N_drawing_of) T.d_drawing_of sc_drawing_of fun f cdv A outer s H E hr => ((css_cons (cs_asg (ce_var 1) (cg_tup rfl (cgs_cons (cg_name 2 sc_drawing_of.nd) (cgs_cons (cg_name 3 sc_drawing_of.nd) (cgs_cons (cg_name 4 sc_drawing_of.nd) (cgs_cons (cg_name 5 sc_drawing_of.nd) cgs_nil))))))
  (css_cons (cs_if (ct_cmp (op_eqA (r64 hr)) eqD (ce_var 5) (ce_tup ca_nil) (nomark _)) (css_one (cs_ret (ce_op op_mulA mulD (ce_tup (ca_cons (ce_op op_mulA mulD (ce_tup (ca_cons (ce_var 4) ca_nil)) (ce_ix (ce_var 0) ce_int)) ca_nil)) (ce_ix (ce_var 0) ce_int)))) css_nil)
  (css_cons (cs_if (ct_cmp (op_inA (r100 hr)) inDD (ce_var 2) (ce_globX T.c_PIECES) (by rfl)) (css_cons (cs_set 6 sc_drawing_of.nd (ce_call (D_drawing_of T j) hr tkOf (ca_cons (ce_var 0) (ca_cons (ce_ix (ce_var 5) ce_int) ca_nil))))
  (css_cons (cs_set 7 sc_drawing_of.nd (ce_new ca_nil))
  (css_cons (cs_for poOf rfl (ci_rng1 T.b_range (ca_cons (ce_ix (ce_var 0) ce_int) ca_nil)) (cg_name 8 sc_drawing_of.nd) (css_cons (cs_setC 9 rfl sc_drawing_of.nd (ci_rng1 T.b_range (ca_cons (ce_ix (ce_var 0) ce_int) ca_nil)) (blkOk_by (own := [("k", 16)]) (N := N_drawing_of) (sc := defScope s_drawing_of) (by decide +kernel)) (by decide) (fun _ _ _ _ _ => (cg_name 16 sc_drawing_of.nd)) (fun _ _ _ _ _ => cts_nil) (fun _ _ _ _ _ => (ce_if (ct_val (ce_callC (D_is_own T) hr rfl (ca_cons (ce_var 0) (ca_cons (ce_var 2) (ca_cons (ce_var 8) (ca_cons (ce_var 16) ca_nil)))))) (ce_var 4) (ce_ix (ce_ix (ce_var 6) (ce_var 8)) (ce_var 16)))))
  (css_one (cs_expr (ce_append (ce_var 7) (ce_callTy (call_tuple_of) tupD T.b_tuple (by decide +kernel) (ca_cons (ce_var 9) ca_nil)))))))
  (css_one (cs_ret (ce_callTy (call_tuple_of) tupD T.b_tuple (by decide +kernel) (ca_cons (ce_var 7) ca_nil))))))) css_nil)
  (css_cons (cs_asg (ce_comp rfl sc_drawing_of.nd (ci_seq (ce_var 5)) (blkOk_by (own := [("part", 13)]) (N := N_drawing_of) (sc := defScope s_drawing_of) (by decide +kernel)) (by decide) (fun _ _ _ _ _ => (cg_name 13 sc_drawing_of.nd)) (fun _ _ _ _ _ => cts_nil) (fun _ _ _ _ _ => (ce_callC (D_drawing_of T j) hr rfl (ca_cons (ce_callC (D_part_of T) hr rfl (ca_cons (ce_var 0) (ca_cons (ce_var 2) ca_nil))) (ca_cons (ce_var 13) ca_nil))))) (cg_lst rfl (cgs_cons (cg_name 10 sc_drawing_of.nd) (cgs_cons (cg_name 11 sc_drawing_of.nd) cgs_nil))))
  (css_cons (cs_if (ct_cmp (op_eqA (r64 hr)) eqD (ce_var 2) ce_str (nomark _)) (css_one (cs_ret (ce_op op_addD addD (ce_var 10) (ce_var 11)))) css_nil)
  (css_cons (cs_set 12 sc_drawing_of.nd (ce_callTy (call_tuple_of) tupD T.b_tuple (by decide +kernel) (ca_cons (ce_comp rfl sc_drawing_of.nd (ci_zip T.b_zip (ca_cons (ce_var 10) (ca_cons (ce_var 11) ca_nil))) (blkOk_by (own := [("left", 14), ("right", 15)]) (N := N_drawing_of) (sc := defScope s_drawing_of) (by decide +kernel)) (by decide) (fun _ _ _ _ _ => (cg_tup rfl (cgs_cons (cg_name 14 sc_drawing_of.nd) (cgs_cons (cg_name 15 sc_drawing_of.nd) cgs_nil)))) (fun _ _ _ _ _ => cts_nil) (fun _ _ _ _ _ => (ce_op op_addD addD (ce_var 14) (ce_var 15)))) ca_nil)))
  (css_cons (cs_if (ct_cmp (op_eqA (r64 hr)) eqD (ce_var 2) ce_str (nomark _)) (css_one (cs_ret (ce_var 12))) css_nil)
  (css_one (cs_ret (ce_op op_addD addD (ce_var 12) (ce_callTy (call_tuple_of) tupD T.b_tuple (by decide +kernel) (ca_cons (ce_comp rfl sc_drawing_of.nd (ci_zip T.b_zip (ca_cons (ce_var 11) (ca_cons (ce_var 10) ca_nil))) (blkOk_by (own := [("left", 14), ("right", 15)]) (N := N_drawing_of) (sc := defScope s_drawing_of) (by decide +kernel)) (by decide) (fun _ _ _ _ _ => (cg_tup rfl (cgs_cons (cg_name 14 sc_drawing_of.nd) (cgs_cons (cg_name 15 sc_drawing_of.nd) cgs_nil)))) (fun _ _ _ _ _ => cts_nil) (fun _ _ _ _ _ => (ce_op op_addD addD (ce_var 14) (ce_var 15)))) ca_nil)))))))))))))
theorem D_fits (T : Txt K mg base c PT cx) : Def P Wd.w K mg base cx "fits" 1 2 m_fits := At.walk (N := N_fits) T.d_fits sc_fits fun f cdv A outer s H E hr => ((css_cons (cs_asg (ce_var 0) (cg_tup rfl (cgs_cons (cg_name 2 sc_fits.nd) (cgs_cons (cg_name 3 sc_fits.nd) cgs_nil))))
  (css_cons (cs_if (ct_cmp (op_inA (r100 hr)) inDD (ce_var 1) (ce_tup (ca_cons ce_str (ca_cons ce_str (ca_cons ce_str ca_nil)))) (by rfl)) (css_one (cs_ret (ce_and (ce_or (ce_cmp (op_gtA (r64 hr)) gtD (ce_var 2) ce_int (nomark _)) (ce_one (ce_cmp (op_eqA (r64 hr)) eqD (ce_var 1) ce_str (nomark _)))) (ce_one (ce_or (ce_cmp (op_gtA (r64 hr)) gtD (ce_var 3) ce_int (nomark _)) (ce_one (ce_cmp (op_eqA (r64 hr)) eqD (ce_var 1) ce_str (nomark _)))))))) css_nil)
  (css_one (cs_ret (ce_and (ce_or (ce_cmp (op_gtA (r64 hr)) gtD (ce_var 2) ce_int (nomark _)) (ce_one (ce_cmp (op_inA (r100 hr)) inDD (ce_var 1) (ce_tup (ca_cons ce_str (ca_cons ce_str ca_nil))) (by rfl)))) (ce_one (ce_or (ce_cmp (op_gtA (r64 hr)) gtD (ce_var 3) ce_int (nomark _)) (ce_one (ce_cmp (op_eqA (r64 hr)) eqD (ce_var 1) ce_str (nomark _)))))))))))
theorem D_tree_at (T : Txt K mg base c PT cx) : ∀ j : Nat, Def P Wd.w K mg base cx "tree_at" (2 + j) 3 (m_tree_at j)
  | 0 => At.zero T.d_tree_at
  | j + 1 => At.walk (k := 2 + j) (N := N_tree_at) T.d_tree_at sc_tree_at fun f cdv A outer s H E hr => ((css_cons (cs_set 3 sc_tree_at.nd (ce_if (ct_cmp (op_ltA (r64 hr)) ltD (ce_var 2) (ce_callB (call_len) lenD T.b_len PySem.boot_len (ca_cons (ce_var 1) ca_nil)) (nomark _)) (ce_ix (ce_var 1) (ce_var 2)) ce_str))
  (css_cons (cs_if (ct_cmp (op_inA (r100 hr)) inDD (ce_var 3) (ce_globX T.c_COLOURS) (by rfl)) (css_one (cs_ret (ce_tup (ca_cons (ce_tup (ca_cons (ce_var 3) (ca_cons (ce_var 2) (ca_cons (ce_var 3) (ca_cons (ce_tup ca_nil) ca_nil))))) (ca_cons (ce_op op_addD addD (ce_var 2) ce_int) ca_nil))))) css_nil)
  (css_cons (cs_if (ct_w (cw_or (ct_cmp (op_notInA (r100 hr)) notInDD (ce_var 3) (ce_op op_addD addD (ce_globX T.c_PARTS) (ce_globX T.c_PIECES)) (by rfl)) (cw_or1 (ct_not (ct_val (ce_call (D_fits T) hr tkOf (ca_cons (ce_var 0) (ca_cons (ce_var 3) ca_nil)))))))) (css_one (cs_raiseP (n := 4) (j := 1) rfl hr tkOf T.x_BadSaying (ce_var 2))) css_nil)
  (css_cons (cs_if (ct_cmp (op_inA (r100 hr)) inDD (ce_var 3) (ce_globX T.c_PARTS) (by rfl)) (css_cons (cs_asg (ce_call (D_tree_at T j) hr tkOf (ca_cons (ce_call (D_part_of T) hr tkOf (ca_cons (ce_var 0) (ca_cons (ce_var 3) ca_nil))) (ca_cons (ce_var 1) (ca_cons (ce_op op_addD addD (ce_var 2) ce_int) ca_nil)))) (cg_tup rfl (cgs_cons (cg_name 4 sc_tree_at.nd) (cgs_cons (cg_name 5 sc_tree_at.nd) cgs_nil))))
  (css_cons (cs_asg (ce_call (D_tree_at T j) hr tkOf (ca_cons (ce_call (D_part_of T) hr tkOf (ca_cons (ce_var 0) (ca_cons (ce_var 3) ca_nil))) (ca_cons (ce_var 1) (ca_cons (ce_var 5) ca_nil)))) (cg_tup rfl (cgs_cons (cg_name 6 sc_tree_at.nd) (cgs_cons (cg_name 5 sc_tree_at.nd) cgs_nil))))
  (css_one (cs_ret (ce_tup (ca_cons (ce_tup (ca_cons (ce_var 3) (ca_cons (ce_var 2) (ca_cons ce_str (ca_cons (ce_tup (ca_cons (ce_var 4) (ca_cons (ce_var 6) ca_nil))) ca_nil))))) (ca_cons (ce_var 5) ca_nil))))))) css_nil)
  (css_cons (cs_set 7 sc_tree_at.nd (ce_if (ct_cmp (op_ltA (r64 hr)) ltD (ce_op op_addD addD (ce_var 2) ce_int) (ce_callB (call_len) lenD T.b_len PySem.boot_len (ca_cons (ce_var 1) ca_nil)) (nomark _)) (ce_ix (ce_var 1) (ce_op op_addD addD (ce_var 2) ce_int)) ce_str))
  (css_cons (cs_if (ct_cmp (op_notInA (r100 hr)) notInDD (ce_var 7) (ce_globX T.c_COLOURS) (by rfl)) (css_one (cs_raiseP (n := 4) (j := 1) rfl hr tkOf T.x_BadSaying (ce_op op_addD addD (ce_var 2) ce_int))) css_nil)
  (css_cons (cs_asg (ce_call (D_tree_at T j) hr tkOf (ca_cons (ce_var 0) (ca_cons (ce_var 1) (ca_cons (ce_op op_addD addD (ce_var 2) ce_int) ca_nil)))) (cg_tup rfl (cgs_cons (cg_name 4 sc_tree_at.nd) (cgs_cons (cg_name 5 sc_tree_at.nd) cgs_nil))))
  (css_one (cs_ret (ce_tup (ca_cons (ce_tup (ca_cons (ce_var 3) (ca_cons (ce_var 2) (ca_cons (ce_var 7) (ca_cons (ce_tup (ca_cons (ce_var 4) ca_nil)) ca_nil))))) (ca_cons (ce_var 5) ca_nil)))))))))))))
theorem D_tree_of (T : Txt K mg base c PT cx) : Def P Wd.w K mg base cx "tree_of" 93 2 m_tree_of := At.walk (N := N_tree_of) T.d_tree_of sc_tree_of fun f cdv A outer s H E hr => ((css_cons (cs_expr (ce_call (D_need_size T) hr tkOf (ca_cons (ce_var 0) ca_nil)))
  (css_cons (cs_asg (ce_call (D_tree_at T 90) hr tkOf (ca_cons (ce_var 0) (ca_cons (ce_var 1) (ca_cons ce_int ca_nil)))) (cg_tup rfl (cgs_cons (cg_name 2 sc_tree_of.nd) (cgs_cons (cg_name 3 sc_tree_of.nd) cgs_nil))))
  (css_cons (cs_if (ct_cmp (op_ltA (r64 hr)) ltD (ce_var 3) (ce_callB (call_len) lenD T.b_len PySem.boot_len (ca_cons (ce_var 1) ca_nil)) (nomark _)) (css_one (cs_raiseP (n := 4) (j := 1) rfl hr tkOf T.x_BadSaying (ce_var 3))) css_nil)
  (css_one (cs_ret (ce_var 2)))))))
theorem D_drawn (T : Txt K mg base c PT cx) : Def P Wd.w K mg base cx "drawn" 94 2 m_drawn := At.walk (N := N_drawn) T.d_drawn sc_drawn fun f cdv A outer s H E hr => ((css_one (cs_ret (ce_call (D_drawing_of T 90) hr tkOf (ca_cons (ce_var 0) (ca_cons (ce_call (D_tree_of T) hr tkOf (ca_cons (ce_var 0) (ca_cons (ce_var 1) ca_nil))) ca_nil))))))
theorem D_drawing_or_none (T : Txt K mg base c PT cx) : Def P Wd.w K mg base cx "drawing_or_none" 95 2 m_drawing_or_none := At.walk (N := N_drawing_or_none) T.d_drawing_or_none sc_drawing_or_none fun f cdv A outer s H E hr => ((css_one (cs_try_onlyN T.s_BadSaying rfl rfl rfl (by decide) tkOf (fun W pn xe tk _ => (cbs_ret (ce_call (D_drawn T) hr tk (ca_cons (ce_var 0) (ca_cons (ce_var 1) ca_nil))))) (fun e a oe pn => (css_one (cs_ret ce_non))))))
theorem D_few (T : Txt K mg base c PT cx) : Def P Wd.w K mg base cx "few" 96 2 m_few := At.walk (N := N_few) T.d_few sc_few fun f cdv A outer s H E hr => ((css_cons (cs_expr (ce_call (D_need_size T) hr tkOf (ca_cons (ce_var 0) ca_nil)))
  (css_cons (cs_if (ct_cmp (op_gtA (r64 hr)) gtD (ce_callB (call_maxDat rfl (r100 hr)) maxDD T.b_max (by decide +kernel) (ca_cons (ce_var 0) ca_nil)) (ce_globX T.c_MOST_SIDE) (nomark _)) (css_one (cs_raise (k := 1) rfl tkOf rfl T.x_BadSize)) css_nil)
  (css_cons (cs_if (ct_not (ct_chain op_le leD op_le leD ce_int (ce_var 1) (ce_globX T.c_MOST_WORDS))) (css_one (cs_raise (k := 3) rfl tkOf rfl T.x_BadNumber)) css_nil)
  (css_cons (cs_set 2 sc_few.nd (ce_lst (ca_cons (ce_tup ca_nil) ca_nil)))
  (css_cons (cs_set 3 sc_few.nd (ce_newD rfl))
  (css_cons (cs_for poOf rfl (ci_rng1 T.b_range (ca_cons (ce_op op_addD addD (ce_var 1) ce_int) ca_nil)) (cg_name 4 sc_few.nd) (css_cons (cs_set 5 sc_few.nd (ce_new ca_nil))
  (css_cons (cs_for poOf rfl (ci_seq (ce_var 2)) (cg_name 6 sc_few.nd) (css_cons (cs_set 7 sc_few.nd (ce_call (D_drawing_or_none T) hr tkOf (ca_cons (ce_var 0) (ca_cons (ce_var 6) ca_nil))))
  (css_one (cs_if (ct_cmp op_isNotA isNotD (ce_var 7) ce_non (nomark _)) (css_cons (cs_setD rfl (r100 hr) ce_bl (ce_var 3) (ce_var 7))
  (css_one (cs_expr (ce_extend (ce_var 5) (ce_comp rfl sc_few.nd (ci_seq (ce_op op_addD addD (ce_op op_addD addD (ce_globX T.c_COLOURS) (ce_globX T.c_PARTS)) (ce_globX T.c_PIECES))) (blkOk_by (own := [("word", 8)]) (N := N_few) (sc := defScope s_few) (by decide +kernel)) (by decide) (fun _ _ _ _ _ => (cg_name 8 sc_few.nd)) (fun _ _ _ _ _ => cts_nil) (fun _ _ _ _ _ => (ce_op op_addD addD (ce_var 6) (ce_tup (ca_cons (ce_var 8) ca_nil))))))))) css_nil))))
  (css_one (cs_set 2 sc_few.nd (ce_var 5))))))
  (css_one (cs_ret (ce_sortD rfl (r100 hr) T.b_sorted (ce_var 3)))))))))))
theorem D_is_drawing (T : Txt K mg base c PT cx) : Def P Wd.w K mg base cx "is_drawing" 4 2 m_is_drawing := At.walk (N := N_is_drawing) T.d_is_drawing sc_is_drawing fun f cdv A outer s H E hr => ((css_cons (cs_expr (ce_call (D_need_size T) hr tkOf (ca_cons (ce_var 0) ca_nil)))
  (css_cons (cs_if (ct_w (cw_or (ct_cmp (op_neA (r64 hr)) neD (ce_callB (call_len) lenD T.b_len PySem.boot_len (ca_cons (ce_var 1) ca_nil)) (ce_ix (ce_var 0) ce_int) (nomark _)) (cw_or1 (ct_cmp (op_neA (r64 hr)) neD (ce_comp rfl sc_is_drawing.nd (ci_seq (ce_var 1)) (blkOk_by (own := [("row", 2)]) (N := N_is_drawing) (sc := defScope s_is_drawing) (by decide +kernel)) (by decide) (fun _ _ _ _ _ => (cg_name 2 sc_is_drawing.nd)) (fun _ _ _ _ _ => (cts_one (ct_cmp (op_neA (r64 hr)) neD (ce_callB (call_len) lenD T.b_len PySem.boot_len (ca_cons (ce_var 2) ca_nil)) (ce_ix (ce_var 0) ce_int) (nomark _)))) (fun _ _ _ _ _ => (ce_var 2))) (ce_lst ca_nil) (nomark _))))) (css_one (cs_ret ce_bl)) css_nil)
  (css_cons (cs_for poOf rfl (ci_seq (ce_var 1)) (cg_name 2 sc_is_drawing.nd) (css_one (cs_if (ct_cmp (op_neA (r64 hr)) neD (ce_comp rfl sc_is_drawing.nd (ci_seq (ce_var 2)) (blkOk_by (own := [("cell", 3)]) (N := N_is_drawing) (sc := defScope s_is_drawing) (by decide +kernel)) (by decide) (fun _ _ _ _ _ => (cg_name 3 sc_is_drawing.nd)) (fun _ _ _ _ _ => (cts_one (ct_cmp (op_notInA (r100 hr)) notInDD (ce_var 3) (ce_globX T.c_COLOURS) (by rfl)))) (fun _ _ _ _ _ => (ce_var 3))) (ce_lst ca_nil) (nomark _)) (css_one (cs_ret ce_bl)) css_nil)))
  (css_one (cs_ret ce_bl))))))
theorem D_need_drawing (T : Txt K mg base c PT cx) : Def P Wd.w K mg base cx "need_drawing" 5 2 m_need_drawing := At.walk (N := N_need_drawing) T.d_need_drawing sc_need_drawing fun f cdv A outer s H E hr => ((css_one (cs_if (ct_not (ct_val (ce_call (D_is_drawing T) hr tkOf (ca_cons (ce_var 0) (ca_cons (ce_var 1) ca_nil))))) (css_one (cs_raise (k := 2) rfl tkOf rfl T.x_BadDrawing)) css_nil)))
theorem D_colours_in (T : Txt K mg base c PT cx) : Def P Wd.w K mg base cx "colours_in" 1 1 m_colours_in := At.walk (N := N_colours_in) T.d_colours_in sc_colours_in fun f cdv A outer s H E hr => ((css_one (cs_ret (ce_sortSet rfl T.b_sorted T.b_set (ce_comp rfl sc_colours_in.nd (ci_seq (ce_var 0)) (blkOk_by (own := [("cell", 1)]) (N := N_colours_in) (sc := defScope s_colours_in) (by decide +kernel)) (by decide) (fun _ _ _ _ _ => (cg_name 1 sc_colours_in.nd)) (fun _ _ _ _ _ => (cts_one (ct_cmp (op_neA (r64 hr)) neD (ce_var 1) (ce_globX T.c_ANY) (nomark _)))) (fun _ _ _ _ _ => (ce_var 1)))))))
theorem D_size_of (T : Txt K mg base c PT cx) : Def P Wd.w K mg base cx "size_of" 1 1 m_size_of := At.walk (N := N_size_of) T.d_size_of sc_size_of fun f cdv A outer s H E hr => ((css_one (cs_ret (ce_tup (ca_cons (ce_callB (call_len) lenD T.b_len PySem.boot_len (ca_cons (ce_ix (ce_var 0) ce_int) ca_nil)) (ca_cons (ce_callB (call_len) lenD T.b_len PySem.boot_len (ca_cons (ce_var 0) ca_nil)) ca_nil))))))
theorem D_laid (T : Txt K mg base c PT cx) : Def P Wd.w K mg base cx "laid" 1 2 m_laid := At.walk (N := N_laid) T.d_laid sc_laid fun f cdv A outer s H E hr => ((css_cons (cs_set 2 sc_laid.nd (ce_new ca_nil))
  (css_cons (cs_for poOf rfl (ci_zip T.b_zip (ca_cons (ce_var 0) (ca_cons (ce_var 1) ca_nil))) (cg_tup rfl (cgs_cons (cg_name 3 sc_laid.nd) (cgs_cons (cg_name 4 sc_laid.nd) cgs_nil))) (css_cons (cs_set 5 sc_laid.nd (ce_lstZip rfl T.b_list T.b_zip (ca_cons (ce_var 3) (ca_cons (ce_var 4) ca_nil))))
  (css_cons (cs_if (ct_cmp (op_neA (r64 hr)) neD (ce_comp rfl sc_laid.nd (ci_seq (ce_var 5)) (blkOk_by (own := [("pair", 6)]) (N := N_laid) (sc := defScope s_laid) (by decide +kernel)) (by decide) (fun _ _ _ _ _ => (cg_name 6 sc_laid.nd)) (fun _ _ _ _ _ => (cts_one (ct_w (cw_and (ct_cmp (op_notInA (r100 hr)) notInDD (ce_globX T.c_ANY) (ce_var 6) (by rfl)) (cw_and1 (ct_cmp (op_neA (r64 hr)) neD (ce_ix (ce_var 6) ce_int) (ce_ix (ce_var 6) ce_int) (nomark _))))))) (fun _ _ _ _ _ => (ce_var 6))) (ce_lst ca_nil) (nomark _)) (css_one (cs_ret ce_non)) css_nil)
  (css_one (cs_expr (ce_append (ce_var 2) (ce_callTy (call_tuple_of) tupD T.b_tuple (by decide +kernel) (ca_cons (ce_comp rfl sc_laid.nd (ci_seq (ce_var 5)) (blkOk_by (own := [("pair", 6)]) (N := N_laid) (sc := defScope s_laid) (by decide +kernel)) (by decide) (fun _ _ _ _ _ => (cg_name 6 sc_laid.nd)) (fun _ _ _ _ _ => cts_nil) (fun _ _ _ _ _ => (ce_if (ct_cmp (op_eqA (r64 hr)) eqD (ce_ix (ce_var 6) ce_int) (ce_globX T.c_ANY) (nomark _)) (ce_ix (ce_var 6) ce_int) (ce_ix (ce_var 6) ce_int)))) ca_nil))))))))
  (css_one (cs_ret (ce_callTy (call_tuple_of) tupD T.b_tuple (by decide +kernel) (ca_cons (ce_var 2) ca_nil)))))))
theorem D_cut_out (T : Txt K mg base c PT cx) : Def P Wd.w K mg base cx "cut_out" 1 4 m_cut_out := At.walk (N := N_cut_out) T.d_cut_out sc_cut_out fun f cdv A outer s H E hr => ((css_one (cs_ret (ce_callTy (call_tuple_of) tupD T.b_tuple (by decide +kernel) (ca_cons (ce_comp rfl sc_cut_out.nd (ci_seq (ce_sl (ce_var 0) (co_yes (ce_var 1)) (co_yes (ce_op op_addD addD (ce_var 1) (ce_ix (ce_var 3) ce_int))))) (blkOk_by (own := [("one", 4)]) (N := N_cut_out) (sc := defScope s_cut_out) (by decide +kernel)) (by decide) (fun _ _ _ _ _ => (cg_name 4 sc_cut_out.nd)) (fun _ _ _ _ _ => cts_nil) (fun _ _ _ _ _ => (ce_sl (ce_var 4) (co_yes (ce_var 2)) (co_yes (ce_op op_addD addD (ce_var 2) (ce_ix (ce_var 3) ce_int)))))) ca_nil)))))
theorem D_parts_of (T : Txt K mg base c PT cx) : Def P Wd.w K mg base cx "parts_of" 2 2 m_parts_of := At.walk (N := N_parts_of) T.d_parts_of sc_parts_of fun f cdv A outer s H E hr => ((css_cons (cs_asg (ce_call (D_size_of T) hr tkOf (ca_cons (ce_var 0) ca_nil)) (cg_tup rfl (cgs_cons (cg_name 2 sc_parts_of.nd) (cgs_cons (cg_name 3 sc_parts_of.nd) cgs_nil))))
  (css_cons (cs_if (ct_cmp (op_eqA (r64 hr)) eqD (ce_var 1) ce_str (nomark _)) (css_cons (cs_set 4 sc_parts_of.nd (ce_tup (ca_cons (ce_op op_fdiv divD (ce_var 2) ce_int) (ca_cons (ce_var 3) ca_nil))))
  (css_one (cs_ret (ce_tup (ca_cons (ce_call (D_cut_out T) hr tkOf (ca_cons (ce_var 0) (ca_cons ce_int (ca_cons ce_int (ca_cons (ce_var 4) ca_nil))))) (ca_cons (ce_call (D_cut_out T) hr tkOf (ca_cons (ce_var 0) (ca_cons ce_int (ca_cons (ce_ix (ce_var 4) ce_int) (ca_cons (ce_var 4) ca_nil))))) ca_nil)))))) css_nil)
  (css_cons (cs_if (ct_cmp (op_eqA (r64 hr)) eqD (ce_var 1) ce_str (nomark _)) (css_cons (cs_set 4 sc_parts_of.nd (ce_tup (ca_cons (ce_var 2) (ca_cons (ce_op op_fdiv divD (ce_var 3) ce_int) ca_nil))))
  (css_one (cs_ret (ce_tup (ca_cons (ce_call (D_cut_out T) hr tkOf (ca_cons (ce_var 0) (ca_cons ce_int (ca_cons ce_int (ca_cons (ce_var 4) ca_nil))))) (ca_cons (ce_call (D_cut_out T) hr tkOf (ca_cons (ce_var 0) (ca_cons (ce_ix (ce_var 4) ce_int) (ca_cons ce_int (ca_cons (ce_var 4) ca_nil))))) ca_nil)))))) css_nil)
  (css_cons (cs_set 4 sc_parts_of.nd (ce_tup (ca_cons (ce_op op_fdiv divD (ce_var 2) ce_int) (ca_cons (ce_op op_fdiv divD (ce_var 3) ce_int) ca_nil))))
  (css_cons (cs_set 5 sc_parts_of.nd (ce_call (D_laid T) hr tkOf (ca_cons (ce_call (D_cut_out T) hr tkOf (ca_cons (ce_var 0) (ca_cons ce_int (ca_cons ce_int (ca_cons (ce_var 4) ca_nil))))) (ca_cons (ce_call (D_cut_out T) hr tkOf (ca_cons (ce_var 0) (ca_cons (ce_ix (ce_var 4) ce_int) (ca_cons (ce_ix (ce_var 4) ce_int) (ca_cons (ce_var 4) ca_nil))))) ca_nil))))
  (css_cons (cs_set 6 sc_parts_of.nd (ce_call (D_laid T) hr tkOf (ca_cons (ce_call (D_cut_out T) hr tkOf (ca_cons (ce_var 0) (ca_cons ce_int (ca_cons (ce_ix (ce_var 4) ce_int) (ca_cons (ce_var 4) ca_nil))))) (ca_cons (ce_call (D_cut_out T) hr tkOf (ca_cons (ce_var 0) (ca_cons (ce_ix (ce_var 4) ce_int) (ca_cons ce_int (ca_cons (ce_var 4) ca_nil))))) ca_nil))))
  (css_one (cs_ret (ce_if (ct_w (cw_or (ct_cmp op_isA isD (ce_var 5) ce_non (nomark _)) (cw_or1 (ct_cmp op_isA isD (ce_var 6) ce_non (nomark _))))) ce_non (ce_tup (ca_cons (ce_var 5) (ca_cons (ce_var 6) ca_nil)))))))))))))
theorem D_without_own (T : Txt K mg base c PT cx) : Def P Wd.w K mg base cx "without_own" 2 2 m_without_own := At.walk (N := N_without_own) T.d_without_own sc_without_own fun f cdv A outer s H E hr => ((css_cons (cs_set 2 sc_without_own.nd (ce_call (D_size_of T) hr tkOf (ca_cons (ce_var 0) ca_nil)))
  (css_cons (cs_set 3 sc_without_own.nd (ce_new ca_nil))
  (css_cons (cs_set 4 sc_without_own.nd (ce_new ca_nil))
  (css_cons (cs_for poOf rfl (ci_rng1 T.b_range (ca_cons (ce_ix (ce_var 2) ce_int) ca_nil)) (cg_name 5 sc_without_own.nd) (css_cons (cs_expr (ce_extend (ce_var 3) (ce_comp rfl sc_without_own.nd (ci_rng1 T.b_range (ca_cons (ce_ix (ce_var 2) ce_int) ca_nil)) (blkOk_by (own := [("k", 7)]) (N := N_without_own) (sc := defScope s_without_own) (by decide +kernel)) (by decide) (fun _ _ _ _ _ => (cg_name 7 sc_without_own.nd)) (fun _ _ _ _ _ => (cts_one (ct_val (ce_callC (D_is_own T) hr rfl (ca_cons (ce_var 2) (ca_cons (ce_var 1) (ca_cons (ce_var 5) (ca_cons (ce_var 7) ca_nil)))))))) (fun _ _ _ _ _ => (ce_ix (ce_ix (ce_var 0) (ce_var 5)) (ce_var 7))))))
  (css_one (cs_expr (ce_append (ce_var 4) (ce_callTy (call_tuple_of) tupD T.b_tuple (by decide +kernel) (ca_cons (ce_comp rfl sc_without_own.nd (ci_rng1 T.b_range (ca_cons (ce_ix (ce_var 2) ce_int) ca_nil)) (blkOk_by (own := [("k", 7)]) (N := N_without_own) (sc := defScope s_without_own) (by decide +kernel)) (by decide) (fun _ _ _ _ _ => (cg_name 7 sc_without_own.nd)) (fun _ _ _ _ _ => cts_nil) (fun _ _ _ _ _ => (ce_if (ct_val (ce_callC (D_is_own T) hr rfl (ca_cons (ce_var 2) (ca_cons (ce_var 1) (ca_cons (ce_var 5) (ca_cons (ce_var 7) ca_nil)))))) (ce_globX T.c_ANY) (ce_ix (ce_ix (ce_var 0) (ce_var 5)) (ce_var 7))))) ca_nil)))))))
  (css_cons (cs_set 6 sc_without_own.nd (ce_call (D_colours_in T) hr tkOf (ca_cons (ce_var 3) ca_nil)))
  (css_one (cs_ret (ce_if (ct_cmp (op_eqA (r64 hr)) eqD (ce_callB (call_len) lenD T.b_len PySem.boot_len (ca_cons (ce_var 6) ca_nil)) ce_int (nomark _)) (ce_tup (ca_cons (ce_ix (ce_var 6) ce_int) (ca_cons (ce_callTy (call_tuple_of) tupD T.b_tuple (by decide +kernel) (ca_cons (ce_var 4) ca_nil)) ca_nil))) ce_non)))))))))
theorem D_ways (T : Txt K mg base c PT cx) : Def P Wd.w K mg base cx "ways" 3 1 m_ways := At.walk (N := N_ways) T.d_ways sc_ways fun f cdv A outer s H E hr => ((css_cons (cs_set 1 sc_ways.nd (ce_new ca_nil))
  (css_cons (cs_for poOf rfl (ci_seq (ce_globX T.c_PARTS)) (cg_name 2 sc_ways.nd) (css_one (cs_if (ct_val (ce_call (D_fits T) hr tkOf (ca_cons (ce_call (D_size_of T) hr tkOf (ca_cons (ce_var 0) ca_nil)) (ca_cons (ce_var 2) ca_nil)))) (css_cons (cs_set 3 sc_ways.nd (ce_call (D_parts_of T) hr tkOf (ca_cons (ce_var 0) (ca_cons (ce_var 2) ca_nil))))
  (css_one (cs_if (ct_cmp op_isNotA isNotD (ce_var 3) ce_non (nomark _)) (css_one (cs_expr (ce_append (ce_var 1) (ce_tup (ca_cons (ce_tup (ca_cons (ce_var 2) ca_nil)) (ca_cons (ce_var 3) ca_nil)))))) css_nil))) css_nil)))
  (css_cons (cs_for poOf rfl (ci_seq (ce_globX T.c_PIECES)) (cg_name 4 sc_ways.nd) (css_one (cs_if (ct_val (ce_call (D_fits T) hr tkOf (ca_cons (ce_call (D_size_of T) hr tkOf (ca_cons (ce_var 0) ca_nil)) (ca_cons (ce_var 4) ca_nil)))) (css_cons (cs_set 5 sc_ways.nd (ce_call (D_without_own T) hr tkOf (ca_cons (ce_var 0) (ca_cons (ce_var 4) ca_nil))))
  (css_one (cs_if (ct_cmp op_isNotA isNotD (ce_var 5) ce_non (nomark _)) (css_one (cs_expr (ce_append (ce_var 1) (ce_tup (ca_cons (ce_tup (ca_cons (ce_var 4) (ca_cons (ce_ix (ce_var 5) ce_int) ca_nil))) (ca_cons (ce_tup (ca_cons (ce_ix (ce_var 5) ce_int) ca_nil)) ca_nil)))))) css_nil))) css_nil)))
  (css_one (cs_ret (ce_var 1)))))))
theorem D_all_cells (T : Txt K mg base c PT cx) : Def P Wd.w K mg base cx "all_cells" 1 1 m_all_cells := At.walk (N := N_all_cells) T.d_all_cells sc_all_cells fun f cdv A outer s H E hr => ((css_cons (cs_set 1 sc_all_cells.nd (ce_new ca_nil))
  (css_cons (cs_for poOf rfl (ci_seq (ce_var 0)) (cg_name 2 sc_all_cells.nd) (css_one (cs_expr (ce_extend (ce_var 1) (ce_var 2)))))
  (css_one (cs_ret (ce_var 1))))))
theorem D_shorter (T : Txt K mg base c PT cx) : Def P Wd.w K mg base cx "shorter" 3 1 m_shorter := AtC.walk (N := N_shorter) T.d_shorter sc_shorter fun f A outer s H E hr => ((css_one (cs_ret (ce_minK (k := 0) rfl hr ⟨T.l_tb, rfl, rfl, T.l_mem, T.l_uni⟩ (NdefX.nscope_by (N := ["words"]) (ps := ["words"]) (fr := []) (by decide +kernel)) (fun c pm ctv us hl => match us, hl with | [_], _ => rfl) (fun c f A outer s H E hr W cx => (ce_tup (ca_cons (ce_callB (call_len) lenD T.b_len PySem.boot_len (ca_cons (ce_var 0) ca_nil)) (ca_cons (ce_var 0) ca_nil)))) rfl rfl (nofree (by decide +kernel)) T.b_min (ce_var 0)))))
theorem D_best (T : Txt K mg base c PT cx) : ∀ j : Nat, Def P Wd.w K mg base cx "best" (3 + j) 2 (m_best j)
  | 0 => At.zero T.d_best
  | j + 1 => At.walk (k := 3 + j) (N := N_best) T.d_best sc_best fun f cdv A outer s H E hr => ((css_cons (cs_if (ct_inD rfl (r100 hr) (ce_var 0) (ce_var 1)) (css_one (cs_ret (ce_getD rfl (r100 hr) (ce_var 1) (ce_var 0)))) css_nil)
  (css_cons (cs_set 2 sc_best.nd (ce_call (D_colours_in T) hr tkOf (ca_cons (ce_call (D_all_cells T) hr tkOf (ca_cons (ce_var 0) ca_nil)) ca_nil)))
  (css_cons (cs_if (ct_cmp (op_ltA (r64 hr)) ltD (ce_callB (call_len) lenD T.b_len PySem.boot_len (ca_cons (ce_var 2) ca_nil)) ce_int (nomark _)) (css_cons (cs_set 3 sc_best.nd (ce_ix (ce_op op_addD addD (ce_var 2) (ce_lst (ca_cons ce_str ca_nil))) ce_int))
  (css_cons (cs_setD rfl (r100 hr) (ce_tup (ca_cons (ce_tup (ca_cons (ce_var 3) ca_nil)) (ca_cons (ce_if (ct_cmp (op_inA (r100 hr)) inDD (ce_var 2) (ce_tup (ca_cons (ce_lst ca_nil) (ca_cons (ce_lst (ca_cons ce_str ca_nil)) ca_nil))) (by rfl)) (ce_tup ca_nil) (ce_tup (ca_cons (ce_var 3) ca_nil))) ca_nil))) (ce_var 1) (ce_var 0))
  (css_one (cs_ret (ce_getD rfl (r100 hr) (ce_var 1) (ce_var 0)))))) css_nil)
  (css_cons (cs_set 4 sc_best.nd (ce_new ca_nil))
  (css_cons (cs_set 5 sc_best.nd (ce_new ca_nil))
  (css_cons (cs_for poOf rfl (ci_seq (ce_call (D_ways T) hr tkOf (ca_cons (ce_var 0) ca_nil))) (cg_tup rfl (cgs_cons (cg_name 6 sc_best.nd) (cgs_cons (cg_name 7 sc_best.nd) cgs_nil))) (css_cons (cs_setC 8 rfl sc_best.nd (ci_seq (ce_var 7)) (blkOk_by (own := [("one", 9)]) (N := N_best) (sc := defScope s_best) (by decide +kernel)) (by decide) (fun _ _ _ _ _ => (cg_name 9 sc_best.nd)) (fun _ _ _ _ _ => cts_nil) (fun _ _ _ _ _ => (ce_callC (D_best T j) hr rfl (ca_cons (ce_var 9) (ca_cons (ce_var 1) ca_nil)))))
  (css_cons (cs_if (ct_cmp (op_eqA (r64 hr)) eqD (ce_callB (call_len) lenD T.b_len PySem.boot_len (ca_cons (ce_var 8) ca_nil)) ce_int (nomark _)) (css_cons (cs_expr (ce_append (ce_var 4) (ce_op op_addD addD (ce_op op_addD addD (ce_var 6) (ce_ix (ce_ix (ce_var 8) ce_int) ce_int)) (ce_ix (ce_ix (ce_var 8) ce_int) ce_int))))
  (css_one (cs_expr (ce_append (ce_var 5) (ce_op op_addD addD (ce_op op_addD addD (ce_var 6) (ce_ix (ce_ix (ce_var 8) ce_int) ce_int)) (ce_ix (ce_ix (ce_var 8) ce_int) ce_int)))))) (css_one (cs_expr (ce_append (ce_var 4) (ce_op op_addD addD (ce_var 6) (ce_ix (ce_ix (ce_var 8) ce_int) ce_int))))))
  (css_one (cs_if (ct_w (cw_or (ct_cmp (op_eqA (r64 hr)) eqD (ce_ix (ce_ix (ce_var 8) (ce_un un_neg negD ce_int)) ce_int) (ce_tup ca_nil) (nomark _)) (cw_or1 (ct_cmp (op_eqA (r64 hr)) eqD (ce_callB (call_len) lenD T.b_len PySem.boot_len (ca_cons (ce_var 8) ca_nil)) ce_int (nomark _))))) (css_one (cs_expr (ce_append (ce_var 5) (ce_op op_addD addD (ce_var 6) (ce_ix (ce_ix (ce_var 8) ce_int) ce_int))))) css_nil)))))
  (css_cons (cs_setD rfl (r100 hr) (ce_tup (ca_cons (ce_call (D_shorter T) hr tkOf (ca_cons (ce_var 4) ca_nil)) (ca_cons (ce_call (D_shorter T) hr tkOf (ca_cons (ce_var 5) ca_nil)) ca_nil))) (ce_var 1) (ce_var 0))
  (css_one (cs_ret (ce_getD rfl (r100 hr) (ce_var 1) (ce_var 0))))))))))))
theorem D_said (T : Txt K mg base c PT cx) : Def P Wd.w K mg base cx "said" 44 2 m_said := At.walk (N := N_said) T.d_said sc_said fun f cdv A outer s H E hr => ((css_cons (cs_expr (ce_call (D_need_drawing T) hr tkOf (ca_cons (ce_var 0) (ca_cons (ce_var 1) ca_nil))))
  (css_one (cs_ret (ce_ix (ce_call (D_best T 40) hr tkOf (ca_cons (ce_var 1) (ca_cons (ce_newD rfl) ca_nil))) ce_int)))))
def b_law_1 : DS := (sIf (bAnd (bVal (eCall m__law_fits (aCons (eVar 2) (aCons (eVar 13) aNil)))) (bVal (eOp fNotIn (eCall m_drawn (aCons (eVar 2) (aCons (eTup (aCons (eVar 13) (aCons (eVar 7) aNil))) aNil))) (eOp fIx (eVar 4) (eC (.int 2)))))) (sRet (eC (.bool false))) sNx)
def b_law_2 : DS := (sIf (bAnd (bVal (eCall m__law_fits (aCons (eVar 2) (aCons (eVar 12) aNil)))) (bVal (eOp fNotIn (eCall m_drawn (aCons (eVar 2) (aCons (eTup (aCons (eVar 12) (aCons (eVar 7) aNil))) aNil))) (eOp fIx (eVar 4) (eC (.int 2)))))) (sRet (eC (.bool false))) sNx)
def b_law_3 : DS := (sSeq (sAsg (eCall m_drawn (aCons (eVar 2) (aCons (eSl (eVar 10) oNo (oYes (eVar 5))) aNil))) (gNm 9))
  (sSeq (sAsg (eCB bLen (aCons (eCall m_said (aCons (eVar 2) (aCons (eVar 9) aNil))) aNil)) (gNm 3))
  (sIf (bOr (bVal (eOp fGt (eVar 3) (eVar 5))) (bOr (bAnd (bVal (eOp fLt (eVar 3) (eC (.int 3)))) (bVal (eOp fNe (eOp fIn (eVar 9) (eOp fIx (eVar 4) (eC (.int 2)))) (eOp fLe (eVar 3) (eC (.int 2)))))) (bVal (eOp fNe (eOp fIn (eVar 9) (eOp fIx (eVar 4) (eC (.int 1)))) (eOp fLe (eVar 3) (eC (.int 1))))))) (sRet (eC (.bool false))) sNx)))
def b_law_4 : DS := (sSeq (sAsg (eOp fIx (eOp fIx (eVar 4) (eVar 5)) (eCall m__law_taken (aCons (eVar 1) (aCons (eCB bLen (aCons (eOp fIx (eVar 4) (eVar 5)) aNil)) aNil)))) (gNm 9))
  (sIf (bOr (bVal (eOp fGt (eCB bLen (aCons (eCall m_said (aCons (eVar 2) (aCons (eVar 9) aNil))) aNil)) (eVar 5))) (bVal (eOp fNe (eCall m_drawn (aCons (eVar 2) (aCons (eCall m_said (aCons (eVar 2) (aCons (eVar 9) aNil))) aNil))) (eVar 9)))) (sRet (eC (.bool false))) sNx))
def b_law_5 : DS := (sSeq (sAsg (eOp fIx (eVar 4) (eCB bMin (aCons (eOp fAdd (eVar 5) (eC (.int 1))) (aCons (eC (.int 2)) aNil)))) (gNm 6))
  (sSeq (sIf (bOr (bVal (eOp fNe (eOp fIx (eVar 4) (eVar 5)) (eCB bSorted (aCons (eOp fIx (eVar 4) (eVar 5)) aNil)))) (bVal (eOp fNe (eComp (iSeq (eOp fIx (eVar 4) (eVar 5))) (gNm 7) (bVal (eOp fNotIn (eVar 7) (eVar 6))) (eVar 7) [7]) (eLst aNil)))) (sRet (eC (.bool false))) sNx)
  (sFor (iRng1 (aCons (eC (.int 4)) aNil)) (gNm 8) b_law_4)))
def m_law : Fn := callD 1 15 ((sSeq (sAsg (eNew (eLst (aCons (eVar 0) (aCons (eC (.int 0)) (aCons (eC (.int 0)) (aCons (eC (.int 0)) aNil)))))) (gNm 1))
  (sSeq (sAsg (eOp fIx (eLst (aCons (eTup (aCons (eC (.int 1)) (aCons (eC (.int 1)) aNil))) (aCons (eTup (aCons (eC (.int 1)) (aCons (eC (.int 2)) aNil))) (aCons (eTup (aCons (eC (.int 2)) (aCons (eC (.int 1)) aNil))) (aCons (eTup (aCons (eC (.int 2)) (aCons (eC (.int 2)) aNil))) (aCons (eTup (aCons (eC (.int 4)) (aCons (eC (.int 1)) aNil))) (aCons (eTup (aCons (eC (.int 4)) (aCons (eC (.int 4)) aNil))) (aCons (eTup (aCons (eC (.int 2)) (aCons (eC (.int 4)) aNil))) aNil)))))))) (eCall m__law_taken (aCons (eVar 1) (aCons (eC (.int 7)) aNil)))) (gNm 2))
  (sSeq (sAsg (eComp (iRng1 (aCons (eC (.int 3)) aNil)) (gNm 3) bYes (eCall m_few (aCons (eVar 2) (aCons (eVar 3) aNil))) [3]) (gNm 4))
  (sSeq (sIf (bOr (bVal (eOp fNe (eOp fIx (eVar 4) (eC (.int 0))) (eLst (aCons (eCall m_drawn (aCons (eVar 2) (aCons (eTup aNil) aNil))) aNil)))) (bVal (eOp fNe (eCB bLen (aCons (eOp fIx (eVar 4) (eC (.int 1))) aNil)) (eC (.int 6))))) (sRet (eC (.bool false))) sNx)
  (sSeq (sFor (iRng1 (aCons (eC (.int 3)) aNil)) (gNm 5) b_law_5)
  (sSeq (sAsg (eCall (m__law_saying 8) (aCons (eVar 1) (aCons (eVar 2) (aCons (eC (.int 2)) aNil)))) (gNm 10))
  (sSeq (sFor (iRng1 (aCons (eOp fAdd (eCB bLen (aCons (eVar 10) aNil)) (eC (.int 1))) aNil)) (gNm 5) b_law_3)
  (sSeq (sAsg (eLst (aCons (eC (.str "black")) (aCons (eC (.str "blue")) (aCons (eC (.str "green")) (aCons (eC (.str "red")) (aCons (eC (.str "white")) (aCons (eC (.str "yellow")) aNil))))))) (gNm 11))
  (sSeq (sAsg (eOp fIx (eVar 11) (eCall m__law_taken (aCons (eVar 1) (aCons (eC (.int 6)) aNil)))) (gNm 7))
  (sSeq (sFor (iSeq (eTup (aCons (eC (.str "party")) (aCons (eC (.str "cut")) aNil)))) (gNm 12) b_law_2)
  (sSeq (sFor (iSeq (eTup (aCons (eC (.str "pillar")) (aCons (eC (.str "band")) (aCons (eC (.str "head")) (aCons (eC (.str "edge")) aNil)))))) (gNm 13) b_law_1)
  (sRet (eOp fEq (eComp (iSeq (eVar 11)) (gNm 14) bYes (eOp fMul (eTup (aCons (eVar 14) aNil)) (eOp fIx (eVar 2) (eC (.int 0)))) [14]) (eComp (iSeq (eOp fIx (eVar 4) (eC (.int 1)))) (gNm 9) bYes (eOp fIx (eVar 9) (eC (.int 0))) [9])))))))))))))))
theorem D_law (a : At K mg "law" s_law ["_law_script"]) (TT : ∀ base, LamX.TabB base mg c PT → Txt K mg base c PT cx) : ∃ f fd, mg "law" = some (.ref f) ∧ SB fd ["_law_script"] ∧ ∀ base : Heap, LamX.TabB base mg c PT → FnOk P Wd.w K mg base (L2.CX P Wd.w) 97 f fd ["_law_script"] (spF K cx 1 m_law) := At.lawC a sc_law fun base hC f cdv A outer s H E hr => let T := TT base hC; ((css_cons (cs_set 1 sc_law.nd (ce_new (ca_cons (ce_var 0) (ca_cons ce_int (ca_cons ce_int (ca_cons ce_int ca_nil))))))
  (css_cons (cs_set 2 sc_law.nd (ce_ix (ce_lst (ca_cons (ce_tup (ca_cons ce_int (ca_cons ce_int ca_nil))) (ca_cons (ce_tup (ca_cons ce_int (ca_cons ce_int ca_nil))) (ca_cons (ce_tup (ca_cons ce_int (ca_cons ce_int ca_nil))) (ca_cons (ce_tup (ca_cons ce_int (ca_cons ce_int ca_nil))) (ca_cons (ce_tup (ca_cons ce_int (ca_cons ce_int ca_nil))) (ca_cons (ce_tup (ca_cons ce_int (ca_cons ce_int ca_nil))) (ca_cons (ce_tup (ca_cons ce_int (ca_cons ce_int ca_nil))) ca_nil)))))))) (ce_call (D__law_taken T) hr tkOf (ca_cons (ce_var 1) (ca_cons ce_int ca_nil)))))
  (css_cons (cs_setC 4 rfl sc_law.nd (ci_rng1 T.b_range (ca_cons ce_int ca_nil)) (blkOk_by (own := [("_law_many", 3)]) (N := N_law) (sc := defScope s_law) (by decide +kernel)) (by decide) (fun _ _ _ _ _ => (cg_name 3 sc_law.nd)) (fun _ _ _ _ _ => cts_nil) (fun _ _ _ _ _ => (ce_callC (D_few T) hr rfl (ca_cons (ce_var 2) (ca_cons (ce_var 3) ca_nil)))))
  (css_cons (cs_if (ct_w (cw_or (ct_cmp (op_neA (r64 hr)) neD (ce_ix (ce_var 4) ce_int) (ce_lst (ca_cons (ce_call (D_drawn T) hr tkOf (ca_cons (ce_var 2) (ca_cons (ce_tup ca_nil) ca_nil))) ca_nil)) (nomark _)) (cw_or1 (ct_cmp (op_neA (r64 hr)) neD (ce_callB (call_len) lenD T.b_len PySem.boot_len (ca_cons (ce_ix (ce_var 4) ce_int) ca_nil)) ce_int (nomark _))))) (css_one (cs_ret ce_bl)) css_nil)
  (css_cons (cs_for poOf rfl (ci_rng1 T.b_range (ca_cons ce_int ca_nil)) (cg_name 5 sc_law.nd) (css_cons (cs_set 6 sc_law.nd (ce_ix (ce_var 4) (ce_callB (call_minD rfl (r100 hr)) minD T.b_min (by decide +kernel) (ca_cons (ce_op op_addD addD (ce_var 5) ce_int) (ca_cons ce_int ca_nil)))))
  (css_cons (cs_if (ct_w (cw_or (ct_cmp (op_neA (r64 hr)) neD (ce_ix (ce_var 4) (ce_var 5)) (ce_callB (call_sortAny (r100 hr)) sortedD T.b_sorted (by decide +kernel) (ca_cons (ce_ix (ce_var 4) (ce_var 5)) ca_nil)) (nomark _)) (cw_or1 (ct_cmp (op_neA (r64 hr)) neD (ce_comp rfl sc_law.nd (ci_seq (ce_ix (ce_var 4) (ce_var 5))) (blkOk_by (own := [("_law_one", 7)]) (N := N_law) (sc := defScope s_law) (by decide +kernel)) (by decide) (fun _ _ _ _ _ => (cg_name 7 sc_law.nd)) (fun _ _ _ _ _ => (cts_one (ct_cmp (op_notInA (r100 hr)) notInDD (ce_var 7) (ce_var 6) (by rfl)))) (fun _ _ _ _ _ => (ce_var 7))) (ce_lst ca_nil) (nomark _))))) (css_one (cs_ret ce_bl)) css_nil)
  (css_one (cs_for poOf rfl (ci_rng1 T.b_range (ca_cons ce_int ca_nil)) (cg_name 8 sc_law.nd) (css_cons (cs_set 9 sc_law.nd (ce_ix (ce_ix (ce_var 4) (ce_var 5)) (ce_call (D__law_taken T) hr tkOf (ca_cons (ce_var 1) (ca_cons (ce_callB (call_len) lenD T.b_len PySem.boot_len (ca_cons (ce_ix (ce_var 4) (ce_var 5)) ca_nil)) ca_nil)))))
  (css_one (cs_if (ct_w (cw_or (ct_cmp (op_gtA (r64 hr)) gtD (ce_callB (call_len) lenD T.b_len PySem.boot_len (ca_cons (ce_call (D_said T) hr tkOf (ca_cons (ce_var 2) (ca_cons (ce_var 9) ca_nil))) ca_nil)) (ce_var 5) (nomark _)) (cw_or1 (ct_cmp (op_neA (r64 hr)) neD (ce_call (D_drawn T) hr tkOf (ca_cons (ce_var 2) (ca_cons (ce_call (D_said T) hr tkOf (ca_cons (ce_var 2) (ca_cons (ce_var 9) ca_nil))) ca_nil))) (ce_var 9) (nomark _))))) (css_one (cs_ret ce_bl)) css_nil))))))))
  (css_cons (cs_set 10 sc_law.nd (ce_call (D__law_saying T 8) hr tkOf (ca_cons (ce_var 1) (ca_cons (ce_var 2) (ca_cons ce_int ca_nil)))))
  (css_cons (cs_for poOf rfl (ci_rng1 T.b_range (ca_cons (ce_op op_addD addD (ce_callB (call_len) lenD T.b_len PySem.boot_len (ca_cons (ce_var 10) ca_nil)) ce_int) ca_nil)) (cg_name 5 sc_law.nd) (css_cons (cs_set 9 sc_law.nd (ce_call (D_drawn T) hr tkOf (ca_cons (ce_var 2) (ca_cons (ce_sl (ce_var 10) co_no (co_yes (ce_var 5))) ca_nil))))
  (css_cons (cs_set 3 sc_law.nd (ce_callB (call_len) lenD T.b_len PySem.boot_len (ca_cons (ce_call (D_said T) hr tkOf (ca_cons (ce_var 2) (ca_cons (ce_var 9) ca_nil))) ca_nil)))
  (css_one (cs_if (ct_w (cw_or (ct_cmp (op_gtA (r64 hr)) gtD (ce_var 3) (ce_var 5) (nomark _)) (cw_or (ct_w (cw_and (ct_cmp (op_ltA (r64 hr)) ltD (ce_var 3) ce_int (nomark _)) (cw_and1 (ct_cmp (op_neA (r64 hr)) neD (ce_cmp (op_inA (r100 hr)) inDD (ce_var 9) (ce_ix (ce_var 4) ce_int) (by rfl)) (ce_cmp op_le leD (ce_var 3) ce_int (nomark _)) (nomark _))))) (cw_or1 (ct_cmp (op_neA (r64 hr)) neD (ce_cmp (op_inA (r100 hr)) inDD (ce_var 9) (ce_ix (ce_var 4) ce_int) (by rfl)) (ce_cmp op_le leD (ce_var 3) ce_int (nomark _)) (nomark _)))))) (css_one (cs_ret ce_bl)) css_nil)))))
  (css_cons (cs_set 11 sc_law.nd (ce_lst (ca_cons ce_str (ca_cons ce_str (ca_cons ce_str (ca_cons ce_str (ca_cons ce_str (ca_cons ce_str ca_nil))))))))
  (css_cons (cs_set 7 sc_law.nd (ce_ix (ce_var 11) (ce_call (D__law_taken T) hr tkOf (ca_cons (ce_var 1) (ca_cons ce_int ca_nil)))))
  (css_cons (cs_for poOf rfl (ci_seq (ce_tup (ca_cons ce_str (ca_cons ce_str ca_nil)))) (cg_name 12 sc_law.nd) (css_one (cs_if (ct_w (cw_and (ct_val (ce_call (D__law_fits T) hr tkOf (ca_cons (ce_var 2) (ca_cons (ce_var 12) ca_nil)))) (cw_and1 (ct_cmp (op_notInA (r100 hr)) notInDD (ce_call (D_drawn T) hr tkOf (ca_cons (ce_var 2) (ca_cons (ce_tup (ca_cons (ce_var 12) (ca_cons (ce_var 7) ca_nil))) ca_nil))) (ce_ix (ce_var 4) ce_int) (by rfl))))) (css_one (cs_ret ce_bl)) css_nil)))
  (css_cons (cs_for poOf rfl (ci_seq (ce_tup (ca_cons ce_str (ca_cons ce_str (ca_cons ce_str (ca_cons ce_str ca_nil)))))) (cg_name 13 sc_law.nd) (css_one (cs_if (ct_w (cw_and (ct_val (ce_call (D__law_fits T) hr tkOf (ca_cons (ce_var 2) (ca_cons (ce_var 13) ca_nil)))) (cw_and1 (ct_cmp (op_notInA (r100 hr)) notInDD (ce_call (D_drawn T) hr tkOf (ca_cons (ce_var 2) (ca_cons (ce_tup (ca_cons (ce_var 13) (ca_cons (ce_var 7) ca_nil))) ca_nil))) (ce_ix (ce_var 4) ce_int) (by rfl))))) (css_one (cs_ret ce_bl)) css_nil)))
  (css_one (cs_ret (ce_cmp (op_eqA (r64 hr)) eqD (ce_comp rfl sc_law.nd (ci_seq (ce_var 11)) (blkOk_by (own := [("_law_colour_here", 14)]) (N := N_law) (sc := defScope s_law) (by decide +kernel)) (by decide) (fun _ _ _ _ _ => (cg_name 14 sc_law.nd)) (fun _ _ _ _ _ => cts_nil) (fun _ _ _ _ _ => (ce_op op_mulA mulD (ce_tup (ca_cons (ce_var 14) ca_nil)) (ce_ix (ce_var 2) ce_int)))) (ce_comp rfl sc_law.nd (ci_seq (ce_ix (ce_var 4) ce_int)) (blkOk_by (own := [("_law_rows", 9)]) (N := N_law) (sc := defScope s_law) (by decide +kernel)) (by decide) (fun _ _ _ _ _ => (cg_name 9 sc_law.nd)) (fun _ _ _ _ _ => cts_nil) (fun _ _ _ _ _ => (ce_ix (ce_var 9) ce_int))) (nomark _))))))))))))))))
end
end Bz
set_option Elab.async false
set_option linter.all false
set_option maxRecDepth 100000
set_option maxHeartbeats 4000000
/-! Law k20. -/
namespace Bz
open PySem
theorem eqv_M (w h : Nat) (f g : Nat → Nat → Col) : PyData.eqv (encM w h f) (encM w h g) = true ↔ encM w h f = encM w h g := by
  rw [eqv_encM]
  constructor
  · intro e
    exact encM_congr (sameM_iff.mp e)
  · intro e
    have q := eqv_encM w h f g
    rw [← e, eqv_encM] at q
    rw [← q]
    exact sameM_of fun _ _ _ _ => rfl
theorem eqvAll_M {w h : Nat} : ∀ {xs : List PyData}, AreM w h xs → PyData.eqvAll xs xs = true
  | [], _ => by simp [PyData.eqvAll]
  | x :: xs, H => by
    obtain ⟨f, rfl⟩ := H x (by simp)
    have e := eqvAll_M (xs := xs) fun d hd => H d (List.mem_cons_of_mem _ hd)
    simp only [PyData.eqvAll, e, Bool.and_true]
    exact (eqv_M w h f f).mpr rfl
theorem canLay_M {w h : Nat} {xs : List PyData} (H : AreM w h xs) : (PyData.list xs).canLay0 = true := by
  simp only [PyData.canLay0]
  refine (canLay_all (a := fun x => x) xs fun d hd => ?_ : PyData.canLayAll0 (xs.map fun x => x) = true) |> fun q => by simpa using q
  obtain ⟨f, rfl⟩ := H d hd
  exact canLay_encM w h f
theorem depth_M {w h : Nat} {xs : List PyData} (H : AreM w h xs) : (PyData.list xs).depth ≤ 4 := by
  have q : PyData.depthAll (xs.map fun x => x) ≤ 3 := depth_all (a := fun x => x) xs fun d hd => by
    obtain ⟨f, rfl⟩ := H d hd
    exact depth_encM w h f
  simp only [List.map_id'] at q
  simp only [PyData.depth]
  omega
theorem ne_listM {w h : Nat} {xs : List PyData} (H : AreM w h xs) : fNe (.list xs) (.list xs) = some (.bool false) := by
  have c := canLay_M H
  have d : min (PyData.list xs).depth (PyData.list xs).depth ≤ 64 := by
    have := depth_M H
    omega
  have e : PyData.eqv (.list xs) (.list xs) = true := by
    simp only [PyData.eqv]
    exact eqvAll_M H
  have hs : scalD (.list xs) (.list xs) = none := rfl
  simp only [fNe, eqD2, hs, c, d, e, Bool.and_self, decide_true, if_true, Option.map_some, Bool.not_true]
theorem inD_M {w h : Nat} {f : Nat → Nat → Col} {xs : List PyData} (H : AreM w h xs) : inD (encM w h f) xs = true ↔ encM w h f ∈ xs := by
  unfold inD
  rw [List.any_eq_true]
  constructor
  · rintro ⟨y, hy, e⟩
    obtain ⟨g, rfl⟩ := H y hy
    rw [← (eqv_M w h g f).mp e]
    exact hy
  · intro hm
    exact ⟨_, hm, (eqv_M w h f f).mpr rfl⟩
theorem shaped_M {w h : Nat} {xs : List PyData} (H : AreM w h xs) : SeqAt.shaped (.list xs) = true := by
  have := depth_M H
  exact Bool.and_eq_true_iff.mpr ⟨canLay_M H, decide_eq_true (by omega)⟩
theorem shaped_enc (w h : Nat) (f : Nat → Nat → Col) : SeqAt.shaped (encM w h f) = true := by
  have := depth_encM w h f
  exact Bool.and_eq_true_iff.mpr ⟨canLay_encM w h f, decide_eq_true (by omega)⟩
theorem fIn_M {w h : Nat} {f : Nat → Nat → Col} {xs : List PyData} (H : AreM w h xs) : fIn (encM w h f) (.list xs) = some (.bool (inD (encM w h f) xs)) := by
  simp only [fIn, shaped_M H, shaped_enc, Bool.and_self, if_true]
theorem fNotIn_M {w h : Nat} {f : Nat → Nat → Col} {xs : List PyData} (H : AreM w h xs) : fNotIn (encM w h f) (.list xs) = some (.bool (!inD (encM w h f) xs)) := by
  simp only [fNotIn, shaped_M H, shaped_enc, Bool.and_self, if_true]
/-! what is told -/
theorem Says.sy {us : List Str} {t : Tree} {w h : Nat} (T : Says us t w h) : Sy w h us t := ⟨T.fit, T.sees, T.le⟩
theorem Sy.trim {w h : Nat} {us : List Str} {t : Tree} (T : Sy w h us t) : Bz.trim us = Bz.trim t.words := by
  rw [T.split, trim_add_white]
/-- a drawing is among those of few words just where so few are said -/
theorem in_few {w h n : Nat} {ks : List PyData} (F : FewOf w h n ks) {f : Nat → Nat → Col} {vs : List Str} {y : Tree} (Q : SaidOf w h f vs y) : encM w h f ∈ ks ↔ vs.length ≤ n := by
  rw [F.mem]
  constructor
  · rintro ⟨us, t, hl, T, e⟩
    have q := (Q.least T.1 (fun r hr k hk => (sameM_iff.mp ((eqv_encM w h f (cell t w h)).symm.trans ((eqv_M w h _ _).mpr e)) r hr k hk).symm)).len
    rw [← T.trim] at q
    have := trim_len us
    omega
  · intro hl
    exact ⟨vs, y, hl, Q.says.sy, encM_congr fun r hr k hk => (Q.draws r hr k hk).symm⟩
structure XOf (w h n : Nat) (ks xs : List PyData) : Prop where
  few : FewOf w h n ks
  is_ : xs = ks.mergeSort dLe
theorem XOf.mem {w h n : Nat} {ks xs : List PyData} (X : XOf w h n ks xs) {d : PyData} : d ∈ xs ↔ d ∈ ks := by
  rw [X.is_]
  exact List.mem_mergeSort
theorem XOf.are {w h n : Nat} {ks xs : List PyData} (X : XOf w h n ks xs) : AreM w h xs := fun d hd => X.few.are d (X.mem.mp hd)
theorem XOf.len {w h n : Nat} {ks xs : List PyData} (X : XOf w h n ks xs) : xs.length ≤ 10000 := by
  rw [X.is_, List.length_mergeSort]
  exact X.few.len
theorem XOf.said {w h n : Nat} {ks xs : List PyData} (X : XOf w h n ks xs) {f : Nat → Nat → Col} {vs : List Str} {y : Tree} (Q : SaidOf w h f vs y) : inD (encM w h f) xs = decide (vs.length ≤ n) := by
  rw [Bool.eq_iff_iff, inD_M X.are, X.mem, in_few X.few Q, decide_eq_true_eq]
theorem white_sees (w h : Nat) : Sy w h [] (.col .white) := ⟨True.intro, fun i hi => by
  simp only [Tree.words, List.length_singleton] at hi
  have : i = 0 := by omega
  subst this
  rfl, by simp⟩
theorem few_0 {w h : Nat} {ks xs : List PyData} (X : XOf w h 0 ks xs) : xs = [encM w h (cell (.col .white) w h)] := by
  have hm : ∀ d, d ∈ ks ↔ d = encM w h (cell (.col .white) w h) := fun d => by
    rw [X.few.mem]
    constructor
    · rintro ⟨us, t, hl, T, rfl⟩
      have : us = [] := List.length_eq_zero_iff.mp (by omega)
      subst this
      rw [T.uniq (white_sees w h)]
    · rintro rfl
      exact ⟨[], _, by simp, white_sees w h, rfl⟩
  have p : ks.Perm [encM w h (cell (.col .white) w h)] := perm_of X.few.nd (by simp) fun d => (hm d).trans (by simp)
  rw [X.is_, sort_uniq X.few.are p]
  exact List.mergeSort_singleton _
def plainM (w h : Nat) (c : Col) : PyData := encM w h fun _ _ => c
theorem plain_ne {w h : Nat} (hw : 1 ≤ w) (hh : 1 ≤ h) {c d : Col} (e : plainM w h c = plainM w h d) : c = d :=
  sameM_iff.mp ((eqv_encM w h _ _).symm.trans ((eqv_M w h _ _).mpr e)) 0 (by omega) 0 (by omega)
theorem plain_lt {w h : Nat} (hw : 1 ≤ w) (hh : 1 ≤ h) {c d : Col} (hne : c ≠ d) : PySem.W.dataLt (plainM w h c) (plainM w h d) = PySem.W.dataLt (.str c.s) (.str d.s) := by
  obtain ⟨w, rfl⟩ : ∃ m, w = m + 1 := ⟨w - 1, by omega⟩
  obtain ⟨h, rfl⟩ : ∃ m, h = m + 1 := ⟨h - 1, by omega⟩
  have es : c.s ≠ d.s := fun z => hne (Col.inj z)
  have e1 : PyData.eqv (.str c.s) (.str d.s) = false := by simp [PyData.eqv, es]
  have r1 : PyData.eqv (rowD (w + 1) fun _ => c) (rowD (w + 1) fun _ => d) = false := by
    simp only [rowD, List.range_succ_eq_map, List.map_cons, PyData.eqv, PyData.eqvAll]
    simp [es]
  unfold plainM encM rowsL
  rw [List.range_succ_eq_map, List.map_cons, List.map_cons, PySem.W.dataLt_tuple, PySem.W.dataLt_all_no alike_rowD r1]
  unfold rowD
  rw [List.range_succ_eq_map, List.map_cons, List.map_cons, PySem.W.dataLt_tuple, PySem.W.dataLt_all_no rfl e1]
theorem few_1 {w h : Nat} (hw : 1 ≤ w) (hh : 1 ≤ h) {ks xs : List PyData} (X : XOf w h 1 ks xs) : xs = six.map (plainM w h) := by
  have hm : ∀ d, d ∈ ks ↔ d ∈ six.map (plainM w h) := fun d => by
    rw [X.few.mem, List.mem_map]
    constructor
    · rintro ⟨us, t, hl, T, rfl⟩
      have far : ∀ i, 1 ≤ i → ((us[i]? : Option Str)).getD ("white" : Str) = ("white" : Str) := fun i hi => by
        have z : us[i]? = none := List.getElem?_eq_none (by omega)
        rw [z]
        rfl
      have wh : ∀ (u : Tree) (n : Nat), 1 ≤ n → Sees us n u.words → u = .col .white := fun u n hn hs => sees_uniq u (.col .white) n hs fun i hi => by
        simp only [Tree.words, List.length_singleton] at hi
        have : i = 0 := by omega
        subst this
        exact far (n + 0) (by omega)
      cases t with
      | col c => exact ⟨c, six_all c, rfl⟩
      | part p a b =>
        have tl := Sees.tail (u := p.s) T.2.1
        have ea := wh a _ (by omega) tl.left
        have eb := wh b _ (by omega) tl.right
        subst ea
        subst eb
        refine ⟨.white, six_all _, encM_congr fun r _ k _ => ?_⟩
        cases p <;> simp [cell]
      | piece q c u =>
        have tl := Sees.tail (u := q.s) T.2.1
        have ec : c = .white := Col.inj (((Sees.head (u := c.s) tl).symm.trans (far 1 (by omega))).trans rfl)
        have eu := wh u _ (by omega) (Sees.tail (u := c.s) tl)
        subst ec
        subst eu
        refine ⟨.white, six_all _, encM_congr fun r _ k _ => ?_⟩
        simp [cell]
    · rintro ⟨c, _, rfl⟩
      refine ⟨[c.s], .col c, by simp, ⟨True.intro, .self _, by simp [Tree.words]⟩, rfl⟩
  have nd : (six.map (plainM w h)).Nodup := by
    refine List.Pairwise.map _ ?_ (show six.Pairwise (· ≠ ·) by decide)
    intro a b hab e
    exact hab (plain_ne hw hh e)
  have p := perm_of X.few.nd nd hm
  rw [X.is_, sort_uniq X.few.are p]
  refine sort_sorted ?_
  rw [List.pairwise_map]
  refine (show six.Pairwise (fun a b => a ≠ b ∧ PySem.W.dataLt (.str b.s) (.str a.s) = false) by decide +kernel).imp ?_
  rintro a b ⟨h1, h2⟩
  unfold dLe
  rw [plain_lt hw hh (Ne.symm h1), h2]
  rfl
theorem sorted_X {w h n : Nat} (hh : 1 ≤ h) {ks xs : List PyData} (X : XOf w h n ks xs) (hne : xs ≠ []) : bSorted [.list xs] = some (.list xs) := by
  have hs : strsOf xs = none := by
    cases xs with
    | nil => exact absurd rfl hne
    | cons x xs =>
      obtain ⟨f, rfl⟩ := X.are x (by simp)
      rfl
  have e : xs.mergeSort dLe = xs := sort_sorted (by rw [X.is_]; exact sort_pw ks)
  have q := sortD_M hh X.are (by have := X.len; omega)
  rw [e] at q
  simp only [bSorted, hs, q]
theorem X_ne {w h n : Nat} {ks xs : List PyData} (X : XOf w h n ks xs) : xs ≠ [] := fun z => by
  have : encM w h (cell (.col .white) w h) ∈ xs := X.mem.mpr ((X.few.mem _).mpr ⟨[], _, by simp, white_sees w h, rfl⟩)
  rw [z] at this
  simp at this
theorem pick7 {r : Int} (h0 : 0 ≤ r) (h1 : r < 7) : ∃ w h : Nat, Side w ∧ Side h ∧ w ≤ 4 ∧ h ≤ 4 ∧ fIx (.list [encS 1 1, encS 1 2, encS 2 1, encS 2 2, encS 4 1, encS 4 4, encS 2 4]) (.int r) = some (encS w h) := by
  have : r = 0 ∨ r = 1 ∨ r = 2 ∨ r = 3 ∨ r = 4 ∨ r = 5 ∨ r = 6 := by omega
  rcases this with rfl | rfl | rfl | rfl | rfl | rfl | rfl
  · exact ⟨1, 1, by simp [Side], by simp [Side], by omega, by omega, rfl⟩
  · exact ⟨1, 2, by simp [Side], by simp [Side], by omega, by omega, rfl⟩
  · exact ⟨2, 1, by simp [Side], by simp [Side], by omega, by omega, rfl⟩
  · exact ⟨2, 2, by simp [Side], by simp [Side], by omega, by omega, rfl⟩
  · exact ⟨4, 1, by simp [Side], by simp [Side], by omega, by omega, rfl⟩
  · exact ⟨4, 4, by simp [Side], by simp [Side], by omega, by omega, rfl⟩
  · exact ⟨2, 4, by simp [Side], by simp [Side], by omega, by omega, rfl⟩
abbrev L (ns : List Int) (a2 a3 a4 a5 a6 a7 a8 a9 a10 a11 a12 a13 a14 : Option S) : Env := [some (.d (scrD ns)), some (.m 0), a2, a3, a4, a5, a6, a7, a8, a9, a10, a11, a12, a13, a14]
abbrev LS (X0 X1 X2 : List PyData) : PyData := .list [.list X0, .list X1, .list X2]
theorem comp_none {i : Nat} {τ : DT} {ρ : Env} {μ : Mem} (hi : i < ρ.length) (xs : List PyData) (hl : xs.length ≤ 1000000) (ht : ∀ x ∈ xs, τ (ρ.set i (some (.d x))) μ = .ok false μ) : compGo (gNm i) τ (eVar i) ρ xs [] μ = .ok [] μ := by
  have q := comp_filter (g := fun x : PyData => x) (i := i) (τ := τ) (e := eVar i) (ρ := ρ) (p := fun _ => false) (μ := μ) xs [] (by simpa using hl) ht (fun x _ => by
    have e : (ρ.set i (some (.d x)))[i]? = some (some (.d x)) := List.getElem?_set_self hi
    simp only [eVar, e])
  rw [filter_no] at q
  simpa using q
theorem cb2'_of {f : DF} {a b : DE} {ρ : Env} {μ μ1 μ2 : Mem} {x y z : PyData} (h1 : a ρ μ = .ok (.d x) μ1) (h2 : b ρ μ1 = .ok (.d y) μ2) (h3 : f [x, y] = some z) : eCB f (aCons a (aCons b aNil)) ρ μ = .ok (.d z) μ2 := by
  simp only [eCB, aCons, aNil, h1, h2, R.bind, rdL, rd, h3, R.of]
theorem pick_turn {ns : List Int} {w h k : Nat} (hw : Side w) (hh : Side h) {ks xs : List PyData} (X : XOf w h k ks xs) {ls : PyData} (hls : fIx ls (.int k) = some (.list xs)) (a3 a6 a7 a8 a9 a10 a11 a12 a13 a14 : Option S) (x : M) (rest : Mem) (hx : RowOk ns x) :
    NX (fun ρ μ => ∃ a9 x, ρ = L ns (some (.d (encS w h))) a3 (some (.d ls)) (some (.d (.int k))) a6 a7 a8 a9 a10 a11 a12 a13 a14 ∧ μ = x :: rest ∧ RowOk ns x)
      (b_law_4 (L ns (some (.d (encS w h))) a3 (some (.d ls)) (some (.d (.int k))) a6 a7 a8 a9 a10 a11 a12 a13 a14) (x :: rest)) := by
  have hl := X.len
  have hpos : 0 < xs.length := List.length_pos_iff.mpr (X_ne X)
  obtain ⟨j, x1, hx1, j0, j1, e1⟩ := taken (rest := rest) hx (n := (xs.length : Int)) (by omega) (by omega)
  obtain ⟨j, rfl⟩ := Int.eq_ofNat_of_zero_le j0
  have hj : j < xs.length := by omega
  have hm : xs[j] ∈ xs := List.getElem_mem hj
  obtain ⟨us, t, hlu, T, ed⟩ := (X.few.mem _).mp (X.mem.mp hm)
  have ix : fIx (.list xs) (.int j) = some (encM w h (cell t w h)) := by simp [hj, ed]
  obtain ⟨vs, y, Q⟩ := said_of (cell t w h) hw hh
  have le := (Q.least T.1 fun _ _ _ _ => rfl).len
  rw [← T.trim] at le
  have := trim_len us
  unfold b_law_4
  refine q_seq (asg_of (op_of (op_of rfl rfl hls) (call2_of rfl (cb1_of (op_of rfl rfl hls) rfl) e1) ix) rfl) ?_
  refine q_no (or_of (a := false) (b := false) (val_of (op_of (cb1_of (call2_of rfl rfl (Q.run _)) (len_strs vs)) rfl (gt_no (by omega)))) (val_of (op_of (call2_of rfl (call2_of rfl rfl (Q.run _)) (Q.says.drawn hw hh _)) rfl (ne_encM_no Q.draws)))) (q_nx ⟨_, _, rfl, rfl, hx1⟩)
theorem few_turn {ns : List Int} {w h k : Nat} (hw : Side w) (hh : Side h) {ks xs ks' xs' : List PyData} {n' : Nat} (X : XOf w h k ks xs) (X' : XOf w h n' ks' xs') (hk : k ≤ n') {ls : PyData} (hls : fIx ls (.int k) = some (.list xs)) {z : Int} (hz : bMin [.int ((k : Int) + 1), .int 2] = some (.int z)) (hls' : fIx ls (.int z) = some (.list xs')) (a3 a6 a7 a8 a9 a10 a11 a12 a13 a14 : Option S) (x : M) (rest : Mem) (hx : RowOk ns x) :
    NX (fun ρ μ => ∃ a6 a8 a9 x, ρ = L ns (some (.d (encS w h))) a3 (some (.d ls)) (some (.d (.int k))) a6 a7 a8 a9 a10 a11 a12 a13 a14 ∧ μ = x :: rest ∧ RowOk ns x)
      (b_law_5 (L ns (some (.d (encS w h))) a3 (some (.d ls)) (some (.d (.int k))) a6 a7 a8 a9 a10 a11 a12 a13 a14) (x :: rest)) := by
  have hl := X.len
  unfold b_law_5
  refine q_seq (asg_of (op_of (v := .int z) rfl (cb2'_of (x := .int ((k : Int) + 1)) (y := .int 2) rfl rfl hz) hls') rfl) ?_
  refine q_seq (if_no (μ1 := x :: rest) (or_of (a := false) (b := false) (val_of (op_of (op_of rfl rfl hls) (cb1_of (op_of rfl rfl hls) (sorted_X hh.pos X (X_ne X))) (ne_listM X.are))) (val_of (op_of (comp_of (xs := xs) (iseq_of (op_of rfl rfl hls)) (comp_none (by simp) xs (by omega) fun d hd => ?_)) rfl ?_))) rfl) ?_
  · obtain ⟨f, rfl⟩ := X.are d hd
    have hm : encM w h f ∈ xs' := by
      obtain ⟨us, t, hlu, T, ed⟩ := (X.few.mem _).mp (X.mem.mp hd)
      exact X'.mem.mpr ((X'.few.mem _).mpr ⟨us, t, by omega, T, ed⟩)
    refine val_of (op_of rfl rfl ((fNotIn_M X'.are).trans ?_))
    rw [(inD_M X'.are).mpr hm]
    rfl
  · rw [ne_nil_list rfl]
    rfl
  refine (fun ⟨ρ1, μ1, e, c8, c9, x1, q1, q2, q3⟩ => ⟨ρ1, μ1, e, _, c8, c9, x1, q1, q2, q3⟩ : NX (fun ρ μ => ∃ c8 c9 x, ρ = L ns (some (.d (encS w h))) a3 (some (.d ls)) (some (.d (.int k))) (some (.d (.list xs'))) a7 c8 c9 a10 a11 a12 a13 a14 ∧ μ = x :: rest ∧ RowOk ns x) _ → NX _ _) ?_
  refine q_for _ (rng_of (n := 4) rfl (by omega)) ⟨_, _, _, rfl, rfl, hx⟩ ?_
  rintro v hv ρ μ ⟨c8, c9, x1, rfl, rfl, hx1⟩
  refine ⟨_, rfl, ?_⟩
  obtain ⟨ρ', μ', e, d9, x2, q1, q2, q3⟩ := pick_turn (ns := ns) (w := w) (h := h) hw hh X hls a3 (some (.d (.list xs'))) a7 (some (.d v)) c9 a10 a11 a12 a13 a14 x1 rest hx1
  exact ⟨ρ', μ', e, _, d9, x2, q1, q2, q3⟩
theorem cut_turn {ns : List Int} {w h k : Nat} (hw : Side w) (hh : Side h) {X0 K1 X1 K2 X2 : List PyData} (F1 : XOf w h 1 K1 X1) (F2 : XOf w h 2 K2 X2) (t : Tree) (ft : t.Fit w h) (hd : t.depth < 3) (hk : k ≤ t.words.length) (a3 a6 a7 a8 a9 a11 a12 a13 a14 : Option S) (μ : Mem) :
    NX (fun ρ μ' => ∃ a3 a9, ρ = L ns (some (.d (encS w h))) a3 (some (.d (LS X0 X1 X2))) (some (.d (.int k))) a6 a7 a8 a9 (some (.d (strsD t.words))) a11 a12 a13 a14 ∧ μ' = μ)
      (b_law_3 (L ns (some (.d (encS w h))) a3 (some (.d (LS X0 X1 X2))) (some (.d (.int k))) a6 a7 a8 a9 (some (.d (strsD t.words))) a11 a12 a13 a14) μ) := by
  obtain ⟨u, ud, T⟩ := says_cut ft hk hd (by omega)
  have lt := words_lt t (n := 3) hd
  obtain ⟨vs, y, Q⟩ := said_of (cell u w h) hw hh
  have le := (Q.least T.fit fun _ _ _ _ => rfl).len
  rw [← T.trim] at le
  have l2 := trim_len (t.words.take k)
  rw [List.length_take] at l2
  have i2 := F2.said Q
  have i1 := F1.said Q
  have le2 : fLe (.int vs.length) (.int 2) = some (.bool (decide (vs.length ≤ 2))) := by
    simp only [fLe, Option.some.injEq, PyData.bool.injEq, decide_eq_decide]
    omega
  have le1 : fLe (.int vs.length) (.int 1) = some (.bool (decide (vs.length ≤ 1))) := by
    simp only [fLe, Option.some.injEq, PyData.bool.injEq, decide_eq_decide]
    omega
  unfold b_law_3
  have sl : fSl none (some (k : Int)) (strsD t.words) = some (strsD (t.words.take k)) := by
    show some (PyData.tuple (cutD (t.words.map PyData.str) none (some (k : Int)))) = _
    rw [cutTo2, ← List.map_take]
    rfl
  refine q_seq (asg_of (call2_of rfl (sl2_to rfl rfl sl) (T.drawn hw hh _)) rfl) ?_
  refine q_seq (asg_of (cb1_of (call2_of rfl rfl (Q.run _)) (len_strs vs)) rfl) ?_
  refine q_no (or_of (a := false) (b := false) (val_of (op_of rfl rfl (gt_no (by omega)))) (or_of (a := false) (b := false) ((and2_of (val_of (op_of rfl rfl rfl)) (val_of (op_of (op_of rfl (op_of (u := LS X0 X1 X2) (v := .int 2) rfl rfl rfl) ((fIn_M F2.are).trans (by rw [i2]))) (op_of rfl rfl le2) (ne_bools _ _)))).trans (by simp)) (val_of (op_of (op_of rfl (op_of (u := LS X0 X1 X2) (v := .int 1) rfl rfl rfl) ((fIn_M F1.are).trans (by rw [i1]))) (op_of rfl rfl le1) ((ne_bools _ _).trans (by simp)))))) (q_nx ⟨_, _, rfl, rfl⟩)
theorem two_turn {ns : List Int} {w h : Nat} (hw : Side w) (hh : Side h) {X0 X1 K2 X2 : List PyData} (F2 : XOf w h 2 K2 X2) (p : Prt) (c : Col) (a3 a5 a6 a8 a9 a10 a11 a13 a14 : Option S) (μ : Mem) :
    b_law_2 (L ns (some (.d (encS w h))) a3 (some (.d (LS X0 X1 X2))) a5 a6 (some (.d (.str c.s))) a8 a9 a10 a11 (some (.d (.str p.s))) a13 a14) μ = .nx (L ns (some (.d (encS w h))) a3 (some (.d (LS X0 X1 X2))) a5 a6 (some (.d (.str c.s))) a8 a9 a10 a11 (some (.d (.str p.s))) a13 a14) μ := by
  unfold b_law_2
  refine if_no (μ1 := μ) ?_ rfl
  unfold bAnd
  rw [show bVal (eCall m__law_fits (aCons (eVar 2) (aCons (eVar 12) aNil))) (L ns (some (.d (encS w h))) a3 (some (.d (LS X0 X1 X2))) a5 a6 (some (.d (.str c.s))) a8 a9 a10 a11 (some (.d (.str p.s))) a13 a14) μ = .ok (fitP p w h) μ from val_of (call2_of rfl rfl (law_fitsP p w h hw hh μ))]
  cases fp : fitP p w h with
  | false => rfl
  | true =>
    have S2 : Says [p.s, c.s] (.part p (.col c) (.col .white)) w h := ⟨sees_white [p.s, c.s] 1, by simp [Tree.words], ⟨fp, True.intro, True.intro⟩, by simp [Tree.depth], by simp [Tree.words]⟩
    have hm : encM w h (cell (.part p (.col c) (.col .white)) w h) ∈ X2 := F2.mem.mpr ((F2.few.mem _).mpr ⟨_, _, by simp, S2.sy, rfl⟩)
    have d := S2.drawn hw hh μ
    exact val_of (op_of (call2_of (s2 := .d (strsD [p.s, c.s])) rfl rfl d) (op_of (u := LS X0 X1 X2) (v := .int 2) rfl rfl rfl) ((fNotIn_M F2.are).trans (by rw [(inD_M F2.are).mpr hm]; rfl)))
theorem pc_turn {ns : List Int} {w h : Nat} (hw : Side w) (hh : Side h) {X0 X1 K2 X2 : List PyData} (F2 : XOf w h 2 K2 X2) (q : Pc) (c : Col) (a3 a5 a6 a8 a9 a10 a11 a12 a14 : Option S) (μ : Mem) :
    b_law_1 (L ns (some (.d (encS w h))) a3 (some (.d (LS X0 X1 X2))) a5 a6 (some (.d (.str c.s))) a8 a9 a10 a11 a12 (some (.d (.str q.s))) a14) μ = .nx (L ns (some (.d (encS w h))) a3 (some (.d (LS X0 X1 X2))) a5 a6 (some (.d (.str c.s))) a8 a9 a10 a11 a12 (some (.d (.str q.s))) a14) μ := by
  unfold b_law_1
  refine if_no (μ1 := μ) ?_ rfl
  unfold bAnd
  rw [show bVal (eCall m__law_fits (aCons (eVar 2) (aCons (eVar 13) aNil))) (L ns (some (.d (encS w h))) a3 (some (.d (LS X0 X1 X2))) a5 a6 (some (.d (.str c.s))) a8 a9 a10 a11 a12 (some (.d (.str q.s))) a14) μ = .ok (fitQ q w h) μ from val_of (call2_of rfl rfl (law_fitsQ q w h hw hh μ))]
  cases fq : fitQ q w h with
  | false => rfl
  | true =>
    have S2 : Says [q.s, c.s] (.piece q c (.col .white)) w h := ⟨sees_white [q.s, c.s] 1, by simp [Tree.words], ⟨fq, True.intro⟩, by simp [Tree.depth], by simp [Tree.words]⟩
    have hm : encM w h (cell (.piece q c (.col .white)) w h) ∈ X2 := F2.mem.mpr ((F2.few.mem _).mpr ⟨_, _, by simp, S2.sy, rfl⟩)
    have d := S2.drawn hw hh μ
    exact val_of (op_of (call2_of (s2 := .d (strsD [q.s, c.s])) rfl rfl d) (op_of (u := LS X0 X1 X2) (v := .int 2) rfl rfl rfl) ((fNotIn_M F2.are).trans (by rw [(inD_M F2.are).mpr hm]; rfl)))
theorem rows_eq (w : Nat) (cs : List Col) : fEq (.list (cs.map fun c => rowD w fun _ => c)) (.list (cs.map fun c => rowD w fun _ => c)) = some (.bool true) := by
  have c1 : (PyData.list (cs.map fun c => rowD w fun _ => c)).canLay0 = true := by
    simp only [PyData.canLay0]
    exact canLay_all cs fun c _ => canLay_rowD w _
  have d1 := depth_all (a := fun c => rowD w fun _ => c) (n := 2) cs fun c _ => depth_rowD w _
  have d2 : min (PyData.list (cs.map fun c => rowD w fun _ => c)).depth (PyData.list (cs.map fun c => rowD w fun _ => c)).depth ≤ 64 := by
    simp only [PyData.depth]
    omega
  have e : PyData.eqv (.list (cs.map fun c => rowD w fun _ => c)) (.list (cs.map fun c => rowD w fun _ => c)) = true := by
    simp only [PyData.eqv, eqvAll_map, List.all_eq_true]
    intro c _
    simp only [rowD, PyData.eqv, eqvAll_map, List.all_eq_true]
    intro k _
    simp [PyData.eqv]
  have hs : scalD (.list (cs.map fun c => rowD w fun _ => c)) (.list (cs.map fun c => rowD w fun _ => c)) = none := rfl
  simp only [fEq, eqD2, hs, c1, d2, e, Bool.and_self, decide_true, if_true, Option.map_some]
theorem mulT (x : PyData) (n : Nat) (h : n ≤ 1000) : fMul (.tuple [x]) (.int n) = some (.tuple ((List.range n).map fun _ => x)) := by
  have h1 : (0 : Int) ≤ n ∧ (n : Int) ≤ 1000 := by omega
  simp only [fMul, h1, decide_true, List.length_singleton, Int.toNat_natCast, flat_rep, and_self, Bool.true_and]
  rfl
theorem plain (ns : List Int) (hns : ns.length ≤ 63) : m_law [.d (scrD ns)] [] = .ok (.d (.bool true)) [] := by
  unfold m_law
  refine call_TR (ρ0 := L ns none none none none none none none none none none none none none |>.set 1 none) rfl rfl ?_
  refine q_seq (ρ1 := L ns none none none none none none none none none none none none none) (μ1 := [.lst [scrD ns, .int 0, .int 0, .int 0]]) rfl ?_
  have hx0 : RowOk ns (.lst [scrD ns, .int 0, .int 0, .int 0]) := ⟨0, 0, 0, rfl, by omega, by omega⟩
  generalize hxx : M.lst [scrD ns, .int 0, .int 0, .int 0] = x0 at hx0
  obtain ⟨r, x1, hx1, r0, r1, e1⟩ := taken (rest := []) hx0 (n := 7) (by omega) (by omega)
  obtain ⟨w, h, hw, hh, w4, h4, ex⟩ := pick7 r0 r1
  obtain ⟨K0, F0, g0⟩ := few_ok (n := 0) hw hh w4 h4 (by omega)
  obtain ⟨K1, F1, g1⟩ := few_ok (n := 1) hw hh w4 h4 (by omega)
  obtain ⟨K2, F2, g2⟩ := few_ok (n := 2) hw hh w4 h4 (by omega)
  have Y0 : XOf w h 0 K0 (K0.mergeSort dLe) := ⟨F0, rfl⟩
  have Y1 : XOf w h 1 K1 (K1.mergeSort dLe) := ⟨F1, rfl⟩
  have Y2 : XOf w h 2 K2 (K2.mergeSort dLe) := ⟨F2, rfl⟩
  generalize K0.mergeSort dLe = X0 at g0 Y0
  generalize K1.mergeSort dLe = X1 at g1 Y1
  generalize K2.mergeSort dLe = X2 at g2 Y2
  refine q_seq (asg_of (op_of (u := .list [encS 1 1, encS 1 2, encS 2 1, encS 2 2, encS 4 1, encS 4 4, encS 2 4]) rfl (call2_of rfl rfl e1) ex) rfl) ?_
  refine q_seq (μ1 := [x1]) (asg_of (s := .d (LS X0 X1 X2)) (comp_of (xs := upFrom 0 3) (μ1 := [x1]) (rng_of (n := 3) rfl (by omega)) ?_) rfl) ?_
  · rw [upFrom0]
    have c := comp_map (gt := gNm 3) (g := fun i : Nat => PyData.int (i : Int)) (f := fun i : Nat => PyData.list (if i = 0 then X0 else if i = 1 then X1 else X2)) (ρ' := fun i : Nat => L ns (some (.d (encS w h))) (some (.d (.int (i : Int)))) none none none none none none none none none none none) (e := eCall m_few (aCons (eVar 2) (aCons (eVar 3) aNil))) (ρ := L ns (some (.d (encS w h))) none none none none none none none none none none none none) (μ := [x1]) (List.range 3) [] (by simp) (fun i _ => rfl) (fun i hi => by
      have hi3 := List.mem_range.mp hi
      have : i = 0 ∨ i = 1 ∨ i = 2 := by omega
      rcases this with rfl | rfl | rfl
      · exact call2_of rfl rfl (g0 _)
      · exact call2_of rfl rfl (g1 _)
      · exact call2_of rfl rfl (g2 _))
    exact c
  have W0 : Says [] (.col .white) w h := ⟨(white_sees w h).2.1, by simp, True.intro, by simp [Tree.depth], by simp [Tree.words]⟩
  have x1l : X1.length = 6 := by rw [few_1 hw.pos hh.pos Y1]; rfl
  refine q_seq (if_no (or_of (a := false) (b := false) (val_of (op_of (op_of (u := LS X0 X1 X2) (v := .int 0) rfl rfl rfl) (lst_of (xs := [encM w h (cell (.col .white) w h)]) (cons_of (call2_of (s2 := .d (strsD [])) rfl rfl (W0.drawn hw hh _)) rfl) rfl (by simp)) (by rw [← few_0 Y0]; exact ne_listM Y0.are))) (val_of (op_of (cb1_of (op_of (u := LS X0 X1 X2) (v := .int 1) rfl rfl rfl) rfl) rfl (by rw [x1l]; rfl)))) rfl) ?_
  refine q_seqI (fun ρ μ => ∃ a3 a5 a6 a7 a8 a9 x, ρ = L ns (some (.d (encS w h))) a3 (some (.d (LS X0 X1 X2))) a5 a6 a7 a8 a9 none none none none none ∧ μ = [x] ∧ RowOk ns x) ?_ ?_
  · refine q_for _ (rng_of (n := 3) rfl (by omega)) ⟨_, _, _, _, _, _, _, rfl, rfl, hx1⟩ ?_
    rintro y hy ρ μ ⟨a3, a5, a6, a7, a8, a9, x, rfl, rfl, hx⟩
    obtain ⟨k, hk, rfl⟩ := mem_up hy
    refine ⟨_, rfl, ?_⟩
    have fin : NX (fun ρ μ => ∃ a6 a8 a9 x, ρ = L ns (some (.d (encS w h))) a3 (some (.d (LS X0 X1 X2))) (some (.d (.int k))) a6 a7 a8 a9 none none none none none ∧ μ = [x] ∧ RowOk ns x) (b_law_5 (L ns (some (.d (encS w h))) a3 (some (.d (LS X0 X1 X2))) (some (.d (.int k))) a6 a7 a8 a9 none none none none none) [x]) := by
      have : k = 0 ∨ k = 1 ∨ k = 2 := by omega
      rcases this with rfl | rfl | rfl
      · exact few_turn (ns := ns) (ls := LS X0 X1 X2) hw hh Y0 Y1 (by omega) rfl (z := 1) rfl rfl a3 a6 a7 a8 a9 none none none none none x [] hx
      · exact few_turn (ns := ns) (ls := LS X0 X1 X2) hw hh Y1 Y2 (by omega) rfl (z := 2) rfl rfl a3 a6 a7 a8 a9 none none none none none x [] hx
      · exact few_turn (ns := ns) (ls := LS X0 X1 X2) hw hh Y2 Y2 (by omega) rfl (z := 2) rfl rfl a3 a6 a7 a8 a9 none none none none none x [] hx
    obtain ⟨ρ', μ', e, c6, c8, c9, x2, q1, q2, q3⟩ := fin
    exact ⟨ρ', μ', e, _, _, c6, _, c8, c9, x2, q1, q2, q3⟩
  rintro ρ μ ⟨a3, a5, a6, a7, a8, a9, x, rfl, rfl, hx⟩
  obtain ⟨t, x3, hx3, ft, dt, e3⟩ := law_saying (ns := ns) 8 2 w h x [] (by omega) (by omega) hw hh hx
  have lt := words_lt t (n := 3) (by omega)
  refine q_seq (asg_of (call3_of rfl rfl rfl e3) rfl) ?_
  refine q_seqI (fun ρ μ => ∃ a3 a5 a9, ρ = L ns (some (.d (encS w h))) a3 (some (.d (LS X0 X1 X2))) a5 a6 a7 a8 a9 (some (.d (strsD t.words))) none none none none ∧ μ = [x3]) ?_ ?_
  · refine q_for _ (rng_of (n := t.words.length + 1) (cons_of (op_of (v := .int 1) (z := .int ((t.words.length + 1 : Nat) : Int)) (cb1_of rfl (len_strs _)) rfl rfl) rfl) (by omega)) ⟨_, _, _, rfl, rfl⟩ ?_
    rintro y hy ρ μ ⟨b3, b5, b9, rfl, rfl⟩
    obtain ⟨k, hk, rfl⟩ := mem_up hy
    refine ⟨_, rfl, ?_⟩
    obtain ⟨ρ', μ', e, c3, c9, q1, q2⟩ := cut_turn (ns := ns) (X0 := X0) hw hh Y1 Y2 t ft (by omega) (by omega : k ≤ t.words.length) b3 a6 a7 a8 b9 none none none none [x3]
    exact ⟨ρ', μ', e, c3, _, c9, q1, q2⟩
  rintro ρ μ ⟨b3, b5, b9, rfl, rfl⟩
  obtain ⟨j, x4, hx4, j0, j1, e4⟩ := taken (rest := []) hx3 (n := 6) (by omega) (by omega)
  obtain ⟨j, rfl⟩ := Int.eq_ofNat_of_zero_le j0
  obtain ⟨c, hc⟩ : ∃ c : Col, fIx (.list (six.map fun c => PyData.str c.s)) (.int j) = some (.str c.s) := by
    have hj : j < six.length := by simp [six]; omega
    exact ⟨six[j], by simp [hj]⟩
  refine q_seq (asg_of (s := .d (.list (six.map fun c => PyData.str c.s))) rfl rfl) ?_
  refine q_seq (asg_of (op_of rfl (call2_of rfl rfl e4) hc) rfl) ?_
  refine q_seqI (fun ρ μ => ∃ a12, ρ = L ns (some (.d (encS w h))) b3 (some (.d (LS X0 X1 X2))) b5 a6 (some (.d (.str c.s))) a8 b9 (some (.d (strsD t.words))) (some (.d (.list (six.map fun c => PyData.str c.s)))) a12 none none ∧ μ = [x4]) ?_ ?_
  · refine q_for _ (iseqT_of (xs := [Prt.party, .cut].map fun p : Prt => PyData.str p.s) rfl) ⟨_, rfl, rfl⟩ ?_
    rintro y hy ρ μ ⟨b12, rfl, rfl⟩
    obtain ⟨p, _, rfl⟩ := List.mem_map.mp hy
    exact ⟨_, rfl, _, _, two_turn (ns := ns) (X0 := X0) (X1 := X1) hw hh Y2 p c b3 b5 a6 a8 b9 _ _ none none [x4], _, rfl, rfl⟩
  rintro ρ μ ⟨b12, rfl, rfl⟩
  refine q_seqI (fun ρ μ => ∃ a13, ρ = L ns (some (.d (encS w h))) b3 (some (.d (LS X0 X1 X2))) b5 a6 (some (.d (.str c.s))) a8 b9 (some (.d (strsD t.words))) (some (.d (.list (six.map fun c => PyData.str c.s)))) b12 a13 none ∧ μ = [x4]) ?_ ?_
  · refine q_for _ (iseqT_of (xs := [.str "pillar", .str "band", .str "head", .str "edge"]) rfl) ⟨_, rfl, rfl⟩ ?_
    rintro y hy ρ μ ⟨b13, rfl, rfl⟩
    obtain ⟨q, rfl⟩ := mem_pcs hy
    exact ⟨_, rfl, _, _, pc_turn (ns := ns) (X0 := X0) (X1 := X1) hw hh Y2 q c b3 b5 a6 a8 b9 _ _ b12 none [x4], _, rfl, rfl⟩
  rintro ρ μ ⟨b13, rfl, rfl⟩
  have w8 := hw.le
  refine q_ret (μ1 := [x4]) (op_of (u := .list (six.map fun c => rowD w fun _ => c)) (v := .list (six.map fun c => rowD w fun _ => c)) (comp_of (xs := six.map fun c => PyData.str c.s) (μ1 := [x4]) (iseq_of rfl) ?_) (comp_of (xs := X1) (μ1 := [x4]) (iseq_of (op_of (u := LS X0 X1 X2) (v := .int 1) rfl rfl rfl)) ?_) (rows_eq w six))
  · refine (comp_map (g := fun c : Col => PyData.str c.s) (f := fun c => rowD w fun _ => c) (ρ' := fun d : Col => L ns (some (.d (encS w h))) b3 (some (.d (LS X0 X1 X2))) b5 a6 (some (.d (.str c.s))) a8 b9 (some (.d (strsD t.words))) (some (.d (.list (six.map fun c => PyData.str c.s)))) b12 b13 (some (.d (.str d.s)))) six [] (by decide) (fun y _ => rfl) (fun y _ => op_of (u := .tuple [.str y.s]) (v := .int w) rfl (op_of (v := .int 0) rfl rfl rfl) (mulT _ w (by omega)))).trans ?_
    rfl
  · rw [few_1 hw.pos hh.pos Y1]
    refine (comp_map (g := plainM w h) (f := fun c => rowD w fun _ => c) (ρ' := fun d : Col => L ns (some (.d (encS w h))) b3 (some (.d (LS X0 (six.map (plainM w h)) X2))) b5 a6 (some (.d (.str c.s))) a8 (some (.d (plainM w h d))) (some (.d (strsD t.words))) (some (.d (.list (six.map fun c => PyData.str c.s)))) b12 b13 none) six [] (by decide) (fun y _ => rfl) (fun y _ => op_of (v := .int 0) rfl rfl (ix_encM (r := 0) hh.pos))).trans ?_
    rfl
end Bz
set_option Elab.async false
set_option linter.all false
set_option maxRecDepth 100000
set_option maxHeartbeats 4000000
namespace Bz
open PySem PySem.Spec PyProof.Rows L2
end Bz
open PySem PySem.W PyProof.Rows
set_option maxRecDepth 100000 in
set_option maxHeartbeats 0 in
theorem PySem.Challenge.cw_blazonry_k20_whole_few_words_more_holds : PySem.Challenge.rw_blazonry_k20_whole_few_words_more.Holds := by
  w_on; o_law; k_head; (case hw => w_witness2)
  k_fill
  refine' Bz.fin_walkC (l := PySem.Challenge.rw_blazonry_k20_whole_few_words_more) (k := 97) (x := "_law_script") (qual := "shorter.<locals>.<lambda>") (F := Bz.m_law) rfl rfl ⟨rfl, by decide, by decide⟩ (fun w h Y => PySem.W.km_in_of Y) (fun w h Y => PySem.W.km_tabs_of Y _ (.head _)) (fun w => ?nT) (fun w => ?hC) Bz.plain ?F
  case F =>
    intro w mg h wd ewd X G
    refine' ⟨Bz.cxL [some _, some _, some _, some _, some _], ?_⟩; rotate_left 5
    refine' Bz.D_law (P := PySem.Challenge.rw_blazonry_k20_whole_few_words_more.prog) ?A ?T
    · refine' Bz.at_mk X G ?a_law ?l_law ?c_law ?k_law (fun _ _ _ _ _ _ us hl => match us, hl with | [_], _ => rfl)
      (case a_law => k_is); (case l_law => k_is); (case c_law => k_is); (case k_law => k_is)
    case T =>
      intro base TB
      refine' ⟨TB, by rw [ewd]; exact List.mem_singleton.mpr rfl, fun p hp _ => by rw [ewd] at hp; rw [List.mem_singleton.mp hp], ?t0, ?t1, ?t2, ?t3, ?t4, ?t5, ?t6, ?t7, ?t8, ?t9, ?t10, ?t11, ?t12, ?t13, ?t14, ?t15, ?t16, ?t17, ?t18, ?t19, ?t20, ?t21, ?t22, ?t23, ?t24, ?t25, ?t26, ?t27, ?t28, ?t29, ?t30, ?t31, ?t32, ?t33, ?t34, ?t35, ?t36, ?t37, ?t38, ?t39, ?t40, ?t41, ?t42, ?t43, ?t44, ?t45, ?t46, ?t47, ?t48, ?t49⟩
      case t0 =>
        refine' PySem.W.mg_none_of X G ?z_int
        (case z_int => k_is)
      case t1 =>
        refine' PySem.W.mg_none_of X G ?z_len
        (case z_len => k_is)
      case t2 =>
        refine' PySem.W.mg_none_of X G ?z_list
        (case z_list => k_is)
      case t3 =>
        refine' PySem.W.mg_none_of X G ?z_max
        (case z_max => k_is)
      case t4 =>
        refine' PySem.W.mg_none_of X G ?z_min
        (case z_min => k_is)
      case t5 =>
        refine' PySem.W.mg_none_of X G ?z_range
        (case z_range => k_is)
      case t6 =>
        refine' PySem.W.mg_none_of X G ?z_set
        (case z_set => k_is)
      case t7 =>
        refine' PySem.W.mg_none_of X G ?z_sorted
        (case z_sorted => k_is)
      case t8 =>
        refine' PySem.W.mg_none_of X G ?z_tuple
        (case z_tuple => k_is)
      case t9 =>
        refine' PySem.W.mg_none_of X G ?z_zip
        (case z_zip => k_is)
      case t10 =>
        refine' Bz.exN_mk X G ?n_s_BadSaying (.some (y := "ShieldError") ?n_s_BadSaying_ShieldError (PySem.W.exm_ref ?eb_s_BadSaying_ShieldError ?ed_s_BadSaying_ShieldError ?et_s_BadSaying_ShieldError ?es_s_BadSaying_ShieldError) (.some (y := "BadSize") ?n_s_BadSaying_BadSize (PySem.W.exm_ref ?eb_s_BadSaying_BadSize ?ed_s_BadSaying_BadSize ?et_s_BadSaying_BadSize ?es_s_BadSaying_BadSize) (.some (y := "BadDrawing") ?n_s_BadSaying_BadDrawing (PySem.W.exm_ref ?eb_s_BadSaying_BadDrawing ?ed_s_BadSaying_BadDrawing ?et_s_BadSaying_BadDrawing ?es_s_BadSaying_BadDrawing) (.some (y := "BadNumber") ?n_s_BadSaying_BadNumber (PySem.W.exm_ref ?eb_s_BadSaying_BadNumber ?ed_s_BadSaying_BadNumber ?et_s_BadSaying_BadNumber ?es_s_BadSaying_BadNumber) (.some (y := "BadSaying") ?n_s_BadSaying_BadSaying (PySem.W.exm_ref ?eb_s_BadSaying_BadSaying ?ed_s_BadSaying_BadSaying ?et_s_BadSaying_BadSaying ?es_s_BadSaying_BadSaying) .nil)))))
        (case n_s_BadSaying => k_is); (case n_s_BadSaying_ShieldError => k_is); (case eb_s_BadSaying_ShieldError => k_is); (case ed_s_BadSaying_ShieldError => k_is); (case et_s_BadSaying_ShieldError => k_is); (case es_s_BadSaying_ShieldError => k_is); (case n_s_BadSaying_BadSize => k_is); (case eb_s_BadSaying_BadSize => k_is); (case ed_s_BadSaying_BadSize => k_is); (case et_s_BadSaying_BadSize => k_is); (case es_s_BadSaying_BadSize => k_is); (case n_s_BadSaying_BadDrawing => k_is); (case eb_s_BadSaying_BadDrawing => k_is); (case ed_s_BadSaying_BadDrawing => k_is); (case et_s_BadSaying_BadDrawing => k_is); (case es_s_BadSaying_BadDrawing => k_is); (case n_s_BadSaying_BadNumber => k_is); (case eb_s_BadSaying_BadNumber => k_is); (case ed_s_BadSaying_BadNumber => k_is); (case et_s_BadSaying_BadNumber => k_is); (case es_s_BadSaying_BadNumber => k_is); (case n_s_BadSaying_BadSaying => k_is); (case eb_s_BadSaying_BadSaying => k_is); (case ed_s_BadSaying_BadSaying => k_is); (case et_s_BadSaying_BadSaying => k_is); (case es_s_BadSaying_BadSaying => k_is)
      case t11 =>
        refine' Bz.exC_mk X G ?a_x_BadDrawing ?q_x_BadDrawing ?k_x_BadDrawing ?s_x_BadDrawing ?t_x_BadDrawing rfl
        (case a_x_BadDrawing => k_is); (case q_x_BadDrawing => k_exc); (case k_x_BadDrawing => k_is); (case s_x_BadDrawing => k_is); (case t_x_BadDrawing => k_is)
      case t12 =>
        refine' Bz.exC_mk X G ?a_x_BadNumber ?q_x_BadNumber ?k_x_BadNumber ?s_x_BadNumber ?t_x_BadNumber rfl
        (case a_x_BadNumber => k_is); (case q_x_BadNumber => k_exc); (case k_x_BadNumber => k_is); (case s_x_BadNumber => k_is); (case t_x_BadNumber => k_is)
      case t13 =>
        refine' Bz.exP_mk X G ?a_x_BadSaying (Bz.oex_mk ?l_x_BadSaying ?rv_x_BadSaying ?sa_x_BadSaying ?s_x_BadSaying ?t_x_BadSaying ?k_x_BadSaying) ?np_x_BadSaying ?ni_x_BadSaying ?ti_x_BadSaying (fun us hl => match us, hl with | [_, _], _ => rfl) (Bz.ini_ok (k := 0) (st := Bz.s_ini) (q := "BadSaying.__init__") (L2.fun_mk ?fl_x_BadSaying ?fc_x_BadSaying ?fk_x_BadSaying) Bz.sc_ini rfl (fun _ _ _ => ⟨_, rfl⟩) (fun _ _ _ => rfl) (fun _ _ _ => rfl) ⟨.inl rfl, .inl rfl⟩ rfl (PySem.W.mg_of X G ?b_x_BadSaying) ?bg_x_BadSaying ?br_x_BadSaying ?bv_x_BadSaying) rfl
        (case a_x_BadSaying => k_is); (case l_x_BadSaying => k_is); (case rv_x_BadSaying => decide +kernel); (case sa_x_BadSaying => k_is); (case s_x_BadSaying => k_is); (case t_x_BadSaying => k_is); (case k_x_BadSaying => k_is); (case np_x_BadSaying => k_is); (case ni_x_BadSaying => k_is); (case ti_x_BadSaying => k_is); (case fl_x_BadSaying => k_is); (case fc_x_BadSaying => k_is); (case fk_x_BadSaying => k_is); (case b_x_BadSaying => k_is); (case bg_x_BadSaying => k_is); (case br_x_BadSaying => k_is); (case bv_x_BadSaying => k_is)
      case t14 =>
        refine' Bz.exC_mk X G ?a_x_BadSize ?q_x_BadSize ?k_x_BadSize ?s_x_BadSize ?t_x_BadSize rfl
        (case a_x_BadSize => k_is); (case q_x_BadSize => k_exc); (case k_x_BadSize => k_is); (case s_x_BadSize => k_is); (case t_x_BadSize => k_is)
      case t15 =>
        refine' Bz.glob_tup (vs := [L2.V.int 1, L2.V.int 2, L2.V.int 4, L2.V.int 8]) X G ?a_SIDES ?l_SIDES ?u_SIDES ?v_SIDES ?w_SIDES (by decide) (fun H => .cons (.int _) (.cons (.int _) (.cons (.int _) (.cons (.int _) (.nil)))))
        (case a_SIDES => k_is); (case l_SIDES => k_is); (case u_SIDES => rfl); (case v_SIDES => rfl); (case w_SIDES => exact .cons ⟨_, rfl⟩ (.cons ⟨_, rfl⟩ (.cons ⟨_, rfl⟩ (.cons ⟨_, rfl⟩ (.nil)))))
      case t16 =>
        refine' Bz.glob_tup (vs := [L2.V.str "black", L2.V.str "blue", L2.V.str "green", L2.V.str "red", L2.V.str "white", L2.V.str "yellow"]) X G ?a_COLOURS ?l_COLOURS ?u_COLOURS ?v_COLOURS ?w_COLOURS (by decide) (fun H => .cons (.str _) (.cons (.str _) (.cons (.str _) (.cons (.str _) (.cons (.str _) (.cons (.str _) (.nil)))))))
        (case a_COLOURS => k_is); (case l_COLOURS => k_is); (case u_COLOURS => rfl); (case v_COLOURS => rfl); (case w_COLOURS => exact .cons ⟨_, rfl⟩ (.cons ⟨_, rfl⟩ (.cons ⟨_, rfl⟩ (.cons ⟨_, rfl⟩ (.cons ⟨_, rfl⟩ (.cons ⟨_, rfl⟩ (.nil)))))))
      case t17 =>
        refine' Bz.glob_tup (vs := [L2.V.str "party", L2.V.str "cut", L2.V.str "quartered"]) X G ?a_PARTS ?l_PARTS ?u_PARTS ?v_PARTS ?w_PARTS (by decide) (fun H => .cons (.str _) (.cons (.str _) (.cons (.str _) (.nil))))
        (case a_PARTS => k_is); (case l_PARTS => k_is); (case u_PARTS => rfl); (case v_PARTS => rfl); (case w_PARTS => exact .cons ⟨_, rfl⟩ (.cons ⟨_, rfl⟩ (.cons ⟨_, rfl⟩ (.nil))))
      case t18 =>
        refine' Bz.glob_tup (vs := [L2.V.str "band", L2.V.str "edge", L2.V.str "head", L2.V.str "pillar"]) X G ?a_PIECES ?l_PIECES ?u_PIECES ?v_PIECES ?w_PIECES (by decide) (fun H => .cons (.str _) (.cons (.str _) (.cons (.str _) (.cons (.str _) (.nil)))))
        (case a_PIECES => k_is); (case l_PIECES => k_is); (case u_PIECES => rfl); (case v_PIECES => rfl); (case w_PIECES => exact .cons ⟨_, rfl⟩ (.cons ⟨_, rfl⟩ (.cons ⟨_, rfl⟩ (.cons ⟨_, rfl⟩ (.nil)))))
      case t19 =>
        refine' Bz.glob_int X G ?a_MOST_SIDE
        (case a_MOST_SIDE => k_is)
      case t20 =>
        refine' Bz.glob_int X G ?a_MOST_WORDS
        (case a_MOST_WORDS => k_is)
      case t21 =>
        refine' Bz.glob_str X G ?a_ANY
        (case a_ANY => k_is)
      case t22 =>
        refine' Bz.at_mk X G ?a__law_taken ?l__law_taken ?c__law_taken ?k__law_taken (fun _ _ _ _ _ _ us hl => match us, hl with | [_, _], _ => rfl)
        (case a__law_taken => k_is); (case l__law_taken => k_is); (case c__law_taken => k_is); (case k__law_taken => k_is)
      case t23 =>
        refine' Bz.at_mk X G ?a__law_part ?l__law_part ?c__law_part ?k__law_part (fun _ _ _ _ _ _ us hl => match us, hl with | [_, _], _ => rfl)
        (case a__law_part => k_is); (case l__law_part => k_is); (case c__law_part => k_is); (case k__law_part => k_is)
      case t24 =>
        refine' Bz.at_mk X G ?a__law_fits ?l__law_fits ?c__law_fits ?k__law_fits (fun _ _ _ _ _ _ us hl => match us, hl with | [_, _], _ => rfl)
        (case a__law_fits => k_is); (case l__law_fits => k_is); (case c__law_fits => k_is); (case k__law_fits => k_is)
      case t25 =>
        refine' Bz.at_mk X G ?a__law_colour ?l__law_colour ?c__law_colour ?k__law_colour (fun _ _ _ _ _ _ us hl => match us, hl with | [_], _ => rfl)
        (case a__law_colour => k_is); (case l__law_colour => k_is); (case c__law_colour => k_is); (case k__law_colour => k_is)
      case t26 =>
        refine' Bz.at_mk X G ?a__law_saying ?l__law_saying ?c__law_saying ?k__law_saying (fun _ _ _ _ _ _ us hl => match us, hl with | [_, _, _], _ => rfl)
        (case a__law_saying => k_is); (case l__law_saying => k_is); (case c__law_saying => k_is); (case k__law_saying => k_is)
      case t27 =>
        refine' Bz.at_mk X G ?a_need_size ?l_need_size ?c_need_size ?k_need_size (fun _ _ _ _ _ _ us hl => match us, hl with | [_], _ => rfl)
        (case a_need_size => k_is); (case l_need_size => k_is); (case c_need_size => k_is); (case k_need_size => k_is)
      case t28 =>
        refine' Bz.at_mk X G ?a_part_of ?l_part_of ?c_part_of ?k_part_of (fun _ _ _ _ _ _ us hl => match us, hl with | [_, _], _ => rfl)
        (case a_part_of => k_is); (case l_part_of => k_is); (case c_part_of => k_is); (case k_part_of => k_is)
      case t29 =>
        refine' Bz.at_mk X G ?a_is_own ?l_is_own ?c_is_own ?k_is_own (fun _ _ _ _ _ _ us hl => match us, hl with | [_, _, _, _], _ => rfl)
        (case a_is_own => k_is); (case l_is_own => k_is); (case c_is_own => k_is); (case k_is_own => k_is)
      case t30 =>
        refine' Bz.at_mk X G ?a_drawing_of ?l_drawing_of ?c_drawing_of ?k_drawing_of (fun _ _ _ _ _ _ us hl => match us, hl with | [_, _], _ => rfl)
        (case a_drawing_of => k_is); (case l_drawing_of => k_is); (case c_drawing_of => k_is); (case k_drawing_of => k_is)
      case t31 =>
        refine' Bz.at_mk X G ?a_fits ?l_fits ?c_fits ?k_fits (fun _ _ _ _ _ _ us hl => match us, hl with | [_, _], _ => rfl)
        (case a_fits => k_is); (case l_fits => k_is); (case c_fits => k_is); (case k_fits => k_is)
      case t32 =>
        refine' Bz.at_mk X G ?a_tree_at ?l_tree_at ?c_tree_at ?k_tree_at (fun _ _ _ _ _ _ us hl => match us, hl with | [_, _, _], _ => rfl)
        (case a_tree_at => k_is); (case l_tree_at => k_is); (case c_tree_at => k_is); (case k_tree_at => k_is)
      case t33 =>
        refine' Bz.at_mk X G ?a_tree_of ?l_tree_of ?c_tree_of ?k_tree_of (fun _ _ _ _ _ _ us hl => match us, hl with | [_, _], _ => rfl)
        (case a_tree_of => k_is); (case l_tree_of => k_is); (case c_tree_of => k_is); (case k_tree_of => k_is)
      case t34 =>
        refine' Bz.at_mk X G ?a_drawn ?l_drawn ?c_drawn ?k_drawn (fun _ _ _ _ _ _ us hl => match us, hl with | [_, _], _ => rfl)
        (case a_drawn => k_is); (case l_drawn => k_is); (case c_drawn => k_is); (case k_drawn => k_is)
      case t35 =>
        refine' Bz.at_mk X G ?a_drawing_or_none ?l_drawing_or_none ?c_drawing_or_none ?k_drawing_or_none (fun _ _ _ _ _ _ us hl => match us, hl with | [_, _], _ => rfl)
        (case a_drawing_or_none => k_is); (case l_drawing_or_none => k_is); (case c_drawing_or_none => k_is); (case k_drawing_or_none => k_is)
      case t36 =>
        refine' Bz.at_mk X G ?a_few ?l_few ?c_few ?k_few (fun _ _ _ _ _ _ us hl => match us, hl with | [_, _], _ => rfl)
        (case a_few => k_is); (case l_few => k_is); (case c_few => k_is); (case k_few => k_is)
      case t37 =>
        refine' Bz.at_mk X G ?a_is_drawing ?l_is_drawing ?c_is_drawing ?k_is_drawing (fun _ _ _ _ _ _ us hl => match us, hl with | [_, _], _ => rfl)
        (case a_is_drawing => k_is); (case l_is_drawing => k_is); (case c_is_drawing => k_is); (case k_is_drawing => k_is)
      case t38 =>
        refine' Bz.at_mk X G ?a_need_drawing ?l_need_drawing ?c_need_drawing ?k_need_drawing (fun _ _ _ _ _ _ us hl => match us, hl with | [_, _], _ => rfl)
        (case a_need_drawing => k_is); (case l_need_drawing => k_is); (case c_need_drawing => k_is); (case k_need_drawing => k_is)
      case t39 =>
        refine' Bz.at_mk X G ?a_colours_in ?l_colours_in ?c_colours_in ?k_colours_in (fun _ _ _ _ _ _ us hl => match us, hl with | [_], _ => rfl)
        (case a_colours_in => k_is); (case l_colours_in => k_is); (case c_colours_in => k_is); (case k_colours_in => k_is)
      case t40 =>
        refine' Bz.at_mk X G ?a_size_of ?l_size_of ?c_size_of ?k_size_of (fun _ _ _ _ _ _ us hl => match us, hl with | [_], _ => rfl)
        (case a_size_of => k_is); (case l_size_of => k_is); (case c_size_of => k_is); (case k_size_of => k_is)
      case t41 =>
        refine' Bz.at_mk X G ?a_laid ?l_laid ?c_laid ?k_laid (fun _ _ _ _ _ _ us hl => match us, hl with | [_, _], _ => rfl)
        (case a_laid => k_is); (case l_laid => k_is); (case c_laid => k_is); (case k_laid => k_is)
      case t42 =>
        refine' Bz.at_mk X G ?a_cut_out ?l_cut_out ?c_cut_out ?k_cut_out (fun _ _ _ _ _ _ us hl => match us, hl with | [_, _, _, _], _ => rfl)
        (case a_cut_out => k_is); (case l_cut_out => k_is); (case c_cut_out => k_is); (case k_cut_out => k_is)
      case t43 =>
        refine' Bz.at_mk X G ?a_parts_of ?l_parts_of ?c_parts_of ?k_parts_of (fun _ _ _ _ _ _ us hl => match us, hl with | [_, _], _ => rfl)
        (case a_parts_of => k_is); (case l_parts_of => k_is); (case c_parts_of => k_is); (case k_parts_of => k_is)
      case t44 =>
        refine' Bz.at_mk X G ?a_without_own ?l_without_own ?c_without_own ?k_without_own (fun _ _ _ _ _ _ us hl => match us, hl with | [_, _], _ => rfl)
        (case a_without_own => k_is); (case l_without_own => k_is); (case c_without_own => k_is); (case k_without_own => k_is)
      case t45 =>
        refine' Bz.at_mk X G ?a_ways ?l_ways ?c_ways ?k_ways (fun _ _ _ _ _ _ us hl => match us, hl with | [_], _ => rfl)
        (case a_ways => k_is); (case l_ways => k_is); (case c_ways => k_is); (case k_ways => k_is)
      case t46 =>
        refine' Bz.at_mk X G ?a_all_cells ?l_all_cells ?c_all_cells ?k_all_cells (fun _ _ _ _ _ _ us hl => match us, hl with | [_], _ => rfl)
        (case a_all_cells => k_is); (case l_all_cells => k_is); (case c_all_cells => k_is); (case k_all_cells => k_is)
      case t47 =>
        refine' Bz.atC_mk X G ?a_shorter ?l_shorter ?c_shorter ?k_shorter (fun _ _ _ _ _ _ us hl => match us, hl with | [_], _ => rfl)
        (case a_shorter => k_is); (case l_shorter => k_is); (case c_shorter => k_is); (case k_shorter => k_is)
      case t48 =>
        refine' Bz.at_mk X G ?a_best ?l_best ?c_best ?k_best (fun _ _ _ _ _ _ us hl => match us, hl with | [_, _], _ => rfl)
        (case a_best => k_is); (case l_best => k_is); (case c_best => k_is); (case k_best => k_is)
      case t49 =>
        refine' Bz.at_mk X G ?a_said ?l_said ?c_said ?k_said (fun _ _ _ _ _ _ us hl => match us, hl with | [_, _], _ => rfl)
        (case a_said => k_is); (case l_said => k_is); (case c_said => k_is); (case k_said => k_is)
  case nT => kernel_rfl
  case hC => kernel_rfl
