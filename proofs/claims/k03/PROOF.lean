import PyProof.Rows.All
import Wide.All
import OpenK.AllK
import Wide.FinOn
import HandS.ForMost
import HandS.ForExc
import HandS.Deep
import HandS.TupAny
import HandS.TupMul
import HandS.NoneIn
import HandS.Zip
import HandS.IsInst
import HandS.Style
import HandS.Dict
import HandS.Strs
import PyProof.Rows.SortShellAny
import PySem.Challenge.RW_blazonry_k03_sayings_drawn
set_option Elab.async false
set_option linter.all false
set_option maxRecDepth 100000
set_option maxHeartbeats 2000000
/-! The data layer: what a def means, as a function of plain data. -/
namespace Bz
open PySem

/-- a value: plain data, or a handle of something that may be changed -/
inductive S where
  | d (x : PyData)
  | m (h : Nat)
/-- what a handle stands for -/
inductive M where
  | lst (xs : List PyData)
  | frz (xs : List PyData)
  | dic (kvs : List (PyData × PyData))
abbrev Mem := List M
structure Exn where
  cls : Nat
  place : Option Int
inductive R (α : Type) where
  | ok (a : α) (μ : Mem)
  | err (e : Exn) (μ : Mem)
  | no
abbrev Env := List (Option S)
abbrev DE := Env → Mem → R S
abbrev DT := Env → Mem → R Bool
abbrev DA := Env → Mem → R (List S)
abbrev DI := Env → Mem → R (List PyData)
inductive Out where
  | nx (ρ : Env) (μ : Mem)
  | rt (s : S) (μ : Mem)
  | bk (ρ : Env) (μ : Mem)
  | ct (ρ : Env) (μ : Mem)
  | err (e : Exn) (μ : Mem)
  | no
abbrev DS := Env → Mem → Out
abbrev DG := S → Env → Option Env
abbrev Fn := List S → Mem → R S

@[simp] def R.bind {α β : Type} (r : R α) (f : α → Mem → R β) : R β := match r with
  | .ok a μ => f a μ
  | .err e μ => .err e μ
  | .no => .no
@[simp] def R.out {α : Type} (r : R α) (f : α → Mem → Out) : Out := match r with
  | .ok a μ => f a μ
  | .err e μ => .err e μ
  | .no => .no
/-- where nothing may be raised -/
@[simp] def R.bindN {α β : Type} (r : R α) (f : α → Mem → R β) : R β := match r with
  | .ok a μ => f a μ
  | _ => .no
@[simp] def rd (μ : Mem) : S → Option PyData
  | .d x => some x
  | .m h => match μ[h]? with
    | some (.lst xs) => some (.list xs)
    | some (.frz xs) => some (.list xs)
    | _ => none
@[simp] def pureS : S → Option PyData
  | .d x => some x
  | .m _ => none
@[simp] def pureL : List S → Option (List PyData)
  | [] => some []
  | .d x :: r => match pureL r with
    | some xs => some (x :: xs)
    | none => none
  | .m _ :: _ => none
@[simp] def rdL (μ : Mem) : List S → Option (List PyData)
  | [] => some []
  | s :: r => match rd μ s, rdL μ r with
    | some x, some xs => some (x :: xs)
    | _, _ => none
@[simp] def R.of (o : Option PyData) (μ : Mem) : R S := match o with
  | some x => .ok (.d x) μ
  | none => .no

/-! ### expressions -/
@[simp] def eVar (i : Nat) : DE := fun ρ μ => match ρ[i]? with
  | some (some s) => .ok s μ
  | _ => .no
@[simp] def eC (x : PyData) : DE := fun _ μ => .ok (.d x) μ
@[simp] def eOp (f : PyData → PyData → Option PyData) (a b : DE) : DE := fun ρ μ => (a ρ μ).bind fun x μ1 => (b ρ μ1).bind fun y μ2 => match rd μ2 x, rd μ2 y with
  | some u, some v => R.of (f u v) μ2
  | _, _ => .no
@[simp] def eUn (f : PyData → Option PyData) (a : DE) : DE := fun ρ μ => (a ρ μ).bind fun x μ1 => match rd μ1 x with
  | some u => R.of (f u) μ1
  | none => .no
@[simp] def aNil : DA := fun _ μ => .ok [] μ
@[simp] def aCons (a : DE) (r : DA) : DA := fun ρ μ => (a ρ μ).bind fun x μ1 => (r ρ μ1).bind fun xs μ2 => .ok (x :: xs) μ2
@[simp] def eCB (f : List PyData → Option PyData) (as : DA) : DE := fun ρ μ => (as ρ μ).bind fun ss μ1 => match rdL μ1 ss with
  | some xs => R.of (f xs) μ1
  | none => .no
@[simp] def small (n : Nat) : Bool := decide (n ≤ 1000000)
@[simp] def eTup (as : DA) : DE := fun ρ μ => (as ρ μ).bind fun ss μ1 => match pureL ss with
  | some xs => if small xs.length then .ok (.d (.tuple xs)) μ1 else .no
  | none => .no
@[simp] def eLst (as : DA) : DE := fun ρ μ => (as ρ μ).bind fun ss μ1 => match pureL ss with
  | some xs => if small xs.length then .ok (.d (.list xs)) μ1 else .no
  | none => .no
/-- a list, to be changed -/
@[simp] def eNew (a : DE) : DE := fun ρ μ => (a ρ μ).bind fun s μ1 => match s with
  | .d (.list xs) => .ok (.m μ1.length) (μ1 ++ [.lst xs])
  | _ => .no
@[simp] def eIf (t : DT) (a b : DE) : DE := fun ρ μ => (t ρ μ).bind fun c μ1 => if c then a ρ μ1 else b ρ μ1
@[simp] def eAnd (a b : DE) : DE := fun ρ μ => (a ρ μ).bind fun s μ1 => match s with
  | .d (.bool c) => if c then b ρ μ1 else .ok (.d (.bool false)) μ1
  | _ => .no
@[simp] def eOr (a b : DE) : DE := fun ρ μ => (a ρ μ).bind fun s μ1 => match s with
  | .d (.bool c) => if c then .ok (.d (.bool true)) μ1 else b ρ μ1
  | _ => .no
@[simp] def eNot (a : DE) : DE := fun ρ μ => (a ρ μ).bind fun s μ1 => match s with
  | .d (.bool c) => .ok (.d (.bool (!c))) μ1
  | _ => .no
/-- a op1 b op2 c -/
@[simp] def eChain (f g : PyData → PyData → Option PyData) (a b c : DE) : DE := fun ρ μ => (a ρ μ).bind fun x μ1 => (b ρ μ1).bind fun y μ2 => match rd μ2 x, rd μ2 y with
  | some u, some v => match f u v with
    | some (.bool true) => (c ρ μ2).bind fun z μ3 => match rd μ3 y, rd μ3 z with
      | some v', some w => R.of (g v' w) μ3
      | _, _ => .no
    | some (.bool false) => .ok (.d (.bool false)) μ2
    | _ => .no
  | _, _ => .no
@[simp] def bVal (a : DE) : DT := fun ρ μ => (a ρ μ).bind fun s μ1 => match s with
  | .d (.bool c) => .ok c μ1
  | _ => .no
@[simp] def bAnd (t u : DT) : DT := fun ρ μ => (t ρ μ).bind fun c μ1 => if c then u ρ μ1 else .ok false μ1
@[simp] def bOr (t u : DT) : DT := fun ρ μ => (t ρ μ).bind fun c μ1 => if c then .ok true μ1 else u ρ μ1
@[simp] def bNot (t : DT) : DT := fun ρ μ => (t ρ μ).bind fun c μ1 => .ok (!c) μ1
@[simp] def bYes : DT := fun _ μ => .ok true μ
@[simp] def eCall (F : Fn) (as : DA) : DE := fun ρ μ => (as ρ μ).bind fun ss μ1 => F ss μ1

@[simp] theorem ok_and {p : Prop} [Decidable p] {d : Bool} {μ : Mem} : (if p then R.ok (S.d (.bool d)) μ else R.ok (S.d (.bool false)) μ) = R.ok (S.d (.bool (decide p && d))) μ := by
  by_cases h : p <;> simp [h]
@[simp] theorem ok_or {p : Prop} [Decidable p] {d : Bool} {μ : Mem} : (if p then R.ok (S.d (.bool true)) μ else R.ok (S.d (.bool d)) μ) = R.ok (S.d (.bool (decide p || d))) μ := by
  by_cases h : p <;> simp [h]
@[simp] theorem ok_andT {p : Prop} [Decidable p] {d : Bool} {μ : Mem} : (if p then R.ok d μ else R.ok false μ) = R.ok (decide p && d) μ := by
  by_cases h : p <;> simp [h]
@[simp] theorem ok_orT {p : Prop} [Decidable p] {d : Bool} {μ : Mem} : (if p then R.ok true μ else R.ok d μ) = R.ok (decide p || d) μ := by
  by_cases h : p <;> simp [h]

/-! ### what is walked -/
@[simp] def seqOf : PyData → Option (List PyData)
  | .list xs => some xs
  | .tuple xs => some xs
  | _ => none
@[simp] def iSeq (a : DE) : DI := fun ρ μ => (a ρ μ).bind fun s μ1 => match s with
  | .d x => match seqOf x with
    | some xs => .ok xs μ1
    | none => .no
  | .m _ => .no
def upFrom (lo : Int) (n : Nat) : List PyData := (List.range n).map fun (i : Nat) => PyData.int (lo + (i : Int))
def lim : Int := 1000000000000
@[simp] def iRng1 (as : DA) : DI := fun ρ μ => (as ρ μ).bind fun ss μ1 => match ss with
  | [.d (.int j)] => if decide (-lim ≤ j ∧ j ≤ lim) then .ok (upFrom 0 j.toNat) μ1 else .no
  | _ => .no
@[simp] def iRng2 (as : DA) : DI := fun ρ μ => (as ρ μ).bind fun ss μ1 => match ss with
  | [.d (.int i), .d (.int j)] => if decide (-lim ≤ i ∧ i ≤ lim ∧ -lim ≤ j ∧ j ≤ lim) then .ok (upFrom i (j - i).toNat) μ1 else .no
  | _ => .no
@[simp] def zipD : List PyData → List PyData → List PyData
  | x :: xs, y :: ys => .tuple [x, y] :: zipD xs ys
  | _, _ => []
@[simp] def iZip (as : DA) : DI := fun ρ μ => (as ρ μ).bind fun ss μ1 => match ss with
  | [.d (.list xs), .d (.list ys)] => .ok (zipD xs ys) μ1
  | [.d (.tuple xs), .d (.tuple ys)] => .ok (zipD xs ys) μ1
  | _ => .no

/-! ### targets -/
@[simp] def gNm (i : Nat) : DG := fun s ρ => some (ρ.set i (some s))
@[simp] def gSeq : List DG → List PyData → Env → Option Env
  | [], [], ρ => some ρ
  | g :: gs, x :: xs, ρ => match g (.d x) ρ with
    | some ρ1 => gSeq gs xs ρ1
    | none => none
  | _, _, _ => none
/-- (a, b, ..) = a tuple -/
@[simp] def gTp (gs : List DG) : DG := fun s ρ => match s with
  | .d (.tuple xs) => gSeq gs xs ρ
  | _ => none
/-- .. = a list -/
@[simp] def gLs (gs : List DG) : DG := fun s ρ => match s with
  | .d (.list xs) => gSeq gs xs ρ
  | _ => none

/-! ### comprehensions -/
@[simp] def wipeD (ρ : Env) : List Nat → Env
  | [] => ρ
  | v :: vs => (wipeD ρ vs).set v none
@[simp] def compGo (g : DG) (t : DT) (e : DE) (ρ : Env) : List PyData → List PyData → Mem → R (List PyData)
  | [], acc, μ => .ok acc μ
  | x :: xs, acc, μ => match g (.d x) ρ with
    | none => .no
    | some ρ1 => (t ρ1 μ).bindN fun b μ1 => if b then (e ρ1 μ1).bindN fun s μ2 => match s with
        | .d y => if small acc.length then compGo g t e ρ xs (acc ++ [y]) μ2 else .no
        | .m _ => .no
      else compGo g t e ρ xs acc μ1
@[simp] def eComp (it : DI) (g : DG) (t : DT) (e : DE) (vs : List Nat) : DE := fun ρ μ => (it ρ μ).bind fun xs μ1 => (compGo g t e (wipeD ρ vs) xs [] μ1).bindN fun ys μ2 => .ok (.d (.list ys)) μ2

/-! ### statements -/
@[simp] def sNx : DS := fun ρ μ => .nx ρ μ
@[simp] def sSeq (a b : DS) : DS := fun ρ μ => match a ρ μ with
  | .nx ρ1 μ1 => b ρ1 μ1
  | o => o
@[simp] def sAsg (e : DE) (g : DG) : DS := fun ρ μ => (e ρ μ).out fun s μ1 => match g s ρ with
  | some ρ1 => .nx ρ1 μ1
  | none => .no
@[simp] def sDrop (e : DE) : DS := fun ρ μ => (e ρ μ).out fun _ μ1 => .nx ρ μ1
@[simp] def sRet (e : DE) : DS := fun ρ μ => (e ρ μ).out fun s μ1 => .rt s μ1
@[simp] def sRetN : DS := fun _ μ => .rt (.d .none) μ
@[simp] def sIf (t : DT) (a b : DS) : DS := fun ρ μ => (t ρ μ).out fun c μ1 => if c then a ρ μ1 else b ρ μ1
@[simp] def sNo : DS := fun _ _ => .no
@[simp] def sBk : DS := fun ρ μ => .bk ρ μ
@[simp] def sCt : DS := fun ρ μ => .ct ρ μ
@[simp] def forGo (g : DG) (b : DS) : List PyData → Env → Mem → Out
  | [], ρ, μ => .nx ρ μ
  | x :: xs, ρ, μ => match g (.d x) ρ with
    | none => .no
    | some ρ1 => match b ρ1 μ with
      | .nx ρ2 μ2 => forGo g b xs ρ2 μ2
      | .ct ρ2 μ2 => forGo g b xs ρ2 μ2
      | .bk ρ2 μ2 => .nx ρ2 μ2
      | o => o
@[simp] def sFor (it : DI) (g : DG) (b : DS) : DS := fun ρ μ => (it ρ μ).out fun xs μ1 => forGo g b xs ρ μ1
def whGo (t : DT) (b : DS) : Nat → Env → Mem → Out
  | 0, _, _ => .no
  | n + 1, ρ, μ => (t ρ μ).out fun c μ1 => if c then match b ρ μ1 with
      | .nx ρ2 μ2 => whGo t b n ρ2 μ2
      | .ct ρ2 μ2 => whGo t b n ρ2 μ2
      | .bk ρ2 μ2 => .nx ρ2 μ2
      | o => o
    else .nx ρ μ1
@[simp] def sWh (n : Nat) (t : DT) (b : DS) : DS := fun ρ μ => whGo t b n ρ μ
/-- xs[i] = v, the list a changeable one -/
@[simp] def sSetIx (e o i : DE) : DS := fun ρ μ => (e ρ μ).out fun s μ1 => (o ρ μ1).out fun l μ2 => (i ρ μ2).out fun k μ3 => match s, l, k with
  | .d x, .m h, .d (.int j) => match μ3[h]? with
    | some (.lst xs) => match L2.ixN xs.length j with
      | some n => .nx ρ (μ3.set h (.lst (xs.set n x)))
      | none => .no
    | _ => .no
  | _, _, _ => .no
/-- xs.append(e) -/
@[simp] def eApp (o e : DE) : DE := fun ρ μ => (o ρ μ).bind fun l μ1 => match l with
  | .m h => match μ1[h]? with
    | some (.lst _) => (e ρ μ1).bind fun s μ2 => match s with
      | .d x => match μ2[h]? with
        | some (.lst xs) => if small xs.length then .ok (.d .none) (μ2.set h (.lst (xs ++ [x]))) else .no
        | _ => .no
      | .m _ => .no
    | _ => .no
  | .d _ => .no

/-! ### defs -/
@[simp] def retF (n : Nat) (s : S) (μ : Mem) : R S := match s with
  | .d x => .ok (.d x) (μ.take n)
  | .m h => if h < n then .ok (.m h) (μ.take n) else match μ[h]? with
    | some (.lst xs) => .ok (.d (.list xs)) (μ.take n)
    | some (.frz xs) => .ok (.d (.list xs)) (μ.take n)
    | _ => .no
def callD (np n : Nat) (b : DS) : Fn := fun args μ => if args.length = np then match b (args.map some ++ List.replicate (n - np) none) μ with
    | .nx _ μ' => .ok (.d .none) (μ'.take μ.length)
    | .rt s μ' => retF μ.length s μ'
    | .err e μ' => .err e (μ'.take μ.length)
    | _ => .no
  else .no
theorem callD_no {np n : Nat} {b : DS} {args : List S} {μ : Mem} (h : args.length ≠ np) : callD np n b args μ = .no := by
  unfold callD
  rw [if_neg h]
/-! ### operations on data -/
abbrev D2 := PyData → PyData → Option PyData
@[simp] def fAdd : D2
  | .int i, .int j => some (.int (i + j))
  | .str x, .str y => if small (x.length + y.length) then some (.str (x ++ y)) else none
  | .tuple xs, .tuple ys => if small (xs.length + ys.length) then some (.tuple (xs ++ ys)) else none
  | .list xs, .list ys => if small (xs.length + ys.length) then some (.list (xs ++ ys)) else none
  | _, _ => none
@[simp] def fSub : D2
  | .int i, .int j => some (.int (i - j))
  | _, _ => none
def big64 : Int := 18446744073709551616
@[simp] def fMul : D2
  | .int i, .int j => if decide (-big64 < i ∧ i < big64) || decide (-big64 < j ∧ j < big64) then some (.int (i * j)) else none
  | .tuple xs, .int k => if decide (0 ≤ k ∧ k ≤ 1000) && decide (xs.length ≤ 1000) then some (.tuple (List.replicate k.toNat xs).flatten) else none
  | .list xs, .int k => if decide (0 ≤ k ∧ k ≤ 1000) && decide (xs.length ≤ 1000) then some (.list (List.replicate k.toNat xs).flatten) else none
  | _, _ => none
@[simp] def fDiv : D2
  | .int i, .int j => if decide (0 < j ∧ j < 1073741824) then some (.int (i / j)) else none
  | _, _ => none
@[simp] def fMod : D2
  | .int i, .int j => if decide (0 < j) then some (.int (i % j)) else none
  | _, _ => none
@[simp] def fPow : D2
  | .int i, .int j => if decide (0 ≤ j ∧ j ≤ 1000) && decide (i.natAbs ≤ 1000) then some (.int (i ^ j.toNat)) else none
  | _, _ => none
/-- == of two scalars -/
@[simp] def scalD : PyData → PyData → Option Bool
  | .int i, .int j => some (decide (i = j))
  | .str x, .str y => some (decide (x = y))
  | .bool a, .bool b => some (decide (a = b))
  | .none, .none => some true
  | .none, .int _ => some false
  | .int _, .none => some false
  | .none, .str _ => some false
  | .str _, .none => some false
  | .int _, .str _ => some false
  | .str _, .int _ => some false
  | _, _ => none
@[simp] def eqD2 (a b : PyData) : Option Bool := match scalD a b with
  | some c => some c
  | none => if a.canLay0 && b.canLay0 && decide (min a.depth b.depth ≤ 64) then some (PyData.eqv a b) else none
@[simp] def fEq : D2 := fun a b => (eqD2 a b).map fun c => .bool c
@[simp] def fNe : D2 := fun a b => (eqD2 a b).map fun c => .bool (!c)
@[simp] def fLt : D2
  | .int i, .int j => some (.bool (decide (i < j)))
  | _, _ => none
@[simp] def fLe : D2
  | .int i, .int j => some (.bool (decide (i ≤ j)))
  | _, _ => none
@[simp] def fGt : D2
  | .int i, .int j => some (.bool (decide (j < i)))
  | _, _ => none
@[simp] def fGe : D2
  | .int i, .int j => some (.bool (decide (j ≤ i)))
  | _, _ => none
@[simp] def flatD : PyData → Bool
  | .none => true
  | .bool _ => true
  | .int _ => true
  | .str _ => true
  | _ => false
def inD (x : PyData) (xs : List PyData) : Bool := xs.any fun y => PyData.eqv y x
@[simp] def fIn : D2
  | x, .tuple xs => if flatD x && xs.all flatD then some (.bool (inD x xs)) else none
  | x, .list xs => if SeqAt.shaped x && SeqAt.shaped (.list xs) then some (.bool (inD x xs)) else none
  | _, _ => none
@[simp] def fNotIn : D2
  | x, .tuple xs => if flatD x && xs.all flatD then some (.bool (!inD x xs)) else none
  | x, .list xs => if SeqAt.shaped x && SeqAt.shaped (.list xs) then some (.bool (!inD x xs)) else none
  | _, _ => none
@[simp] def isNone : PyData → Bool
  | .none => true
  | _ => false
/-- is, the right side None, True, False -/
@[simp] def fIs : D2
  | x, .none => some (.bool (isNone x))
  | .bool a, .bool b => some (.bool (decide (a = b)))
  | _, _ => none
@[simp] def fIsNot : D2
  | x, .none => some (.bool (!isNone x))
  | .bool a, .bool b => some (.bool (!decide (a = b)))
  | _, _ => none
@[simp] def fIx : D2
  | .list xs, .int i => L2.atI xs i
  | .tuple xs, .int i => L2.atI xs i
  | .dict [(.none, .list xs)], .int i => L2.atI xs i
  | .str z, .int i => if small z.length then (L2.atI z.cps.toList i).map fun c => .str ⟨#[c]⟩ else none
  | _, _ => none
def cutD (xs : List PyData) (lo hi : Option Int) : List PyData := (xs.drop (HT.sIx xs.length 0 lo)).take (HT.sIx xs.length xs.length hi - HT.sIx xs.length 0 lo)
@[simp] def fSl (lo hi : Option Int) : PyData → Option PyData
  | .list xs => some (.list (cutD xs lo hi))
  | .tuple xs => some (.tuple (cutD xs lo hi))
  | .str z => if small z.length then some (.str (L2.cutS z lo hi)) else none
  | _ => none
abbrev DO := Env → Mem → R (Option Int)
@[simp] def oNo : DO := fun _ μ => .ok none μ
@[simp] def oYes (e : DE) : DO := fun ρ μ => (e ρ μ).bind fun s μ1 => match s with
  | .d (.int i) => .ok (some i) μ1
  | _ => .no
@[simp] def eSl (e : DE) (l h : DO) : DE := fun ρ μ => (e ρ μ).bind fun s μ1 => (l ρ μ1).bind fun lo μ2 => (h ρ μ2).bind fun hi μ3 => match rd μ3 s with
  | some x => R.of (fSl lo hi x) μ3
  | none => .no
/-! calls of built-ins -/
abbrev DF := List PyData → Option PyData
@[simp] def bLen : DF
  | [.list xs] => some (.int xs.length)
  | [.tuple xs] => some (.int xs.length)
  | [.dict [(.none, .list xs)]] => some (.int xs.length)
  | [.str z] => if small z.length then some (.int z.length) else none
  | _ => none
@[simp] def bTup : DF
  | [.list xs] => some (.tuple xs)
  | [.tuple xs] => some (.tuple xs)
  | _ => none
@[simp] def bLst : DF
  | [.list xs] => some (.list xs)
  | [.tuple xs] => some (.list xs)
  | _ => none
@[simp] def bInt : DF
  | [.int i] => some (.int i)
  | [.bool b] => some (.int (if b then 1 else 0))
  | _ => none
@[simp] def bAbs : DF
  | [.int i] => some (.int (if i < 0 then -i else i))
  | _ => none
@[simp] def fNeg : PyData → Option PyData
  | .int i => some (.int (-i))
  | _ => none
def min4 (a b c d : Int) : Int := min (min (min a b) c) d
@[simp] def bMin : DF
  | [.int a, .int b] => some (.int (if b < a then b else a))
  | [.int a, .int b, .int c, .int d] => some (.int (min4 a b c d))
  | _ => none

/-! dicts that are not changed -/
@[simp] def kD0 : L2.Key → PyData
  | .inl i => .int i
  | .inr x => .str x
@[simp] def kOf : PyData → Option L2.Key
  | .int i => some (.inl i)
  | .str x => some (.inr x)
  | _ => none
abbrev DP := Env → Mem → R (List (L2.Key × PyData))
@[simp] def pNil : DP := fun _ μ => .ok [] μ
@[simp] def pCons (k v : DE) (r : DP) : DP := fun ρ μ => (k ρ μ).bind fun a μ1 => (v ρ μ1).bind fun b μ2 => (r ρ μ2).bind fun ps μ3 => match a, b with
  | .d x, .d y => match kOf x with
    | some k => .ok ((k, y) :: ps) μ3
    | none => .no
  | _, _ => .no
@[simp] def eDict (ps : DP) : DE := fun ρ μ => (ps ρ μ).bind fun kvs μ1 => if decide ((kvs.map (·.1)).Nodup) && decide (kvs.length ≤ 15) then .ok (.d (.dict (kvs.map fun p => (kD0 p.1, p.2)))) μ1 else .no
@[simp] def lookK : List (PyData × PyData) → L2.Key → Option PyData
  | [], _ => none
  | (a, d) :: r, k => if kOf a = some k then some d else lookK r k
@[simp] def isDct : List (PyData × PyData) → Bool
  | (.none, _) :: _ => false
  | _ => true
/-- d.get(k, z) -/
@[simp] def eGet2 (o k z : DE) : DE := fun ρ μ => (o ρ μ).bind fun s μ1 => match s with
  | .d (.dict kvs) => if isDct kvs then (k ρ μ1).bind fun a μ2 => (z ρ μ2).bind fun b μ3 => match a, b with
      | .d x, .d y => match kOf x with
        | some q => .ok (.d ((lookK kvs q).getD y)) μ3
        | none => .no
      | _, _ => .no
    else .no
  | _ => .no
/-! turned about, places, texts sorted -/
@[simp] def fRev : PyData → Option PyData
  | .list xs => some (.list xs.reverse)
  | .tuple xs => some (.tuple xs.reverse)
  | _ => none
@[simp] def strsOf : List PyData → Option (List Str)
  | [] => some []
  | .str x :: r => match strsOf r with
    | some xs => some (x :: xs)
    | none => none
  | _ :: _ => none
/-- t.index(x), of texts -/
@[simp] def fTIdx : D2
  | .tuple xs, .str z => match strsOf xs with
    | some ys => match ys.findIdx? (fun y => decide (y = z)) with
      | some j => some (.int (j : Nat))
      | none => none
    | none => none
  | _, _ => none
def leS (a b : Str) : Bool := !Spec.ltCps b.cps.toList a.cps.toList
def sortS (xs : List Str) : List Str := xs.mergeSort leS
@[simp] def bSorted : DF
  | [.list xs] => match strsOf xs with
    | some ys => if small ys.length then some (.list ((sortS ys).map PyData.str)) else none
    | none => none
  | [.tuple xs] => match strsOf xs with
    | some ys => if small ys.length then some (.list ((sortS ys).map PyData.str)) else none
    | none => none
  | _ => none
/-! isinstance -/
@[simp] def tyD : PyData → Option String
  | .none => some "NoneType"
  | .bool _ => some "bool"
  | .int _ => some "int"
  | .str _ => some "str"
  | .list _ => some "list"
  | .tuple _ => some "tuple"
  | _ => none
@[simp] def isB (t c : String) : Bool := t == c || (t == "bool" && c == "int")
@[simp] def fIsI (cs : List String) : PyData → Option PyData := fun x => match tyD x with
  | some t => some (.bool (cs.any fun c => isB t c))
  | none => none
end Bz
set_option Elab.async false
set_option linter.all false
set_option maxRecDepth 100000
set_option maxHeartbeats 2000000
/-! The data layer over the hand layer: what a reading does, told by plain data. -/
namespace Bz
open PySem PySem.Spec PyProof.Rows L2
abbrev St := L2.St

/-! ### relations -/
theorem Rd.same {H H' : Hp} {a : Addr} {u : HO} (e : Same H H') (h : Rd H a u) : Rd H' a u := by
  rcases h with h | ⟨o, h⟩
  · exact .inl (e a _ h)
  · exact .inr ⟨o, e a _ h⟩
theorem SqL.same {K : PySem.W.Frag} {H H' : Hp} {a : Addr} {xs : List V} (e : Same H H') (h : SqL K H a xs) : SqL K H' a xs := by
  rcases h with h | h
  · exact .inl (Rd.same e h)
  · exact .inr h
theorem SqT.same {K : PySem.W.Frag} {H H' : Hp} {a : Addr} {xs : List V} (e : Same H H') (h : SqT K H a xs) : SqT K H' a xs := by
  rcases h with h | h
  · exact .inl (Rd.same e h)
  · exact .inr h
/-- a key as data -/
def kD : Key → PyData
  | .inl i => .int i
  | .inr x => .str x
mutual
/-- v is the data d: lists are tracked (lst), or only read (scr: the script); dicts with int and text keys that are not changed -/
inductive Dq (K : PySem.W.Frag) (H : Hp) : V → PyData → Prop
  | non : Dq K H .non .none
  | bl (b : Bool) : Dq K H (.bl b) (.bool b)
  | int (i : Int) : Dq K H (.int i) (.int i)
  | str (x : Str) : Dq K H (.str x) (.str x)
  | lst {a : Addr} {xs : List V} {ds : List PyData} : H a = some (.lst xs) → DqAll K H xs ds → Dq K H (.ref a) (.list ds)
  | tup {a : Addr} {xs : List V} {ds : List PyData} : SqT K H a xs → DqAll K H xs ds → Dq K H (.ref a) (.tuple ds)
  | scr {a : Addr} {xs : List Int} : SqL K H a (xs.map V.int) → Dq K H (.ref a) (.dict [(.none, .list (xs.map PyData.int))])
  | dct {a : Addr} {kvs : List (Key × V)} {ds : List (PyData × PyData)} : H a = some (.dK kvs) → DqKv K H kvs ds → Dq K H (.ref a) (.dict ds)
inductive DqAll (K : PySem.W.Frag) (H : Hp) : List V → List PyData → Prop
  | nil : DqAll K H [] []
  | cons {v : V} {vs : List V} {d : PyData} {ds : List PyData} : Dq K H v d → DqAll K H vs ds → DqAll K H (v :: vs) (d :: ds)
inductive DqKv (K : PySem.W.Frag) (H : Hp) : List (Key × V) → List (PyData × PyData) → Prop
  | nil : DqKv K H [] []
  | cons {k : Key} {v : V} {vs : List (Key × V)} {d : PyData} {ds : List (PyData × PyData)} : Dq K H v d → DqKv K H vs ds → DqKv K H ((k, v) :: vs) ((kD k, d) :: ds)
end
mutual
theorem Dq.mono {K : PySem.W.Frag} {H H' : Hp} (e : Same H H') : ∀ (d : PyData) (v : V), Dq K H v d → Dq K H' v d
  | .none, _, h => by cases h; exact .non
  | .bool _, _, h => by cases h; exact .bl _
  | .int _, _, h => by cases h; exact .int _
  | .str _, _, h => by cases h; exact .str _
  | .list ds, _, h => by
    cases h with
    | lst h1 h2 => exact .lst (e _ _ h1) (DqAll.mono e ds _ h2)
  | .tuple ds, _, h => by
    cases h with
    | tup h1 h2 => exact .tup (SqT.same e h1) (DqAll.mono e ds _ h2)
  | .dict ds, _, h => by
    cases h with
    | scr h1 => exact .scr (SqL.same e h1)
    | dct h1 h2 => exact .dct (e _ _ h1) (DqKv.mono e ds _ h2)
theorem DqAll.mono {K : PySem.W.Frag} {H H' : Hp} (e : Same H H') : ∀ (ds : List PyData) (vs : List V), DqAll K H vs ds → DqAll K H' vs ds
  | [], _, h => by cases h; exact .nil
  | d :: ds, _, h => by
    cases h with
    | cons h1 h2 => exact .cons (Dq.mono e d _ h1) (DqAll.mono e ds _ h2)
theorem DqKv.mono {K : PySem.W.Frag} {H H' : Hp} (e : Same H H') : ∀ (ds : List (PyData × PyData)) (vs : List (Key × V)), DqKv K H vs ds → DqKv K H' vs ds
  | [], _, h => by cases h; exact .nil
  | (_, d) :: ds, _, h => by
    cases h with
    | cons h1 h2 => exact .cons (Dq.mono e d _ h1) (DqKv.mono e ds _ h2)
end
mutual
theorem Dq.dp {K : PySem.W.Frag} {H : Hp} : ∀ (d : PyData) (v : V), d.canLay0 = true → Dq K H v d → Dp K H v d
  | .none, _, _, h => by cases h; exact .non
  | .bool _, _, _, h => by cases h; exact .bl _
  | .int _, _, _, h => by cases h; exact .int _
  | .str _, _, _, h => by cases h; exact .str _
  | .list ds, _, c, h => by
    cases h with
    | lst h1 h2 => exact .lst (SqL.of h1) (DqAll.dp ds _ (by simpa [PyData.canLay0] using c) h2)
  | .tuple ds, _, c, h => by
    cases h with
    | tup h1 h2 => exact .tup h1 (DqAll.dp ds _ (by simpa [PyData.canLay0] using c) h2)
  | .dict _, _, c, h => by simp [PyData.canLay0] at c
theorem DqAll.dp {K : PySem.W.Frag} {H : Hp} : ∀ (ds : List PyData) (vs : List V), PyData.canLayAll0 ds = true → DqAll K H vs ds → DpAll K H vs ds
  | [], _, _, h => by cases h; exact .nil
  | d :: ds, _, c, h => by
    have c' : d.canLay0 = true ∧ PyData.canLayAll0 ds = true := by simpa [PyData.canLayAll0] using c
    cases h with
    | cons h1 h2 => exact .cons (Dq.dp d _ c'.1 h1) (DqAll.dp ds _ c'.2 h2)
end
section
variable {K : PySem.W.Frag} {G G' H H' : Hp} {m m' : List Addr} {μ μ' : Mem} {σ : St} {ρ : Env}
theorem DqAll.length : ∀ {vs : List V} {ds : List PyData}, DqAll K H vs ds → vs.length = ds.length
  | _, _, .nil => rfl
  | _, _, .cons _ t => congrArg (· + 1) (DqAll.length t)
theorem DqAll.get : ∀ {vs : List V} {ds : List PyData} {i : Nat} {d : PyData}, DqAll K H vs ds → ds[i]? = some d → ∃ v, vs[i]? = some v ∧ Dq K H v d
  | _, _, _, _, .nil, e => by simp at e
  | _, _, 0, d, .cons r _, e => by simp at e; subst e; exact ⟨_, rfl, r⟩
  | _, _, i + 1, d, .cons _ t, e => by
    obtain ⟨v, h1, h2⟩ := DqAll.get (i := i) (d := d) t (by simpa using e)
    exact ⟨v, by simpa using h1, h2⟩
theorem DqAll.append : ∀ {vs ws : List V} {ds es : List PyData}, DqAll K H vs ds → DqAll K H ws es → DqAll K H (vs ++ ws) (ds ++ es)
  | _, _, _, _, .nil, s => s
  | _, _, _, _, .cons r t, s => .cons r (DqAll.append t s)
theorem DqAll.take : ∀ {vs : List V} {ds : List PyData} (n : Nat), DqAll K H vs ds → DqAll K H (vs.take n) (ds.take n)
  | _, _, 0, _ => .nil
  | _, _, _ + 1, .nil => .nil
  | _, _, n + 1, .cons r t => .cons r (DqAll.take n t)
theorem DqAll.drop : ∀ {vs : List V} {ds : List PyData} (n : Nat), DqAll K H vs ds → DqAll K H (vs.drop n) (ds.drop n)
  | _, _, 0, r => r
  | _, _, _ + 1, .nil => .nil
  | _, _, n + 1, .cons _ t => DqAll.drop n t
theorem DqAll.set {x : V} {y : PyData} (r : Dq K H x y) : ∀ {vs : List V} {ds : List PyData} (i : Nat), DqAll K H vs ds → DqAll K H (vs.set i x) (ds.set i y)
  | _, _, _, .nil => .nil
  | _, _, 0, .cons _ t => .cons r t
  | _, _, i + 1, .cons q t => .cons q (DqAll.set r i t)
theorem DqAll.reverse : ∀ {vs : List V} {ds : List PyData}, DqAll K H vs ds → DqAll K H vs.reverse ds.reverse
  | _, _, .nil => .nil
  | _, _, .cons r t => by
    rw [List.reverse_cons, List.reverse_cons]
    exact DqAll.append (DqAll.reverse t) (.cons r .nil)
theorem DqAll.rep {vs : List V} {ds : List PyData} (h : DqAll K H vs ds) : ∀ k : Nat, DqAll K H (List.replicate k vs).flatten (List.replicate k ds).flatten
  | 0 => .nil
  | k + 1 => by
    rw [List.replicate_succ, List.replicate_succ, List.flatten_cons, List.flatten_cons]
    exact DqAll.append h (DqAll.rep h k)

/-- an object that may be changed (lst), a list that stands (frz) -/
def MO (K : PySem.W.Frag) (G H : Hp) (a : Addr) : M → Prop
  | .lst xs => G a = none ∧ ∃ vs, H a = some (.lst vs) ∧ DqAll K G vs xs
  | .frz xs => ∃ vs, G a = some (.lst vs) ∧ DqAll K G vs xs
  | .dic _ => False
structure MemR (K : PySem.W.Frag) (G H : Hp) (m : List Addr) (μ : Mem) : Prop where
  ex : Same G H
  len : m.length = μ.length
  nd : m.Nodup
  at_ : ∀ (i : Nat) a o, m[i]? = some a → μ[i]? = some o → MO K G H a o
def RpS (K : PySem.W.Frag) (G : Hp) (m : List Addr) : S → V → Prop
  | .d x, v => Dq K G v x
  | .m h, v => ∃ a, m[h]? = some a ∧ v = .ref a
def EnvR (K : PySem.W.Frag) (G : Hp) (m : List Addr) (ρ : Env) (σ : St) : Prop :=
  σ.length = ρ.length ∧ ∀ (i : Nat) s, ρ[i]? = some (some s) → ∃ v, σ[i]? = some (some v) ∧ RpS K G m s v
structure Gr (G G' : Hp) (m m' : List Addr) : Prop where
  ex : Same G G'
  pre : ∃ k, m' = m ++ k
theorem Gr.refl : Gr G G m m := ⟨Same.refl _, [], by simp⟩
theorem Gr.trans {G1 : Hp} {m1 : List Addr} (a : Gr G G1 m m1) (b : Gr G1 G' m1 m') : Gr G G' m m' := by
  obtain ⟨k, e⟩ := a.pre
  obtain ⟨k', e'⟩ := b.pre
  exact ⟨a.ex.trans b.ex, k ++ k', by rw [e', e, List.append_assoc]⟩
theorem Gr.at_ (g : Gr G G' m m') {i : Nat} {a : Addr} (h : m[i]? = some a) : m'[i]? = some a := by
  obtain ⟨k, e⟩ := g.pre
  obtain ⟨hl, _⟩ := List.getElem?_eq_some_iff.mp h
  rw [e, List.getElem?_append_left hl]
  exact h
theorem RpS.mono {s : S} {v : V} (g : Gr G G' m m') (h : RpS K G m s v) : RpS K G' m' s v := by
  cases s with
  | d x => exact Dq.mono g.ex x v h
  | m n =>
    obtain ⟨a, h1, h2⟩ := h
    exact ⟨a, g.at_ h1, h2⟩
theorem EnvR.mono (g : Gr G G' m m') (h : EnvR K G m ρ σ) : EnvR K G' m' ρ σ := ⟨h.1, fun i s e => by
  obtain ⟨v, h1, h2⟩ := h.2 i s e
  exact ⟨v, h1, h2.mono g⟩⟩
theorem EnvR.set {i : Nat} {s : S} {v : V} (h : EnvR K G m ρ σ) (r : RpS K G m s v) : EnvR K G m (ρ.set i (some s)) (σ.set i (some v)) := by
  refine ⟨by rw [List.length_set, List.length_set]; exact h.1, fun j t e => ?_⟩
  by_cases hj : i = j
  · subst hj
    by_cases hl : i < ρ.length
    · rw [List.getElem?_set_self hl] at e
      cases e
      exact ⟨v, List.getElem?_set_self (by rw [h.1]; exact hl), r⟩
    · rw [List.getElem?_eq_none (by simpa using hl)] at e
      cases e
  · rw [List.getElem?_set_ne hj] at e ⊢
    exact h.2 j t e
theorem EnvR.wipe (h : EnvR K G m ρ σ) : ∀ vs : List Nat, EnvR K G m (wipeD ρ vs) (wipe σ vs)
  | [] => h
  | v :: vs => by
    have ih := EnvR.wipe h vs
    refine ⟨by unfold wipeD L2.wipe; rw [List.length_set, List.length_set]; exact ih.1, fun j t e => ?_⟩
    unfold wipeD at e
    unfold L2.wipe
    by_cases hj : v = j
    · subst hj
      by_cases hl : v < (wipeD ρ vs).length
      · rw [List.getElem?_set_self hl] at e
        cases e
      · rw [List.getElem?_eq_none (by simpa using hl)] at e
        cases e
    · rw [List.getElem?_set_ne hj] at e ⊢
      exact ih.2 j t e

/-- from one state to a later one: what is known stays, what is tracked and not to be changed stays -/
structure Stp (G H : Hp) (m : List Addr) (G' H' : Hp) (m' : List Addr) : Prop where
  gr : Gr G G' m m'
  kp : ∀ b o, H b = some o → b ∉ m → H' b = some o
  fr : ∀ a ∈ m', a ∉ m → H a = none
  gn : ∀ b, G b = none → H b ≠ none → b ∉ m → G' b = none
theorem Stp.refl : Stp G H m G H m := ⟨Gr.refl, fun _ _ h _ => h, fun a h n => absurd h n, fun _ h _ _ => h⟩
theorem Stp.trans {G1 H1 : Hp} {m1 : List Addr} (a : Stp G H m G1 H1 m1) (b : Stp G1 H1 m1 G' H' m') : Stp G H m G' H' m' := by
  have nm : ∀ c o, H c = some o → c ∉ m → c ∉ m1 := fun c o e n z => by
    have := a.fr c z n
    rw [e] at this
    cases this
  refine ⟨a.gr.trans b.gr, fun c o e n => b.kp c o (a.kp c o e n) (nm c o e n), fun c hc n => ?_, fun c e1 e2 n => ?_⟩
  · cases q : H c with
    | none => rfl
    | some o =>
      have z := b.fr c hc (nm c o q n)
      rw [a.kp c o q n] at z
      cases z
  · cases q : H c with
    | none => exact absurd q e2
    | some o => exact b.gn c (a.gn c e1 e2 n) (by rw [a.kp c o q n]; intro z; cases z) (nm c o q n)
theorem Stp.new {p : Addr} {o : HO} (hp : H p = none) (g0 : G p = none) : Stp G H m (upd G p o) (upd H p o) m :=
  ⟨⟨fun b u e => by rw [upd_ne (ne_of_none e g0)]; exact e, [], by simp⟩, fun b u e _ => by rw [upd_ne (ne_of_none e hp)]; exact e, fun a h n => absurd h n, fun b e1 e2 _ => by
    rw [upd_ne (fun z => e2 (by rw [z]; exact hp))]
    exact e1⟩

/-! ### the memory -/
theorem MemR.dead (h : MemR K G H m μ) {p : Addr} (hp : H p = none) : G p = none ∧ p ∉ m := by
  refine ⟨h.ex.free hp, fun hm => ?_⟩
  obtain ⟨i, hi⟩ := List.getElem?_of_mem hm
  obtain ⟨hl, _⟩ := List.getElem?_eq_some_iff.mp hi
  have hl' : i < μ.length := by rw [← h.len]; exact hl
  have q := h.at_ i p μ[i] hi (List.getElem?_eq_getElem hl')
  cases e : μ[i] with
  | lst xs =>
    rw [e] at q
    obtain ⟨_, vs, z, _⟩ := q
    rw [hp] at z
    cases z
  | frz xs =>
    rw [e] at q
    obtain ⟨vs, z, _⟩ := q
    rw [h.ex _ _ z] at hp
    cases hp
  | dic kvs =>
    rw [e] at q
    exact q
theorem same_upd {p : Addr} {o : HO} (h : G p = none) : Same G (upd G p o) := fun b u e => by
  rw [upd_ne (ne_of_none e h)]
  exact e
theorem same_upd2 {p : Addr} {o : HO} (e : Same G H) (h : G p = none) : Same G (upd H p o) := fun b u q => by
  rw [upd_ne (ne_of_none q h)]
  exact e b u q
theorem MO.mono {a : Addr} {o : M} (e : Same G G') (hg : ∀ xs, o = .lst xs → G' a = none) (hh : ∀ u, H a = some u → H' a = some u) (h : MO K G H a o) : MO K G' H' a o := by
  cases o with
  | lst xs =>
    obtain ⟨_, vs, h2, h3⟩ := h
    exact ⟨hg xs rfl, vs, hh _ h2, DqAll.mono e _ _ h3⟩
  | frz xs =>
    obtain ⟨vs, h2, h3⟩ := h
    exact ⟨vs, e _ _ h2, DqAll.mono e _ _ h3⟩
  | dic kvs => exact h
/-- a new object, known and standing -/
theorem MemR.push (h : MemR K G H m μ) {p : Addr} {o : HO} (hp : H p = none) : MemR K (upd G p o) (upd H p o) m μ ∧ Stp G H m (upd G p o) (upd H p o) m := by
  obtain ⟨g0, nm⟩ := h.dead hp
  refine ⟨⟨fun b u e => ?_, h.len, h.nd, fun i a t hi ht => ?_⟩, Stp.new hp g0⟩
  · by_cases hb : b = p
    · subst hb
      rw [upd_same] at e ⊢
      exact e
    · rw [upd_ne hb] at e ⊢
      exact h.ex b u e
  · have ha : a ≠ p := fun z => nm (z ▸ List.mem_of_getElem? hi)
    have q := h.at_ i a t hi ht
    refine MO.mono (same_upd g0) (fun xs z => ?_) (fun u z => ?_) q
    · subst z
      rw [upd_ne ha]
      exact q.1
    · rw [upd_ne ha]
      exact z
/-- a new list, to be changed -/
theorem MemR.alloc (h : MemR K G H m μ) {p : Addr} {vs : List V} {xs : List PyData} (hp : H p = none) (r : DqAll K G vs xs) : MemR K G (upd H p (.lst vs)) (m ++ [p]) (μ ++ [.lst xs]) ∧ Stp G H m G (upd H p (.lst vs)) (m ++ [p]) := by
  obtain ⟨g0, nm⟩ := h.dead hp
  refine ⟨⟨same_upd2 h.ex g0, by rw [List.length_append, List.length_append, h.len]; rfl, ?_, fun i a t hi ht => ?_⟩, ⟨⟨Same.refl _, [p], rfl⟩, fun b u e _ => by rw [upd_ne (ne_of_none e hp)]; exact e, fun a ha n => ?_, fun _ e _ _ => e⟩⟩
  · rw [List.nodup_append]
    refine ⟨h.nd, by simp, fun a ha b hb => ?_⟩
    simp only [List.mem_singleton] at hb
    subst hb
    exact fun z => nm (z ▸ ha)
  · by_cases hl : i < m.length
    · rw [List.getElem?_append_left hl] at hi
      rw [List.getElem?_append_left (by rw [← h.len]; exact hl)] at ht
      have ha : a ≠ p := fun z => nm (z ▸ List.mem_of_getElem? hi)
      have q := h.at_ i a t hi ht
      refine MO.mono (Same.refl _) (fun xs z => ?_) (fun u z => ?_) q
      · subst z
        exact q.1
      · rw [upd_ne ha]
        exact z
    · have e : i = m.length := by
        obtain ⟨hl2, _⟩ := List.getElem?_eq_some_iff.mp hi
        simp only [List.length_append, List.length_singleton] at hl2
        omega
      subst e
      rw [List.getElem?_append_right (Nat.le_refl _)] at hi
      rw [h.len, List.getElem?_append_right (Nat.le_refl _)] at ht
      simp only [Nat.sub_self, List.getElem?_cons_zero] at hi ht
      cases hi
      cases ht
      exact ⟨g0, vs, upd_same, r⟩
  · rcases List.mem_append.mp ha with z | z
    · exact absurd z n
    · rw [List.mem_singleton.mp z]
      exact hp
/-- a list is changed -/
theorem MemR.put (h : MemR K G H m μ) {n : Nat} {a : Addr} {vs : List V} {xs ys : List PyData} (hn : m[n]? = some a) (hx : μ[n]? = some (.lst xs)) (r : DqAll K G vs ys) : MemR K G (upd H a (.lst vs)) m (μ.set n (.lst ys)) ∧ Stp G H m G (upd H a (.lst vs)) m := by
  have q := h.at_ n a _ hn hx
  obtain ⟨g0, _⟩ := q
  refine ⟨?_, ⟨Gr.refl, fun b u e nb => by rw [upd_ne (fun z => nb (by rw [z]; exact List.mem_of_getElem? hn))]; exact e, fun a h n => absurd h n, fun _ e _ _ => e⟩⟩
  refine ⟨same_upd2 h.ex g0, by rw [List.length_set]; exact h.len, h.nd, fun i b t hi ht => ?_⟩
  by_cases hin : n = i
  · subst hin
    rw [hn] at hi
    cases hi
    obtain ⟨hl, _⟩ := List.getElem?_eq_some_iff.mp hx
    rw [List.getElem?_set_self hl] at ht
    cases ht
    exact ⟨g0, vs, upd_same, r⟩
  · rw [List.getElem?_set_ne hin] at ht
    have hb : b ≠ a := fun z => hin (by
      subst z
      obtain ⟨h1, e1⟩ := List.getElem?_eq_some_iff.mp hn
      obtain ⟨h2, e2⟩ := List.getElem?_eq_some_iff.mp hi
      exact (List.getElem_inj h.nd).mp (e1.trans e2.symm))
    refine MO.mono (Same.refl _) (fun xs z => ?_) (fun u z => ?_) (h.at_ i b t hi ht)
    · subst z
      exact (h.at_ i b _ hi ht).1
    · rw [upd_ne hb]
      exact z
/-- what is read of a value -/
theorem rd_dq (h : MemR K G H m μ) {s : S} {v : V} {x : PyData} (e : rd μ s = some x) (r : RpS K G m s v) : Dq K H v x := by
  cases s with
  | d y =>
    cases e
    exact Dq.mono h.ex _ _ r
  | m n =>
    obtain ⟨a, h1, rfl⟩ := r
    unfold rd at e
    simp only at e
    cases q : μ[n]? with
    | none => rw [q] at e; cases e
    | some o =>
      rw [q] at e
      have z := h.at_ n a o h1 q
      cases o with
      | lst xs =>
        cases e
        obtain ⟨_, vs, z1, z2⟩ := z
        exact .lst z1 (DqAll.mono h.ex _ _ z2)
      | frz xs =>
        cases e
        obtain ⟨vs, z1, z2⟩ := z
        exact .lst (h.ex _ _ z1) (DqAll.mono h.ex _ _ z2)
      | dic kvs => cases e
/-- a list or tuple that is read: where it stands, its items stand known -/
theorem rd_list (h : MemR K G H m μ) {s : S} {v : V} {xs : List PyData} (e : rd μ s = some (.list xs)) (r : RpS K G m s v) : ∃ a vs, v = .ref a ∧ H a = some (.lst vs) ∧ DqAll K G vs xs := by
  cases s with
  | d y =>
    cases e
    cases r with
    | lst h1 h2 => exact ⟨_, _, rfl, h.ex _ _ h1, h2⟩
  | m n =>
    obtain ⟨a, h1, rfl⟩ := r
    unfold rd at e
    simp only at e
    cases q : μ[n]? with
    | none => rw [q] at e; cases e
    | some o =>
      rw [q] at e
      have z := h.at_ n a o h1 q
      cases o with
      | lst xs =>
        cases e
        obtain ⟨_, vs, z1, z2⟩ := z
        exact ⟨a, vs, rfl, z1, z2⟩
      | frz xs =>
        cases e
        obtain ⟨vs, z1, z2⟩ := z
        exact ⟨a, vs, rfl, h.ex _ _ z1, z2⟩
      | dic kvs => cases e
theorem rd_tup (h : MemR K G H m μ) {s : S} {v : V} {xs : List PyData} (e : rd μ s = some (.tuple xs)) (r : RpS K G m s v) : ∃ a vs, v = .ref a ∧ SqT K H a vs ∧ DqAll K G vs xs := by
  cases s with
  | d y =>
    cases e
    cases r with
    | tup h1 h2 => exact ⟨_, _, rfl, SqT.same h.ex h1, h2⟩
  | m n =>
    unfold rd at e
    simp only at e
    cases q : μ[n]? with
    | none => rw [q] at e; cases e
    | some o =>
      rw [q] at e
      cases o <;> cases e
theorem rd_int (h : MemR K G H m μ) {s : S} {v : V} {i : Int} (e : rd μ s = some (.int i)) (r : RpS K G m s v) : v = .int i := by
  have z := rd_dq h e r
  cases z
  rfl
theorem rd_str (h : MemR K G H m μ) {s : S} {v : V} {i : Str} (e : rd μ s = some (.str i)) (r : RpS K G m s v) : v = .str i := by
  have z := rd_dq h e r
  cases z
  rfl
theorem rd_bool (h : MemR K G H m μ) {s : S} {v : V} {i : Bool} (e : rd μ s = some (.bool i)) (r : RpS K G m s v) : v = .bl i := by
  have z := rd_dq h e r
  cases z
  rfl
theorem rd_none (h : MemR K G H m μ) {s : S} {v : V} (e : rd μ s = some .none) (r : RpS K G m s v) : v = .non := by
  have z := rd_dq h e r
  cases z
  rfl
end

/-! ### the wish of exceptions -/
structure Wish where
  on : Bool
  W : WX
  cx : Nat → Option Addr
abbrev Wish.off (w : Wish) : Wish := { w with on := false }
/-- how an exception is told -/
def ErrR (cx : Nat → Option Addr) (G : Hp) (e : Exn) (cls : Value) (d : Option Addr) : Prop := ∃ C, cx e.cls = some C ∧ cls = .ref C ∧
  match e.place with
  | none => d = none
  | some p => ∃ dd, d = some dd ∧ G dd = some (.xd [("place", .int p)])
def ErrP (K : PySem.W.Frag) (w : Wish) (G H : Hp) (m : List Addr) (e : Exn) (μ : Mem) (σ : St) : Prop :=
  w.on = true ∧ ∀ cls d G' H' m', Stp G H m G' H' m' → MemR K G' H' m' μ → ErrR w.cx G' e cls d → w.W cls d σ H'
/-- in a block of statements the slots may have changed -/
def ErrS (K : PySem.W.Frag) (w : Wish) (G H : Hp) (m : List Addr) (e : Exn) (μ : Mem) : Prop :=
  w.on = true ∧ ∀ cls d σ' G' H' m', Stp G H m G' H' m' → MemR K G' H' m' μ → ErrR w.cx G' e cls d → w.W cls d σ' H'

/-! ### what a reading does -/
inductive RpL (K : PySem.W.Frag) (G : Hp) (m : List Addr) : List S → List V → Prop
  | nil : RpL K G m [] []
  | cons {s : S} {v : V} {ss : List S} {vs : List V} : RpS K G m s v → RpL K G m ss vs → RpL K G m (s :: ss) (v :: vs)
/-- r, told to what is wanted behind it: k of the value, the later state -/
def Post (K : PySem.W.Frag) (w : Wish) (σ : St) (G H : Hp) (m : List Addr) {α : Type} (r : R α) (k : α → Hp → Hp → List Addr → Prop) : Prop := match r with
  | .ok a μ' => ∀ G' H' m', Stp G H m G' H' m' → MemR K G' H' m' μ' → k a G' H' m'
  | .err e μ' => ErrP K w G H m e μ' σ
  | .no => False
abbrev EPost (K : PySem.W.Frag) (w : Wish) (σ : St) (G H : Hp) (m : List Addr) (r : R S) (Q : VK) : Prop := Post K w σ G H m r fun s G' H' m' => ∀ v, RpS K G' m' s v → Q v H'
abbrev TPost (K : PySem.W.Frag) (w : Wish) (σ : St) (G H : Hp) (m : List Addr) (r : R Bool) (Q : Bool → Hp → Prop) : Prop := Post K w σ G H m r fun b _ H' _ => Q b H'
abbrev APost (K : PySem.W.Frag) (w : Wish) (σ : St) (G H : Hp) (m : List Addr) (r : R (List S)) (Q : List V → Hp → Prop) : Prop := Post K w σ G H m r fun s G' H' m' => ∀ vs, RpL K G' m' s vs → Q vs H'
def SimE (K : PySem.W.Frag) (w : Wish) (te : TE) (δ : DE) : Prop := ∀ ρ μ σ G H m, EnvR K G m ρ σ → MemR K G H m μ → ∀ Q, EPost K w σ G H m (δ ρ μ) Q → te σ H Q
def SimT (K : PySem.W.Frag) (w : Wish) (tt : TT) (δ : DT) : Prop := ∀ ρ μ σ G H m, EnvR K G m ρ σ → MemR K G H m μ → ∀ Q, TPost K w σ G H m (δ ρ μ) Q → tt σ H Q
def SimA (K : PySem.W.Frag) (w : Wish) (ta : TA) (δ : DA) : Prop := ∀ ρ μ σ G H m, EnvR K G m ρ σ → MemR K G H m μ → ∀ Q, APost K w σ G H m (δ ρ μ) Q → ta σ H Q
section
variable {K : PySem.W.Frag} {w : Wish} {G G' H H' : Hp} {m m' : List Addr} {μ : Mem} {σ : St} {ρ : Env}
theorem ErrP.mono {e : Exn} (g : Stp G H m G' H' m') (h : ErrP K w G H m e μ σ) : ErrP K w G' H' m' e μ σ := ⟨h.1, fun cls d G1 H1 m1 g1 => h.2 cls d G1 H1 m1 (g.trans g1)⟩
theorem ErrS.mono {e : Exn} (g : Stp G H m G' H' m') (h : ErrS K w G H m e μ) : ErrS K w G' H' m' e μ := ⟨h.1, fun cls d s1 G1 H1 m1 g1 => h.2 cls d s1 G1 H1 m1 (g.trans g1)⟩
theorem ErrS.at_ {e : Exn} (h : ErrS K w G H m e μ) : ErrP K w G H m e μ σ := ⟨h.1, fun cls d G1 H1 m1 g1 => h.2 cls d σ G1 H1 m1 g1⟩
theorem Post.mono {α : Type} {r : R α} {k : α → Hp → Hp → List Addr → Prop} (g : Stp G H m G' H' m') (h : Post K w σ G H m r k) : Post K w σ G' H' m' r k := by
  cases r with
  | ok s μ' => exact fun G1 H1 m1 g1 => h G1 H1 m1 (g.trans g1)
  | err e μ' => exact ErrP.mono g h
  | no => exact h
theorem RpL.mono (g : Gr G G' m m') : ∀ {ss : List S} {vs : List V}, RpL K G m ss vs → RpL K G' m' ss vs
  | _, _, .nil => .nil
  | _, _, .cons r t => .cons (r.mono g) (RpL.mono g t)
/-- r first, then f: what is wanted of r -/
theorem Post.of_bind {α β : Type} {r : R α} {f : α → Mem → R β} {k : β → Hp → Hp → List Addr → Prop} {k1 : α → Hp → Hp → List Addr → Prop} (q : Post K w σ G H m (r.bind f) k)
    (hk : ∀ a μ1 G1 H1 m1, r = .ok a μ1 → Stp G H m G1 H1 m1 → MemR K G1 H1 m1 μ1 → Post K w σ G1 H1 m1 (f a μ1) k → k1 a G1 H1 m1) : Post K w σ G H m r k1 := by
  cases r with
  | ok a μ1 => exact fun G1 H1 m1 g me => hk a μ1 G1 H1 m1 rfl g me (Post.mono g q)
  | err e μ1 => exact q
  | no => exact q
theorem Post.here {α : Type} {a : α} {k : α → Hp → Hp → List Addr → Prop} (q : Post K w σ G H m (.ok a μ) k) (me : MemR K G H m μ) : k a G H m := q G H m Stp.refl me
end
end Bz
set_option Elab.async false
set_option linter.all false
set_option maxRecDepth 100000
set_option maxHeartbeats 2000000
/-! The rules: a piece of syntax, its reading over the heap, and what it means over data. -/
namespace Bz
open PySem PySem.Spec PyProof.Rows L2

structure CE (X : Cx) (w : Wish) (e : Expr) (δ : DE) : Prop where
  ex : ∃ te, PE X e te ∧ SimE X.K w te δ
structure CT (X : Cx) (w : Wish) (e : Expr) (δ : DT) : Prop where
  ex : ∃ te, PT X e te ∧ SimT X.K w te δ
structure CW (X : Cx) (w : Wish) (e : Expr) (δ : DT) : Prop where
  ex : ∃ te, PW X e te ∧ SimT X.K w te δ
structure CA (X : Cx) (w : Wish) (es : List Expr) (δ : DA) : Prop where
  ex : ∃ te, PA X es te ∧ SimA X.K w te δ
/-- what every rule asks of where it stands -/
structure Ctx (A : Around) (N : List Str) (calm : Bool) : Prop where
  calm : calm = true
  hu : A.units + 100 < cLine
  nd : N.Nodup

/-! ### operations by values -/
/-- a two-place operation: f of the data -/
def OpD (K : PySem.W.Frag) (r : R2) (f : D2) : Prop := ∀ G H m μ x y v u a b z, MemR K G H m μ → rd μ x = some a → rd μ y = some b → RpS K G m x v → RpS K G m y u → f a b = some z →
  ∀ Q : VK, (∀ v' G' H', Stp G H m G' H' m → MemR K G' H' m μ → Dq K G' v' z → Q v' H') → r v u H Q
def UnD (K : PySem.W.Frag) (r : V → Hp → VK → Prop) (f : PyData → Option PyData) : Prop := ∀ G H m μ x v a z, MemR K G H m μ → rd μ x = some a → RpS K G m x v → f a = some z →
  ∀ Q : VK, (∀ v' G' H', Stp G H m G' H' m → MemR K G' H' m μ → Dq K G' v' z → Q v' H') → r v H Q
/-- a call of a built-in -/
def CbD (K : PySem.W.Frag) (r : List V → Hp → VK → Prop) (f : DF) : Prop := ∀ G H m μ xs vs as z, MemR K G H m μ → rdL μ xs = some as → RpL K G m xs vs → f as = some z →
  ∀ Q : VK, (∀ v' G' H', Stp G H m G' H' m → MemR K G' H' m μ → Dq K G' v' z → Q v' H') → r vs H Q

section
variable {K : PySem.W.Frag} {w : Wish} {G G' H H' : Hp} {m m' : List Addr} {μ μ' : Mem} {σ : St} {ρ : Env}
theorem dq_tup {p : Addr} {vs : List V} {xs : List PyData} (g0 : G p = none) (h : DqAll K G vs xs) : Dq K (upd G p (.tup vs)) (.ref p) (.tuple xs) := .tup (SqT.of upd_same) (DqAll.mono (same_upd g0) _ _ h)
theorem dq_lst {p : Addr} {vs : List V} {xs : List PyData} (g0 : G p = none) (h : DqAll K G vs xs) : Dq K (upd G p (.lst vs)) (.ref p) (.list xs) := .lst upd_same (DqAll.mono (same_upd g0) _ _ h)
theorem small_le {n : Nat} (h : small n = true) : n ≤ 1000000 := of_decide_eq_true h
theorem small_sz {n : Nat} (h : small n = true) : n ≤ sizeLine := by
  rw [sizeLine_eq]
  have := small_le h
  omega
theorem small_lt {n : Nat} (h : small n = true) : n < sizeLine := by
  rw [sizeLine_eq]
  have := small_le h
  omega
/-- a new object behind an operation -/
theorem newD (me : MemR K G H m μ) {Q : VK} {o : HO} {z : PyData} (hz : ∀ p, G p = none → Dq K (upd G p o) (.ref p) z) (q : ∀ v' G' H', Stp G H m G' H' m → MemR K G' H' m μ → Dq K G' v' z → Q v' H') :
    ∀ p, H p = none → Q (.ref p) (upd H p o) := fun p hp => q _ _ _ (me.push (o := o) hp).2 (me.push (o := o) hp).1 (hz p (me.dead hp).1)
theorem hereD (me : MemR K G H m μ) {Q : VK} {v : V} {z : PyData} (hz : Dq K G v z) (q : ∀ v' G' H', Stp G H m G' H' m → MemR K G' H' m μ → Dq K G' v' z → Q v' H') : Q v H := q _ _ _ Stp.refl me hz
end

def R2.or (r r' : R2) : R2 := fun x y H Q => r x y H Q ∨ r' x y H Q
theorem opr_or {X : Cx} {f : Value → Value → Sem Value} {r r' : R2} (h : OpR X f r) (h' : OpR X f r') : OpR X f (R2.or r r') := OpR.or h h'
def rAdd (K : PySem.W.Frag) : R2 := R2.or (rI0 fun i j => .int (i + j)) (R2.or (fun x y H Q => ∃ i j, x = .str i ∧ y = .str j ∧ i.length + j.length ≤ sizeLine ∧ Q (.str (i ++ j)) H) (R2.or (rCatA K) rCat))
theorem op_addD {X : Cx} : OpR X (binaryOp .Add) (rAdd X.K) := opr_or op_add (opr_or op_add_str (opr_or op_catA op_cat))
theorem addD {K : PySem.W.Frag} : OpD K (rAdd K) fAdd := by
  intro G H m μ x y v u a b z me ra rb rx ry hf Q q
  unfold fAdd at hf
  split at hf
  · cases hf
    exact .inl ⟨_, _, rd_int me ra rx, rd_int me rb ry, hereD me (.int _) q⟩
  · split at hf
    · rename_i hs
      cases hf
      exact .inr (.inl ⟨_, _, rd_str me ra rx, rd_str me rb ry, small_sz hs, hereD me (.str _) q⟩)
    · cases hf
  · split at hf
    · rename_i xs ys hs
      cases hf
      obtain ⟨a1, v1, rfl, s1, d1⟩ := rd_tup me ra rx
      obtain ⟨a2, v2, rfl, s2, d2⟩ := rd_tup me rb ry
      have l1 := DqAll.length d1
      have l2 := DqAll.length d2
      refine .inr (.inr (.inl ⟨a1, a2, v1, v2, rfl, rfl, s1, s2, by rw [l1, l2]; exact small_sz hs, fun e => ?_, fun _ e => ?_, fun _ _ => newD me (fun p g0 => dq_tup g0 (DqAll.append d1 d2)) q⟩))
      · subst e
        have : xs = [] := by
          cases d1
          rfl
        subst this
        rw [List.nil_append] at q
        refine hereD me ?_ q
        cases y with
        | d yy =>
          cases rb
          exact ry
        | m n =>
          exfalso
          unfold rd at rb
          simp only at rb
          split at rb <;> cases rb
      · subst e
        have : ys = [] := by
          cases d2
          rfl
        subst this
        rw [List.append_nil] at q
        refine hereD me ?_ q
        cases x with
        | d yy =>
          cases ra
          exact rx
        | m n =>
          exfalso
          unfold rd at ra
          simp only at ra
          split at ra <;> cases ra
    · cases hf
  · split at hf
    · rename_i xs ys hs
      cases hf
      obtain ⟨a1, v1, rfl, s1, d1⟩ := rd_list me ra rx
      obtain ⟨a2, v2, rfl, s2, d2⟩ := rd_list me rb ry
      have l1 := DqAll.length d1
      have l2 := DqAll.length d2
      exact .inr (.inr (.inr ⟨a1, a2, v1, v2, rfl, rfl, s1, s2, by rw [l1, l2]; exact small_sz hs, newD me (fun p g0 => dq_lst g0 (DqAll.append d1 d2)) q⟩))
    · cases hf
  · cases hf
theorem subD {K : PySem.W.Frag} : OpD K (rI0 fun i j => .int (i - j)) fSub := by
  intro G H m μ x y v u a b z me ra rb rx ry hf Q q
  unfold fSub at hf
  split at hf
  · cases hf
    exact ⟨_, _, rd_int me ra rx, rd_int me rb ry, hereD me (.int _) q⟩
  · cases hf
theorem divD {K : PySem.W.Frag} : OpD K (rI CDiv fun i j => .int (i / j)) fDiv := by
  intro G H m μ x y v u a b z me ra rb rx ry hf Q q
  unfold fDiv at hf
  split at hf
  · split at hf
    · rename_i c
      cases hf
      exact ⟨_, _, rd_int me ra rx, rd_int me rb ry, (by have c' := of_decide_eq_true c; exact c'), hereD me (.int _) q⟩
    · cases hf
  · cases hf
theorem modD {K : PySem.W.Frag} : OpD K (rI (fun _ j => 0 < j) fun i j => .int (i % j)) fMod := by
  intro G H m μ x y v u a b z me ra rb rx ry hf Q q
  unfold fMod at hf
  split at hf
  · split at hf
    · rename_i c
      cases hf
      exact ⟨_, _, rd_int me ra rx, rd_int me rb ry, of_decide_eq_true c, hereD me (.int _) q⟩
    · cases hf
  · cases hf
theorem powD {K : PySem.W.Frag} : OpD K (rI CPow fun i j => .int (i ^ j.toNat)) fPow := by
  intro G H m μ x y v u a b z me ra rb rx ry hf Q q
  unfold fPow at hf
  split at hf
  · split at hf
    · rename_i c
      cases hf
      rw [Bool.and_eq_true, decide_eq_true_iff, decide_eq_true_iff] at c
      exact ⟨_, _, rd_int me ra rx, rd_int me rb ry, ⟨c.1.1, by have := c.1.2; omega, Nat.lt_of_le_of_lt c.2 (by decide)⟩, hereD me (.int _) q⟩
    · cases hf
  · cases hf
theorem cmpD {K : PySem.W.Frag} {p : Int → Int → Bool} {f : D2} (hf : ∀ a b z, f a b = some z → ∃ i j, a = .int i ∧ b = .int j ∧ z = .bool (p i j)) : OpD K (rI0 fun i j => .bl (p i j)) f := by
  intro G H m μ x y v u a b z me ra rb rx ry h Q q
  obtain ⟨i, j, rfl, rfl, rfl⟩ := hf a b z h
  exact ⟨_, _, rd_int me ra rx, rd_int me rb ry, hereD me (.bl _) q⟩
theorem ltD {K : PySem.W.Frag} : OpD K (rI0 fun i j => .bl (decide (i < j))) fLt := cmpD fun a b z h => by
  unfold fLt at h
  split at h
  · cases h
    exact ⟨_, _, rfl, rfl, rfl⟩
  · cases h
theorem leD {K : PySem.W.Frag} : OpD K (rI0 fun i j => .bl (decide (i ≤ j))) fLe := cmpD fun a b z h => by
  unfold fLe at h
  split at h
  · cases h
    exact ⟨_, _, rfl, rfl, rfl⟩
  · cases h
theorem gtD {K : PySem.W.Frag} : OpD K (rI0 fun i j => .bl (decide (j < i))) fGt := cmpD fun a b z h => by
  unfold fGt at h
  split at h
  · cases h
    exact ⟨_, _, rfl, rfl, rfl⟩
  · cases h
theorem geD {K : PySem.W.Frag} : OpD K (rI0 fun i j => .bl (decide (j ≤ i))) fGe := cmpD fun a b z h => by
  unfold fGe at h
  split at h
  · cases h
    exact ⟨_, _, rfl, rfl, rfl⟩
  · cases h
theorem scal_of {K : PySem.W.Frag} {H : Hp} {x y : V} {a b : PyData} {c : Bool} (hx : Dq K H x a) (hy : Dq K H y b) (h : scalD a b = some c) : scal x y = true ∧ decide (x = y) = c := by
  cases hx <;> cases hy <;> first | (cases h; done) | (simp only [scalD, Option.some.injEq] at h; subst h; simp [scal])
def rEqM (K : PySem.W.Frag) : R2 := fun x y H Q => ∃ d e, Dp K H x d ∧ Dp K H y e ∧ d.canLay0 = true ∧ e.canLay0 = true ∧ min d.depth e.depth ≤ 64 ∧ Q (.bl (PyData.eqv d e)) H
def rNeM (K : PySem.W.Frag) : R2 := fun x y H Q => ∃ d e, Dp K H x d ∧ Dp K H y e ∧ d.canLay0 = true ∧ e.canLay0 = true ∧ min d.depth e.depth ≤ 64 ∧ Q (.bl (!PyData.eqv d e)) H
theorem op_eqM {X : Cx} (hu : X.A.units + 64 < cLine) : OpR X (compareOp .Eq) (rEqM X.K) := by
  intro pins s σ H x y v u Q I rx ry h
  obtain ⟨d, e, hd, he, cd, ce, hm, q⟩ := h
  obtain ⟨as, r1⟩ := Dp.reads I d x v hd rx
  obtain ⟨bs, r2⟩ := Dp.reads I e y u he ry
  exact SeqAt.compareEq_reads r1 r2 cd ce (by omega) ⟨.bl _, H, I, rfl, q⟩
theorem op_neM {X : Cx} (hu : X.A.units + 64 < cLine) : OpR X (compareOp .NotEq) (rNeM X.K) := by
  intro pins s σ H x y v u Q I rx ry h
  obtain ⟨d, e, hd, he, cd, ce, hm, q⟩ := h
  obtain ⟨as, r1⟩ := Dp.reads I d x v hd rx
  obtain ⟨bs, r2⟩ := Dp.reads I e y u he ry
  exact SeqAt.compareNe_reads r1 r2 cd ce (by omega) ⟨.bl _, H, I, rfl, q⟩
def rEqA (K : PySem.W.Frag) : R2 := R2.or rEq (rEqM K)
def rNeA (K : PySem.W.Frag) : R2 := R2.or rNe (rNeM K)
theorem op_eqA {X : Cx} (hu : X.A.units + 64 < cLine) : OpR X (compareOp .Eq) (rEqA X.K) := opr_or op_eq (op_eqM hu)
theorem op_neA {X : Cx} (hu : X.A.units + 64 < cLine) : OpR X (compareOp .NotEq) (rNeA X.K) := opr_or op_ne (op_neM hu)
theorem eqD {K : PySem.W.Frag} : OpD K (rEqA K) fEq := by
  intro G H m μ x y v u a b z me ra rb rx ry hf Q q
  unfold fEq eqD2 at hf
  cases e : scalD a b with
  | some c =>
    simp only [e, Option.map_some, Option.some.injEq] at hf
    subst hf
    obtain ⟨h1, h2⟩ := scal_of (rd_dq me ra rx) (rd_dq me rb ry) e
    exact .inl ⟨h1, by rw [h2]; exact hereD me (.bl _) q⟩
  | none =>
    simp only [e] at hf
    split at hf
    · rename_i c
      rw [Bool.and_eq_true, Bool.and_eq_true, decide_eq_true_iff] at c
      cases hf
      exact .inr ⟨a, b, Dq.dp _ _ c.1.1 (rd_dq me ra rx), Dq.dp _ _ c.1.2 (rd_dq me rb ry), c.1.1, c.1.2, c.2, hereD me (.bl _) q⟩
    · cases hf
theorem neD {K : PySem.W.Frag} : OpD K (rNeA K) fNe := by
  intro G H m μ x y v u a b z me ra rb rx ry hf Q q
  unfold fNe eqD2 at hf
  cases e : scalD a b with
  | some c =>
    simp only [e, Option.map_some, Option.some.injEq] at hf
    subst hf
    obtain ⟨h1, h2⟩ := scal_of (rd_dq me ra rx) (rd_dq me rb ry) e
    exact .inl ⟨h1, by rw [h2]; exact hereD me (.bl _) q⟩
  | none =>
    simp only [e] at hf
    split at hf
    · rename_i c
      rw [Bool.and_eq_true, Bool.and_eq_true, decide_eq_true_iff] at c
      cases hf
      exact .inr ⟨a, b, Dq.dp _ _ c.1.1 (rd_dq me ra rx), Dq.dp _ _ c.1.2 (rd_dq me rb ry), c.1.1, c.1.2, c.2, hereD me (.bl _) q⟩
    · cases hf
section
variable {K : PySem.W.Frag} {H : Hp}
theorem flat_of {v : V} {d : PyData} (h : Dq K H v d) (f : flatD d = true) : flatV v = true := by
  cases h <;> first | rfl | (simp [flatD] at f)
theorem flat_eqv {x y : V} {d e : PyData} (h1 : Dq K H x d) (h2 : Dq K H y e) (f1 : flatD d = true) (f2 : flatD e = true) : eqV x y = PyData.eqv d e := by
  cases h1 <;> cases h2 <;> first | rfl | (simp [flatD] at f1 f2; done) | (simp [eqV, PyData.eqv]; done)
theorem flat_all : ∀ {vs : List V} {ds : List PyData}, DqAll K H vs ds → ds.all flatD = true → vs.all flatV = true
  | _, _, .nil, _ => rfl
  | _, _, .cons r t, f => by
    rw [List.all_cons, Bool.and_eq_true] at f ⊢
    exact ⟨flat_of r f.1, flat_all t f.2⟩
theorem inV_of {x : V} {d : PyData} (hx : Dq K H x d) (fx : flatD d = true) : ∀ {vs : List V} {ds : List PyData}, DqAll K H vs ds → ds.all flatD = true → inV x vs = inD d ds
  | _, _, .nil, _ => rfl
  | _, _, .cons (v := v) (d := e) r t, f => by
    rw [List.all_cons, Bool.and_eq_true] at f
    have ih := inV_of hx fx t f.2
    unfold inV inD at ih ⊢
    rw [List.any_cons, List.any_cons, ih, flat_eqv r hx f.1 fx]
end
def rInA (K : PySem.W.Frag) : R2 := R2.or (rIn K false) (rInD K)
def rNotInA (K : PySem.W.Frag) : R2 := R2.or (rIn K true) (rNotInD K)
theorem op_inA {X : Cx} (hu : X.A.units + 100 < cLine) : OpR X (compareOp .In) (rInA X.K) := opr_or op_in_seq (op_inD (by omega))
theorem op_notInA {X : Cx} (hu : X.A.units + 100 < cLine) : OpR X (compareOp .NotIn) (rNotInA X.K) := opr_or op_notIn_seq (op_notInD (by omega))
theorem inDD {K : PySem.W.Frag} : OpD K (rInA K) fIn := by
  intro G H m μ x y v u a b z me ra rb rx ry hf Q q
  unfold fIn at hf
  split at hf
  · split at hf
    · rename_i xs c
      rw [Bool.and_eq_true] at c
      cases hf
      obtain ⟨a2, v2, rfl, s2, d2⟩ := rd_tup me rb ry
      have hx := rd_dq me ra rx
      have d2' := DqAll.mono me.ex _ _ d2
      refine .inl ⟨a2, v2, rfl, .inr s2, flat_of hx c.1, flat_all d2' c.2, ?_⟩
      rw [if_neg Bool.false_ne_true, inV_of hx c.1 d2' c.2]
      exact hereD me (.bl _) q
    · cases hf
  · split at hf
    · rename_i xs c
      rw [Bool.and_eq_true] at c
      cases hf
      exact .inr ⟨a, xs, Dq.dp _ _ (SeqAt.canLay_of_shaped c.1) (rd_dq me ra rx), Dq.dp _ _ (SeqAt.canLay_of_shaped c.2) (rd_dq me rb ry), c.1, c.2, hereD me (.bl _) q⟩
    · cases hf
  · cases hf
theorem notInDD {K : PySem.W.Frag} : OpD K (rNotInA K) fNotIn := by
  intro G H m μ x y v u a b z me ra rb rx ry hf Q q
  unfold fNotIn at hf
  split at hf
  · split at hf
    · rename_i xs c
      rw [Bool.and_eq_true] at c
      cases hf
      obtain ⟨a2, v2, rfl, s2, d2⟩ := rd_tup me rb ry
      have hx := rd_dq me ra rx
      have d2' := DqAll.mono me.ex _ _ d2
      refine .inl ⟨a2, v2, rfl, .inr s2, flat_of hx c.1, flat_all d2' c.2, ?_⟩
      rw [if_pos rfl, inV_of hx c.1 d2' c.2]
      exact hereD me (.bl _) q
    · cases hf
  · split at hf
    · rename_i xs c
      rw [Bool.and_eq_true] at c
      cases hf
      exact .inr ⟨a, xs, Dq.dp _ _ (SeqAt.canLay_of_shaped c.1) (rd_dq me ra rx), Dq.dp _ _ (SeqAt.canLay_of_shaped c.2) (rd_dq me rb ry), c.1, c.2, hereD me (.bl _) q⟩
    · cases hf
  · cases hf
def rIsA : R2 := R2.or (fun x y H Q => y = .non ∧ Q (.bl (decide (x = .non))) H) rIsB
theorem op_isA {X : Cx} : OpR X (compareOp .Is) rIsA := opr_or op_isN op_isBl
def rIsNotA : R2 := R2.or (fun x y H Q => y = .non ∧ Q (.bl (!decide (x = .non))) H) rNotB
theorem op_isNotA {X : Cx} : OpR X (compareOp .IsNot) rIsNotA := opr_or op_notN op_notBl
theorem isD {K : PySem.W.Frag} : OpD K rIsA fIs := by
  intro G H m μ x y v u a b z me ra rb rx ry hf Q q
  unfold fIs at hf
  split at hf
  · cases hf
    refine .inl ⟨rd_none me rb ry, ?_⟩
    have hx := rd_dq me ra rx
    have e : decide (v = V.non) = isNone a := by cases hx <;> simp [isNone]
    rw [e]
    exact hereD me (.bl _) q
  · cases hf
    exact .inr ⟨_, _, rd_bool me ra rx, rd_bool me rb ry, hereD me (.bl _) q⟩
  · cases hf
theorem isNotD {K : PySem.W.Frag} : OpD K rIsNotA fIsNot := by
  intro G H m μ x y v u a b z me ra rb rx ry hf Q q
  unfold fIsNot at hf
  split at hf
  · cases hf
    refine .inl ⟨rd_none me rb ry, ?_⟩
    have hx := rd_dq me ra rx
    have e : decide (v = V.non) = isNone a := by cases hx <;> simp [isNone]
    rw [e]
    exact hereD me (.bl _) q
  · cases hf
    exact .inr ⟨_, _, rd_bool me ra rx, rd_bool me rb ry, hereD me (.bl _) q⟩
  · cases hf

/-! ### a tuple times an int: nothing, once, more -/
theorem tuple_mul1 (l : Addr) (items : Array Value) (n : Nat) (dd : Option Addr) (sl : Array (Option Value)) (x : Int) (u : Tok) (c0 : (decide (x < -(2 ^ 63)) || decide (x ≥ 2 ^ 63)) = false) (c1 : (items.isEmpty || x == 1) = true) :
    Meets (Builtin.«tuple.__mul__» ⟨[.ref l, .int x u], []⟩) (fun _ R s => s.heap.get? l = some { cls := .type "tuple", dict := dd, data := .seq items n, slots := sl } ∧ R (.ok (.ret (Value.ref l))) s) :=
  .of_wp fun prog w A R s h => by
    obtain ⟨hp, g, d, tk, os⟩ := s
    obtain ⟨hl, h⟩ := h
    have f1 := AutoSeq1.idx_int
    have f3 : ∀ {A : Around} {E : Value → Shared → Prop} {s : Shared} {Q : Bool → Shared → Prop}, s.heap.get? l = some { cls := .type "tuple", dict := dd, data := .seq items n, slots := sl } → Q true s → wpAny (model prog w) A (Builtin.Tuple.tupleIsExact (.ref l)) Q E s := by
      intro A E s Q e q
      unfold Builtin.Tuple.tupleIsExact
      wp_walk using wpAny_loadPart' e
      try exact q
    wp_walk using wpAny_loadPart' hl
    repeat (first
      | (refine wpAny_ite_false (decide_eq_false (by rw [c0]; exact Bool.false_ne_true)) ?_; wp_walk using wpAny_loadPart' hl)
      | (refine wpAny_ite_true (decide_eq_true c1) ?_; wp_walk using wpAny_loadPart' hl, f3 hl))
    exact ⟨_, rfl, h⟩
theorem tuple_mul0 (l : Addr) (items : Array Value) (n : Nat) (dd : Option Addr) (sl : Array (Option Value)) (x : Int) (u : Tok) (c0 : (decide (x < -(2 ^ 63)) || decide (x ≥ 2 ^ 63)) = false) (c1 : (items.isEmpty || x == 1) = false) (c2 : (decide (x ≤ 0) || items.isEmpty) = true) :
    Meets (Builtin.«tuple.__mul__» ⟨[.ref l, .int x u], []⟩) (fun _ R s => s.heap.get? l = some { cls := .type "tuple", dict := dd, data := .seq items n, slots := sl } ∧
      R (.ok (.ret (Value.ref s.heap.objs.size))) { s with heap := s.heap.push { cls := Value.type "tuple", data := Data.seq #[] }, toks := s.toks }) :=
  .of_wp fun prog w A R s h => by
    obtain ⟨hp, g, d, tk, os⟩ := s
    obtain ⟨hl, h⟩ := h
    have f1 := AutoSeq1.idx_int
    wp_walk using wpAny_loadPart' hl
    repeat (first
      | (refine wpAny_ite_false (decide_eq_false (by rw [c0]; exact Bool.false_ne_true)) ?_; wp_walk using wpAny_loadPart' hl)
      | (refine wpAny_ite_false (decide_eq_false (by rw [c1]; exact Bool.false_ne_true)) ?_; wp_walk using wpAny_loadPart' hl)
      | (refine wpAny_ite_true (decide_eq_true c2) ?_; wp_walk using wpAny_loadPart' hl))
    exact ⟨_, rfl, h⟩
def rRepA (K : PySem.W.Frag) : R2 := fun x y H Q => ∃ l k xs, x = .ref l ∧ y = .int k ∧ SqT K H l xs ∧ 0 ≤ k ∧ k ≤ 1000 ∧ xs.length ≤ 1000 ∧
  (Q (.ref l) H ∨ xs = [] → False ∨ (xs = [] ∨ k = 1 → Q (.ref l) H)) ∧ ((xs = [] ∨ k = 1) → Q (.ref l) H) ∧ (¬ (xs = [] ∨ k = 1) → ∀ p, H p = none → Q (.ref p) (upd H p (.tup (List.replicate k.toNat xs).flatten)))
theorem op_repA {X : Cx} : OpR X (binaryOp .Mult) (rRepA X.K) := by
  intro pins s σ H x y v u Q I rx ry h
  obtain ⟨l, k, xs, rfl, rfl, hT, h0, h1, hz, _, qa, qb⟩ := h
  by_cases hk : 2 ≤ k ∧ xs ≠ []
  · exact op_repT pins s σ H (.ref l) (.int k) v u Q I rx ry ⟨l, k, xs, rfl, rfl, hT, hk.2, hk.1, h1, hz, qb (by rintro (e | e); exact hk.2 e; omega)⟩
  cases rx
  obtain ⟨t, rfl⟩ := ry
  obtain ⟨its, r, ⟨⟨cls, dd, data, sl⟩, ho, hc, n, hd⟩, hs⟩ := I.tuple hT
  simp only at hc hd
  subst hc hd
  have hle : its.length = xs.length := r.length.symm
  have c0 : (decide (k < -(2 ^ 63)) || decide (k ≥ 2 ^ 63)) = false := by
    rw [decide_eq_false (by omega), decide_eq_false (by omega)] <;> rfl
  by_cases hsame : xs = [] ∨ k = 1
  · have c1 : (its.toArray.isEmpty || k == 1) = true := by
      rcases hsame with e | e
      · have : its = [] := List.eq_nil_of_length_eq_zero (by rw [hle, e]; rfl)
        subst this
        rfl
      · subst e
        rw [beq_self_eq_true, Bool.or_true]
    refine wpAny_binaryOp_repeat_ref (T := "tuple") (U := "int") (by decide) ⟨_, ho, rfl⟩ (fun s' => typeIs_int s' k t) noFill_tuple_mul F.fills_int_mul F.slot_int_rmul repeat_tuple F.slot_int_index.lookup
      (call_meets F.slot_int_rmul (typeIs_int s k t) F.entry_int_rmul (F.args_int_rmul_2 _ _) (int_rmul_tuple k t l its.toArray n dd sl)
        ⟨ho, rfl, ⟨_, ho, rfl⟩, call_meets F.slot_tuple_mul ⟨_, ho, rfl⟩ F.entry_tuple_mul (F.args_tuple_mul_2 _ _) (tuple_mul1 l its.toArray n dd sl k t c0 c1) ⟨ho, ?_⟩⟩)
    exact ⟨.ref l, H, I, rfl, qa hsame⟩
  · have hk0 : k = 0 := by
      have : k ≠ 1 := fun e => hsame (.inr e)
      have : ¬ (2 ≤ k) := fun e => hk ⟨e, fun z => hsame (.inl z)⟩
      omega
    have hi : its.toArray.isEmpty = false := by
      cases its with
      | nil => exact absurd (List.eq_nil_of_length_eq_zero (by rw [← hle]; rfl)) (fun z => hsame (.inl z))
      | cons a b => rfl
    have c1 : (its.toArray.isEmpty || k == 1) = false := by
      rw [hi, hk0]
      rfl
    have c2 : (decide (k ≤ 0) || its.toArray.isEmpty) = true := by
      rw [hk0]
      rfl
    refine wpAny_binaryOp_repeat_ref (T := "tuple") (U := "int") (by decide) ⟨_, ho, rfl⟩ (fun s' => typeIs_int s' k t) noFill_tuple_mul F.fills_int_mul F.slot_int_rmul repeat_tuple F.slot_int_index.lookup
      (call_meets F.slot_int_rmul (typeIs_int s k t) F.entry_int_rmul (F.args_int_rmul_2 _ _) (int_rmul_tuple k t l its.toArray n dd sl)
        ⟨ho, rfl, ⟨_, ho, rfl⟩, call_meets F.slot_tuple_mul ⟨_, ho, rfl⟩ F.entry_tuple_mul (F.args_tuple_mul_2 _ _) (tuple_mul0 l its.toArray n dd sl k t c0 c1 c2) ⟨ho, ?_⟩⟩)
    have e : (List.replicate k.toNat xs).flatten = [] := by
      rw [hk0]
      rfl
    have q := qb hsame
    rw [e] at q
    refine ⟨.ref s.heap.objs.size, _, I.laid (t' := s.toks) (o := .tup []) (fun b ob q => Heap.get?_push_of_some _ q) (Nat.le_refl _) ?_, rfl, q _ (I.hok.fresh (Nat.le_refl _))⟩
    exact ⟨Nat.zero_le _, [], .nil, IsTup.new _ _⟩
def rMulA (K : PySem.W.Frag) : R2 := R2.or (rI CMul fun i j => .int (i * j)) (R2.or (rRepA K) rRep)
theorem op_mulA {X : Cx} : OpR X (binaryOp .Mult) (rMulA X.K) := opr_or op_mul (opr_or op_repA op_rep)
theorem rd_tupS {K : PySem.W.Frag} {G : Hp} {m : List Addr} {μ : Mem} {s : S} {v : V} {xs : List PyData} (e : rd μ s = some (.tuple xs)) (r : RpS K G m s v) : Dq K G v (.tuple xs) := by
  cases s with
  | d y =>
    cases e
    exact r
  | m n =>
    exfalso
    unfold rd at e
    simp only at e
    split at e <;> cases e
theorem flat_rep1 {α : Type} (xs : List α) : (List.replicate (1 : Int).toNat xs).flatten = xs := by simp
theorem flat_repNil {α : Type} : ∀ k : Nat, (List.replicate k ([] : List α)).flatten = []
  | 0 => rfl
  | k + 1 => by
    rw [List.replicate_succ, List.flatten_cons, flat_repNil k]
    rfl
theorem mulD {K : PySem.W.Frag} : OpD K (rMulA K) fMul := by
  intro G H m μ x y v u a b z me ra rb rx ry hf Q q
  unfold fMul at hf
  split at hf
  · split at hf
    · rename_i c
      cases hf
      refine .inl ⟨_, _, rd_int me ra rx, rd_int me rb ry, ?_, hereD me (.int _) q⟩
      rw [Bool.or_eq_true, decide_eq_true_iff, decide_eq_true_iff] at c
      exact c
    · cases hf
  · split at hf
    · rename_i xs k c
      cases hf
      rw [Bool.and_eq_true, decide_eq_true_iff, decide_eq_true_iff] at c
      obtain ⟨a1, v1, e1, s1, d1⟩ := rd_tup me ra rx
      have hx := rd_tupS ra rx
      have l1 := DqAll.length d1
      subst e1
      have same : (v1 = [] ∨ k = 1) → Q (.ref a1) H := by
        rintro (e | e)
        · subst e
          have : xs = [] := by
            cases d1
            rfl
          subst this
          rw [flat_repNil] at q
          exact hereD me hx q
        · subst e
          rw [flat_rep1] at q
          exact hereD me hx q
      exact .inr (.inl ⟨a1, k, v1, rfl, rd_int me rb ry, s1, c.1.1, c.1.2, by rw [l1]; exact c.2, fun _ => .inr same, same, fun _ => newD me (fun p g0 => dq_tup g0 (DqAll.rep d1 _)) q⟩)
    · cases hf
  · split at hf
    · rename_i xs k c
      cases hf
      rw [Bool.and_eq_true, decide_eq_true_iff, decide_eq_true_iff] at c
      obtain ⟨a1, v1, rfl, s1, d1⟩ := rd_list me ra rx
      have l1 := DqAll.length d1
      refine .inr (.inr ⟨a1, k, v1, rfl, rd_int me rb ry, s1, by have := c.1.1; omega, by have := c.1.2; omega, ?_, newD me (fun p g0 => dq_lst g0 (DqAll.rep d1 _)) q⟩)
      rw [l1, sizeLine_eq]
      have a1 : xs.length * k.toNat ≤ 1000 * 1000 := Nat.mul_le_mul c.2 (by have := c.1.2; omega)
      omega
    · cases hf
  · cases hf

/-! ### subscripts, slices -/
theorem atI_map {α β : Type} {f : α → β} {xs : List α} {i : Int} {y : β} (h : atI (xs.map f) i = some y) : ∃ x, atI xs i = some x ∧ f x = y := by
  unfold atI at h ⊢
  rw [List.length_map] at h
  cases e : ixN xs.length i with
  | none => rw [e] at h; cases h
  | some j =>
    rw [e] at h
    simp only [Option.bind_some, List.getElem?_map] at h ⊢
    cases q : xs[j]? with
    | none => rw [q] at h; cases h
    | some x =>
      rw [q] at h
      exact ⟨x, rfl, by simpa using h⟩
theorem DqAll.atI {K : PySem.W.Frag} {H : Hp} {vs : List V} {ds : List PyData} {i : Int} {d : PyData} (h : DqAll K H vs ds) (e : atI ds i = some d) : ∃ v, L2.atI vs i = some v ∧ Dq K H v d := by
  unfold L2.atI at e ⊢
  rw [DqAll.length h]
  cases q : ixN ds.length i with
  | none => rw [q] at e; cases e
  | some j =>
    rw [q] at e
    exact DqAll.get h e
theorem no_none {K : PySem.W.Frag} {H : Hp} {kvs : List (Key × V)} {d : PyData} {ds : List (PyData × PyData)} (h : DqKv K H kvs ((.none, d) :: ds)) : False := by
  generalize e : ((PyData.none, d) :: ds) = z at h
  cases h with
  | nil => cases e
  | cons h1 h2 =>
    rename_i k _ _ _ _
    injection e with e1 _
    injection e1 with e2 _
    cases k <;> cases e2
theorem ixD {K : PySem.W.Frag} : OpD K (rIx K) fIx := by
  intro G H m μ x y v u a b z me ra rb rx ry hf Q q
  unfold fIx at hf
  split at hf
  · obtain ⟨a1, v1, rfl, s1, d1⟩ := rd_list me ra rx
    obtain ⟨w1, e1, e2⟩ := DqAll.atI d1 hf
    exact .inl ⟨a1, v1, _, w1, rfl, rd_int me rb ry, SqL.of s1, e1, hereD me e2 q⟩
  · obtain ⟨a1, v1, rfl, s1, d1⟩ := rd_tup me ra rx
    obtain ⟨w1, e1, e2⟩ := DqAll.atI d1 hf
    exact .inr (.inl ⟨a1, v1, _, w1, rfl, rd_int me rb ry, s1, e1, hereD me e2 q⟩)
  · have hx := rd_dq me ra rx
    cases hx with
    | scr h1 =>
      rename_i i ad xs
      obtain ⟨n, e1, e2⟩ := atI_map hf
      subst e2
      refine .inl ⟨ad, _, _, .int n, rfl, rd_int me rb ry, h1, ?_, hereD me (.int _) q⟩
      unfold atI at e1 ⊢
      rw [List.length_map]
      cases p : ixN xs.length i with
      | none => rw [p] at e1; cases e1
      | some j =>
        rw [p] at e1
        simp only [Option.bind_some] at e1 ⊢
        rw [List.getElem?_map, e1]
        rfl
    | dct h1 h2 => exact (no_none h2).elim
  · split at hf
    · rename_i z0 i hs
      cases e : atI z0.cps.toList i with
      | none => rw [e] at hf; cases hf
      | some c =>
        rw [e] at hf
        cases hf
        exact .inr (.inr ⟨_, _, c, rd_str me ra rx, rd_int me rb ry, small_sz hs, e, hereD me (.str _) q⟩)
    · cases hf
  · cases hf
def Sl.or (r r' : V → Option Int → Option Int → Hp → VK → Prop) : V → Option Int → Option Int → Hp → VK → Prop := fun x lo hi H Q => r x lo hi H Q ∨ r' x lo hi H Q
def rSlD (K : PySem.W.Frag) : V → Option Int → Option Int → Hp → VK → Prop := Sl.or (rSlL K) (Sl.or (rSlA K) rSlS)
theorem sl_any {X : Cx} : SlR X (rSlD X.K) := SlR.or sl_list (SlR.or sl_tupA sl_str)
theorem cut_all {K : PySem.W.Frag} {H : Hp} {vs : List V} {ds : List PyData} (h : DqAll K H vs ds) (lo hi : Option Int) : DqAll K H (cutV vs lo hi) (cutD ds lo hi) := by
  unfold cutV cutD
  rw [DqAll.length h]
  exact DqAll.take _ (DqAll.drop _ h)
theorem cut_whole {xs : List PyData} {lo hi : Option Int} (h : HT.sIx xs.length 0 lo = 0 ∧ HT.sIx xs.length xs.length hi = xs.length) : cutD xs lo hi = xs := by
  unfold cutD
  rw [h.1, h.2, List.drop_zero, Nat.sub_zero, List.take_length]
theorem slD {K : PySem.W.Frag} {G H : Hp} {m : List Addr} {μ : Mem} {x : S} {v : V} {lo hi : Option Int} {a z : PyData} (me : MemR K G H m μ) (ra : rd μ x = some a) (rx : RpS K G m x v) (hf : fSl lo hi a = some z)
    (Q : VK) (q : ∀ v' G' H', Stp G H m G' H' m → MemR K G' H' m μ → Dq K G' v' z → Q v' H') : rSlD K v lo hi H Q := by
  unfold fSl at hf
  split at hf
  · cases hf
    obtain ⟨a1, v1, rfl, s1, d1⟩ := rd_list me ra rx
    exact .inl ⟨a1, v1, rfl, SqL.of s1, newD me (fun p g0 => dq_lst g0 (cut_all d1 lo hi)) q⟩
  · cases hf
    obtain ⟨a1, v1, e1, s1, d1⟩ := rd_tup me ra rx
    have hx := rd_tupS ra rx
    subst e1
    have l1 := DqAll.length d1
    refine .inr (.inl ⟨a1, v1, rfl, s1, fun h => ?_, fun h => newD me (fun p g0 => dq_tup g0 (cut_all d1 lo hi)) q⟩)
    rw [l1] at h
    rw [cut_whole h] at q
    exact hereD me hx q
  · split at hf
    · rename_i hs
      cases hf
      exact .inr (.inr ⟨_, rd_str me ra rx, small_sz hs, hereD me (.str _) q⟩)
    · cases hf
  · cases hf

/-! ### calls of built-ins -/
theorem RpL.one {K : PySem.W.Frag} {G : Hp} {m : List Addr} {μ : Mem} {xs : List S} {vs : List V} {a : PyData} (h : rdL μ xs = some [a]) (r : RpL K G m xs vs) : ∃ s v, xs = [s] ∧ vs = [v] ∧ rd μ s = some a ∧ RpS K G m s v := by
  cases r with
  | nil => cases h
  | cons r0 rt =>
    rename_i s v ss ws
    unfold rdL at h
    cases e : rd μ s with
    | none => rw [e] at h; cases h
    | some x =>
      rw [e] at h
      cases e2 : rdL μ ss with
      | none => rw [e2] at h; cases h
      | some ys =>
        rw [e2] at h
        cases h
        cases rt with
        | nil => exact ⟨s, v, rfl, rfl, e, r0⟩
        | cons r1 r2 =>
          unfold rdL at e2
          split at e2 <;> cases e2
def Cb.or (r r' : List V → Hp → VK → Prop) : List V → Hp → VK → Prop := fun x H Q => r x H Q ∨ r' x H Q
def rLenD (K : PySem.W.Frag) : List V → Hp → VK → Prop := fun xs H Q => ∃ x n, xs = [x] ∧ LenV K x H n ∧ Q (.int n) H
theorem lenD {K : PySem.W.Frag} : CbD K (rLenD K) bLen := by
  intro G H m μ xs vs as z me ra rx hf Q q
  unfold bLen at hf
  split at hf
  · cases hf
    obtain ⟨s, v, rfl, rfl, h1, h2⟩ := RpL.one ra rx
    obtain ⟨a1, v1, rfl, s1, d1⟩ := rd_list me h1 h2
    exact ⟨_, _, rfl, .inl ⟨_, SqL.of s1, (DqAll.length d1).symm⟩, hereD me (.int _) q⟩
  · cases hf
    obtain ⟨s, v, rfl, rfl, h1, h2⟩ := RpL.one ra rx
    obtain ⟨a1, v1, rfl, s1, d1⟩ := rd_tup me h1 h2
    exact ⟨_, _, rfl, .inr ⟨_, s1, (DqAll.length d1).symm⟩, hereD me (.int _) q⟩
  · cases hf
    obtain ⟨s, v, rfl, rfl, h1, h2⟩ := RpL.one ra rx
    have hx := rd_dq me h1 h2
    cases hx with
    | scr h3 => exact ⟨_, _, rfl, .inl ⟨_, h3, by rw [List.length_map, List.length_map]⟩, hereD me (.int _) q⟩
    | dct h3 h4 => exact (no_none h4).elim
  · split at hf
    · rename_i hs
      cases hf
      obtain ⟨s, v, rfl, rfl, h1, h2⟩ := RpL.one ra rx
      rw [rd_str me h1 h2]
      exact ⟨_, _, rfl, ⟨small_sz hs, rfl⟩, hereD me (.int _) q⟩
    · cases hf
  · cases hf
def rTupD (K : PySem.W.Frag) : List V → Hp → VK → Prop := fun xs H Q => ∃ p ys, xs = [.ref p] ∧ ((SqL K H p ys ∧ ∀ l, H l = none → Q (.ref l) (upd H l (.tup ys))) ∨ (SqT K H p ys ∧ Q (.ref p) H))
theorem tupD {K : PySem.W.Frag} : CbD K (rTupD K) bTup := by
  intro G H m μ xs vs as z me ra rx hf Q q
  unfold bTup at hf
  split at hf
  · cases hf
    obtain ⟨s, v, rfl, rfl, h1, h2⟩ := RpL.one ra rx
    obtain ⟨a1, v1, rfl, s1, d1⟩ := rd_list me h1 h2
    exact ⟨_, _, rfl, .inl ⟨SqL.of s1, newD me (fun p g0 => dq_tup g0 d1) q⟩⟩
  · cases hf
    obtain ⟨s, v, rfl, rfl, h1, h2⟩ := RpL.one ra rx
    obtain ⟨a1, v1, e1, s1, d1⟩ := rd_tup me h1 h2
    have hx := rd_tupS h1 h2
    subst e1
    exact ⟨_, _, rfl, .inr ⟨s1, hereD me hx q⟩⟩
  · cases hf
def rLstD (K : PySem.W.Frag) : List V → Hp → VK → Prop := fun xs H Q => ∃ p ys, xs = [.ref p] ∧ (SqL K H p ys ∨ SqT K H p ys) ∧ ∀ l, H l = none → Q (.ref l) (upd H l (.lst ys))
theorem lstD {K : PySem.W.Frag} : CbD K (rLstD K) bLst := by
  intro G H m μ xs vs as z me ra rx hf Q q
  unfold bLst at hf
  split at hf
  · cases hf
    obtain ⟨s, v, rfl, rfl, h1, h2⟩ := RpL.one ra rx
    obtain ⟨a1, v1, rfl, s1, d1⟩ := rd_list me h1 h2
    exact ⟨_, _, rfl, .inl (SqL.of s1), newD me (fun p g0 => dq_lst g0 d1) q⟩
  · cases hf
    obtain ⟨s, v, rfl, rfl, h1, h2⟩ := RpL.one ra rx
    obtain ⟨a1, v1, rfl, s1, d1⟩ := rd_tup me h1 h2
    exact ⟨_, _, rfl, .inr s1, newD me (fun p g0 => dq_lst g0 d1) q⟩
  · cases hf
def rIntD : List V → Hp → VK → Prop := fun xs H Q => (∃ i, xs = [.int i] ∧ Q (.int i) H) ∨ ∃ k, xs = [.bl k] ∧ Q (.int (if k then 1 else 0)) H
theorem intD {K : PySem.W.Frag} : CbD K rIntD bInt := by
  intro G H m μ xs vs as z me ra rx hf Q q
  unfold bInt at hf
  split at hf
  · cases hf
    obtain ⟨s, v, rfl, rfl, h1, h2⟩ := RpL.one ra rx
    rw [rd_int me h1 h2]
    exact .inl ⟨_, rfl, hereD me (.int _) q⟩
  · cases hf
    obtain ⟨s, v, rfl, rfl, h1, h2⟩ := RpL.one ra rx
    rw [rd_bool me h1 h2]
    exact .inr ⟨_, rfl, hereD me (.int _) q⟩
  · cases hf
def rAbsD : List V → Hp → VK → Prop := fun xs H Q => ∃ i, xs = [.int i] ∧ Q (.int (if i < 0 then -i else i)) H
theorem absD {K : PySem.W.Frag} : CbD K rAbsD bAbs := by
  intro G H m μ xs vs as z me ra rx hf Q q
  unfold bAbs at hf
  split at hf
  · cases hf
    obtain ⟨s, v, rfl, rfl, h1, h2⟩ := RpL.one ra rx
    rw [rd_int me h1 h2]
    exact ⟨_, rfl, hereD me (.int _) q⟩
  · cases hf
end Bz
set_option Elab.async false
set_option linter.all false
set_option maxRecDepth 100000
set_option maxHeartbeats 2000000
/-! Rules of expressions. -/
namespace Bz
open PySem PySem.Spec PyProof.Rows L2

section
variable {X : Cx} {w : Wish} {e a b c : Expr} {es : List Expr} {δ δa δb δc : DE} {δs : DA} {τ τ' : DT} {pos : Pos}

theorem ce_var (i : Nat) {x : Str} {pos : Pos} (hN : X.N[i]? = some x := by rfl) (hv : Vis X.env.scope x := by first | exact Or.inl rfl | exact Or.inr (Or.inl rfl) | exact Or.inr (Or.inr rfl)) (hd : (x == ("__debug__" : Str)) = false := by decide)
    (hcd : (x == ("__classdict__" : Str)) = false := by decide) : CE X w (.Name x pos) (eVar i) := by
  refine ⟨_, pe_var hN hv hd hcd, fun ρ μ σ G H m en me Q q => ?_⟩
  unfold eVar at q
  split at q
  · rename_i s e
    obtain ⟨v, h1, h2⟩ := en.2 i s e
    exact ⟨v, h1, q G H m Stp.refl me v h2⟩
  · exact q.elim
theorem ce_const {d : PyData} {v : V} {e : Expr} (h : PE X e (tC v)) (hd : ∀ G, Dq X.K G v d) : CE X w e (eC d) := by
  refine ⟨_, h, fun ρ μ σ G H m en me Q q => ?_⟩
  exact q G H m Stp.refl me v (hd G)
theorem ce_int {i j pos} : CE X w (.Constant (.int i) j pos) (eC (.int i)) := ce_const pe_int fun _ => .int _
theorem ce_bl {i j pos} : CE X w (.Constant (.bool i) j pos) (eC (.bool i)) := ce_const pe_bl fun _ => .bl _
theorem ce_str {i j pos} : CE X w (.Constant (.str i) j pos) (eC (.str i)) := ce_const pe_str fun _ => .str _
theorem ce_non {j pos} : CE X w (.Constant .none j pos) (eC .none) := ce_const pe_non fun _ => .non
/-- a module's constant -/
theorem ce_glob {x : Str} {v : V} {u : Value} {pos : Pos} {d : PyData} (h : X.mg x = some u ∧ RelV v u ∧ ∀ G, Dq X.K G v d) (hg : Gl X x := by rfl) (hd : (x == ("__debug__" : Str)) = false := by decide) : CE X w (.Name x pos) (eC d) :=
  ce_const (pe_glob hg h.1 h.2.1 hd) h.2.2

/-- behind two values -/
theorem fin2 {K : PySem.W.Frag} {w : Wish} {σ : St} {G H : Hp} {m : List Addr} {μ : Mem} {o : Option PyData} {Q : VK} (q : EPost K w σ G H m (R.of o μ) Q) : ∃ z, o = some z ∧ ∀ v' G' H', Stp G H m G' H' m → MemR K G' H' m μ → Dq K G' v' z → Q v' H' := by
  cases o with
  | none => exact q.elim
  | some z => exact ⟨z, rfl, fun v' G' H' st me r => q G' H' m st me v' r⟩
theorem sim_op {K : PySem.W.Frag} {ta tb : TE} {r : R2} {f : D2} (hr : OpD K r f) (ha : SimE K w ta δa) (hb : SimE K w tb δb) : SimE K w (tOp r ta tb) (eOp f δa δb) := by
  intro ρ μ σ G H m en me Q q
  refine ha ρ μ σ G H m en me _ (Post.of_bind q fun x μ1 G1 H1 m1 _ st1 me1 q1 v rv => ?_)
  refine hb ρ μ1 σ G1 H1 m1 (en.mono st1.gr) me1 _ (Post.of_bind q1 fun y μ2 G2 H2 m2 _ st2 me2 q2 u ru => ?_)
  cases e1 : rd μ2 x with
  | none =>
    simp only [e1] at q2
    exact q2.elim
  | some u1 =>
    cases e2 : rd μ2 y with
    | none =>
      simp only [e1, e2] at q2
      exact q2.elim
    | some u2 =>
      simp only [e1, e2] at q2
      obtain ⟨z, hz, k⟩ := fin2 q2
      exact hr G2 H2 m2 μ2 x y v u u1 u2 z me2 e1 e2 (rv.mono st2.gr) ru hz Q k
theorem ce_op {op : Operator} {r : R2} {f : D2} (ho : OpR X (binaryOp op) r) (hr : OpD X.K r f) (ha : CE X w a δa) (hb : CE X w b δb) : CE X w (.BinOp a op b pos) (eOp f δa δb) := by
  obtain ⟨ta, p1, s1⟩ := ha
  obtain ⟨tb, p2, s2⟩ := hb
  exact ⟨_, pe_op ho p1 p2, sim_op hr s1 s2⟩
theorem ce_cmp {op : CmpOp} {r : R2} {f : D2} (ho : OpR X (compareOp op) r) (hr : OpD X.K r f) (ha : CE X w a δa) (hb : CE X w b δb) (hm : behindInMarks op b = false) : CE X w (.Compare a [op] [b] pos) (eOp f δa δb) := by
  obtain ⟨ta, p1, s1⟩ := ha
  obtain ⟨tb, p2, s2⟩ := hb
  exact ⟨_, pe_cmpR ho p1 p2 hm, sim_op hr s1 s2⟩
theorem sim_test {K : PySem.W.Frag} {ta : TE} (ha : SimE K w ta δa) : SimT K w (tTest ta) (bVal δa) := by
  intro ρ μ σ G H m en me Q q
  refine ha ρ μ σ G H m en me _ (Post.of_bind q fun x μ1 G1 H1 m1 _ st1 me1 q1 v rv => ?_)
  split at q1
  · cases rv
    exact ⟨_, rfl, q1 G1 H1 m1 Stp.refl me1⟩
  · exact q1.elim
theorem ct_cmp {op : CmpOp} {r : R2} {f : D2} (ho : OpR X (compareOp op) r) (hr : OpD X.K r f) (ha : CE X w a δa) (hb : CE X w b δb) (hm : behindInMarks op b = false) : CT X w (.Compare a [op] [b] pos) (bVal (eOp f δa δb)) := by
  obtain ⟨ta, p1, s1⟩ := ha
  obtain ⟨tb, p2, s2⟩ := hb
  exact ⟨_, pt_cmpR ho p1 p2 hm, sim_test (sim_op hr s1 s2)⟩
/-- an expression that gives True or False -/
theorem ct_val (h : CE X w e δ) (he : ∀ whole, isTrue e X.env whole = (do let v ← whole; standAt e.pos; holding [v] (truthy v)) := by intro _; rfl) : CT X w e (bVal δ) := by
  obtain ⟨ta, p1, s1⟩ := h
  exact ⟨_, pt_val p1 he, sim_test s1⟩
theorem ct_not (h : CT X w e τ) : CT X w (.UnaryOp .Not e pos) (bNot τ) := by
  obtain ⟨ta, p1, s1⟩ := h
  refine ⟨_, pt_not p1, fun ρ μ σ G H m en me Q q => ?_⟩
  exact s1 ρ μ σ G H m en me _ (Post.of_bind q fun x μ1 G1 H1 m1 _ st1 me1 q1 => q1 G1 H1 m1 Stp.refl me1)
theorem sim_and {K : PySem.W.Frag} {t u : TT} (h1 : SimT K w t τ) (h2 : SimT K w u τ') : SimT K w (L2.tAnd t u) (bAnd τ τ') := by
  intro ρ μ σ G H m en me Q q
  refine h1 ρ μ σ G H m en me _ (Post.of_bind q fun x μ1 G1 H1 m1 _ st1 me1 q1 => ?_)
  cases x with
  | true => exact h2 ρ μ1 σ G1 H1 m1 (en.mono st1.gr) me1 _ q1
  | false => exact q1 G1 H1 m1 Stp.refl me1
theorem sim_or {K : PySem.W.Frag} {t u : TT} (h1 : SimT K w t τ) (h2 : SimT K w u τ') : SimT K w (L2.tOr t u) (bOr τ τ') := by
  intro ρ μ σ G H m en me Q q
  refine h1 ρ μ σ G H m en me _ (Post.of_bind q fun x μ1 G1 H1 m1 _ st1 me1 q1 => ?_)
  cases x with
  | false => exact h2 ρ μ1 σ G1 H1 m1 (en.mono st1.gr) me1 _ q1
  | true => exact q1 G1 H1 m1 Stp.refl me1
theorem cw_and1 (h : CT X w a τ) : CW X w (.BoolOp .And [a] pos) τ := by
  obtain ⟨t, p1, s1⟩ := h
  exact ⟨_, pw_and1 p1, s1⟩
theorem cw_or1 (h : CT X w a τ) : CW X w (.BoolOp .Or [a] pos) τ := by
  obtain ⟨t, p1, s1⟩ := h
  exact ⟨_, pw_or1 p1, s1⟩
theorem cw_and (h : CT X w a τ) (h2 : CW X w (.BoolOp .And (b :: es) pos) τ') : CW X w (.BoolOp .And (a :: b :: es) pos) (bAnd τ τ') := by
  obtain ⟨t, p1, s1⟩ := h
  obtain ⟨u, p2, s2⟩ := h2
  exact ⟨_, pw_and p1 p2, sim_and s1 s2⟩
theorem cw_or (h : CT X w a τ) (h2 : CW X w (.BoolOp .Or (b :: es) pos) τ') : CW X w (.BoolOp .Or (a :: b :: es) pos) (bOr τ τ') := by
  obtain ⟨t, p1, s1⟩ := h
  obtain ⟨u, p2, s2⟩ := h2
  exact ⟨_, pw_or p1 p2, sim_or s1 s2⟩
theorem ct_w (h : CW X w e τ) : CT X w e τ := by
  obtain ⟨t, p1, s1⟩ := h
  exact ⟨_, p1.pt, s1⟩
/-! as values -/
theorem ce_one {op} (h : CE X w a δ) : CE X w (.BoolOp op [a] pos) δ := by
  obtain ⟨t, p1, s1⟩ := h
  exact ⟨_, pe_one p1, s1⟩
theorem ce_and (ha : CE X w a δa) (hb : CE X w (.BoolOp .And (b :: es) pos) δb) : CE X w (.BoolOp .And (a :: b :: es) pos) (eAnd δa δb) := by
  obtain ⟨ta, p1, s1⟩ := ha
  obtain ⟨tb, p2, s2⟩ := hb
  refine ⟨_, pe_and p1 p2, fun ρ μ σ G H m en me Q q => ?_⟩
  refine s1 ρ μ σ G H m en me _ (Post.of_bind q fun x μ1 G1 H1 m1 _ st1 me1 q1 v rv => ?_)
  split at q1
  · rename_i c _
    cases rv
    refine ⟨c, rfl, ?_⟩
    cases c with
    | true =>
      rw [if_pos rfl] at q1 ⊢
      exact s2 ρ μ1 σ G1 H1 m1 (en.mono st1.gr) me1 _ q1
    | false =>
      rw [if_neg Bool.false_ne_true] at q1 ⊢
      exact q1 G1 H1 m1 Stp.refl me1 _ (.bl _)
  · exact q1.elim
theorem ce_or (ha : CE X w a δa) (hb : CE X w (.BoolOp .Or (b :: es) pos) δb) : CE X w (.BoolOp .Or (a :: b :: es) pos) (eOr δa δb) := by
  obtain ⟨ta, p1, s1⟩ := ha
  obtain ⟨tb, p2, s2⟩ := hb
  refine ⟨_, pe_or p1 p2, fun ρ μ σ G H m en me Q q => ?_⟩
  refine s1 ρ μ σ G H m en me _ (Post.of_bind q fun x μ1 G1 H1 m1 _ st1 me1 q1 v rv => ?_)
  split at q1
  · rename_i c _
    cases rv
    refine ⟨c, rfl, ?_⟩
    cases c with
    | false =>
      rw [if_neg Bool.false_ne_true] at q1 ⊢
      exact s2 ρ μ1 σ G1 H1 m1 (en.mono st1.gr) me1 _ q1
    | true =>
      rw [if_pos rfl] at q1 ⊢
      exact q1 G1 H1 m1 Stp.refl me1 _ (.bl _)
  · exact q1.elim
theorem ce_not (ha : CE X w a δa) : CE X w (.UnaryOp .Not a pos) (eNot δa) := by
  obtain ⟨ta, p1, s1⟩ := ha
  refine ⟨_, pe_not p1, fun ρ μ σ G H m en me Q q => ?_⟩
  refine s1 ρ μ σ G H m en me _ (Post.of_bind q fun x μ1 G1 H1 m1 _ st1 me1 q1 v rv => ?_)
  split at q1
  · cases rv
    exact ⟨_, rfl, q1 G1 H1 m1 Stp.refl me1 _ (.bl _)⟩
  · exact q1.elim
theorem ce_if (hc : CT X w c τ) (ha : CE X w a δa) (hb : CE X w b δb) : CE X w (.IfExp c a b pos) (eIf τ δa δb) := by
  obtain ⟨tc, p0, s0⟩ := hc
  obtain ⟨ta, p1, s1⟩ := ha
  obtain ⟨tb, p2, s2⟩ := hb
  refine ⟨_, pe_ifExp p0 p1 p2, fun ρ μ σ G H m en me Q q => ?_⟩
  refine s0 ρ μ σ G H m en me _ (Post.of_bind q fun x μ1 G1 H1 m1 _ st1 me1 q1 => ?_)
  cases x with
  | true => exact s1 ρ μ1 σ G1 H1 m1 (en.mono st1.gr) me1 _ q1
  | false => exact s2 ρ μ1 σ G1 H1 m1 (en.mono st1.gr) me1 _ q1
/-- a op1 b op2 c -/
theorem sim_chain {K : PySem.W.Frag} {ta tb tc : TE} {r r' : R2} {f g : D2} (hr : OpD K r f) (hr' : OpD K r' g) (ha : SimE K w ta δa) (hb : SimE K w tb δb) (hc : SimE K w tc δc) : SimE K w (tChain r r' ta tb tc) (eChain f g δa δb δc) := by
  intro ρ μ σ G H m en me Q q
  refine ha ρ μ σ G H m en me _ (Post.of_bind q fun x μ1 G1 H1 m1 _ st1 me1 q1 v rv => ?_)
  refine hb ρ μ1 σ G1 H1 m1 (en.mono st1.gr) me1 _ (Post.of_bind q1 fun y μ2 G2 H2 m2 _ st2 me2 q2 u ru => ?_)
  cases e1 : rd μ2 x with
  | none =>
    simp only [e1] at q2
    exact q2.elim
  | some u1 =>
    cases e2 : rd μ2 y with
    | none =>
      simp only [e1, e2] at q2
      exact q2.elim
    | some u2 =>
      simp only [e1, e2] at q2
      cases e3 : f u1 u2 with
      | none =>
        simp only [e3] at q2
        exact q2.elim
      | some z =>
        refine hr G2 H2 m2 μ2 x y v u u1 u2 z me2 e1 e2 (rv.mono st2.gr) ru e3 _ fun v' G3 H3 st3 me3 dz => ?_
        rw [e3] at q2
        split at q2
        · rename_i hq
          cases hq
          cases dz
          refine ⟨true, rfl, ?_⟩
          rw [if_pos rfl]
          have q2' := Post.mono st3 q2
          refine hc ρ μ2 σ G3 H3 m2 ((en.mono st1.gr).mono (st2.trans st3).gr) me3 _ (Post.of_bind q2' fun t μ4 G4 H4 m4 _ st4 me4 q4 v4 r4 => ?_)
          cases e4 : rd μ4 y with
          | none =>
            simp only [e4] at q4
            exact q4.elim
          | some w1 =>
            cases e5 : rd μ4 t with
            | none =>
              simp only [e4, e5] at q4
              exact q4.elim
            | some w2 =>
              simp only [e4, e5] at q4
              obtain ⟨z', hz', k⟩ := fin2 q4
              exact hr' G4 H4 m4 μ4 y t u v4 w1 w2 z' me4 e4 e5 (ru.mono (st3.trans st4).gr) r4 hz' Q k
        · rename_i hq
          cases hq
          cases dz
          refine ⟨false, rfl, ?_⟩
          rw [if_neg Bool.false_ne_true]
          exact q2 G3 H3 m2 st3 me3 _ (.bl _)
        · exact q2.elim
theorem ce_chain {op op' : CmpOp} {r r' : R2} {f g : D2} (ho : OpR X (compareOp op) r) (hr : OpD X.K r f) (ho' : OpR X (compareOp op') r') (hr' : OpD X.K r' g) (ha : CE X w a δa) (hb : CE X w b δb) (hc : CE X w c δc)
    (hm : lastMarks [op, op'] [b, c] = false := by with_unfolding_all rfl) : CE X w (.Compare a [op, op'] [b, c] pos) (eChain f g δa δb δc) := by
  obtain ⟨ta, p1, s1⟩ := ha
  obtain ⟨tb, p2, s2⟩ := hb
  obtain ⟨tc, p3, s3⟩ := hc
  exact ⟨_, pe_chain ho ho' p1 p2 p3 hm, sim_chain hr hr' s1 s2 s3⟩
theorem ct_chain {op op' : CmpOp} {r r' : R2} {f g : D2} (ho : OpR X (compareOp op) r) (hr : OpD X.K r f) (ho' : OpR X (compareOp op') r') (hr' : OpD X.K r' g) (ha : CE X w a δa) (hb : CE X w b δb) (hc : CE X w c δc)
    (hm : lastMarks [op, op'] [b, c] = false := by with_unfolding_all rfl) : CT X w (.Compare a [op, op'] [b, c] pos) (bVal (eChain f g δa δb δc)) := by
  obtain ⟨ta, p1, s1⟩ := ha
  obtain ⟨tb, p2, s2⟩ := hb
  obtain ⟨tc, p3, s3⟩ := hc
  exact ⟨_, pt_chain ho ho' p1 p2 p3 hm, sim_test (sim_chain hr hr' s1 s2 s3)⟩

/-! ### arguments, displays -/
theorem ca_nil : CA X w [] aNil := ⟨_, pa_nil, fun ρ μ σ G H m en me Q q => q G H m Stp.refl me [] .nil⟩
theorem ca_cons (h : CE X w e δ) (hr : CA X w es δs) (hs : starEach (e :: es) X.env = (false, eval e X.env) :: starEach es X.env := by rfl) : CA X w (e :: es) (aCons δ δs) := by
  obtain ⟨ta, p1, s1⟩ := h
  obtain ⟨tb, p2, s2⟩ := hr
  refine ⟨_, pa_cons p1 p2 hs, fun ρ μ σ G H m en me Q q => ?_⟩
  refine s1 ρ μ σ G H m en me _ (Post.of_bind q fun x μ1 G1 H1 m1 _ st1 me1 q1 v rv => ?_)
  refine s2 ρ μ1 σ G1 H1 m1 (en.mono st1.gr) me1 _ (Post.of_bind q1 fun y μ2 G2 H2 m2 _ st2 me2 q2 u ru => ?_)
  exact q2 G2 H2 m2 Stp.refl me2 _ (.cons (rv.mono st2.gr) ru)
theorem pure_all {K : PySem.W.Frag} {G : Hp} {m : List Addr} : ∀ {ss : List S} {vs : List V} {xs : List PyData}, RpL K G m ss vs → pureL ss = some xs → DqAll K G vs xs
  | _, _, _, .nil, h => by
    cases h
    exact .nil
  | _, _, _, .cons (s := s) (ss := ss) r t, h => by
    cases s with
    | d x =>
      unfold pureL at h
      cases e : pureL ss with
      | none => rw [e] at h; cases h
      | some ys =>
        rw [e] at h
        cases h
        exact .cons r (pure_all t e)
    | m n => cases h
theorem ce_tup {x1} (h : CA X w es δs) : CE X w (.Tuple es x1 pos) (eTup δs) := by
  obtain ⟨ta, p1, s1⟩ := h
  refine ⟨_, pe_tup p1, fun ρ μ σ G H m en me Q q => ?_⟩
  refine s1 ρ μ σ G H m en me _ (Post.of_bind q fun x μ1 G1 H1 m1 _ st1 me1 q1 v rv => ?_)
  cases e1 : pureL x with
  | none =>
    simp only [e1] at q1
    exact q1.elim
  | some xs =>
    simp only [e1] at q1
    split at q1
    · rename_i hs
      have d := pure_all rv e1
      refine ⟨by rw [DqAll.length d]; exact small_sz hs, newD me1 (fun p g0 => dq_tup g0 d) fun v' G' H' st me' r => q1 G' H' m1 st me' v' r⟩
    · exact q1.elim
theorem ce_lst (h : CA X w es δs) : CE X w (.List es pos) (eLst δs) := by
  obtain ⟨ta, p1, s1⟩ := h
  refine ⟨_, pe_lst p1, fun ρ μ σ G H m en me Q q => ?_⟩
  refine s1 ρ μ σ G H m en me _ (Post.of_bind q fun x μ1 G1 H1 m1 _ st1 me1 q1 v rv => ?_)
  cases e1 : pureL x with
  | none =>
    simp only [e1] at q1
    exact q1.elim
  | some xs =>
    simp only [e1] at q1
    split at q1
    · rename_i hs
      have d := pure_all rv e1
      refine ⟨by rw [DqAll.length d]; exact small_sz hs, newD me1 (fun p g0 => dq_lst g0 d) fun v' G' H' st me' r => q1 G' H' m1 st me' v' r⟩
    · exact q1.elim
/-- a list display, to be changed -/
theorem ce_new (h : CA X w es δs) : CE X w (.List es pos) (eNew (eLst δs)) := by
  obtain ⟨ta, p1, s1⟩ := h
  refine ⟨_, pe_lst p1, fun ρ μ σ G H m en me Q q => ?_⟩
  have q0 : EPost X.K w σ G H m ((δs ρ μ).bind fun ss μ1 => (match pureL ss with | some xs => if small xs.length then R.ok (.m μ1.length) (μ1 ++ [.lst xs]) else .no | none => .no)) Q := by
    have e : eNew (eLst δs) ρ μ = ((δs ρ μ).bind fun ss μ1 => (match pureL ss with | some xs => if small xs.length then R.ok (.m μ1.length) (μ1 ++ [.lst xs]) else .no | none => .no)) := by
      unfold eNew eLst
      cases δs ρ μ with
      | no => rfl
      | err a b => rfl
      | ok ss μ1 =>
        simp only [R.bind]
        cases pureL ss with
        | none => rfl
        | some xs =>
          simp only
          cases small xs.length <;> rfl
    rw [← e]
    exact q
  refine s1 ρ μ σ G H m en me _ (Post.of_bind q0 fun x μ1 G1 H1 m1 _ st1 me1 q1 v rv => ?_)
  cases e1 : pureL x with
  | none =>
    simp only [e1] at q1
    exact q1.elim
  | some xs =>
    simp only [e1] at q1
    split at q1
    · rename_i hs
      have d := pure_all rv e1
      refine ⟨by rw [DqAll.length d]; exact small_sz hs, fun p hp => ?_⟩
      obtain ⟨me2, st2⟩ := me1.alloc hp d
      refine q1 _ _ _ st2 me2 _ ⟨p, ?_, rfl⟩
      rw [← me1.len]
      simp
    · exact q1.elim

/-! ### subscripts, slices -/
theorem ce_ix (ha : CE X w a δa) (hb : CE X w b δb) (hs : PlainIx b := by exact (fun _ _ => rfl)) : CE X w (.Subscript a b pos) (eOp fIx δa δb) := by
  obtain ⟨ta, p1, s1⟩ := ha
  obtain ⟨tb, p2, s2⟩ := hb
  exact ⟨_, pe_ix ix_seq p1 p2 hs, sim_op ixD s1 s2⟩
structure CO (X : Cx) (w : Wish) (e : Option Expr) (δ : DO) : Prop where
  ex : ∃ to, PO X e to ∧ ∀ ρ μ σ G H m, EnvR X.K G m ρ σ → MemR X.K G H m μ → ∀ Q : Option Int → Hp → Prop, Post X.K w σ G H m (δ ρ μ) (fun o _ H' _ => Q o H') → to σ H Q
theorem co_no : CO X w none oNo := ⟨_, po_none, fun ρ μ σ G H m en me Q q => q G H m Stp.refl me⟩
theorem co_yes (h : CE X w e δ) : CO X w (some e) (oYes δ) := by
  obtain ⟨ta, p1, s1⟩ := h
  refine ⟨_, po_some p1, fun ρ μ σ G H m en me Q q => ?_⟩
  refine s1 ρ μ σ G H m en me _ (Post.of_bind q fun x μ1 G1 H1 m1 _ st1 me1 q1 v rv => ?_)
  split at q1
  · cases rv
    exact ⟨_, rfl, q1 G1 H1 m1 Stp.refl me1⟩
  · exact q1.elim
theorem ce_sl {lo hi : Option Expr} {δl δh : DO} {p2 : Pos} (h : CE X w e δ) (hl : CO X w lo δl) (hh : CO X w hi δh) : CE X w (.Subscript e (.Slice lo hi none p2) pos) (eSl δ δl δh) := by
  obtain ⟨ta, p1, s1⟩ := h
  obtain ⟨tl, p2, s2⟩ := hl
  obtain ⟨th, p3, s3⟩ := hh
  refine ⟨_, pe_slice sl_any p1 p2 p3, fun ρ μ σ G H m en me Q q => ?_⟩
  refine s1 ρ μ σ G H m en me _ (Post.of_bind q fun x μ1 G1 H1 m1 _ st1 me1 q1 v rv => ?_)
  refine s2 ρ μ1 σ G1 H1 m1 (en.mono st1.gr) me1 _ (Post.of_bind q1 fun y μ2 G2 H2 m2 _ st2 me2 q2 => ?_)
  refine s3 ρ μ2 σ G2 H2 m2 ((en.mono st1.gr).mono st2.gr) me2 _ (Post.of_bind q2 fun t μ3 G3 H3 m3 _ st3 me3 q3 => ?_)
  cases e1 : rd μ3 x with
  | none =>
    simp only [e1] at q3
    exact q3.elim
  | some u1 =>
    simp only [e1] at q3
    obtain ⟨z, hz, k⟩ := fin2 q3
    exact slD me3 e1 (rv.mono (st2.trans st3).gr) hz Q k

/-! ### calls of built-ins -/
theorem sim_cb {K : PySem.W.Frag} {ta : TA} {r : List V → Hp → VK → Prop} {f : DF} (hr : CbD K r f) (ha : SimA K w ta δs) : SimE K w (tCB r ta) (eCB f δs) := by
  intro ρ μ σ G H m en me Q q
  refine ha ρ μ σ G H m en me _ (Post.of_bind q fun x μ1 G1 H1 m1 _ st1 me1 q1 v rv => ?_)
  cases e1 : rdL μ1 x with
  | none =>
    simp only [e1] at q1
    exact q1.elim
  | some xs =>
    simp only [e1] at q1
    obtain ⟨z, hz, k⟩ := fin2 q1
    exact hr G1 H1 m1 μ1 x v xs z me1 e1 rv hz Q k
theorem ce_callB {x : Str} {p : Pos} {id : String} {r : List V → Hp → VK → Prop} {f : DF} (hc : CallR X (.builtin id) r) (hr : CbD X.K r f) (hm : X.mg x = none) (hv : bootBuiltins x = some (.builtin id)) (ha : CA X w (e :: es) δs) (hg : Gl X x := by rfl) (hn : x ≠ "__name__" := by decide)
    (hdb : (x == ("__debug__" : Str)) = false := by decide) (he : starEach (e :: es) X.env = (false, eval e X.env) :: starEach es X.env := by rfl) (hpl : (backTo pos (starEach es X.env)).any (·.1) = false := by rfl) : CE X w (.Call (.Name x p) (e :: es) [] pos) (eCB f δs) := by
  obtain ⟨ta, p1, s1⟩ := ha
  exact ⟨_, pe_callB hc hg hm hv p1 hn hdb he hpl, sim_cb hr s1⟩
theorem ce_callTy {x : Str} {p : Pos} {T : String} {r : List V → Hp → VK → Prop} {f : DF} (hc : CallR X (.type T) r) (hr : CbD X.K r f) (hm : X.mg x = none) (hv : bootBuiltins x = some (.type T)) (ha : CA X w (e :: es) δs) (hg : Gl X x := by rfl) (hn : x ≠ "__name__" := by decide)
    (hdb : (x == ("__debug__" : Str)) = false := by decide) (he : starEach (e :: es) X.env = (false, eval e X.env) :: starEach es X.env := by rfl) (hpl : (backTo pos (starEach es X.env)).any (·.1) = false := by rfl) : CE X w (.Call (.Name x p) (e :: es) [] pos) (eCB f δs) := by
  obtain ⟨ta, p1, s1⟩ := ha
  exact ⟨_, pe_callTy hc hg hm hv p1 hn hdb he hpl, sim_cb hr s1⟩

/-! ### calls of defs -/
/-- what a def promises: F -/
def FPost (K : PySem.W.Frag) (cx : Nat → Option Addr) (G H : Hp) (m : List Addr) (r : R S) (Q : VK) (E : XK) : Prop := match r with
  | .ok s μ' => ∀ v G' H', Stp G H m G' H' m → MemR K G' H' m μ' → RpS K G' m s v → Q v H'
  | .err e μ' => ∀ cls d G' H', Stp G H m G' H' m → MemR K G' H' m μ' → ErrR cx G' e cls d → E cls d H'
  | .no => False
def spF (K : PySem.W.Frag) (cx : Nat → Option Addr) (n : Nat) (F : Fn) : Sp := fun vs H Q E => ∃ G m μ ss, ss.length = n ∧ RpL K G m ss vs ∧ MemR K G H m μ ∧ FPost K cx G H m (F ss μ) Q E
theorem RpL.length {K : PySem.W.Frag} {G : Hp} {m : List Addr} : ∀ {ss : List S} {vs : List V}, RpL K G m ss vs → ss.length = vs.length
  | _, _, .nil => rfl
  | _, _, .cons _ t => congrArg (· + 1) (RpL.length t)
/-- how its arguments bind -/
def SB (fd : FuncData) (ps : List Str) : Prop := ∀ us : List Value, us.length = ps.length → bindArgs fd ⟨us, []⟩ = pure (ps.zip us)
/-- a def of the text, where it stands -/
structure Def (P : Program) (w : World) (K : PySem.W.Frag) (mg : Str → Option Value) (base : Heap) (cx : Nat → Option Addr) (x : Str) (k n : Nat) (F : Fn) : Prop where
  no : ∀ ss μ, ss.length ≠ n → F ss μ = .no
  ex : ∃ (f : Addr) (fd : FuncData) (ps : List Str), mg x = some (.ref f) ∧ PySem.W.keepIn K (.ref f) = true ∧ SB fd ps ∧ ps.length = n ∧ FnOk P w K mg base (L2.CX P w) k f fd ps (spF K cx n F)
theorem sim_call {K : PySem.W.Frag} {ta : TA} {n : Nat} {F : Fn} (hn : ∀ ss μ, ss.length ≠ n → F ss μ = .no) (ha : SimA K w ta δs) : SimE K w (tCallS (spF K w.cx n F) (WE w.W) ta) (eCall F δs) := by
  intro ρ μ σ G H m en me Q q
  refine ha ρ μ σ G H m en me _ (Post.of_bind q fun x μ1 G1 H1 m1 _ st1 me1 q1 v rv => ?_)
  by_cases hl : x.length = n
  · refine ⟨G1, m1, μ1, x, hl, rv, me1, ?_⟩
    cases e : F x μ1 with
    | ok s μ2 =>
      simp only [e] at q1
      exact fun v' G' H' st me' r => q1 G' H' m1 st me' v' r
    | err ex μ2 =>
      simp only [e] at q1
      exact fun cls d G' H' st me' r => q1.2 cls d G' H' m1 st me' r
    | no =>
      simp only [e] at q1
      exact q1
  · simp only [hn x μ1 hl] at q1
    exact q1.elim
theorem sim_callB {K : PySem.W.Frag} {ta : TA} {n : Nat} {F : Fn} (hw : w.on = false) (hn : ∀ ss μ, ss.length ≠ n → F ss μ = .no) (ha : SimA K w ta δs) : SimE K w (tCall (spF K w.cx n F) [] E0 ta) (eCall F δs) := by
  intro ρ μ σ G H m en me Q q
  refine ha ρ μ σ G H m en me _ (Post.of_bind q fun x μ1 G1 H1 m1 _ st1 me1 q1 v rv => ?_)
  by_cases hl : x.length = n
  · refine ⟨G1, m1, μ1, x, hl, by rw [List.append_nil]; exact rv, me1, ?_⟩
    cases e : F x μ1 with
    | ok s μ2 =>
      simp only [e] at q1
      exact fun v' G' H' st me' r => q1 G' H' m1 st me' v' r
    | err ex μ2 =>
      simp only [e] at q1
      have := q1.1
      rw [hw] at this
      cases this
    | no =>
      simp only [e] at q1
      exact q1
  · simp only [hn x μ1 hl] at q1
    exact q1.elim
/-- f(e, ..) where an exception may leave -/
theorem ce_call {x : Str} {p : Pos} {k j n : Nat} {F : Fn} (D : Def X.prog X.w X.K X.mg X.base w.cx x j n F) (hr : Room k X.A) (tk : Takes X w.W) (ha : CA X w (e :: es) δs) (hj : j ≤ k := by first | decide | omega) (hg : Gl X x := by rfl)
    (hdb : (x == ("__debug__" : Str)) = false := by decide) (he : starEach (e :: es) X.env = (false, eval e X.env) :: starEach es X.env := by rfl) (hpl : (backTo pos (starEach es X.env)).any (·.1) = false := by rfl) : CE X w (.Call (.Name x p) (e :: es) [] pos) (eCall F δs) := by
  obtain ⟨f, fd, ps, h1, h2, h3, h4, h5⟩ := D.ex
  obtain ⟨ta, p1, s1⟩ := ha
  exact ⟨_, pe_callS h5 (hr.mono hj) hg h1 h2 (.all h3) (fun σ => passAt tk σ) p1 hdb he hpl, sim_call D.no s1⟩
/-- f(e, ..) in a comprehension's block -/
theorem ce_callC {x : Str} {p : Pos} {k j n : Nat} {F : Fn} (D : Def X.prog X.w X.K X.mg X.base w.cx x j n F) (hr : Room k X.A) (hw : w.on = false) (ha : CA X w (e :: es) δs) (hj : j ≤ k := by first | decide | omega) (hg : Gl X x := by rfl)
    (hdb : (x == ("__debug__" : Str)) = false := by decide) (he : starEach (e :: es) X.env = (false, eval e X.env) :: starEach es X.env := by rfl) (hpl : (backTo pos (starEach es X.env)).any (·.1) = false := by rfl) : CE X w (.Call (.Name x p) (e :: es) [] pos) (eCall F δs) := by
  obtain ⟨f, fd, ps, h1, h2, h3, h4, h5⟩ := D.ex
  obtain ⟨ta, p1, s1⟩ := ha
  exact ⟨_, pe_call h5 (hr.mono hj) hg h1 h2 (.all h3) .nil passL p1 hdb he hpl, sim_callB hw D.no s1⟩
end
end Bz
set_option Elab.async false
set_option linter.all false
set_option maxRecDepth 100000
set_option maxHeartbeats 2000000
/-! Rules of targets, of what is walked, of comprehensions, of statements, of defs. -/
namespace Bz
open PySem PySem.Spec PyProof.Rows L2

/-! ### targets -/
/-- only the slots at is change -/
def Tch (is : List Nat) (σ σ' : St) : Prop := ∀ vs : List Nat, (∀ i ∈ is, i ∈ vs) → wipe σ' vs = wipe σ vs
def SimG (K : PySem.W.Frag) (is : List Nat) (g : TG) (γ : DG) : Prop := ∀ s ρ ρ1 σ G H m μ v, γ s ρ = some ρ1 → EnvR K G m ρ σ → MemR K G H m μ → RpS K G m s v →
  ∀ Q : St → Hp → Prop, (∀ σ', EnvR K G m ρ1 σ' → Tch is σ σ' → Q σ' H) → g v σ H Q
def SimGs (K : PySem.W.Frag) (is : List Nat) (g : TGs) (gs : List DG) : Prop := ∀ xs ρ ρ1 σ G H m μ vs, gSeq gs xs ρ = some ρ1 → EnvR K G m ρ σ → MemR K G H m μ → DqAll K G vs xs →
  ∀ Q : St → Hp → Prop, (∀ σ', EnvR K G m ρ1 σ' → Tch is σ σ' → Q σ' H) → g vs σ H Q
structure CG (X : Cx) (is : List Nat) (e : Expr) (γ : DG) : Prop where
  ex : ∃ g, PG X e g ∧ SimG X.K is g γ
structure CGs (X : Cx) (is : List Nat) (es : List Expr) (gs : List DG) : Prop where
  ex : ∃ g, PGs X es g ∧ SimGs X.K is g gs
theorem wipe_set {σ : St} {i : Nat} {v : Option V} : ∀ {vs : List Nat}, i ∈ vs → wipe (σ.set i v) vs = wipe σ vs
  | [], h => by cases h
  | u :: vs, h => by
    have e1 : wipe (σ.set i v) (u :: vs) = (wipe (σ.set i v) vs).set u none := rfl
    have e2 : wipe σ (u :: vs) = (wipe σ vs).set u none := rfl
    rw [e1, e2]
    by_cases hv : i ∈ vs
    · rw [wipe_set hv]
    · have hu : i = u := by
        rcases List.mem_cons.mp h with e | e
        · exact e
        · exact absurd e hv
      subst hu
      have q : ∀ ws : List Nat, i ∉ ws → wipe (σ.set i v) ws = (wipe σ ws).set i v := by
        intro ws
        induction ws with
        | nil => intro _; rfl
        | cons a r ih =>
          intro hn
          have ha : i ≠ a := fun z => hn (by simp [z])
          have e3 : wipe (σ.set i v) (a :: r) = (wipe (σ.set i v) r).set a none := rfl
          have e4 : wipe σ (a :: r) = (wipe σ r).set a none := rfl
          rw [e3, e4, ih (fun z => hn (List.mem_cons_of_mem _ z)), List.set_comm _ _ ha]
      rw [q vs hv, List.set_set]
theorem wipe_wipe_of {σ : St} {vs : List Nat} : ∀ us : List Nat, (∀ i ∈ us, i ∈ vs) → wipe (wipe σ us) vs = wipe σ vs
  | [], _ => rfl
  | u :: us, h => by
    have e1 : wipe σ (u :: us) = (wipe σ us).set u none := rfl
    rw [e1, wipe_set (h u (by simp)), wipe_wipe_of us fun i hi => h i (List.mem_cons_of_mem _ hi)]
theorem wipe_wipe (σ : St) (vs : List Nat) : wipe (wipe σ vs) vs = wipe σ vs := wipe_wipe_of vs fun _ h => h
theorem Tch.set {σ : St} {i : Nat} {v : V} : Tch [i] σ (σ.set i (some v)) := fun vs h => wipe_set (h i (by simp))
section
variable {X : Cx} {w : Wish} {e a b c : Expr} {es : List Expr} {δ δa δb δc : DE} {δs : DA} {τ τ' : DT} {pos : Pos}
theorem cg_name (i : Nat) {x : Str} (hN : X.N.Nodup) (hi : X.N[i]? = some x := by rfl) (hx : Loc X.env.scope x := by first | exact Or.inl rfl | exact Or.inr rfl) (hf : X.fn x = true ∨ X.env.scope.names.lookup x = some .local := by first | exact .inl rfl | exact .inr rfl) : CG X [i] (.Name x pos) (gNm i) := by
  refine ⟨_, pg_name hN hi hx hf, fun s ρ ρ1 σ G H m μ v h en me r Q q => ?_⟩
  cases h
  exact q _ (en.set r) Tch.set
theorem cgs_nil : CGs X [] [] [] := by
  refine ⟨_, pgs_nil, fun xs ρ ρ1 σ G H m μ vs h en me r Q q => ?_⟩
  cases xs with
  | nil =>
    cases h
    cases r
    exact ⟨rfl, q _ en fun _ _ => rfl⟩
  | cons x xs => cases h
theorem cgs_cons {is js : List Nat} {γ : DG} {gs : List DG} (h1 : CG X is e γ) (h2 : CGs X js es gs) (hs : (assignEach (e :: es) X.env).map (·.2) = assign e X.env :: (assignEach es X.env).map (·.2) := by rfl) : CGs X (is ++ js) (e :: es) (γ :: gs) := by
  obtain ⟨g, p1, s1⟩ := h1
  obtain ⟨g2, p2, s2⟩ := h2
  refine ⟨_, pgs_cons p1 p2 hs, fun xs ρ ρ1 σ G H m μ vs h en me r Q q => ?_⟩
  cases xs with
  | nil => cases h
  | cons x xs =>
    unfold gSeq at h
    cases e1 : γ (.d x) ρ with
    | none => rw [e1] at h; cases h
    | some ρ2 =>
      rw [e1] at h
      cases r with
      | cons r1 r2 =>
        refine ⟨_, _, rfl, s1 (.d x) ρ ρ2 σ G H m μ _ e1 en me r1 _ fun σ1 en1 t1 => ?_⟩
        refine s2 xs ρ2 ρ1 σ1 G H m μ _ h en1 me r2 _ fun σ2 en2 t2 => q σ2 en2 fun vs hv => ?_
        rw [t2 vs fun i hi => hv i (List.mem_append_right _ hi), t1 vs fun i hi => hv i (List.mem_append_left _ hi)]
theorem cg_tup {is : List Nat} {k : Nat} {gs : List DG} (hc : X.calm = true) (h : CGs X is es gs) (hn : (assignEach es X.env).length = gs.length := by rfl) (hst : (assignEach es X.env).findIdx? (·.1) = none := by rfl) : CG X is (.Tuple es k pos) (gTp gs) := by
  obtain ⟨g, p1, s1⟩ := h
  refine ⟨_, pg_tup (n := gs.length) hc p1 hn hst, fun s ρ ρ1 σ G H m μ v h en me r Q q => ?_⟩
  unfold gTp at h
  split at h
  · rename_i xs
    have hl : ∀ (gs : List DG) (xs : List PyData) (ρ ρ1 : Env), gSeq gs xs ρ = some ρ1 → xs.length = gs.length := by
      intro gs
      induction gs with
      | nil =>
        intro xs ρ ρ1 h
        cases xs with
        | nil => rfl
        | cons _ _ => cases h
      | cons g gs ih =>
        intro xs ρ ρ1 h
        cases xs with
        | nil => cases h
        | cons x xs =>
          unfold gSeq at h
          split at h
          · rw [List.length_cons, List.length_cons, ih _ _ _ h]
          · cases h
    cases r with
    | tup h1 h2 => exact ⟨_, _, rfl, SqT.same me.ex h1, by rw [DqAll.length h2]; exact hl _ _ _ _ h, s1 xs ρ ρ1 σ G H m μ _ h en me h2 Q q⟩
  · cases h
end

/-! ### what is walked -/
def Wk (K : PySem.W.Frag) (J : It) (G : Hp) (m : List Addr) (xs : List PyData) : Prop := ∀ G2 H m2 μ2, Gr G G2 m m2 → MemR K G2 H m2 μ2 → ∀ i : Nat,
  (∀ d, xs[i]? = some d → J.go i H ∧ ∀ v H', J.yld i H v H' → ∃ G3, Stp G2 H m2 G3 H' m2 ∧ MemR K G3 H' m2 μ2 ∧ Dq K G3 v d) ∧ (xs.length ≤ i → J.stop i H)
def SimI (K : PySem.W.Frag) (w : Wish) (wi : TI) (δ : DI) : Prop := ∀ ρ μ σ G H m, EnvR K G m ρ σ → MemR K G H m μ → ∀ R : It → Hp → Prop, Post K w σ G H m (δ ρ μ) (fun xs G' H' m' => ∀ J, Wk K J G' m' xs → R J H') → wi σ H R
structure CI (X : Cx) (w : Wish) (tg it : Expr) (δ : DI) : Prop where
  ex : ∃ wi, PI X tg it wi ∧ SimI X.K w wi δ
section
variable {X : Cx} {w : Wish} {tg e a b c : Expr} {es : List Expr} {δ δa δb δc : DE} {δs : DA} {τ τ' : DT} {pos : Pos}
theorem pos_inj {xs ys : List V} {i : Nat} {v : V} (h : xs = ys) (e : xs[i]? = some v) : ys[i]? = some v := h ▸ e
theorem wk_lst {K : PySem.W.Frag} {G : Hp} {m : List Addr} {a : Addr} {vs : List V} {xs : List PyData} (h : G a = some (.lst vs)) (d : DqAll K G vs xs) : Wk K (Itl K a) G m xs := by
  intro G2 H m2 μ2 g me i
  have hH : H a = some (.lst vs) := me.ex _ _ (g.ex _ _ h)
  refine ⟨fun y hy => ?_, fun hi => ⟨vs, SqL.of hH, by rw [DqAll.length d]; exact hi⟩⟩
  obtain ⟨v, h1, h2⟩ := DqAll.get (DqAll.mono g.ex _ _ d) hy
  refine ⟨⟨vs, v, SqL.of hH, h1⟩, fun v' H' hv => ?_⟩
  obtain ⟨rfl, q⟩ := hv
  have e := q vs (SqL.of hH)
  rw [h1] at e
  cases e
  exact ⟨G2, Stp.refl, me, h2⟩
theorem wk_tup {K : PySem.W.Frag} {G : Hp} {m : List Addr} {a : Addr} {vs : List V} {xs : List PyData} (h : SqT K G a vs) (d : DqAll K G vs xs) : Wk K (Itt K a) G m xs := by
  intro G2 H m2 μ2 g me i
  have hH : SqT K H a vs := SqT.same me.ex (SqT.same g.ex h)
  refine ⟨fun y hy => ?_, fun hi => ⟨vs, hH, by rw [DqAll.length d]; exact hi⟩⟩
  obtain ⟨v, h1, h2⟩ := DqAll.get (DqAll.mono g.ex _ _ d) hy
  refine ⟨⟨vs, v, hH, h1⟩, fun v' H' hv => ?_⟩
  obtain ⟨rfl, q⟩ := hv
  have e := q vs hH
  rw [h1] at e
  cases e
  exact ⟨G2, Stp.refl, me, h2⟩
theorem ints_get {lo : Int} {n i : Nat} {d : PyData} (h : (upFrom lo n)[i]? = some d) : i < n ∧ d = .int (lo + (i : Int)) := by
  unfold upFrom at h
  rw [List.getElem?_map] at h
  by_cases hi : i < n
  · rw [List.getElem?_range hi] at h
    cases h
    exact ⟨hi, rfl⟩
  · rw [List.getElem?_eq_none (by simpa using hi)] at h
    cases h
theorem wk_rng {K : PySem.W.Frag} {G : Hp} {m : List Addr} {lo : Int} {n : Nat} : Wk K (Itr lo n) G m (upFrom lo n) := by
  intro G2 H m2 μ2 g me i
  refine ⟨fun y hy => ?_, fun hi => ?_⟩
  · obtain ⟨h1, rfl⟩ := ints_get hy
    refine ⟨h1, fun v' H' hv => ?_⟩
    obtain ⟨rfl, rfl⟩ := hv
    exact ⟨G2, Stp.refl, me, .int _⟩
  · show n ≤ i
    unfold upFrom at hi
    simpa using hi
/-- over a list or a tuple -/
def iSq (K : PySem.W.Frag) (tl : TE) : TI := fun σ H R => tl σ H fun x H1 => (∃ a, x = .ref a ∧ (∃ xs, SqL K H1 a xs) ∧ R (Itl K a) H1) ∨ ∃ a, x = .ref a ∧ (∃ xs, SqT K H1 a xs) ∧ R (Itt K a) H1
theorem pi_seq {l : Expr} {tl : TE} (hl : PE X l tl) : PI X tg l (iSq X.K tl) := by
  refine ⟨fun pins s σ H R I h => ?_⟩
  refine thn (hl.run pins s σ H _ I h) fun v s1 ⟨x, H1, I1, r1, q1⟩ => ?_
  rcases q1 with q1 | q1
  · obtain ⟨a, e, ⟨xs, hq⟩, q⟩ := q1
    subst e
    cases r1
    obtain ⟨its, rv, p, hz⟩ := I1.list hq
    refine wpAny_pyIter_list p.isList ?_
    refine ⟨s1.heap.objs.size, [s1.heap.objs.size], _, _, H1, rfl, I1.kept (t' := s1.toks) fun b o e => Heap.get?_push_of_some _ e, turn_list a _, ⟨_, Heap.get?_push_size _ rfl, rfl, rfl⟩, fun b hb => ?_, q⟩
    have e : b = s1.heap.objs.size := by simpa using hb
    subst e
    exact I1.fpOk (Nat.le_refl _) (I1.hok.fresh (Nat.le_refl _))
  · obtain ⟨a, e, ⟨xs, hq⟩, q⟩ := q1
    subst e
    cases r1
    obtain ⟨its, rv, p, hz⟩ := I1.tuple hq
    refine wpAny_pyIter_tuple (show s1.heap.IsTuple a its.toArray from p) ?_
    refine ⟨s1.heap.objs.size, [s1.heap.objs.size], _, _, H1, rfl, I1.kept (t' := s1.toks) fun b o e => Heap.get?_push_of_some _ e, turn_tuple a _, ⟨_, Heap.get?_push_size _ rfl, rfl, rfl⟩, fun b hb => ?_, q⟩
    have e : b = s1.heap.objs.size := by simpa using hb
    subst e
    exact I1.fpOk (Nat.le_refl _) (I1.hok.fresh (Nat.le_refl _))
theorem ci_seq (h : CE X w e δ) : CI X w tg e (iSeq δ) := by
  obtain ⟨te, p1, s1⟩ := h
  refine ⟨_, pi_seq p1, fun ρ μ σ G H m en me R q => ?_⟩
  refine s1 ρ μ σ G H m en me _ (Post.of_bind q fun x μ1 G1 H1 m1 _ st1 me1 q1 v rv => ?_)
  cases x with
  | m n => exact q1.elim
  | d x =>
    simp only at q1
    cases x with
    | list xs =>
      simp only [seqOf] at q1
      cases rv with
      | lst h1 h2 => exact .inl ⟨_, rfl, ⟨_, SqL.of (me1.ex _ _ h1)⟩, q1 G1 H1 m1 Stp.refl me1 _ (wk_lst h1 h2)⟩
    | tuple xs =>
      simp only [seqOf] at q1
      cases rv with
      | tup h1 h2 => exact .inr ⟨_, rfl, ⟨_, SqT.same me1.ex h1⟩, q1 G1 H1 m1 Stp.refl me1 _ (wk_tup h1 h2)⟩
    | none => exact q1.elim
    | bool _ => exact q1.elim
    | int _ => exact q1.elim
    | str _ => exact q1.elim
    | dict _ => exact q1.elim
theorem ci_rng1 {p : Pos} (hm : X.mg "range" = none) (ha : CA X w [a] δs) (hg : Gl X "range" := by rfl) (hs : starEach [a] X.env = [(false, eval a X.env)] := by rfl) : CI X w tg (.Call (.Name "range" p) [a] [] pos) (iRng1 δs) := by
  obtain ⟨te, p1, s1⟩ := ha
  refine ⟨_, pi_range1 hg hm p1 hs, fun ρ μ σ G H m en me R q => ?_⟩
  refine s1 ρ μ σ G H m en me _ (Post.of_bind q fun x μ1 G1 H1 m1 _ st1 me1 q1 v rv => ?_)
  split at q1
  · split at q1
    · rename_i hj
      have hj' := of_decide_eq_true hj
      unfold lim at hj'
      cases rv with
      | cons r1 r2 =>
        cases r2
        cases r1
        exact ⟨_, rfl, by omega, by omega, q1 G1 H1 m1 Stp.refl me1 _ wk_rng⟩
    · exact q1.elim
  · exact q1.elim
theorem ci_rng2 {p : Pos} (hm : X.mg "range" = none) (ha : CA X w [a, b] δs) (hg : Gl X "range" := by rfl) (hs : starEach [a, b] X.env = [(false, eval a X.env), (false, eval b X.env)] := by rfl) (hs2 : starEach [b] X.env = [(false, eval b X.env)] := by rfl) : CI X w tg (.Call (.Name "range" p) [a, b] [] pos) (iRng2 δs) := by
  obtain ⟨te, p1, s1⟩ := ha
  refine ⟨_, pi_range2 hg hm p1 hs hs2, fun ρ μ σ G H m en me R q => ?_⟩
  refine s1 ρ μ σ G H m en me _ (Post.of_bind q fun x μ1 G1 H1 m1 _ st1 me1 q1 v rv => ?_)
  split at q1
  · split at q1
    · rename_i hj
      have hj' := of_decide_eq_true hj
      unfold lim at hj'
      cases rv with
      | cons r1 r2 =>
        cases r1
        cases r2 with
        | cons r3 r4 =>
          cases r3
          cases r4
          exact ⟨_, _, rfl, ⟨by omega, by omega, by omega, by omega⟩, q1 G1 H1 m1 Stp.refl me1 _ wk_rng⟩
    · exact q1.elim
  · exact q1.elim
theorem zip_get : ∀ {xs ys : List PyData} {i : Nat} {d : PyData}, (zipD xs ys)[i]? = some d → ∃ x y, xs[i]? = some x ∧ ys[i]? = some y ∧ d = .tuple [x, y]
  | [], _, i, d, h => by simp [zipD] at h
  | _ :: _, [], i, d, h => by simp [zipD] at h
  | x :: xs, y :: ys, 0, d, h => by
    simp [zipD] at h
    exact ⟨x, y, rfl, rfl, h.symm⟩
  | x :: xs, y :: ys, i + 1, d, h => by
    have h' : (zipD xs ys)[i]? = some d := by simpa [zipD] using h
    obtain ⟨x', y', h1, h2, h3⟩ := zip_get h'
    exact ⟨x', y', by simpa using h1, by simpa using h2, h3⟩
theorem zip_len : ∀ {xs ys : List PyData}, (zipD xs ys).length = min xs.length ys.length
  | [], _ => by simp [zipD]
  | _ :: _, [] => by simp [zipD]
  | x :: xs, y :: ys => by
    rw [show zipD (x :: xs) (y :: ys) = .tuple [x, y] :: zipD xs ys from rfl, List.length_cons, zip_len, List.length_cons, List.length_cons]
    omega
theorem wk_zipL {K : PySem.W.Frag} {G : Hp} {m : List Addr} {a b : Addr} {vs ws : List V} {xs ys : List PyData} (h : G a = some (.lst vs)) (d : DqAll K G vs xs) (h' : G b = some (.lst ws)) (d' : DqAll K G ws ys) : Wk K (Itz K a b) G m (zipD xs ys) := by
  intro G2 H m2 μ2 g me i
  have hH : H a = some (.lst vs) := me.ex _ _ (g.ex _ _ h)
  have hH' : H b = some (.lst ws) := me.ex _ _ (g.ex _ _ h')
  refine ⟨fun y hy => ?_, fun hi => ⟨vs, ws, SqL.of hH, SqL.of hH', by rw [DqAll.length d, DqAll.length d']; rw [zip_len] at hi; omega⟩⟩
  obtain ⟨x1, y1, e1, e2, rfl⟩ := zip_get hy
  obtain ⟨v, h1, h2⟩ := DqAll.get (DqAll.mono g.ex _ _ d) e1
  obtain ⟨v', h1', h2'⟩ := DqAll.get (DqAll.mono g.ex _ _ d') e2
  refine ⟨⟨vs, ws, v, v', SqL.of hH, SqL.of hH', h1, h1'⟩, fun u H' hv => ?_⟩
  obtain ⟨T, x, y, rfl, hT, rfl, q1, q2⟩ := hv
  have e3 := q1 vs (SqL.of hH)
  have e4 := q2 ws (SqL.of hH')
  rw [h1] at e3
  rw [h1'] at e4
  cases e3
  cases e4
  obtain ⟨me', st'⟩ := me.push (o := .tup [v, v']) hT
  exact ⟨_, st', me', dq_tup (me.dead hT).1 (.cons h2 (.cons h2' .nil))⟩
theorem wk_zipT {K : PySem.W.Frag} {G : Hp} {m : List Addr} {a b : Addr} {vs ws : List V} {xs ys : List PyData} (h : SqT K G a vs) (d : DqAll K G vs xs) (h' : SqT K G b ws) (d' : DqAll K G ws ys) : Wk K (RZ.ItzT K a b) G m (zipD xs ys) := by
  intro G2 H m2 μ2 g me i
  have hH : SqT K H a vs := SqT.same me.ex (SqT.same g.ex h)
  have hH' : SqT K H b ws := SqT.same me.ex (SqT.same g.ex h')
  refine ⟨fun y hy => ?_, fun hi => ⟨vs, ws, hH, hH', by rw [DqAll.length d, DqAll.length d']; rw [zip_len] at hi; omega⟩⟩
  obtain ⟨x1, y1, e1, e2, rfl⟩ := zip_get hy
  obtain ⟨v, h1, h2⟩ := DqAll.get (DqAll.mono g.ex _ _ d) e1
  obtain ⟨v', h1', h2'⟩ := DqAll.get (DqAll.mono g.ex _ _ d') e2
  refine ⟨⟨vs, ws, v, v', hH, hH', h1, h1'⟩, fun u H' hv => ?_⟩
  obtain ⟨T, x, y, rfl, hT, rfl, q1, q2⟩ := hv
  have e3 := q1 vs hH
  have e4 := q2 ws hH'
  rw [h1] at e3
  rw [h1'] at e4
  cases e3
  cases e4
  obtain ⟨me', st'⟩ := me.push (o := .tup [v, v']) hT
  exact ⟨_, st', me', dq_tup (me.dead hT).1 (.cons h2 (.cons h2' .nil))⟩
theorem ci_zip {p tpos : Pos} {elts : List Expr} {kk : Nat} (hm : X.mg "zip" = none) (ha : CA X w [a, b] δs) (hg : Gl X "zip" := by rfl)
    (hs : starEach [a, b] X.env = (false, eval a X.env) :: starEach [b] X.env := by rfl) (hpl : (backTo pos (starEach [b] X.env)).any (·.1) = false := by rfl) : CI X w (.Tuple elts kk tpos) (.Call (.Name "zip" p) [a, b] [] pos) (iZip δs) := by
  obtain ⟨te, p1, s1⟩ := ha
  refine ⟨_, RZ.pi_zipA hg hm p1 hs hpl, fun ρ μ σ G H m en me R q => ?_⟩
  refine s1 ρ μ σ G H m en me _ (Post.of_bind q fun x μ1 G1 H1 m1 _ st1 me1 q1 v rv => ?_)
  split at q1
  · cases rv with
    | cons r1 r2 =>
      cases r2 with
      | cons r3 r4 =>
        cases r4
        cases r1 with
        | lst h1 h2 =>
          cases r3 with
          | lst h3 h4 => exact ⟨_, _, _, _, rfl, .inl ⟨SqL.of (me1.ex _ _ h1), SqL.of (me1.ex _ _ h3), q1 G1 H1 m1 Stp.refl me1 _ (wk_zipL h1 h2 h3 h4)⟩⟩
  · cases rv with
    | cons r1 r2 =>
      cases r2 with
      | cons r3 r4 =>
        cases r4
        cases r1 with
        | tup h1 h2 =>
          cases r3 with
          | tup h3 h4 => exact ⟨_, _, _, _, rfl, .inr ⟨SqT.same me1.ex h1, SqT.same me1.ex h3, q1 G1 H1 m1 Stp.refl me1 _ (wk_zipT h1 h2 h3 h4)⟩⟩
  · exact q1.elim
end
/-! ### comprehensions -/
/-- the tests of a clause -/
structure CTs (X : Cx) (w : Wish) (ifs : List Expr) (δ : DT) : Prop where
  ex : ∃ tt, PTs X ifs tt ∧ SimT X.K w tt δ
section
variable {X : Cx} {w : Wish} {tg e a b c elt iter : Expr} {es ifs : List Expr} {δ δa δb δc δe : DE} {δs : DA} {δi : DI} {γ : DG} {τ τ' : DT} {pos : Pos}
theorem cts_nil : CTs X w [] bYes := ⟨_, pts_nil, fun ρ μ σ G H m en me Q q => q G H m Stp.refl me⟩
theorem cts_one (h : CT X w c τ) : CTs X w [c] τ := by
  obtain ⟨t, p1, s1⟩ := h
  exact ⟨_, pts_one p1, s1⟩
/-- the end of a comprehension: the list at D is known -/
def CPost (K : PySem.W.Frag) (G H : Hp) (m : List Addr) (D : Addr) (r : R (List PyData)) (Q : Hp → Prop) : Prop := match r with
  | .ok ys μ' => ∀ G' H' m' yv, Stp G H m G' H' m' → MemR K G' H' m' μ' → H' D = some (.lst yv) → G' D = none → D ∉ m' → DqAll K G' yv ys → Q H'
  | _ => False
/-- where a comprehension stands: behind the items ahead of i -/
structure CAt (K : PySem.W.Frag) (Gs Hs : Hp) (ms : List Addr) (D : Addr) (γ : DG) (τ : DT) (δe : DE) (ρ : Env) (xs : List PyData) (Q : Hp → Prop) (i : Nat) (H : Hp) : Prop where
  ex : ∃ G m μ acc av, Stp Gs Hs ms G H m ∧ MemR K G H m μ ∧ H D = some (.lst av) ∧ G D = none ∧ D ∉ m ∧ DqAll K G av acc ∧ CPost K Gs Hs ms D (compGo γ τ δe ρ (xs.drop i) acc μ) Q
theorem post_bindN {K : PySem.W.Frag} {w : Wish} {σ : St} {G H : Hp} {m : List Addr} {α : Type} {r : R α} {k : α → Hp → Hp → List Addr → Prop} {Gs Hs : Hp} {ms : List Addr} {D : Addr} {f : α → Mem → R (List PyData)} {Q : Hp → Prop} (q : CPost K Gs Hs ms D (r.bindN f) Q)
    (hk : ∀ a μ1 G1 H1 m1, Stp G H m G1 H1 m1 → MemR K G1 H1 m1 μ1 → CPost K Gs Hs ms D (f a μ1) Q → k a G1 H1 m1) : Post K w σ G H m r k := by
  cases r with
  | ok a μ1 => exact fun G1 H1 m1 st me => hk a μ1 G1 H1 m1 st me q
  | err e μ1 => exact q.elim
  | no => exact q.elim
theorem comp_turn {K : PySem.W.Frag} {w : Wish} {J : It} {g : TG} {tt : TT} {te : TE} {is vs : List Nat} {D : Addr} {Q : Hp → Prop} {ρ : Env} {σ : St} {xs : List PyData} (hg : SimG K is g γ) (hi : ∀ i ∈ is, i ∈ vs) (ht : SimT K w tt τ) (he : SimE K w te δe)
    {Gs Hs : Hp} {ms : List Addr} (hDs : Hs D = none) (wk : Wk K J Gs ms xs) (en0 : EnvR K Gs ms ρ (wipe σ vs)) {i : Nat} {H : Hp} (c : CAt K Gs Hs ms D γ τ δe ρ xs Q i H) :
    (xs.length ≤ i → J.stop i H ∧ Q H) ∧ (i < xs.length → J.go i H ∧ ∀ x H', J.yld i H x H' → g x (wipe σ vs) H' fun σ2 H2 => wipe σ2 vs = wipe σ vs ∧ tt σ2 H2 fun b H3 =>
        if b = true then te σ2 H3 fun y H4 => ∃ acc, H4 D = some (.lst acc) ∧ acc.length < sizeLine ∧ CAt K Gs Hs ms D γ τ δe ρ xs Q (i + 1) (upd H4 D (.lst (acc ++ [y]))) else CAt K Gs Hs ms D γ τ δe ρ xs Q (i + 1) H3) := by
  obtain ⟨G, m, μ, acc, av, st, me, hD, hG, hm, hd, q⟩ := c.ex
  obtain ⟨wgo, wstop⟩ := wk G H m μ st.gr me i
  refine ⟨fun hl => ⟨wstop hl, ?_⟩, fun hl => ?_⟩
  · have ex : xs.drop i = [] := List.drop_eq_nil_of_le hl
    rw [ex] at q
    exact q G H m av st me hD hG hm hd
  · have ex : xs.drop i = xs[i] :: xs.drop (i + 1) := List.drop_eq_getElem_cons hl
    obtain ⟨h1, h2⟩ := wgo xs[i] (List.getElem?_eq_getElem hl)
    refine ⟨h1, fun x H' hy => ?_⟩
    obtain ⟨G1, st1, me1, dx⟩ := h2 x H' hy
    rw [ex] at q
    unfold compGo at q
    have stA := st.trans st1
    have hD1 := st1.kp D _ hD hm
    have hG1 := st1.gn D hG (by rw [hD]; intro z; cases z) hm
    cases e1 : γ (.d xs[i]) ρ with
    | none =>
      simp only [e1] at q
      exact q.elim
    | some ρ1 =>
      simp only [e1] at q
      refine hg (.d xs[i]) _ ρ1 (wipe σ vs) G1 H' m μ x e1 (en0.mono stA.gr) me1 dx _ fun σ2 en2 tc => ⟨(tc vs hi).trans (wipe_wipe σ vs), ?_⟩
      refine ht ρ1 μ σ2 G1 H' m en2 me1 _ (post_bindN q fun bb μ1 G2 H2 m2 st2 me2 q2 => ?_)
      have stB := stA.trans st2
      have hD2 := st2.kp D _ hD1 hm
      have hG2 := st2.gn D hG1 (by rw [hD1]; intro z; cases z) hm
      have hm2 : D ∉ m2 := fun z => by
        have := st2.fr D z hm
        rw [hD1] at this
        cases this
      show (if bb = true then te σ2 H2 fun y H4 => ∃ acc, H4 D = some (.lst acc) ∧ acc.length < sizeLine ∧ CAt K Gs Hs ms D γ τ δe ρ xs Q (i + 1) (upd H4 D (.lst (acc ++ [y]))) else CAt K Gs Hs ms D γ τ δe ρ xs Q (i + 1) H2)
      cases bb with
      | false =>
        rw [if_neg Bool.false_ne_true] at q2 ⊢
        exact ⟨G2, m2, μ1, acc, av, stB, me2, hD2, hG2, hm2, DqAll.mono (st1.gr.trans st2.gr).ex _ _ hd, q2⟩
      | true =>
        rw [if_pos rfl] at q2 ⊢
        refine he ρ1 μ1 σ2 G2 H2 m2 (en2.mono st2.gr) me2 _ (post_bindN q2 fun s μ2 G3 H3 m3 st3 me3 q3 yv ry => ?_)
        cases s with
        | m n => exact q3.elim
        | d y =>
          simp only at q3
          split at q3
          · rename_i hsm
            have stC := stB.trans st3
            have hD3 := st3.kp D _ hD2 hm2
            have hG3 := st3.gn D hG2 (by rw [hD2]; intro z; cases z) hm2
            have hm3 : D ∉ m3 := fun z => by
              have := st3.fr D z hm2
              rw [hD2] at this
              cases this
            have hd3 := DqAll.mono ((st1.gr.trans st2.gr).trans st3.gr).ex _ _ hd
            refine ⟨av, hD3, by rw [DqAll.length hd3]; exact small_lt hsm, ⟨G3, m3, μ2, acc ++ [y], av ++ [yv], ?_, ?_, upd_same, hG3, hm3, DqAll.append hd3 (.cons ry .nil), q3⟩⟩
            · refine ⟨stC.gr, fun b o e n => ?_, stC.fr, stC.gn⟩
              have hb : b ≠ D := fun z => by
                subst z
                rw [hDs] at e
                cases e
              rw [upd_ne hb]
              exact stC.kp b o e n
            · refine ⟨same_upd2 me3.ex hG3, me3.len, me3.nd, fun j a o h1 h2 => ?_⟩
              have ha : a ≠ D := fun z => hm3 (z ▸ List.mem_of_getElem? h1)
              refine MO.mono (Same.refl _) (fun xs z => ?_) (fun u z => ?_) (me3.at_ j a o h1 h2)
              · subst z
                exact (me3.at_ j a _ h1 h2).1
              · rw [upd_ne ha]
                exact z
          · exact q3.elim
end
end Bz
set_option Elab.async false
set_option linter.all false
set_option maxRecDepth 100000
set_option maxHeartbeats 2000000
/-! Rules of comprehensions, of statements, of defs. -/
namespace Bz
open PySem PySem.Spec PyProof.Rows L2

/-! ### the widest readings -/
def wE (K : PySem.W.Frag) (w : Wish) (δ : DE) : TE := fun σ H Q => ∃ ρ μ G m, EnvR K G m ρ σ ∧ MemR K G H m μ ∧ EPost K w σ G H m (δ ρ μ) Q
def wT (K : PySem.W.Frag) (w : Wish) (δ : DT) : TT := fun σ H Q => ∃ ρ μ G m, EnvR K G m ρ σ ∧ MemR K G H m μ ∧ TPost K w σ G H m (δ ρ μ) Q
def wG (K : PySem.W.Frag) (is : List Nat) (γ : DG) : TG := fun v σ H Q => ∃ s ρ ρ1 G m μ, γ s ρ = some ρ1 ∧ EnvR K G m ρ σ ∧ MemR K G H m μ ∧ RpS K G m s v ∧ ∀ σ', EnvR K G m ρ1 σ' → Tch is σ σ' → Q σ' H
section
variable {X : Cx} {w : Wish} {tg e a b c elt iter : Expr} {es ifs : List Expr} {δ δa δb δc δe : DE} {δs : DA} {δi : DI} {γ : DG} {τ τ' : DT} {pos : Pos} {is : List Nat}
theorem CE.wide (h : CE X w e δ) : PE X e (wE X.K w δ) := by
  obtain ⟨te, p, s⟩ := h
  exact ⟨fun pins st σ H Q I ⟨ρ, μ, G, m, en, me, q⟩ => p.run pins st σ H Q I (s ρ μ σ G H m en me Q q)⟩
theorem CTs.wide (h : CTs X w ifs τ) : PTs X ifs (wT X.K w τ) := by
  obtain ⟨te, p, s⟩ := h
  exact ⟨fun pins st σ H Q I ⟨ρ, μ, G, m, en, me, q⟩ => p.run pins st σ H Q I (s ρ μ σ G H m en me Q q)⟩
theorem CG.wide (h : CG X is e γ) : PG X e (wG X.K is γ) := by
  obtain ⟨g, p, sg⟩ := h
  exact ⟨fun pins st σ H v u Q I r ⟨s, ρ, ρ1, G, m, μ, e1, en, me, rs, q⟩ => p.run pins st σ H v u Q I r (sg s ρ ρ1 σ G H m μ v e1 en me rs Q q)⟩
theorem sim_wE {K : PySem.W.Frag} : SimE K w (wE K w δ) δ := fun ρ μ σ G H m en me Q q => ⟨ρ, μ, G, m, en, me, q⟩
theorem sim_wT {K : PySem.W.Frag} : SimT K w (wT K w τ) τ := fun ρ μ σ G H m en me Q q => ⟨ρ, μ, G, m, en, me, q⟩
theorem sim_wG {K : PySem.W.Frag} : SimG K is (wG K is γ) γ := fun s ρ ρ1 σ G H m μ v e1 en me rs Q q => ⟨s, ρ, ρ1, G, m, μ, e1, en, me, rs, q⟩

/-! ### comprehensions -/
theorem comp_end {K : PySem.W.Frag} {w : Wish} {σ : St} {G H : Hp} {m : List Addr} {r : R (List PyData)} {Q : VK} {D : Addr} (hDs : H D = none) (q : EPost K w σ G H m (r.bindN fun ys μ2 => .ok (.d (.list ys)) μ2) Q) :
    CPost K G H m D r fun H' => Q (.ref D) H' := by
  cases r with
  | ok ys μ2 =>
    intro G' H' m' yv st me hD hG hm hd
    refine q (upd G' D (.lst yv)) H' m' ⟨⟨st.gr.ex.trans (same_upd hG), st.gr.pre⟩, st.kp, st.fr, fun b h1 h2 h3 => ?_⟩ ⟨fun b u e => ?_, me.len, me.nd, fun i a o h1 h2 => ?_⟩ _ (dq_lst hG hd)
    · rw [upd_ne (fun z => h2 (by rw [z]; exact hDs))]
      exact st.gn b h1 h2 h3
    · by_cases hb : b = D
      · subst hb
        rw [upd_same] at e
        cases e
        exact hD
      · rw [upd_ne hb] at e
        exact me.ex b u e
    · have ha : a ≠ D := fun z => hm (z ▸ List.mem_of_getElem? h1)
      refine MO.mono (same_upd hG) (fun xs z => ?_) (fun u z => z) (me.at_ i a o h1 h2)
      subst z
      rw [upd_ne ha]
      exact (me.at_ i a _ h1 h2).1
  | err e μ => exact q.elim
  | no => exact q.elim
theorem sim_comp {K : PySem.W.Frag} {w : Wish} {wi : TI} {vs : List Nat} (hi : ∀ i ∈ is, i ∈ vs) (s : SimI K w wi δi) : SimE K w (tLc wi (wG K is γ) (wT K w.off τ) (wE K w.off δe) vs) (eComp δi γ τ δe vs) := by
  intro ρ μ σ G H m en me Q q
  refine s ρ μ σ G H m en me _ (Post.of_bind q fun xs μ1 G1 H1 m1 _ st1 me1 q1 J wk => ?_)
  intro D hD
  have en1 := (en.mono st1.gr).wipe vs
  have cp := comp_end hD q1
  obtain ⟨g0, nm⟩ := me1.dead hD
  have start : CAt K G1 H1 m1 D γ τ δe (wipeD ρ vs) xs (fun H' => Q (.ref D) H') 0 (upd H1 D (.lst [])) := by
    refine ⟨G1, m1, μ1, [], [], ⟨Gr.refl, fun b o e n => ?_, fun a ha n => absurd ha n, fun _ e _ _ => e⟩, ⟨same_upd2 me1.ex g0, me1.len, me1.nd, fun i a o h1 h2 => ?_⟩, upd_same, g0, nm, .nil, cp⟩
    · rw [upd_ne (ne_of_none e hD)]
      exact e
    · have ha : a ≠ D := fun z => nm (z ▸ List.mem_of_getElem? h1)
      refine MO.mono (Same.refl _) (fun xs z => ?_) (fun u z => ?_) (me1.at_ i a o h1 h2)
      · subst z
        exact (me1.at_ i a _ h1 h2).1
      · rw [upd_ne ha]
        exact z
  refine ⟨fun i n H' => n = xs.length - i ∧ CAt K G1 H1 m1 D γ τ δe (wipeD ρ vs) xs (fun H' => Q (.ref D) H') i H', ⟨xs.length, rfl, start⟩, ?_⟩
  rintro i n H' ⟨rfl, c⟩
  obtain ⟨t1, t2⟩ := comp_turn (σ := σ) (w := w.off) (sim_wG (is := is)) hi sim_wT sim_wE hD wk en1 c
  by_cases hl : xs.length ≤ i
  · exact .inl (t1 hl)
  · obtain ⟨h1, h2⟩ := t2 (by omega)
    exact .inr ⟨h1, fun H2 => CAt K G1 H1 m1 D γ τ δe (wipeD ρ vs) xs (fun H' => Q (.ref D) H') (i + 1) H2, fun H2 c2 => ⟨xs.length - (i + 1), by omega, rfl, c2⟩, h2⟩
theorem ce_comp {scope : Scope} {own : List (Str × Nat)} {vs : List Nat} (hc : X.calm = true) (hN : X.N.Nodup) (hi : CI X w tg iter δi) (ok : BlkOk X.N X.env.scope scope own) (his : ∀ i ∈ is, i ∈ own.map (·.2))
    (hg : ∀ (s : Shared) (H : Hp) (C : Addr) (cl : List (Str × Addr)) (fp : List Addr), CG (X.blk s H scope (compEnvC scope cl C X.env) fp) is tg γ) (ht : ∀ (s : Shared) (H : Hp) (C : Addr) (cl : List (Str × Addr)) (fp : List Addr), CTs (X.blk s H scope (compEnvC scope cl C X.env) fp) w.off ifs τ)
    (he : ∀ (s : Shared) (H : Hp) (C : Addr) (cl : List (Str × Addr)) (fp : List Addr), CE (X.blk s H scope (compEnvC scope cl C X.env) fp) w.off elt δe) (hs : ∀ x, foldedSetIterable iter X.env x = pure x := by intro _; rfl) (hvs : vs = own.map (·.2) := by rfl) :
    CE X w (.ListComp elt [⟨tg, iter, ifs, 0⟩] scope pos) (eComp δi γ τ δe vs) := by
  subst hvs
  obtain ⟨wi, p1, s1⟩ := hi
  exact ⟨_, pe_lc hc hN p1 ok (fun s H C cl fp => (hg s H C cl fp).wide) (fun s H C cl fp => (ht s H C cl fp).wide) (fun s H C cl fp => (he s H C cl fp).wide) hs, sim_comp his s1⟩
end

/-! ### statements -/
def SPost (K : PySem.W.Frag) (w : Wish) (G H : Hp) (m : List Addr) (o : Out) (D : Ends) : Prop := match o with
  | .nx ρ μ => ∀ σ' G' H' m', Stp G H m G' H' m' → MemR K G' H' m' μ → EnvR K G' m' ρ σ' → D.nx σ' H'
  | .rt s μ => ∀ v G' H' m', Stp G H m G' H' m' → MemR K G' H' m' μ → RpS K G' m' s v → D.rt v H'
  | .bk ρ μ => ∀ σ' G' H' m', Stp G H m G' H' m' → MemR K G' H' m' μ → EnvR K G' m' ρ σ' → D.bk σ' H'
  | .ct ρ μ => ∀ σ' G' H' m', Stp G H m G' H' m' → MemR K G' H' m' μ → EnvR K G' m' ρ σ' → D.ct σ' H'
  | .err e μ => ErrS K w G H m e μ
  | .no => False
def SimS (K : PySem.W.Frag) (w : Wish) (ts : TS) (β : DS) : Prop := ∀ ρ μ σ G H m, EnvR K G m ρ σ → MemR K G H m μ → ∀ D, SPost K w G H m (β ρ μ) D → ts D σ H
structure CS (X : Cx) (w : Wish) (st : Stmt) (β : DS) : Prop where
  ex : ∃ ts, PS X st ts ∧ SimS X.K w ts β
structure CSs (X : Cx) (w : Wish) (st : List Stmt) (β : DS) : Prop where
  ex : ∃ ts, PSs X st ts ∧ SimS X.K w ts β
section
variable {K : PySem.W.Frag} {w : Wish} {G G' H H' : Hp} {m m' : List Addr} {μ : Mem} {σ : St} {ρ : Env} {D : Ends}
theorem SPost.mono {o : Out} (g : Stp G H m G' H' m') (h : SPost K w G H m o D) : SPost K w G' H' m' o D := by
  cases o with
  | nx ρ μ => exact fun σ1 G1 H1 m1 g1 => h σ1 G1 H1 m1 (g.trans g1)
  | rt s μ => exact fun v G1 H1 m1 g1 => h v G1 H1 m1 (g.trans g1)
  | bk ρ μ => exact fun σ1 G1 H1 m1 g1 => h σ1 G1 H1 m1 (g.trans g1)
  | ct ρ μ => exact fun σ1 G1 H1 m1 g1 => h σ1 G1 H1 m1 (g.trans g1)
  | err e μ => exact ErrS.mono g h
  | no => exact h
/-- an expression first -/
theorem SPost.of_out {α : Type} {r : R α} {f : α → Mem → Out} {k : α → Hp → Hp → List Addr → Prop} (q : SPost K w G H m (r.out f) D)
    (hk : ∀ a μ1 G1 H1 m1, r = .ok a μ1 → Stp G H m G1 H1 m1 → MemR K G1 H1 m1 μ1 → SPost K w G1 H1 m1 (f a μ1) D → k a G1 H1 m1) : Post K w σ G H m r k := by
  cases r with
  | ok a μ1 => exact fun G1 H1 m1 st me => hk a μ1 G1 H1 m1 rfl st me (SPost.mono st q)
  | err e μ1 => exact ErrS.at_ q
  | no => exact q
end
section
variable {X : Cx} {w : Wish} {tg e a b c elt iter : Expr} {es ifs : List Expr} {δ δa δb δc δe : DE} {δs : DA} {δi : DI} {γ : DG} {τ τ' : DT} {pos : Pos} {is : List Nat} {st : Stmt} {sts body : List Stmt} {β β' : DS}
theorem css_nil : CSs X w [] sNx := ⟨_, pss_nil, fun ρ μ σ G H m en me D q => q σ G H m Stp.refl me en⟩
theorem sim_seq {K : PySem.W.Frag} {t u : TS} (h1 : SimS K w t β) (h2 : SimS K w u β') : SimS K w (tSeq t u) (sSeq β β') := by
  intro ρ μ σ G H m en me D q
  refine h1 ρ μ σ G H m en me _ ?_
  unfold sSeq at q
  cases e : β ρ μ with
  | nx ρ1 μ1 =>
    rw [e] at q
    exact fun σ' G' H' m' st me' en' => h2 ρ1 μ1 σ' G' H' m' en' me' D (SPost.mono st q)
  | rt s μ1 =>
    rw [e] at q
    exact q
  | bk ρ1 μ1 =>
    rw [e] at q
    exact q
  | ct ρ1 μ1 =>
    rw [e] at q
    exact q
  | err ex μ1 =>
    rw [e] at q
    exact q
  | no =>
    rw [e] at q
    exact q
theorem css_cons (h1 : CS X w st β) (h2 : CSs X w sts β') : CSs X w (st :: sts) (sSeq β β') := by
  obtain ⟨t, p1, s1⟩ := h1
  obtain ⟨u, p2, s2⟩ := h2
  exact ⟨_, pss_cons p1 p2, sim_seq s1 s2⟩
theorem css_one (h1 : CS X w st β) : CSs X w [st] β := by
  obtain ⟨t, p1, s1⟩ := h1
  exact ⟨_, pss_one p1, s1⟩
theorem cs_pass : CS X w (.Pass pos) sNx := ⟨_, ps_pass, fun ρ μ σ G H m en me D q => q σ G H m Stp.refl me en⟩
theorem cs_break : CS X w (.Break pos) sBk := ⟨_, ps_break, fun ρ μ σ G H m en me D q => q σ G H m Stp.refl me en⟩
theorem cs_continue : CS X w (.Continue pos) sCt := ⟨_, ps_continue, fun ρ μ σ G H m en me D q => q σ G H m Stp.refl me en⟩
/-- what is never come to -/
theorem cs_no : CS X w st sNo := ⟨_, ps_never, fun ρ μ σ G H m en me D q => q⟩
theorem cs_expr (h : CE X w e δ) (hs : swapsWith e none pos.line X.env = pure false := by rfl) : CS X w (.Expr e pos) (sDrop δ) := by
  obtain ⟨te, p1, s1⟩ := h
  refine ⟨_, ps_expr p1 hs, fun ρ μ σ G H m en me D q => ?_⟩
  refine s1 ρ μ σ G H m en me _ (SPost.of_out q fun s μ1 G1 H1 m1 _ st1 me1 q1 v rv => ?_)
  exact q1 σ G1 H1 m1 Stp.refl me1 (en.mono st1.gr)
theorem cs_ret (h : CE X w e δ) : CS X w (.Return (some e) pos) (sRet δ) := by
  obtain ⟨te, p1, s1⟩ := h
  refine ⟨_, ps_ret p1, fun ρ μ σ G H m en me D q => ?_⟩
  refine s1 ρ μ σ G H m en me _ (SPost.of_out q fun s μ1 G1 H1 m1 _ st1 me1 q1 v rv => ?_)
  exact q1 v G1 H1 m1 Stp.refl me1 rv
theorem cs_retN : CS X w (.Return none pos) sRetN := ⟨_, ps_retN, fun ρ μ σ G H m en me D q => q .non G H m Stp.refl me .non⟩
theorem cs_if {sa sb : List Stmt} (hc : CT X w c τ) (ha : CSs X w sa β) (hb : CSs X w sb β') : CS X w (.If c sa sb pos) (sIf τ β β') := by
  obtain ⟨tc, p0, s0⟩ := hc
  obtain ⟨ta, p1, s1⟩ := ha
  obtain ⟨tb, p2, s2⟩ := hb
  refine ⟨_, ps_if p0 p1 p2, fun ρ μ σ G H m en me D q => ?_⟩
  refine s0 ρ μ σ G H m en me _ (SPost.of_out q fun x μ1 G1 H1 m1 _ st1 me1 q1 => ?_)
  cases x with
  | true => exact s1 ρ μ1 σ G1 H1 m1 (en.mono st1.gr) me1 D q1
  | false => exact s2 ρ μ1 σ G1 H1 m1 (en.mono st1.gr) me1 D q1
theorem sim_asg {K : PySem.W.Frag} {te : TE} {g : TG} (s1 : SimE K w te δ) (sg : SimG K is g γ) : SimS K w (tAsg te g) (sAsg δ γ) := by
  intro ρ μ σ G H m en me D q
  refine s1 ρ μ σ G H m en me _ (SPost.of_out q fun s μ1 G1 H1 m1 _ st1 me1 q1 v rv => ?_)
  cases e : γ s ρ with
  | none =>
    simp only [e] at q1
    exact q1.elim
  | some ρ1 =>
    simp only [e] at q1
    exact sg s ρ ρ1 σ G1 H1 m1 μ1 v e (en.mono st1.gr) me1 rv _ fun σ' en' _ => q1 σ' G1 H1 m1 Stp.refl me1 en'
/-- name = e -/
theorem cs_set (i : Nat) {x : Str} {pos' : Pos} (hN : X.N.Nodup) (h : CE X w e δ) (hi : X.N[i]? = some x := by rfl) (hx : Loc X.env.scope x := by first | exact Or.inl rfl | exact Or.inr rfl) (hs : swapsWith e (some (.Name x pos')) pos.line X.env = pure false := by rfl)
    (hf : X.fn x = true ∨ X.env.scope.names.lookup x = some .local := by first | exact .inl rfl | exact .inr rfl) : CS X w (.Assign [.Name x pos'] e pos) (sAsg δ (gNm i)) := by
  obtain ⟨te, p1, s1⟩ := h
  refine ⟨_, ps_set hN hi hx p1 hs hf, sim_asg (is := [i]) s1 fun s ρ ρ1 σ G H m μ v h en me r Q q => ?_⟩
  cases h
  exact q _ (en.set r) Tch.set
/-- target = e -/
theorem cs_asg (h : CE X w e δ) (hg : CG X is tg γ) (hs : swapsWithSole [tg] e pos.line X.env = pure false := by rfl) (hw : swappedStores [tg] e X.env = pure none := by rfl) (h1 : (assignEach [tg] X.env).map (·.2) = [assign tg X.env] := by rfl) : CS X w (.Assign [tg] e pos) (sAsg δ γ) := by
  obtain ⟨te, p1, s1⟩ := h
  obtain ⟨g, p2, s2⟩ := hg
  exact ⟨_, ps_asg p1 p2 hs hw h1, sim_asg s1 s2⟩
/-- name = [..], on one line, the name a local -/
theorem cs_setC (i : Nat) {y : Str} {py spos : Pos} {scope : Scope} {own : List (Str × Nat)} {vs : List Nat} (hc : X.calm = true) (hN : X.N.Nodup) (hi : CI X w tg iter δi) (ok : BlkOk X.N X.env.scope scope own) (his : ∀ i ∈ is, i ∈ own.map (·.2))
    (hg : ∀ (s : Shared) (H : Hp) (C : Addr) (cl : List (Str × Addr)) (fp : List Addr), CG (X.blk s H scope (compEnvC scope cl C X.env) fp) is tg γ) (ht : ∀ (s : Shared) (H : Hp) (C : Addr) (cl : List (Str × Addr)) (fp : List Addr), CTs (X.blk s H scope (compEnvC scope cl C X.env) fp) w.off ifs τ)
    (he : ∀ (s : Shared) (H : Hp) (C : Addr) (cl : List (Str × Addr)) (fp : List Addr), CE (X.blk s H scope (compEnvC scope cl C X.env) fp) w.off elt δe)
    (hsw : swapsWith (.ListComp elt [⟨tg, iter, ifs, 0⟩] scope pos) (some (.Name y py)) spos.line X.env = pure true := by exact sw_true rfl rfl rfl (by decide +kernel))
    (hy : X.N[i]? = some y := by rfl) (hyl : X.env.scope.names.lookup y = some .local := by rfl) (hs : ∀ x, foldedSetIterable iter X.env x = pure x := by intro _; rfl) (hvs : vs = own.map (·.2) := by rfl) :
    CS X w (.Assign [.Name y py] (.ListComp elt [⟨tg, iter, ifs, 0⟩] scope pos) spos) (sAsg (eComp δi γ τ δe vs) (gNm i)) := by
  subst hvs
  obtain ⟨wi, p1, s1⟩ := hi
  refine ⟨_, ps_setLc hc hN hy hyl hsw p1 ok (fun s H C cl fp => (hg s H C cl fp).wide) (fun s H C cl fp => (ht s H C cl fp).wide) (fun s H C cl fp => (he s H C cl fp).wide) hs, sim_asg (is := [i]) (sim_comp his s1) fun s ρ ρ1 σ G H m μ v h en me r Q q => ?_⟩
  cases h
  exact q _ (en.set r) Tch.set
/-- a, b = e1, e2 with plain local names -/
theorem cs_par (i j : Nat) {x y : Str} {px py pt : Pos} {kt k2 pt2} (hc : X.calm = true) (hN : X.N.Nodup) (ha : CE X w a δa) (hb : CE X w b δb) (hi : X.N[i]? = some x := by rfl) (hj : X.N[j]? = some y := by rfl) (hij : i ≠ j := by decide)
    (hx : X.env.scope.names.lookup x = some .local := by rfl) (hy : X.env.scope.names.lookup y = some .local := by rfl)
    (hw : swappedStores [.Tuple [.Name x px, .Name y py] kt pt] (.Tuple [a, b] k2 pt2) X.env = pure (some [x, y]) := by rfl)
    (hs : swapsWithSole [.Tuple [.Name x px, .Name y py] kt pt] (.Tuple [a, b] k2 pt2) pos.line X.env = pure false := by rfl) (ss : starEach (a :: [b]) X.env = (false, eval a X.env) :: starEach [b] X.env := by rfl) (ss2 : starEach (b :: []) X.env = (false, eval b X.env) :: starEach [] X.env := by rfl) :
    CS X w (.Assign [.Tuple [.Name x px, .Name y py] kt pt] (.Tuple [a, b] k2 pt2) pos) (sAsg (eTup (aCons δa (aCons δb aNil))) (gTp [gNm i, gNm j])) := by
  obtain ⟨ta, p1, s1⟩ := ha
  obtain ⟨tb, p2, s2⟩ := hb
  refine ⟨_, ps_par hc hN hi hj hij hx hy (pa_cons p1 (pa_cons p2 pa_nil ss2) ss) hw hs, fun ρ μ σ G H m en me D q => ?_⟩
  have q' : SPost X.K w G H m ((δa ρ μ).out fun s μ1 => (δb ρ μ1).out fun t μ2 => match s, t with | .d x, .d y => .nx ((ρ.set i (some (.d x))).set j (some (.d y))) μ2 | _, _ => .no) D := by
    have e : sAsg (eTup (aCons δa (aCons δb aNil))) (gTp [gNm i, gNm j]) ρ μ = ((δa ρ μ).out fun s μ1 => (δb ρ μ1).out fun t μ2 => match s, t with | .d x, .d y => .nx ((ρ.set i (some (.d x))).set j (some (.d y))) μ2 | _, _ => .no) := by
      unfold sAsg eTup aCons
      cases δa ρ μ with
      | no => rfl
      | err _ _ => rfl
      | ok s μ1 =>
        simp only [R.bind, R.out]
        cases δb ρ μ1 with
        | no => rfl
        | err _ _ => rfl
        | ok t μ2 =>
          cases s <;> cases t <;> rfl
    rw [← e]
    exact q
  refine s1 ρ μ σ G H m en me _ (SPost.of_out q' fun s μ1 G1 H1 m1 _ st1 me1 q1 v rv => ?_)
  refine s2 ρ μ1 σ G1 H1 m1 (en.mono st1.gr) me1 _ (SPost.of_out q1 fun t μ2 G2 H2 m2 _ st2 me2 q2 u ru => ?_)
  split at q2
  · exact ⟨v, u, rfl, q2 _ G2 H2 m2 Stp.refl me2 ((((en.mono st1.gr).mono st2.gr).set (rv.mono st2.gr)).set ru)⟩
  · exact q2.elim

/-! ### for, while -/
theorem for_go {K : PySem.W.Frag} {g : TG} {tb : TS} {J : It} {xs : List PyData} {D : Ends} (sg : SimG K is g γ) (sb : SimS K w tb β) {ρ : Env} {μ : Mem} {σ : St} {G H : Hp} {m : List Addr} (wk : Wk K J G m xs) (en : EnvR K G m ρ σ) (me : MemR K G H m μ) (q : SPost K w G H m (forGo γ β xs ρ μ) D) :
    ∃ W : Nat → Nat → St → Hp → Prop, (∃ n, W 0 n σ H) ∧ ∀ i n σ H, W i n σ H →
      (J.stop i H ∧ D.nx σ H) ∨ (J.go i H ∧ ∃ N : St → Hp → Prop, (∀ σ' H', N σ' H' → ∃ n', n' < n ∧ W (i + 1) n' σ' H') ∧ ∀ x H', J.yld i H x H' → g x σ H' fun σ2 H2 => tb { D with nx := N, ct := N, bk := D.nx } σ2 H2) := by
  refine ⟨fun i n σ' H' => n = xs.length - i ∧ ∃ ρ' μ' G' m', Gr G G' m m' ∧ EnvR K G' m' ρ' σ' ∧ MemR K G' H' m' μ' ∧ SPost K w G' H' m' (forGo γ β (xs.drop i) ρ' μ') D, ⟨xs.length, rfl, ρ, μ, G, m, Gr.refl, en, me, q⟩, ?_⟩
  rintro i n σ' H' ⟨rfl, ρ', μ', G', m', gr, en', me', q'⟩
  obtain ⟨wgo, wstop⟩ := wk G' H' m' μ' gr me' i
  by_cases hl : i < xs.length
  · have ex : xs.drop i = xs[i] :: xs.drop (i + 1) := List.drop_eq_getElem_cons hl
    obtain ⟨h1, h2⟩ := wgo xs[i] (List.getElem?_eq_getElem hl)
    refine .inr ⟨h1, fun σ2 H2 => ∃ ρ2 μ2 G2 m2, Gr G G2 m m2 ∧ EnvR K G2 m2 ρ2 σ2 ∧ MemR K G2 H2 m2 μ2 ∧ SPost K w G2 H2 m2 (forGo γ β (xs.drop (i + 1)) ρ2 μ2) D, fun σ2 H2 k => ⟨xs.length - (i + 1), by omega, rfl, k⟩, fun x H1 hy => ?_⟩
    obtain ⟨G1, st1, me1, dx⟩ := h2 x H1 hy
    rw [ex] at q'
    unfold forGo at q'
    cases e1 : γ (.d xs[i]) ρ' with
    | none =>
      simp only [e1] at q'
      exact q'.elim
    | some ρ1 =>
      simp only [e1] at q'
      refine sg (.d xs[i]) ρ' ρ1 σ' G1 H1 m' μ' x e1 (en'.mono st1.gr) me1 dx _ fun σ2 en2 _ => ?_
      have q1 := SPost.mono st1 q'
      refine sb ρ1 μ' σ2 G1 H1 m' en2 me1 _ ?_
      cases e2 : β ρ1 μ' with
      | nx ρ2 μ2 =>
        simp only [e2] at q1
        exact fun σ3 G3 H3 m3 st3 me3 en3 => ⟨ρ2, μ2, G3, m3, (gr.trans st1.gr).trans st3.gr, en3, me3, SPost.mono st3 q1⟩
      | ct ρ2 μ2 =>
        simp only [e2] at q1
        exact fun σ3 G3 H3 m3 st3 me3 en3 => ⟨ρ2, μ2, G3, m3, (gr.trans st1.gr).trans st3.gr, en3, me3, SPost.mono st3 q1⟩
      | bk ρ2 μ2 =>
        simp only [e2] at q1
        exact q1
      | rt s μ2 =>
        simp only [e2] at q1
        exact q1
      | err ee μ2 =>
        simp only [e2] at q1
        exact q1
      | no =>
        simp only [e2] at q1
        exact q1
  · have ex : xs.drop i = [] := List.drop_eq_nil_of_le (by omega)
    rw [ex] at q'
    exact .inl ⟨wstop (by omega), q' σ' G' H' m' Stp.refl me' en'⟩
theorem cs_for (hp : PassesOwn (model X.prog X.w) X.A X.env X.xe) (hc : X.calm = true) (hi : CI X w tg iter δi) (hg : CG X is tg γ) (hb : CSs X w body β) (hs : ∀ x, foldedSetIterable iter X.env x = pure x := by intro _; rfl) :
    CS X w (.For tg iter body [] pos) (sFor δi γ β) := by
  obtain ⟨wi, p1, s1⟩ := hi
  obtain ⟨g, p2, s2⟩ := hg
  obtain ⟨tb, p3, s3⟩ := hb
  refine ⟨_, ps_for hp hc p1 p2 p3 hs, fun ρ μ σ G H m en me D q => ?_⟩
  exact s1 ρ μ σ G H m en me _ (SPost.of_out q fun xs μ1 G1 H1 m1 _ st1 me1 q1 J wk => for_go s2 s3 wk (en.mono st1.gr) me1 q1)
theorem cs_while (n : Nat) (hp : PassesOwn (model X.prog X.w) X.A X.env X.xe) (hc : CT X w c τ) (hb : CSs X w body β) : CS X w (.While c body [] pos) (sWh n τ β) := by
  obtain ⟨tc, p1, s1⟩ := hc
  obtain ⟨tb, p2, s2⟩ := hb
  refine ⟨_, ps_while hp p1 p2, fun ρ μ σ G H m en me D q => ?_⟩
  refine ⟨fun k σ' H' => ∃ ρ' μ' G' m', EnvR X.K G' m' ρ' σ' ∧ MemR X.K G' H' m' μ' ∧ SPost X.K w G' H' m' (whGo τ β k ρ' μ') D, ⟨n, ρ, μ, G, m, en, me, q⟩, ?_⟩
  rintro k σ' H' ⟨ρ', μ', G', m', en', me', q'⟩
  cases k with
  | zero => exact q'.elim
  | succ k =>
    unfold whGo at q'
    refine s1 ρ' μ' σ' G' H' m' en' me' _ (SPost.of_out q' fun x μ1 G1 H1 m1 _ st1 me1 q1 => ?_)
    cases x with
    | false => exact q1 σ' G1 H1 m1 Stp.refl me1 (en'.mono st1.gr)
    | true =>
      refine ⟨fun σ2 H2 => ∃ ρ2 μ2 G2 m2, EnvR X.K G2 m2 ρ2 σ2 ∧ MemR X.K G2 H2 m2 μ2 ∧ SPost X.K w G2 H2 m2 (whGo τ β k ρ2 μ2) D, fun σ2 H2 kk => ⟨k, Nat.lt_succ_self k, kk⟩, ?_⟩
      simp only [if_true] at q1
      refine s2 ρ' μ1 σ' G1 H1 m1 (en'.mono st1.gr) me1 _ ?_
      cases e2 : β ρ' μ1 with
      | nx ρ2 μ2 =>
        simp only [e2] at q1
        exact fun σ3 G3 H3 m3 st3 me3 en3 => ⟨ρ2, μ2, G3, m3, en3, me3, SPost.mono st3 q1⟩
      | ct ρ2 μ2 =>
        simp only [e2] at q1
        exact fun σ3 G3 H3 m3 st3 me3 en3 => ⟨ρ2, μ2, G3, m3, en3, me3, SPost.mono st3 q1⟩
      | bk ρ2 μ2 =>
        simp only [e2] at q1
        exact q1
      | rt s μ2 =>
        simp only [e2] at q1
        exact q1
      | err ee μ2 =>
        simp only [e2] at q1
        exact q1
      | no =>
        simp only [e2] at q1
        exact q1

/-! ### lists that are changed -/
/-- xs[i] = e -/
theorem cs_setix {o i : Expr} {δo δi : DE} {posS : Pos} (he : CE X w e δ) (ho : CE X w o δo) (hi : CE X w i δi) (hs : swapsWithSole [.Subscript o i posS] e pos.line X.env = pure false := by rfl) (hw : swappedStores [.Subscript o i posS] e X.env = pure none := by rfl)
    (h1 : (assignEach [.Subscript o i posS] X.env).map (·.2) = [assign (.Subscript o i posS) X.env] := by rfl)
    (ha : ∀ v, assign (.Subscript o i posS) X.env v = (do
      let ov ← holding [v] (eval o X.env)
      let iv ← holding [v, ov] (eval i X.env)
      standAt posS
      holding [v, ov, iv] (setItem ov iv v)
      release [v, ov, iv] []) := by intro _; rfl) : CS X w (.Assign [.Subscript o i posS] e pos) (sSetIx δ δo δi) := by
  obtain ⟨te, p1, s1⟩ := he
  obtain ⟨to, p2, s2⟩ := ho
  obtain ⟨ti, p3, s3⟩ := hi
  refine ⟨_, ps_asg p1 (pg_sub p2 p3 set_list ha) hs hw h1, fun ρ μ σ G H m en me D q => ?_⟩
  refine s1 ρ μ σ G H m en me _ (SPost.of_out q fun s μ1 G1 H1 m1 _ st1 me1 q1 v rv => ?_)
  refine s2 ρ μ1 σ G1 H1 m1 (en.mono st1.gr) me1 _ (SPost.of_out q1 fun l μ2 G2 H2 m2 _ st2 me2 q2 u ru => ?_)
  refine s3 ρ μ2 σ G2 H2 m2 ((en.mono st1.gr).mono st2.gr) me2 _ (SPost.of_out q2 fun k μ3 G3 H3 m3 _ st3 me3 q3 t rt => ?_)
  split at q3
  · rename_i x h j _ _ _
    cases e1 : μ3[h]? with
    | none =>
      simp only [e1] at q3
      exact q3.elim
    | some o1 =>
      cases o1 with
      | frz xs =>
        simp only [e1] at q3
        exact q3.elim
      | dic xs =>
        simp only [e1] at q3
        exact q3.elim
      | lst xs =>
        simp only [e1] at q3
        cases e2 : ixN xs.length j with
        | none =>
          simp only [e2] at q3
          exact q3.elim
        | some n =>
          simp only [e2] at q3
          have ru' := ru.mono st3.gr
          obtain ⟨ad, ha, rfl⟩ := ru'
          cases rt
          obtain ⟨g0, vs, hv, dv⟩ := me3.at_ h ad _ ha e1
          have rv' : Dq X.K G3 v x := Dq.mono (st2.trans st3).gr.ex _ _ rv
          obtain ⟨me4, st4⟩ := me3.put (vs := vs.set n v) (ys := xs.set n x) ha e1 (DqAll.set rv' n dv)
          exact ⟨ad, vs, j, n, rfl, rfl, hv, by rw [DqAll.length dv]; exact e2, q3 σ G3 _ m3 st4 me4 (((en.mono st1.gr).mono st2.gr).mono st3.gr)⟩
  · exact q3.elim
/-- xs.append(e) -/
theorem ce_append {o : Expr} {δo : DE} {apos cpos : Pos} (ho : CE X w o δo) (he : CE X w e δ) (hbase : attributeBase o "append" X.env (eval o X.env) = eval o X.env := by rfl)
    (hfew : ((backTo cpos (starEach (e :: []) X.env)).all (fun x => !x.1) && (backToKw cpos (keywordEach [] X.env)).all (fun x => x.1.isSome)
      && decide ((e :: []).length + ([] : List Keyword).length + (if ([] : List Keyword).isEmpty then 0 else 1) < 30)) = true := by rfl)
    (hline : (apos.endLine == cpos.line) = true := by rfl) (hs : starEach (e :: []) X.env = (false, eval e X.env) :: starEach [] X.env := by rfl) (hplain : (backTo cpos (starEach [] X.env)).any (·.1) = false := by rfl) :
    CE X w (.Call (.Attribute o "append" apos) (e :: []) [] cpos) (eApp δo δ) := by
  obtain ⟨to, p1, s1⟩ := ho
  obtain ⟨te, p2, s2⟩ := he
  refine ⟨_, pe_bm PySem.F.plainAttrs_list PySem.F.slot_list_append PySem.F.type_list_append mt_append p1 (pa_cons p2 pa_nil hs) hbase hfew hline hs hplain, fun ρ μ σ G H m en me Q q => ?_⟩
  refine s1 ρ μ σ G H m en me _ (Post.of_bind q fun l μ1 G1 H1 m1 _ st1 me1 q1 v rv => ?_)
  cases l with
  | d x => exact q1.elim
  | m h =>
    simp only at q1
    cases e1 : μ1[h]? with
    | none =>
      simp only [e1] at q1
      exact q1.elim
    | some o1 =>
      cases o1 with
      | frz xs =>
        simp only [e1] at q1
        exact q1.elim
      | dic xs =>
        simp only [e1] at q1
        exact q1.elim
      | lst xs0 =>
        simp only [e1] at q1
        obtain ⟨ad, ha, rfl⟩ := rv
        obtain ⟨_, vs0, hv0, _⟩ := me1.at_ h ad _ ha e1
        refine ⟨.inl ⟨rfl, _, SqL.of hv0⟩, s2 ρ μ1 σ G1 H1 m1 (en.mono st1.gr) me1 _ (Post.of_bind q1 fun s μ2 G2 H2 m2 _ st2 me2 q2 u ru => ?_)⟩
        cases s with
        | m n => exact q2.elim
        | d x =>
          simp only at q2
          cases e2 : μ2[h]? with
          | none =>
            simp only [e2] at q2
            exact q2.elim
          | some o2 =>
            cases o2 with
            | frz xs =>
              simp only [e2] at q2
              exact q2.elim
            | dic xs =>
              simp only [e2] at q2
              exact q2.elim
            | lst xs =>
              simp only [e2] at q2
              split at q2
              · rename_i hsm
                have ha2 := st2.gr.at_ ha
                obtain ⟨g0, vs, hv, dv⟩ := me2.at_ h ad _ ha2 e2
                obtain ⟨me3, st3⟩ := me2.put (vs := vs ++ [u]) (ys := xs ++ [x]) ha2 e2 (DqAll.append dv (.cons ru .nil))
                exact ⟨ad, vs, u, rfl, rfl, hv, by rw [DqAll.length dv]; exact small_lt hsm, q2 G2 _ m2 st3 me3 .non .non⟩
              · exact q2.elim
end

/-! ### defs -/
theorem start_env {K : PySem.W.Frag} {G : Hp} {m : List Addr} : ∀ {ss : List S} {vs : List V}, RpL K G m ss vs → ∀ (i : Nat) s, (ss.map some)[i]? = some (some s) → ∃ v, (vs.map some)[i]? = some (some v) ∧ RpS K G m s v
  | _, _, .nil, i, s, h => by simp at h
  | _, _, .cons r _, 0, s, h => by
    simp at h
    subst h
    exact ⟨_, rfl, r⟩
  | _, _, .cons _ t, i + 1, s, h => by
    obtain ⟨v, h1, h2⟩ := start_env t i s (by simpa using h)
    exact ⟨v, by simpa using h1, h2⟩
theorem start_ok {K : PySem.W.Frag} {G : Hp} {m : List Addr} {ss : List S} {vs : List V} {N : List Str} (r : RpL K G m ss vs) : EnvR K G m (ss.map some ++ List.replicate (N.length - ss.length) none) (L2.start N vs) := by
  have hl := r.length
  refine ⟨?_, fun i s h => ?_⟩
  · unfold L2.start
    rw [List.length_append, List.length_append, List.length_map, List.length_map, List.length_replicate, List.length_replicate, hl]
  · by_cases hi : i < (ss.map some).length
    · rw [List.getElem?_append_left hi] at h
      obtain ⟨v, h1, h2⟩ := start_env r i s h
      refine ⟨v, ?_, h2⟩
      unfold L2.start
      rw [List.getElem?_append_left (by rw [List.length_map] at hi ⊢; rw [← hl]; exact hi)]
      exact h1
    · rw [List.getElem?_append_right (by omega)] at h
      rw [List.getElem?_replicate] at h
      split at h <;> cases h
theorem MemR.cut {K : PySem.W.Frag} {G H G' H' : Hp} {m m' : List Addr} {μ' : Mem} (st : Stp G H m G' H' m') (me : MemR K G' H' m' μ') : MemR K G' H' m (μ'.take m.length) ∧ Stp G H m G' H' m := by
  obtain ⟨k, e⟩ := st.gr.pre
  subst e
  have hl := me.len
  rw [List.length_append] at hl
  refine ⟨⟨me.ex, by rw [List.length_take]; omega, (List.nodup_append.mp me.nd).1, fun i a o h1 h2 => ?_⟩, ⟨⟨st.gr.ex, [], by simp⟩, st.kp, fun a h n => absurd h n, st.gn⟩⟩
  obtain ⟨hi, _⟩ := List.getElem?_eq_some_iff.mp h1
  rw [List.getElem?_take_of_lt hi] at h2
  exact me.at_ i a o (by rw [List.getElem?_append_left hi]; exact h1) h2
/-- a list that is handed back is known from then on -/
theorem MemR.freeze {K : PySem.W.Frag} {G H G' H' : Hp} {m m' : List Addr} {μ' : Mem} {h : Nat} {ad : Addr} {xs : List PyData} (st : Stp G H m G' H' m') (me : MemR K G' H' m' μ') (hh : m.length ≤ h) (ha : m'[h]? = some ad) (hx : μ'[h]? = some (.lst xs)) :
    ∃ vs, MemR K (upd G' ad (.lst vs)) H' m (μ'.take m.length) ∧ Stp G H m (upd G' ad (.lst vs)) H' m ∧ Dq K (upd G' ad (.lst vs)) (.ref ad) (.list xs) := by
  obtain ⟨g0, vs, hv, dv⟩ := me.at_ h ad _ ha hx
  obtain ⟨mc, sc⟩ := MemR.cut st me
  have nm : ad ∉ m := fun z => by
    obtain ⟨j, hj⟩ := List.getElem?_of_mem z
    have hj' := st.gr.at_ hj
    obtain ⟨l1, _⟩ := List.getElem?_eq_some_iff.mp hj
    obtain ⟨h1, e1⟩ := List.getElem?_eq_some_iff.mp hj'
    obtain ⟨h2, e2⟩ := List.getElem?_eq_some_iff.mp ha
    have := (List.getElem_inj me.nd).mp (e1.trans e2.symm)
    omega
  refine ⟨vs, ⟨fun b u e => ?_, mc.len, mc.nd, fun i a o h1 h2 => ?_⟩, ⟨⟨st.gr.ex.trans (same_upd g0), [], by simp⟩, sc.kp, sc.fr, fun b h1 h2 h3 => ?_⟩, dq_lst g0 dv⟩
  · by_cases hb : b = ad
    · subst hb
      rw [upd_same] at e
      cases e
      exact hv
    · rw [upd_ne hb] at e
      exact me.ex b u e
  · have hne : a ≠ ad := fun z => nm (z ▸ List.mem_of_getElem? h1)
    refine MO.mono (same_upd g0) (fun xs z => ?_) (fun u z => z) (mc.at_ i a o h1 h2)
    subst z
    rw [upd_ne hne]
    exact (mc.at_ i a _ h1 h2).1
  · have hne : b ≠ ad := fun z => by
      subst z
      have := st.fr b (List.mem_of_getElem? ha) nm
      exact h2 this
    rw [upd_ne hne]
    exact sc.gn b h1 h2 h3
theorem MemR.freeze0 {K : PySem.W.Frag} {G H G' H' : Hp} {m m' : List Addr} {μ' : Mem} {h : Nat} {ad : Addr} {xs : List PyData} (st : Stp G H m G' H' m') (me : MemR K G' H' m' μ') (ha : m'[h]? = some ad) (hx : μ'[h]? = some (.frz xs)) : Dq K G' (.ref ad) (.list xs) := by
  obtain ⟨vs, hv, dv⟩ := me.at_ h ad _ ha hx
  exact .lst hv dv
/-- THE RULE for a def: its body's meaning is its promise -/
theorem def_ok {P : Program} {w : World} {K : PySem.W.Frag} {mg : Str → Option Value} {base : Heap} {x : Str} {st : Stmt} {f : Addr} {fd : FuncData} {N ps : List Str} {k : Nat} {cx : Nat → Option Addr} {β : DS} (F : L2.Fun K x x st f fd) (Sc : FnScope N ps (defScope st))
    (hb : ∀ (cdv : Value) (A : Around) (outer : List PySem.Env) (s : Shared) (H : Hp) (E : XK), Room k (A.deeper (envOfC x (defScope st) s.heap.objs.size f cdv)) →
      CSs (cxOf (L2.CX P w) P w K mg base N x (defScope st) f cdv A outer s H E) ⟨true, fun cls d _ H => E cls d H, cx⟩ (defBody st) β) : FnOk P w K mg base (L2.CX P w) (k + 1) f fd ps (spF K cx ps.length (callD ps.length N.length β)) := by
  refine F.okX Sc (fun vs H Q E h => ?_) (fun cdv A outer s H vs Q E hr h => ?_)
  · obtain ⟨G, m, μ, ss, h1, h2, _⟩ := h
    rw [← h2.length]
    exact h1
  · obtain ⟨G, m, μ, ss, h1, h2, me, q⟩ := h
    obtain ⟨t, p, sm⟩ := (hb cdv A outer s H E hr).ex
    have so := start_ok (N := N) h2
    rw [h1] at so
    refine ⟨t, p, sm _ μ _ G H m so me _ ?_⟩
    have hl : μ.length = m.length := me.len.symm
    unfold callD at q
    rw [if_pos h1] at q
    cases e : β (ss.map some ++ List.replicate (N.length - ps.length) none) μ with
    | nx ρ1 μ1 =>
      simp only [e, hl] at q
      intro σ' G' H' m' st' me' _
      obtain ⟨a1, a2⟩ := MemR.cut st' me'
      exact q .non G' H' a2 a1 .non
    | rt s1 μ1 =>
      simp only [e, hl] at q
      intro v G' H' m' st' me' r
      obtain ⟨a1, a2⟩ := MemR.cut st' me'
      cases s1 with
      | d y => exact q v G' H' a2 a1 r
      | m h =>
        obtain ⟨ad, ha, rfl⟩ := r
        unfold retF at q
        simp only at q
        split at q
        · rename_i hlt
          refine q _ G' H' a2 a1 ⟨ad, ?_, rfl⟩
          obtain ⟨kk, ek⟩ := st'.gr.pre
          rw [ek, List.getElem?_append_left hlt] at ha
          exact ha
        · rename_i hge
          cases e1 : μ1[h]? with
          | none =>
            simp only [e1] at q
            exact q.elim
          | some o1 =>
            cases o1 with
            | dic _ =>
              simp only [e1] at q
              exact q.elim
            | lst xs =>
              simp only [e1] at q
              obtain ⟨vs', b1, b2, b3⟩ := MemR.freeze st' me' (by omega) ha e1
              exact q _ _ H' b2 b1 b3
            | frz xs =>
              simp only [e1] at q
              exact q _ G' H' a2 a1 (MemR.freeze0 st' me' ha e1)
    | bk ρ1 μ1 =>
      simp only [e] at q
      exact q.elim
    | ct ρ1 μ1 =>
      simp only [e] at q
      exact q.elim
    | err ee μ1 =>
      simp only [e, hl] at q
      refine ⟨rfl, fun cls d σ' G' H' m' st' me' er => ?_⟩
      obtain ⟨a1, a2⟩ := MemR.cut st' me'
      exact q cls d G' H' a2 a1 er
    | no =>
      simp only [e] at q
      exact q.elim
/-- .. where it stands -/
theorem def_mk {P : Program} {w : World} {K : PySem.W.Frag} {mg : Str → Option Value} {base : Heap} {x : Str} {st : Stmt} {f : Addr} {fd : FuncData} {N ps : List Str} {k : Nat} {cx : Nat → Option Addr} {β : DS} (F : L2.Fun K x x st f fd) (Sc : FnScope N ps (defScope st)) (hm : mg x = some (.ref f)) (hbd : SB fd ps)
    (hb : ∀ (cdv : Value) (A : Around) (outer : List PySem.Env) (s : Shared) (H : Hp) (E : XK), Room k (A.deeper (envOfC x (defScope st) s.heap.objs.size f cdv)) →
      CSs (cxOf (L2.CX P w) P w K mg base N x (defScope st) f cdv A outer s H E) ⟨true, fun cls d _ H => E cls d H, cx⟩ (defBody st) β) : Def P w K mg base cx x (k + 1) ps.length (callD ps.length N.length β) :=
  ⟨fun _ _ h => callD_no h, f, fd, ps, hm, F.kp, hbd, rfl, def_ok F Sc hb⟩
theorem Def.mono {P : Program} {w : World} {K : PySem.W.Frag} {mg : Str → Option Value} {base : Heap} {cx : Nat → Option Addr} {x : Str} {j k n : Nat} {F : Fn} (D : Def P w K mg base cx x j n F) (h : j ≤ k) : Def P w K mg base cx x k n F := by
  obtain ⟨h0, f, fd, ps, h1, h2, h3, h4, h5⟩ := D
  exact ⟨h0, f, fd, ps, h1, h2, h3, h4, h5.mono h⟩
/-- no call is allowed -/
theorem def_zero {P : Program} {w : World} {K : PySem.W.Frag} {mg : Str → Option Value} {base : Heap} {x : Str} {st : Stmt} {f : Addr} {fd : FuncData} {ps : List Str} {k : Nat} {cx : Nat → Option Addr} (F : L2.Fun K x x st f fd) (hm : mg x = some (.ref f)) (hbd : SB fd ps) :
    Def P w K mg base cx x k ps.length (fun _ _ => .no) :=
  ⟨fun _ _ _ => rfl, f, fd, ps, hm, F.kp, hbd, rfl, ⟨fun vs H Q E ⟨_, _, _, _, _, _, _, q⟩ => q.elim, fun A outer s H args us vs Q E _ _ _ _ ⟨_, _, _, _, _, _, _, q⟩ => q.elim⟩⟩
/-- what leaves a def's body is taken; a loop lets it pass -/
theorem tkOf {P : Program} {w : World} {K : PySem.W.Frag} {mg : Str → Option Value} {base : Heap} {N : List Str} {q : Str} {sc : Scope} {f : Addr} {cdv : Value} {A : Around} {outer : List PySem.Env} {s : Shared} {H : Hp} {E : XK} :
    Takes (cxOf (L2.CX P w) P w K mg base N q sc f cdv A outer s H E) (fun cls d _ H => E cls d H) := takes_of rfl rfl rfl rfl
theorem poOf {P : Program} {w : World} {K : PySem.W.Frag} {mg : Str → Option Value} {base : Heap} {N : List Str} {q : Str} {sc : Scope} {f : Addr} {cdv : Value} {A : Around} {outer : List PySem.Env} {s : Shared} {H : Hp} {E : XK} :
    PassesOwn (model (cxOf (L2.CX P w) P w K mg base N q sc f cdv A outer s H E).prog (cxOf (L2.CX P w) P w K mg base N q sc f cdv A outer s H E).w) (cxOf (L2.CX P w) P w K mg base N q sc f cdv A outer s H E).A (cxOf (L2.CX P w) P w K mg base N q sc f cdv A outer s H E).env (cxOf (L2.CX P w) P w K mg base N q sc f cdv A outer s H E).xe := passes_of rfl
end Bz
set_option Elab.async false
set_option linter.all false
set_option maxRecDepth 100000
set_option maxHeartbeats 2000000
/-! More rules: min of four, -a, dicts with written keys. -/
namespace PySem
open Sem (wp)
section
variable {prog : Program} {w : World} {A : Around} {E : Value → Shared → Prop} {s : Shared}
theorem F.args_min4 (a b c d : Value) : argsOk "min" ⟨[a, b, c, d], []⟩ := by unfold argsOk; kernel_rfl
theorem call_min_four {a b c d : Value} {Q : Value → Shared → Prop}
    (h : wpAny (model prog w) A.in1 (pyIter (.ref s.heap.objs.size)) (fun it s₂ => ∃ I fp wr n P St bt, it = .ref I ∧ Walks prog w A.in1 I fp wr n P St ∧ St 0 s₂.heap ∧ (∀ b ∈ fp, b < s₂.heap.objs.size) ∧ 0 < n ∧ CmpOf prog w A.in1 .Lt P bt ∧
      ∀ v h' tk, P (argBest bt (n - 1)) v → (∀ b o, b ∉ wr → s₂.heap.get? b = some o → h'.get? b = some o) → Q v { s₂ with heap := h', toks := tk }) E
      { s with heap := s.heap.push { cls := .type "tuple", data := .seq #[a, b, c, d] } }) :
    wpAny (model prog w) A (call (.builtin "min") [a, b, c, d]) Q E s := by
  have hname : (toString "min" ++ toString ".loop" : String) = "min.loop" := by decide
  refine call_function_tree F.kind_min F.plain_min F.entry_min (F.args_min4 _ _ _ _) ?_
  show wpAny _ A.in1 (Builtin.Builtins.bindParams "min" ["key", "default"] 0 ⟨[], []⟩ >>= _) _ _ s
  refine wpAny_bind (wpAny_of_eq (show Builtin.Builtins.bindParams "min" ["key", "default"] 0 ⟨[], []⟩ = pure [none, none] from rfl) ?_)
  show wpAny _ A.in1 (newTuple [a, b, c, d] >>= _) _ _ s
  refine wpAny_bind (wpAny_newObj_type ?_)
  refine wpAny_bind (wpAny_mono h (fun it s₂ h₂ => ?_) fun _ _ e => e)
  obtain ⟨I, fp, wr, n, P, St, bt, rfl, W, hst, hfp, hn, hcmp, hQ⟩ := h₂
  refine wpAny_bind (wpAny_newObj_type ?_)
  have hSf : s₂.heap.objs.size ∉ fp := fun hm => Nat.lt_irrefl _ (hfp _ hm)
  rw [hname]
  refine wpAny_pure ⟨plainId_quiet F.plain_min_loop _, codeAny_min_loop_first W bt hcmp s₂.heap.objs.size hSf hn (W.frame _ _ _ hst fun b _ o e => Heap.get?_push_of_some _ e) (Heap.get?_push_size _ rfl) fun v h' tk hP hk => ?_⟩
  exact hQ v h' tk hP fun b o hbw e => hk b o hbw (Nat.ne_of_lt (Heap.lt_size e)) (Heap.get?_push_of_some _ e)
def mnOf (f : Nat → Int) : Nat → Int
  | 0 => f 0
  | n + 1 => min (mnOf f n) (f (n + 1))
theorem argBest_min (f : Nat → Int) : ∀ n, f (argBest (fun i j => decide (f i < f j)) n) = mnOf f n
  | 0 => rfl
  | n + 1 => by
    have ih := argBest_min f n
    unfold argBest mnOf
    by_cases h : f (n + 1) < f (argBest (fun i j => decide (f i < f j)) n)
    · simp only [h, decide_true, if_true]
      omega
    · simp only [h, decide_false, Bool.false_eq_true, if_false]
      omega
theorem min_four_ints {a b c d : Int} {t u v x : Tok} {Q : Value → Shared → Prop} (hh : A.handled = none)
    (h : ∀ h' tk, (∀ c o, s.heap.get? c = some o → h'.get? c = some o) → ∀ t', Q (.int (min (min (min a b) c) d) t') { s with heap := h', toks := tk }) :
    wpAny (model prog w) A (call (.builtin "min") [.int a t, .int b u, .int c v, .int d x]) Q E s := by
  have hT : (s.heap.push { cls := .type "tuple", data := .seq #[.int a t, .int b u, .int c v, .int d x] }).IsTuple s.heap.objs.size (intItems #[(a, t), (b, u), (c, v), (d, x)]) := ⟨_, Heap.get?_push_size _ rfl, rfl, 0, by simp [intItems]⟩
  refine call_min_four (wpAny_pyIter_tuple hT ?_)
  have hsz : (s.heap.push { cls := .type "tuple", data := .seq #[.int a t, .int b u, .int c v, .int d x] }).objs.size = s.heap.objs.size + 1 := Heap.size_push ..
  refine ⟨_, [_, s.heap.objs.size], [_], _, _, _, _, rfl, Walks.tuple (A := A.in1) hh _ s.heap.objs.size (by rw [hsz]; exact Nat.ne_of_lt (Nat.lt_succ_self _)) (intItems #[(a, t), (b, u), (c, v), (d, x)]),
    ⟨⟨_, Heap.get?_push_size _ rfl, rfl, rfl⟩, hT.push _⟩, fun c hc => ?_, by simp [intItems], CmpOf.ints_lt (numAt #[(a, t), (b, u), (c, v), (d, x)]) (fun _ _ => intItems_at), fun y h' tk hP hk => ?_⟩
  · show c < ((s.heap.push _).push _).objs.size
    rw [Heap.size_push, hsz]
    rcases List.mem_cons.mp hc with rfl | hc
    · rw [hsz]; exact Nat.lt_succ_self _
    · rcases List.mem_cons.mp hc with rfl | hc
      · exact Nat.lt_succ_of_lt (Nat.lt_succ_self _)
      · cases hc
  · have hold : ∀ c o, s.heap.get? c = some o → h'.get? c = some o := fun c o e => by
      refine hk c o (fun hm => ?_) (Heap.get?_push_of_some _ (Heap.get?_push_of_some _ e))
      rcases List.mem_cons.mp hm with e1 | hm
      · have := Heap.lt_size e; rw [e1, hsz] at this; exact Nat.lt_irrefl _ (Nat.lt_of_succ_lt this)
      · cases hm
    have hq := h h' tk hold
    obtain ⟨t', e⟩ := intItems_at hP
    rw [argBest_min (numAt #[(a, t), (b, u), (c, v), (d, x)])] at e
    have hsz2 : (intItems #[(a, t), (b, u), (c, v), (d, x)]).size - 1 = 3 := by simp [intItems]
    rw [hsz2] at e
    have e2 : mnOf (numAt #[(a, t), (b, u), (c, v), (d, x)]) 3 = min (min (min a b) c) d := rfl
    rw [e2] at e
    rw [e]; exact hq t'
end
end PySem

namespace Bz
open PySem PySem.Spec PyProof.Rows L2
section
variable {X : Cx} {w : Wish} {e a b c : Expr} {es : List Expr} {δ δa δb δc δo δk δz : DE} {δs : DA} {π : DP} {pos : Pos}
theorem ce_un {op : UnaryOp} {r : V → Hp → VK → Prop} {f : PyData → Option PyData} (ho : UnR X (unaryOp op) r) (hr : UnD X.K r f) (ha : CE X w a δa) : CE X w (.UnaryOp op a pos) (eUn f δa) := by
  obtain ⟨ta, p1, s1⟩ := ha
  refine ⟨_, pe_un ho p1, fun ρ μ σ G H m en me Q q => ?_⟩
  refine s1 ρ μ σ G H m en me _ (Post.of_bind q fun x μ1 G1 H1 m1 _ st1 me1 q1 v rv => ?_)
  cases e1 : rd μ1 x with
  | none =>
    simp only [e1] at q1
    exact q1.elim
  | some u1 =>
    simp only [e1] at q1
    obtain ⟨z, hz, k⟩ := fin2 q1
    exact hr G1 H1 m1 μ1 x v u1 z me1 e1 rv hz Q k
theorem negD {K : PySem.W.Frag} : UnD K (rU fun i => .int (-i)) fNeg := by
  intro G H m μ x v a z me ra rx hf Q q
  unfold fNeg at hf
  split at hf
  · cases hf
    exact ⟨_, rd_int me ra rx, hereD me (.int _) q⟩
  · cases hf

/-! ### min of two, of four -/
def rMinD : List V → Hp → VK → Prop := fun xs H Q => (∃ i j, xs = [.int i, .int j] ∧ Q (.int (if j < i then j else i)) H) ∨ ∃ i j k l, xs = [.int i, .int j, .int k, .int l] ∧ Q (.int (min4 i j k l)) H
theorem call_minD (hc : X.calm = true) : CallR X (.builtin "min") rMinD := by
  intro pins s σ H xs us Q I r h
  rcases h with h | ⟨i, j, k, l, rfl, q⟩
  · exact call_min2 hc pins s σ H xs us Q I r h
  · cases r with
    | cons r1 r =>
      cases r with
      | cons r2 r =>
        cases r with
        | cons r3 r =>
          cases r with
          | cons r4 r =>
            cases r
            obtain ⟨t1, rfl⟩ := r1
            obtain ⟨t2, rfl⟩ := r2
            obtain ⟨t3, rfl⟩ := r3
            obtain ⟨t4, rfl⟩ := r4
            exact min_four_ints (I.ok.hd hc) fun h' tk kp t' => ⟨.int (min4 i j k l), H, I.kept kp, ⟨t', rfl⟩, q⟩
theorem rdL_vals {K : PySem.W.Frag} {G H : Hp} {m : List Addr} {μ : Mem} (me : MemR K G H m μ) {xs : List Bz.S} {vs : List V} {as : List PyData} (h : rdL μ xs = some as) (r : RpL K G m xs vs) : DqAll K H vs as := by
  induction r generalizing as with
  | nil =>
    cases h
    exact .nil
  | @cons s v ss vs r t ih =>
    unfold rdL at h
    cases e : rd μ s with
    | none => rw [e] at h; cases h
    | some x =>
      rw [e] at h
      cases e2 : rdL μ ss with
      | none => rw [e2] at h; cases h
      | some ys =>
        rw [e2] at h
        cases h
        exact .cons (rd_dq me e r) (ih e2)
theorem minD {K : PySem.W.Frag} : CbD K rMinD bMin := by
  intro G H m μ xs vs as z me ra rx hf Q q
  have d := rdL_vals me ra rx
  unfold bMin at hf
  split at hf
  · cases hf
    cases d with
    | cons d1 d =>
      cases d with
      | cons d2 d =>
        cases d
        cases d1
        cases d2
        exact .inl ⟨_, _, rfl, hereD me (.int _) q⟩
  · cases hf
    cases d with
    | cons d1 d =>
      cases d with
      | cons d2 d =>
        cases d with
        | cons d3 d =>
          cases d with
          | cons d4 d =>
            cases d
            cases d1
            cases d2
            cases d3
            cases d4
            exact .inr ⟨_, _, _, _, rfl, hereD me (.int _) q⟩
  · cases hf

/-! ### dicts that are not changed -/
structure CP (X : Cx) (w : Wish) (pos : Pos) (ks : List (Option Expr)) (vs : List Expr) (π : DP) : Prop where
  ex : ∃ trs, PPs X pos ks vs trs ∧ ∀ ρ μ σ G H m, EnvR X.K G m ρ σ → MemR X.K G H m μ → ∀ Q : List (V × V) → Hp → Prop,
    Post X.K w σ G H m (π ρ μ) (fun kvs G' H' _ => ∀ vk : List (Key × V), vk.map (·.1) = kvs.map (·.1) → DqKv X.K G' vk (kvs.map fun p => (kD p.1, p.2)) → Q (vk.map fun p => (kV p.1, p.2)) H') → tPairs trs σ H Q
theorem cp_nil : CP X w pos [] [] pNil := ⟨[], pps_nil, fun ρ μ σ G H m en me Q q => q G H m Stp.refl me [] rfl .nil⟩
theorem kOf_V {K : PySem.W.Frag} {H : Hp} {x : PyData} {k : Key} {v : V} (h : kOf x = some k) (r : Dq K H v x) : v = kV k := by
  cases r <;> cases h <;> rfl
theorem cp_cons {k v : Expr} {ks : List (Option Expr)} {vs : List Expr} (hk : CE X w k δk) (hv : CE X w v δ) (hr : CP X w pos ks vs π) : CP X w pos (some k :: ks) (v :: vs) (pCons δk δ π) := by
  obtain ⟨t1, p1, s1⟩ := hk
  obtain ⟨t2, p2, s2⟩ := hv
  obtain ⟨t3, p3, s3⟩ := hr
  refine ⟨_, pps_cons p1 p2 p3, fun ρ μ σ G H m en me Q q => ?_⟩
  refine s1 ρ μ σ G H m en me _ (Post.of_bind q fun x μ1 G1 H1 m1 _ st1 me1 q1 u ru => ?_)
  refine s2 ρ μ1 σ G1 H1 m1 (en.mono st1.gr) me1 _ (Post.of_bind q1 fun y μ2 G2 H2 m2 _ st2 me2 q2 u2 ru2 => ?_)
  refine s3 ρ μ2 σ G2 H2 m2 ((en.mono st1.gr).mono st2.gr) me2 _ (Post.of_bind q2 fun kvs μ3 G3 H3 m3 _ st3 me3 q3 vk e1 dk => ?_)
  split at q3
  · rename_i x1 y1 _ _
    cases e2 : kOf x1 with
    | none =>
      simp only [e2] at q3
      exact q3.elim
    | some kk =>
      simp only [e2] at q3
      have hu := kOf_V e2 ru
      subst hu
      exact q3 G3 H3 m3 Stp.refl me3 ((kk, u2) :: vk) (by rw [List.map_cons, List.map_cons, e1]) (.cons (Dq.mono st3.gr.ex _ _ ru2) dk)
  · exact q3.elim
theorem merge_self : ∀ (more acc : List (Key × V)), ((acc ++ more).map (·.1)).Nodup → mergeK acc more = acc ++ more
  | [], acc, _ => by rw [List.append_nil]; rfl
  | p :: more, acc, h => by
    have e : mergeK acc (p :: more) = mergeK (putK acc p.1 p.2) more := rfl
    have hn : (acc.any fun kv => decide (kv.1 = p.1)) = false := by
      rw [List.any_eq_false]
      intro kv hkv
      simp only [decide_eq_true_eq]
      intro z
      rw [List.map_append, List.map_cons, List.nodup_append] at h
      exact h.2.2 kv.1 (List.mem_map_of_mem hkv) p.1 (by simp) z
    have e2 : putK acc p.1 p.2 = acc ++ [p] := by
      unfold putK
      rw [hn, if_neg Bool.false_ne_true]
    rw [e, e2, merge_self more (acc ++ [p]) (by rw [List.append_assoc]; exact h), List.append_assoc]
    rfl
theorem ce_dict {keys : List (Option Expr)} {values : List Expr} (h : CP X w pos keys values π) (hall : keys.all (·.isSome) = true := by rfl) (hl : keys.length = values.length := by rfl) (h0 : keys ≠ [] := by exact (fun z => by cases z)) (h15 : keys.length ≤ 15 := by decide) : CE X w (.Dict keys values pos) (eDict π) := by
  obtain ⟨trs, p1, s1⟩ := h
  refine ⟨_, pe_disp p1 hall hl h0 h15, fun ρ μ σ G H m en me Q q p hp => ?_⟩
  obtain ⟨g0, nm⟩ := me.dead hp
  have me0 : MemR X.K G (upd H p (.dK [])) m μ := by
    refine ⟨same_upd2 me.ex g0, me.len, me.nd, fun i a o h1 h2 => ?_⟩
    have ha : a ≠ p := fun z => nm (z ▸ List.mem_of_getElem? h1)
    refine MO.mono (Same.refl _) (fun xs z => ?_) (fun u z => ?_) (me.at_ i a o h1 h2)
    · subst z
      exact (me.at_ i a _ h1 h2).1
    · rw [upd_ne ha]
      exact z
  have st0 : Stp G H m G (upd H p (.dK [])) m := ⟨Gr.refl, fun b u e _ => by rw [upd_ne (ne_of_none e hp)]; exact e, fun a h n => absurd h n, fun _ e _ _ => e⟩
  refine s1 ρ μ σ G _ m en me0 _ ?_
  unfold eDict at q
  cases e0 : π ρ μ with
  | no =>
    rw [e0] at q
    exact q
  | err ee μe =>
    rw [e0] at q
    exact ErrP.mono st0 q
  | ok kvs μ1 =>
    rw [e0] at q
    intro G1 H1 m1 st1 me1 vk e1 dk
    simp only [R.bind] at q
    split at q
    · rename_i hc
      rw [Bool.and_eq_true, decide_eq_true_iff, decide_eq_true_iff] at hc
      have stO := st0.trans st1
      have hD : H1 p = some (.dK []) := st1.kp p _ upd_same nm
      have hG1 : G1 p = none := st1.gn p g0 (by rw [upd_same]; intro z; cases z) nm
      have nm1 : p ∉ m1 := fun z => by
        have := st1.fr p z nm
        rw [upd_same] at this
        cases this
      refine ⟨hD, vk, rfl, by have := congrArg List.length e1; rw [List.length_map, List.length_map] at this; omega, ?_⟩
      have em : mergeK [] vk = vk := by
        have := merge_self vk [] (by rw [List.nil_append, e1]; exact hc.1)
        rw [List.nil_append] at this
        exact this
      rw [em]
      refine q (upd G1 p (.dK vk)) _ m1 ⟨⟨stO.gr.ex.trans (same_upd hG1), stO.gr.pre⟩, fun b u e n => ?_, stO.fr, fun b h1 h2 h3 => ?_⟩ ⟨fun b u e => ?_, me1.len, me1.nd, fun i a o h1 h2 => ?_⟩ _ (.dct upd_same (DqKv.mono (same_upd hG1) _ _ dk))
      · rw [upd_ne (ne_of_none e hp)]
        exact stO.kp b u e n
      · rw [upd_ne (fun z => h2 (by rw [z]; exact hp))]
        exact stO.gn b h1 h2 h3
      · by_cases hb : b = p
        · subst hb
          rw [upd_same] at e ⊢
          exact e
        · rw [upd_ne hb] at e ⊢
          exact me1.ex b u e
      · have ha : a ≠ p := fun z => nm1 (z ▸ List.mem_of_getElem? h1)
        refine MO.mono (same_upd hG1) (fun xs z => ?_) (fun u z => ?_) (me1.at_ i a o h1 h2)
        · subst z
          rw [upd_ne ha]
          exact (me1.at_ i a _ h1 h2).1
        · rw [upd_ne ha]
          exact z
    · exact q.elim
theorem kD_inj {a b : Key} (h : kOf (kD a) = some b) : a = b := by
  cases a <;> (cases h; rfl)
theorem kOf_kD (a : Key) : kOf (kD a) = some a := by cases a <;> rfl
theorem look_get {K : PySem.W.Frag} {H : Hp} : ∀ {vk : List (Key × V)} {ds : List (PyData × PyData)} {k : Key}, DqKv K H vk ds → (∀ d, lookK ds k = some d → ∃ v, valV vk k = some v ∧ Dq K H v d) ∧ (lookK ds k = none → valV vk k = none)
  | _, _, k, .nil => ⟨fun d h => (by cases h), fun _ => rfl⟩
  | _, _, k, .cons (k := q) (v := v) (d := d) r t => by
    obtain ⟨i1, i2⟩ := look_get (k := k) t
    unfold lookK
    rw [kOf_kD]
    by_cases h : q = k
    · subst h
      rw [if_pos rfl]
      exact ⟨fun d' e => (by cases e; exact ⟨v, valV_pos rfl, r⟩), fun e => (by cases e)⟩
    · rw [if_neg (fun z => h (Option.some.inj z)), valV_neg h]
      exact ⟨i1, i2⟩
theorem ce_get2 {o k z : Expr} {apos cpos : Pos} (hu : X.A.units + 100 < cLine) (ho : CE X w o δo) (hk : CE X w k δk) (hz : CE X w z δz) (m : M2 X o "get" apos k z cpos := by exact ⟨rfl, rfl, rfl, rfl⟩) : CE X w (.Call (.Attribute o "get" apos) [k, z] [] cpos) (eGet2 δo δk δz) := by
  obtain ⟨t1, p1, s1⟩ := ho
  obtain ⟨t2, p2, s2⟩ := hk
  obtain ⟨t3, p3, s3⟩ := hz
  refine ⟨_, pe_dget2 (by omega) p1 p2 p3 m, fun ρ μ σ G H m en me Q q => ?_⟩
  refine s1 ρ μ σ G H m en me _ (Post.of_bind q fun x μ1 G1 H1 m1 _ st1 me1 q1 u ru => ?_)
  split at q1
  · split at q1
    · rename_i kvs _ hd
      cases ru with
      | scr h1 => cases hd
      | dct h1 h2 =>
        rename_i ad vk
        refine ⟨ad, rfl, .inl ⟨vk, .inl (me1.ex _ _ h1)⟩, ?_⟩
        refine s2 ρ μ1 σ G1 H1 m1 (en.mono st1.gr) me1 _ (Post.of_bind q1 fun y μ2 G2 H2 m2 _ st2 me2 q2 u2 ru2 => ?_)
        refine s3 ρ μ2 σ G2 H2 m2 ((en.mono st1.gr).mono st2.gr) me2 _ (Post.of_bind q2 fun y3 μ3 G3 H3 m3 _ st3 me3 q3 u3 ru3 => ?_)
        split at q3
        · rename_i x1 y1 _ _
          cases e2 : kOf x1 with
          | none =>
            simp only [e2] at q3
            exact q3.elim
          | some kk =>
            simp only [e2] at q3
            have hu2 := kOf_V e2 ru2
            subst hu2
            have hH : H3 ad = some (.dK vk) := me3.ex _ _ ((st2.trans st3).gr.ex _ _ h1)
            have dk := DqKv.mono (st2.trans st3).gr.ex _ _ h2
            refine ⟨_, DGet.k hH, ?_⟩
            obtain ⟨i1, i2⟩ := look_get (k := kk) dk
            cases e3 : lookK kvs kk with
            | none =>
              rw [i2 e3]
              rw [e3] at q3
              exact q3 G3 H3 m3 Stp.refl me3 _ ru3
            | some d =>
              obtain ⟨v, h3, h4⟩ := i1 d e3
              rw [h3]
              rw [e3] at q3
              exact q3 G3 H3 m3 Stp.refl me3 _ h4
        · exact q3.elim
    · exact q1.elim
  · exact q1.elim
end
end Bz

/-! ### what a printed walk leans on -/
namespace Bz
open PySem PySem.Spec PyProof.Rows L2
theorem gSeq_len : ∀ {gs : List DG} {xs : List PyData} {ρ ρ1 : Env}, gSeq gs xs ρ = some ρ1 → xs.length = gs.length
  | [], [], _, _, _ => rfl
  | [], _ :: _, _, _, h => by cases h
  | _ :: _, [], _, _, h => by cases h
  | g :: gs, x :: xs, ρ, ρ1, h => by
    unfold gSeq at h
    split at h
    · rw [List.length_cons, List.length_cons, gSeq_len h]
    · cases h
theorem cg_lst {X : Cx} {es : List Expr} {pos : Pos} {is : List Nat} {k : Nat} {gs : List DG} (hc : X.calm = true) (h : CGs X is es gs) (hn : (assignEach es X.env).length = gs.length := by rfl) (hst : (assignEach es X.env).findIdx? (·.1) = none := by rfl) : CG X is (.Tuple es k pos) (gLs gs) := by
  obtain ⟨g, p1, s1⟩ := h
  refine ⟨_, pg_unl (n := gs.length) hc p1 hn hst, fun s ρ ρ1 σ G H m μ v h en me r Q q => ?_⟩
  unfold gLs at h
  split at h
  · rename_i xs
    cases r with
    | lst h1 h2 => exact ⟨_, _, rfl, SqL.of (me.ex _ _ h1), by rw [DqAll.length h2]; exact gSeq_len h, s1 xs ρ ρ1 σ G H m μ _ h en me h2 Q q⟩
  · cases h
/-- a def of the text, where it stands -/
structure At (K : PySem.W.Frag) (mg : Str → Option Value) (x : Str) (st : Stmt) (ps : List Str) : Prop where
  ex : ∃ f fd, L2.Fun K x x st f fd ∧ mg x = some (.ref f) ∧ SB fd ps
theorem at_mk {K : PySem.W.Frag} {h : Heap} {mg : Str → Option Value} (X : K.In h) (G : h.Ns mainGlobals mg) {x : Str} {st : Stmt} {ps : List Str} {f : Addr} {od an : Option Addr} {sl : Array (Option Value)} {oc kV doc pm cdv ct : Value}
    (a : PySem.W.nsIn K mainGlobals x = some (some (.ref f))) (l : K.lookup f = some ⟨oc, od, .func (PySem.W.fnOf x x (defArgs st) (defBody st) (defScope st) .none kV doc pm an cdv ct), sl⟩) (c : PySem.W.codeIn K cdv x = true) (k : PySem.W.keepIn K (.ref f) = true)
    (hb : ∀ (kV doc pm : Value) (an : Option Addr) (cdv ct : Value) (us : List Value), us.length = ps.length → bindArgs (PySem.W.fnOf x x (defArgs st) (defBody st) (defScope st) .none kV doc pm an cdv ct) ⟨us, []⟩ = pure (ps.zip us)) : At K mg x st ps :=
  ⟨f, _, fun_mk l c k, PySem.W.mg_of X G a, hb kV doc pm an cdv ct⟩
/-- a constant of the module -/
def GlobC (K : PySem.W.Frag) (mg : Str → Option Value) (x : Str) (d : PyData) : Prop := ∃ u v, mg x = some u ∧ RelV v u ∧ ∀ G, Dq K G v d
theorem ce_globX {X : Cx} {w : Wish} {x : Str} {pos : Pos} {d : PyData} (h : GlobC X.K X.mg x d) (hg : Gl X x := by rfl) (hd : (x == ("__debug__" : Str)) = false := by decide) : CE X w (.Name x pos) (eC d) := by
  obtain ⟨u, v, h1, h2, h3⟩ := h
  exact ce_glob ⟨h1, h2, h3⟩ hg hd
theorem glob_tup {K : PySem.W.Frag} {h : Heap} {mg : Str → Option Value} (X : K.In h) (G : h.Ns mainGlobals mg) {x : Str} {ds : List PyData} {vs : List V} {its : Array Value} {f : Addr} {o : Obj} {n : Nat}
    (a : PySem.W.nsIn K mainGlobals x = some (some (.ref f))) (l : K.lookup f = some o) (hc : o.cls = .type "tuple") (hd : o.data = .seq its n) (hv : Vals vs its.toList) (hs : vs.length ≤ 1000) (hq : ∀ H, DqAll K H vs ds) : GlobC K mg x (.tuple ds) :=
  ⟨_, .ref f, PySem.W.mg_of X G a, rfl, fun H => .tup (.inr ⟨o, its, n, l, hc, hd, (by have e1 := hv.length; have e2 : its.toList.length = its.size := Array.length_toList; rw [sizeLine_eq]; omega), hv⟩) (hq H)⟩
theorem glob_int {K : PySem.W.Frag} {h : Heap} {mg : Str → Option Value} (X : K.In h) (G : h.Ns mainGlobals mg) {x : Str} {i : Int} {t : Tok} (a : PySem.W.nsIn K mainGlobals x = some (some (.int i t))) : GlobC K mg x (.int i) :=
  ⟨_, .int i, PySem.W.mg_of X G a, ⟨t, rfl⟩, fun H => .int i⟩
theorem glob_str {K : PySem.W.Frag} {h : Heap} {mg : Str → Option Value} (X : K.In h) (G : h.Ns mainGlobals mg) {x : Str} {i : Str} {t : Tok} (a : PySem.W.nsIn K mainGlobals x = some (some (.str i t))) : GlobC K mg x (.str i) :=
  ⟨_, .str i, PySem.W.mg_of X G a, ⟨t, rfl⟩, fun H => .str i⟩
theorem r64 {k : Nat} {A : Around} (r : Room k A) : A.units + 64 < cLine := r.units
theorem r100 {k : Nat} {A : Around} (r : Room k A) : A.units + 100 < cLine := by have := r.un; omega
section
variable {P : Program} {w : World} {K : PySem.W.Frag} {mg : Str → Option Value} {base : Heap} {x : Str} {st : Stmt} {N ps : List Str} {k : Nat} {cx : Nat → Option Addr} {β : DS}
theorem At.walk (a : At K mg x st ps) (Sc : FnScope N ps (defScope st))
    (hb : ∀ (f : Addr) (cdv : Value) (A : Around) (outer : List PySem.Env) (s : Shared) (H : Hp) (E : XK), Room k (A.deeper (envOfC x (defScope st) s.heap.objs.size f cdv)) →
      CSs (cxOf (L2.CX P w) P w K mg base N x (defScope st) f cdv A outer s H E) ⟨true, fun cls d _ H => E cls d H, cx⟩ (defBody st) β) : Def P w K mg base cx x (k + 1) ps.length (callD ps.length N.length β) := by
  obtain ⟨f, fd, F, hm, hbd⟩ := a.ex
  exact def_mk F Sc hm hbd (hb f)
theorem At.zero (a : At K mg x st ps) : Def P w K mg base cx x k ps.length (fun _ _ => .no) := by
  obtain ⟨f, fd, F, hm, hbd⟩ := a.ex
  exact def_zero F hm hbd
end
/-! ### the end -/
/-- the script as data -/
def scrD (ns : List Int) : PyData := .dict [(.none, .list (ns.map PyData.int))]
theorem At.law {P : Program} {w : World} {K : PySem.W.Frag} {mg : Str → Option Value} {x : Str} {st : Stmt} {N ps : List Str} {k : Nat} {cx : Nat → Option Addr} {β : DS} (a : At K mg x st ps) (Sc : FnScope N ps (defScope st))
    (hb : ∀ (base : Heap) (f : Addr) (cdv : Value) (A : Around) (outer : List PySem.Env) (s : Shared) (H : Hp) (E : XK), Room k (A.deeper (envOfC x (defScope st) s.heap.objs.size f cdv)) →
      CSs (cxOf (L2.CX P w) P w K mg base N x (defScope st) f cdv A outer s H E) ⟨true, fun cls d _ H => E cls d H, cx⟩ (defBody st) β) :
    ∃ f fd, mg x = some (.ref f) ∧ SB fd ps ∧ ∀ base : Heap, FnOk P w K mg base (L2.CX P w) (k + 1) f fd ps (spF K cx ps.length (callD ps.length N.length β)) := by
  obtain ⟨f, fd, F, hm, hbd⟩ := a.ex
  exact ⟨f, fd, hm, hbd, fun base => def_ok F Sc (hb base f)⟩
def spTrue (K : PySem.W.Frag) : Sp := fun vs H Q _ => ∃ (a : Addr) (ns : List Int), vs = [.ref a] ∧ ns.length ≤ 63 ∧ SqL K H a (ns.map V.int) ∧ ∀ H', Q (.bl true) H'
theorem true_of {K : PySem.W.Frag} {cx : Nat → Option Addr} {F : Fn} (hF : ∀ ns : List Int, ns.length ≤ 63 → F [.d (scrD ns)] [] = .ok (.d (.bool true)) []) (vs : List V) (H : Hp) (Q : VK) (E : XK) (h : spTrue K vs H Q E) : spF K cx 1 F vs H Q E := by
  obtain ⟨a, ns, rfl, hl, hS, q⟩ := h
  refine ⟨H, [], [], [.d (scrD ns)], rfl, .cons (.scr hS) .nil, ⟨Same.refl _, rfl, List.nodup_nil, fun i a o h _ => by simp at h⟩, ?_⟩
  rw [hF ns hl]
  intro v G' H' st me r
  cases r
  exact q H'
/-- the goal that k_head leaves -/
theorem fin_walk {l : PySem.W.OpenLaw} {k : Nat} {q : Program} {loose : List Str} {XP : (Str → Option Value) → Heap → Prop} {YP : World → Heap → Prop} {d : DefRec} {K : Params → PySem.W.Frag} {x : Str} {F : Fn}
    (hn : l.most = some 63) (hdf : d.params.defaults = []) (hr : Room k callerA) (hY : ∀ (w : World) (h : Heap), YP w h → (K w.params).In h)
    (hF : ∀ ns : List Int, ns.length ≤ 63 → F [.d (scrD ns)] [] = .ok (.d (.bool true)) [])
    (D : ∀ (w : World) (mg : Str → Option Value) (h : Heap), (K w.params).In h → h.Ns mainGlobals mg →
      ∃ (cx : Nat → Option Addr) (f : Addr) (fd : FuncData), mg d.name = some (.ref f) ∧ SB fd [x] ∧ ∀ base : Heap, FnOk l.prog w (K w.params) mg base (L2.CX l.prog w) k f fd [x] (spF (K w.params) cx 1 F)) :
    PySem.W.WalkO q loose XP YP l.row.toRowW d [] (fun f vs => PySem.call f vs) := by
  refine L2.walk_of (n := 63) (k := k) (x := x) (CX := fun w => L2.CX l.prog w) (sp := fun w => spTrue (K w.params)) hn (by decide) hdf hr hY (fun w mg fa h KX G hmg => ?_) (fun w H a ns hl _ hS => ⟨a, ns, rfl, hl, hS, fun _ => rfl⟩) (fun w H s e s' h => ?_)
  · obtain ⟨cx, f, fd, h1, h2, h3⟩ := D w mg h KX G
    have e := hmg.symm.trans h1
    cases e
    exact ⟨fd, fun s u => .of_eq (h2 [u] rfl), fun base _ _ => (h3 base).imp (true_of hF)⟩
  · obtain ⟨_, _, _, _, _, _, _, _, _, _, _, _, z⟩ := h
    exact z.elim
end Bz
set_option Elab.async false
set_option linter.all false
set_option maxRecDepth 100000
set_option maxHeartbeats 2000000
/-! Tuples turned about, places in them, texts sorted. -/
namespace HT
open PySem PySem.Spec PyProof.Rows L2
section
variable {prog : Program} {w : World} {A : Around} {E : Value → Shared → Prop} {s : Shared}
theorem adjust_back (n : Nat) : Builtin.Slice.sliceAdjust none none (-1) (n : Int) = ((n : Int) - 1, -1) := by
  unfold Builtin.Slice.sliceAdjust
  simp
theorem places_back (n : Nat) : Builtin.Slice.slicePlaces ((n : Int) - 1) (-1) (-1) = n := by
  unfold Builtin.Slice.slicePlaces
  have h1 : ¬ ((-1 : Int) > 0) := by omega
  simp only [h1, if_false, Int.neg_neg, Int.ediv_one]
  split <;> omega
theorem filterMap_some {α β : Type} {f : α → Option β} {g : α → β} : ∀ (l : List α), (∀ m ∈ l, f m = some (g m)) → l.filterMap f = l.map g
  | [], _ => rfl
  | a :: l, h => by
    rw [List.filterMap_cons, h a (by simp), List.map_cons, filterMap_some l fun m hm => h m (by simp [hm])]
theorem sliceApplied_back {sl : Addr} {vs : Value} {n : Nat} {Q : Int × Int × Nat → Shared → Prop} (hs : s.heap.IsSliceOf sl .none .none vs) (ps : IsPart vs (some (-1)))
    (h : Q ((n : Int) - 1, -1, n) s) : wpAny (model prog w) A (Builtin.Slice.sliceApplied (.ref sl) (pure (n : Int))) Q E s := by
  obtain ⟨os, hos, hcs, hds⟩ := id hs
  unfold Builtin.Slice.sliceApplied Builtin.Slice.sliceFields
  refine wpAny_bind (wpAny_bind (wpAny_field hos hds (x := .none) rfl (wpAny_bind (wpAny_field hos hds (x := .none) rfl (wpAny_bind (wpAny_field hos hds (x := vs) rfl (wpAny_pure ?_)))))))
  refine wpAny_bind (slicePart_ ps ?_)
  show wpAny _ _ (if ((-1 : Int) == 0) = true then _ else _) _ _ s
  rw [if_neg (by decide)]
  refine wpAny_bind (slicePart_none (wpAny_bind (slicePart_none (wpAny_bind (wpAny_pure ?_)))))
  show wpAny _ _ (match Builtin.Slice.sliceAdjust none none (-1) (n : Int) with | (lo, hi) => pure (lo, (-1 : Int), Builtin.Slice.slicePlaces lo hi (-1))) _ _ s
  rw [adjust_back n]
  show wpAny _ _ (pure ((n : Int) - 1, (-1 : Int), Builtin.Slice.slicePlaces ((n : Int) - 1) (-1) (-1))) _ _ s
  rw [places_back]
  exact wpAny_pure h
theorem pick_back (xs : Array Value) : ((List.range xs.size).filterMap fun (m : Nat) => xs[(((xs.size : Nat) : Int) - 1 + (m : Int) * (-1)).toNat]?).toArray = xs.toList.reverse.toArray := by
  congr 1
  have h : ∀ m ∈ List.range xs.size, xs[(((xs.size : Nat) : Int) - 1 + (m : Int) * (-1)).toNat]? = some (xs.toList.reverse[m]?.getD .none) := fun m hm => by
    have hm' := List.mem_range.mp hm
    have e : (((xs.size : Nat) : Int) - 1 + (m : Int) * (-1)).toNat = xs.size - 1 - m := by omega
    rw [e, List.getElem?_reverse (by simpa using hm'), Array.length_toList, Array.getElem?_toList, Array.getElem?_eq_getElem (by omega)]
    rfl
  rw [filterMap_some _ h]
  apply List.ext_getElem?
  intro i
  simp only [List.getElem?_map, List.getElem?_range]
  by_cases hi : i < xs.size
  · simp [hi]
  · simp [hi]
theorem getItem_tuple_back {t sl : Addr} {items : Array Value} {vs : Value} {Q : Value → Shared → Prop} (ht : IsTup s.heap t items) (hs : s.heap.IsSliceOf sl .none .none vs) (ps : IsPart vs (some (-1)))
    (h : Q (.ref s.heap.objs.size) { s with heap := s.heap.push { cls := .type "tuple", data := .seq items.toList.reverse.toArray } })
    (hsz : items.size ≤ sizeLine) : wpAny (model prog w) A (getItem (.ref t) (.ref sl)) Q E s := by
  have htake : sizeOk (.seq items.toList.reverse.toArray) := by
    show items.toList.reverse.toArray.size ≤ sizeLine
    rw [List.size_toArray, List.length_reverse, Array.length_toList]
    exact hsz
  obtain ⟨os, hos, hcs, hds⟩ := id hs
  have hTs : s.TypeIs (.ref sl) "slice" := ⟨os, hos, hcs⟩
  unfold getItem
  try with_reducible refine wpAny_holding ?_
  first | refine wpAny_bind (wpAny_pure ?_) | skip
  refine wpAny_bind (wpAny_sequenceKey ht.typeIs (by decide) ?_)
  refine wpAny_bind (wpAny_callSpecial?_slot (name := Str.ofString "__getitem__") ht.typeIs PyProof.Rows.slot_tuple_getitem
    (wpAny_call_entry PyProof.Rows.slot_tuple_getitem ht.typeIs entry_tuple_getitem ?_ (args_tuple_getitem _ _)))
  show wpAny _ _ (Builtin.Tuple.tupleItemsOf (.ref t) >>= _) _ _ s
  refine wpAny_bind (tupleItemsOf_ ht ?_)
  refine wpAny_bind (wpAny_typeOf hTs ?_)
  rw [if_pos (by decide)]
  refine wpAny_bind (sliceApplied_back hs ps ?_)
  have hno : ¬ (((((items.size : Nat) : Int) - 1) == 0 && (-1 : Int) == 1 && items.size == items.size) = true) := by
    simp
  show wpAny _ _ (if ((((items.size : Nat) : Int) - 1) == 0 && (-1 : Int) == 1 && items.size == items.size) = true then _ else _) _ _ s
  rw [if_neg hno, pick_back]
  first
    | exact wpAny_bind (m := Builtin.Tuple.tupleExact _) (wpAny_newObj_type (wpAny_pure ⟨_, rfl, wpAny_pure h⟩) htake)
    | exact wpAny_bind (m := Builtin.Tuple.tupleExact _) (wpAny_newObj_type (wpAny_bind (wpAny_pure (wpAny_pure ⟨_, rfl, wpAny_pure h⟩))) htake)
    | exact wpAny_bind (wpAny_bind (m := Builtin.Tuple.tupleExact _) (wpAny_newObj_type (wpAny_pure (wpAny_pure ⟨_, rfl, wpAny_pure h⟩)) htake))
    | exact wpAny_bind (wpAny_bind (m := Builtin.Tuple.tupleExact _) (wpAny_newObj_type (wpAny_pure ⟨_, rfl, wpAny_pure h⟩) htake))
end
end HT
namespace L2
open PySem PySem.Spec PyProof.Rows
section
variable {X : Cx}
/-- t[::-1], xs[::-1] -/
def tRevA (K : PySem.W.Frag) (te : TE) : TE := fun σ H Q => te σ H fun x H1 => ∃ a xs, x = .ref a ∧ ((SqL K H1 a xs ∧ ∀ p, H1 p = none → Q (.ref p) (upd H1 p (.lst xs.reverse))) ∨ (SqT K H1 a xs ∧ ∀ p, H1 p = none → Q (.ref p) (upd H1 p (.tup xs.reverse))))
theorem pe_revA {e : Expr} {te : TE} {k : Nat} {p1 p2 p3 pos : Pos} (he : PE X e te) : PE X (.Subscript e (.Slice none none (some (.UnaryOp .USub (.Constant (.int 1) k p1) p2)) p3) pos) (tRevA X.K te) := by
  refine ⟨fun pins s σ H Q I h => ?_⟩
  refine Subscript_ (thn (he.run pins s σ H _ I h) fun v s1 ⟨x, H1, I1, r1, q1⟩ => ?_)
  obtain ⟨a, xs, ex, q⟩ := q1
  subst ex
  cases r1
  have hst : PO X (some (.UnaryOp .USub (.Constant (.int 1) k p1) p2)) (tPart (tUn (rU fun i => .int (-i)) (tC (.int 1)))) := po_some (pe_un un_neg pe_int)
  refine wpAny_Slice (thn (po_none.run pins s1 σ H1 (fun o H2 => o = none ∧ H2 = H1) I1 ⟨rfl, rfl⟩) fun vl s2 ⟨l, H2, I2, pl, el, e2⟩ => ?_)
  subst el e2
  refine thn (po_none.run pins s2 σ H2 (fun o H3 => o = none ∧ H3 = H2) I2 ⟨rfl, rfl⟩) fun vu s3 ⟨u, H3, I3, pu, eu, e3⟩ => ?_
  subst eu e3
  refine thn (hst.run pins s3 σ H3 (fun o H4 => o = some (-1) ∧ H4 = H3) I3 ⟨1, rfl, -1, rfl, rfl, rfl⟩) fun vs s4 ⟨o, H4, I4, ps, eo, e4⟩ => ?_
  subst eo e4
  have I5 : Inv X pins σ H4 { s4 with heap := s4.heap.push { cls := .type "slice", data := .fields #[vl, vu, vs] } } := I4.kept (t' := s4.toks) fun b ob q => Heap.get?_push_of_some _ q
  rcases q with ⟨hx, q⟩ | ⟨hx, q⟩
  · obtain ⟨its, r, ht, hz⟩ := I5.list hx
    have hlen := r.length
    show wpAny (model X.prog X.w) X.A (subscriptTail e (.Slice none none (some (.UnaryOp .USub (.Constant (.int 1) k p1) p2)) p3) (.ref a) (.ref s4.heap.objs.size)) (EP X pins σ Q) X.xe { s4 with heap := s4.heap.push { cls := .type "slice", data := .fields #[vl, vu, vs] } }
    refine tail_any (ops := [.ref a, .ref s4.heap.objs.size]) ht.isList.typeIs (PySem.slot_list_getitem.lookup) ?_ (by with_unfolding_all rfl)
    refine wpAny_getItem_list_slice ht.isList (Heap.IsSliceOf.new _ vl vu vs) pl pu ps (by decide) ?_ (by rw [List.size_toArray]; omega)
    rw [PySem.W.krv_pick]
    refine ⟨.ref _, _, I5.laid (t' := s4.toks) (o := .lst xs.reverse) (fun b ob q => Heap.get?_push_of_some _ q) (Nat.le_refl _) ?_, rfl, q _ (I5.hok.fresh (Nat.le_refl _))⟩
    exact ⟨by rw [List.length_reverse]; exact hz, _, 0, r.reverse, Heap.get?_push_size _ rfl⟩
  · obtain ⟨its, r, ht, hz⟩ := I5.tuple hx
    have hlen := r.length
    cases pl
    cases pu
    show wpAny (model X.prog X.w) X.A (subscriptTail e (.Slice none none (some (.UnaryOp .USub (.Constant (.int 1) k p1) p2)) p3) (.ref a) (.ref s4.heap.objs.size)) (EP X pins σ Q) X.xe { s4 with heap := s4.heap.push { cls := .type "slice", data := .fields #[.none, .none, vs] } }
    refine tail_any (ops := [.ref a, .ref s4.heap.objs.size]) ht.typeIs (PyProof.Rows.slot_tuple_getitem.lookup) ?_ (by with_unfolding_all rfl)
    refine HT.getItem_tuple_back ht (Heap.IsSliceOf.new _ .none .none vs) ps ?_ (by rw [List.size_toArray]; omega)
    refine ⟨.ref _, _, I5.laid (t' := s4.toks) (o := .tup xs.reverse) (fun b ob q => Heap.get?_push_of_some _ q) (Nat.le_refl _) ?_, rfl, q _ (I5.hok.fresh (Nat.le_refl _))⟩
    exact ⟨by rw [List.length_reverse]; exact hz, _, r.reverse, IsTup.new _ _⟩
end
end L2

/-! sorted of a tuple -/
namespace PyProof.Rows
open PySem PySem.Spec
section
variable {prog : Program} {w : World} {A : Around} {E : Value → Shared → Prop} {s : Shared}
theorem collect_tup {l : Addr} {vs : List Value} {Q : List Value → Shared → Prop} (hl : IsTup s.heap l vs.toArray)
    (h : Q vs { s with heap := (s.heap.push (seqObj "list" #[] 0)).update s.heap.objs.size (Obj.mapSeq (· ++ vs.toArray)) }) (hsz : vs.length ≤ sizeLine) :
    wpAny (model prog w) A (collect (.ref l)) Q E s := by
  obtain ⟨o, ho, hc, n, hd⟩ := id hl
  unfold collect
  refine wpAny_bind (wpAny_runValue (codeAny_builtin entry_proto_collect' ?_))
  show wpAny _ _ (do again (.builtin "list.__iadd__" ⟨[← newList [], .ref l], []⟩)) _ _ s
  refine wpAny_bind (wpAny_newList (wpAny_pure ⟨Code.quiet_builtin _ (by decide +kernel), codeAny_builtin entry_list_iadd' ?_⟩))
  show wpAny _ _ (Builtin.List.listExtendWith (.ref s.heap.objs.size) (.ref l) (.ref s.heap.objs.size)) _ _ { s with heap := s.heap.push (seqObj "list" #[] 0) }
  unfold Builtin.List.listExtendWith
  have ho' : (s.heap.push (seqObj "list" #[] 0)).get? l = some o := Heap.get?_push_of_some _ ho
  refine wpAny_bind (wpAny_typeOf (T := "tuple") ⟨o, ho', hc⟩ ?_)
  have ht : (Value.type "tuple" == Value.type "tuple") = true := by rfl
  rw [if_pos (by rw [ht]; simp)]
  refine wpAny_bind (listItems_at ho' hd ?_)
  refine wpAny_bind (listItems_at (xs := #[]) (n := 0) (Heap.get?_push_size _ rfl) rfl ?_)
  rw [if_neg (by simp)]
  refine wpAny_bind (listUpdate_at (xs := #[]) (n := 0) (Heap.get?_push_size _ rfl) rfl ?_ (Nat.zero_le _) (by show (#[] ++ vs.toArray).size ≤ sizeLine + 1; simp only [Array.size_append, List.size_toArray, List.length_nil]; omega))
  refine wpAny_pure ?_
  show wpAny (model prog w) A (do
      let o ← load s.heap.objs.size
      match o.data with
      | .seq xs _ => pure xs.toList
      | _ => unsupported "internal:collect") Q E { s with heap := (s.heap.push (seqObj "list" #[] 0)).update s.heap.objs.size (Obj.mapSeq (· ++ vs.toArray)) }
  refine wpAny_bind (wpAny_load (get?_update_seq (Heap.get?_push_size _ rfl) _) ?_)
  show wpAny _ _ (pure ((#[] : Array Value) ++ vs.toArray).toList) Q E _
  rw [show ((#[] : Array Value) ++ vs.toArray).toList = vs by simp]
  exact wpAny_pure h
theorem sortedKTup {κ : KeyKind} (hO : κ.OneLt) {l : Addr} {vs : List Value} {Q : Value → Shared → Prop} (hl : IsTup s.heap l vs.toArray) (h0 : KeysOf κ (pairsOf vs)) (hkk : ∀ v₁ v₂ rest, vs = v₁ :: v₂ :: rest → keyKind' (v₁ :: v₂ :: rest).toArray = pure oneType') (hL : vs.length ≤ sizeLine)
    (h : ∀ st' : SortSt, (arrOf st').Perm (pairsOf vs) → SortedToK κ (arrOf st') (pairsOf vs).size → Q (.ref (s.heap.objs.size + 1)) { s with heap := sortedAll s.heap vs ((arrOf st').map (·.2)) }) :
    wpAny (model prog w) A (call (.builtin "sorted") [.ref l]) Q E s := by
  refine Calls.call_function_entry kind_sorted plain_sorted entry_sorted (args_sorted1 _) ?_
  unfold Builtin.«sorted»
  refine wpAny_bind (m := checkCount "sorted" 1 1 _) (wpAny_pure ?_)
  refine wpAny_bind (collect_tup hl ?_ hL)
  refine wpAny_bind (wpAny_newList ?_)
  have hsz : ((s.heap.push (seqObj "list" #[] 0)).update s.heap.objs.size (Obj.mapSeq (· ++ vs.toArray))).objs.size = s.heap.objs.size + 1 := by
    rw [Heap.size_update, size_push']
  have hoL : (((s.heap.push (seqObj "list" #[] 0)).update s.heap.objs.size (Obj.mapSeq (· ++ vs.toArray))).push (seqObj "list" vs.toArray 0)).get? (s.heap.objs.size + 1) = some (seqObj "list" vs.toArray 0) := by
    rw [← hsz]; exact Heap.get?_push_size _ rfl
  show wpAny _ _ _ _ _ { s with heap := ((s.heap.push (seqObj "list" #[] 0)).update s.heap.objs.size (Obj.mapSeq (· ++ vs.toArray))).push (seqObj "list" vs.toArray 0) }
  rw [hsz]
  refine wpAny_bind (wpAny_holding (wpAny_call_entry slot_list_sort ⟨_, hoL, rfl⟩ entry_list_sort (list_sort_treeKAny hO hoL h0 hkk hL fun st' a1 a2 => ⟨_, rfl, ?_⟩) (args_list_sort _)))
  exact wpAny_pure ⟨_, rfl, h st' a1 a2⟩
theorem sorted_strsTup {l : Addr} {vs : List Value} {ss : List Str} {Q : Value → Shared → Prop} (hl : IsTup s.heap l vs.toArray) (hS : StrsAre vs ss) (hL : vs.length ≤ sizeLine)
    (h : ∀ (out : Array Value) (ss' : List Str), StrsAre out.toList ss' → ss'.Perm ss → sortedS ss' = true → Q (.ref (s.heap.objs.size + 1)) { s with heap := sortedAll s.heap vs out }) :
    wpAny (model prog w) A (call (.builtin "sorted") [.ref l]) Q E s := by
  refine sortedKTup strKind_oneLt hl hS.keysOf (fun v₁ v₂ rest e => keyKind_strs (by rw [← e]; exact hS)) hL fun st' hp hs => ?_
  obtain ⟨ss', h1, h2, h3⟩ := sorted_out_str hS hp hs
  exact h _ ss' h1 h2 h3
end
end PyProof.Rows
namespace L2
open PySem PySem.Spec PyProof.Rows
section
variable {X : Cx}
def rSortedSA (K : PySem.W.Frag) : List V → Hp → VK → Prop := fun vs H Q => ∃ (a : Addr) (xs : List Str), vs = [V.ref a] ∧ (SqL K H a (xs.map V.str) ∨ SqT K H a (xs.map V.str)) ∧ xs.length ≤ sizeLine ∧
  ∀ (ys : List Str) (p : Addr), ys.Perm xs → sortedS ys = true → H p = none → Q (.ref p) (upd H p (.lst (ys.map V.str)))
theorem cr_sortedSA : CallR X (.builtin "sorted") (rSortedSA X.K) := by
  intro pins s σ H vs us Q I r h
  obtain ⟨a, xs, rfl, hs, hL, q⟩ := h
  have fin : ∀ (its : List Value), Vals (xs.map V.str) its → ∀ (out : Array Value) (ys : List Str), StrsAre out.toList ys → ys.Perm xs → sortedS ys = true → EP X pins σ Q (.ref (s.heap.objs.size + 1)) { s with heap := sortedAll s.heap its out } := fun its rv out ys h1 h2 h3 => by
    obtain ⟨ep, he'⟩ := PyProof.Rows.sortedAll_at s.heap its out
    have hlen : (ys.map V.str).length ≤ sizeLine := by rw [List.length_map, h2.length_eq]; exact hL
    exact ⟨.ref _, upd H (s.heap.objs.size + 1) (.lst (ys.map V.str)), I.laid (t' := s.toks) (fun _ _ => PyProof.Rows.sortedAll_old) (Nat.le_succ _) ⟨hlen, out.toList, ep, vals_of_strs h1, he'⟩, rfl, q ys _ h2 h3 (I.hok.fresh (Nat.le_succ _))⟩
  rw [Vals.ref1 r]
  rcases hs with hs | hs
  · obtain ⟨its, rv, hl, _⟩ := I.list hs
    have hlen0 := rv.length
    rw [List.length_map] at hlen0
    exact PyProof.Rows.sorted_strsAny hl.isList rv.strs (by rw [← hlen0]; exact hL) (fin its rv)
  · obtain ⟨its, rv, hl, _⟩ := I.tuple hs
    have hlen0 := rv.length
    rw [List.length_map] at hlen0
    exact PyProof.Rows.sorted_strsTup hl rv.strs (by rw [← hlen0]; exact hL) (fin its rv)
end
end L2

namespace Bz
open PySem PySem.Spec PyProof.Rows L2
theorem dq_ty {K : PySem.W.Frag} {H : Hp} {v : V} {x : PyData} {t : String} (h : Dq K H v x) (e : tyD x = some t) : TyX K H v (.type t) := by
  cases h with
  | non => cases e; exact .base .non
  | bl b => cases e; exact .base (.bl b)
  | int i => cases e; exact .base (.int i)
  | str x => cases e; exact .base (.str x)
  | lst h1 _ => cases e; exact .base (.lst h1)
  | tup h1 _ =>
    cases e
    rcases h1 with h1 | ⟨o, its, n, h1, h2, _⟩
    · rcases h1 with h1 | ⟨o, h1⟩
      · exact .base (.tup h1)
      · exact .fTuple h1
    · exact .kTuple h1 h2
  | scr h1 => cases e
  | dct h1 h2 => cases e
theorem tyD_six {x : PyData} {t : String} (e : tyD x = some t) : t = "NoneType" ∨ t = "bool" ∨ t = "int" ∨ t = "str" ∨ t = "list" ∨ t = "tuple" := by
  cases x <;> simp [tyD] at e <;> subst e <;> simp
def isC (c : String) : Prop := c = "tuple" ∨ c = "list" ∨ c = "bool" ∨ c = "str" ∨ c = "int"
theorem kit_isB {x : PyData} {t c : String} (e : tyD x = some t) (hc : isC c) : kitB t c = some (isB t c) := by
  rcases tyD_six e with rfl | rfl | rfl | rfl | rfl | rfl <;> rcases hc with rfl | rfl | rfl | rfl | rfl <;> decide +kernel
section
variable {X : Cx} {w : Wish} {a e : Expr} {δ : DE}
theorem ce_rev {k : Nat} {p1 p2 p3 pos : Pos} (h : CE X w e δ) : CE X w (.Subscript e (.Slice none none (some (.UnaryOp .USub (.Constant (.int 1) k p1) p2)) p3) pos) (eUn fRev δ) := by
  obtain ⟨ta, p1, s1⟩ := h
  refine ⟨_, pe_revA p1, fun ρ μ σ G H m en me Q q => ?_⟩
  refine s1 ρ μ σ G H m en me _ (Post.of_bind q fun x μ1 G1 H1 m1 _ st1 me1 q1 v rv => ?_)
  cases e1 : rd μ1 x with
  | none =>
    simp only [e1] at q1
    exact q1.elim
  | some u1 =>
    simp only [e1] at q1
    obtain ⟨z, hz, kk⟩ := fin2 q1
    unfold fRev at hz
    split at hz
    · cases hz
      obtain ⟨a1, v1, rfl, h1, d1⟩ := rd_list me1 e1 rv
      exact ⟨a1, v1, rfl, .inl ⟨SqL.of h1, newD me1 (fun p g0 => dq_lst g0 (DqAll.reverse d1)) kk⟩⟩
    · cases hz
      obtain ⟨a1, v1, rfl, h1, d1⟩ := rd_tup me1 e1 rv
      exact ⟨a1, v1, rfl, .inr ⟨h1, newD me1 (fun p g0 => dq_tup g0 (DqAll.reverse d1)) kk⟩⟩
    · cases hz
/-- isinstance(x, c) -/
theorem ce_isi1 {p p2 pos : Pos} {c : Str} {cn : String} (h : CE X w a δ) (hm : X.mg "isinstance" = none) (hmc : X.mg c = none) (hc : isC cn) (hv : bootBuiltins c = some (.type cn)) (hg : Gl X "isinstance" := by rfl) (hgc : Gl X c := by rfl) (hn : c ≠ "__name__" := by decide) (hd : (c == ("__debug__" : Str)) = false := by decide)
    (hs1 : starEach [a, .Name c p2] X.env = (false, eval a X.env) :: starEach [.Name c p2] X.env := by rfl) (hs2 : starEach [.Name c p2] X.env = (false, eval (.Name c p2) X.env) :: starEach [] X.env := by rfl)
    (hpl : (backTo pos (starEach [.Name c p2] X.env)).any (·.1) = false := by rfl) : CE X w (.Call (.Name "isinstance" p) [a, .Name c p2] [] pos) (eUn (fIsI [cn]) δ) := by
  obtain ⟨ta, p1, s1⟩ := h
  refine ⟨_, pe_callB call_isi hg hm PyProof.Rows.boot_isinstance (pa_cons p1 (pa_cons (pe_bltn (v := .ty cn) hgc hmc hv rfl hn hd) pa_nil hs2) hs1) (by decide) (by decide) hs1 hpl, fun ρ μ σ G H m en me Q q => ?_⟩
  refine s1 ρ μ σ G H m en me _ (Post.of_bind q fun x μ1 G1 H1 m1 _ st1 me1 q1 v rv => ?_)
  cases e1 : rd μ1 x with
  | none =>
    simp only [e1] at q1
    exact q1.elim
  | some u1 =>
    simp only [e1] at q1
    obtain ⟨z, hz, kk⟩ := fin2 q1
    unfold fIsI at hz
    cases ht : tyD u1 with
    | none => rw [ht] at hz; cases hz
    | some t =>
      rw [ht] at hz
      cases hz
      refine ⟨v, .ty cn, .type t, .type cn, isB t cn, rfl, .ty cn, dq_ty (rd_dq me1 e1 rv) ht, kit_ty (kit_isB ht hc), ?_⟩
      have := kk (.bl (isB t cn)) G1 H1 Stp.refl me1
      simp only [List.any_cons, List.any_nil, Bool.or_false] at this
      exact this (.bl _)
/-- isinstance(x, (c1, c2)) -/
theorem ce_isi2 {p p2 p3 tp pos : Pos} {c c' : Str} {cn cn' : String} {k : Nat} (h : CE X w a δ) (hm : X.mg "isinstance" = none) (hmc : X.mg c = none) (hc : isC cn) (hv : bootBuiltins c = some (.type cn)) (hmc' : X.mg c' = none) (hc' : isC cn') (hv' : bootBuiltins c' = some (.type cn'))
    (hg : Gl X "isinstance" := by rfl) (hgc : Gl X c := by rfl) (hgc' : Gl X c' := by rfl) (hn : c ≠ "__name__" := by decide) (hd : (c == ("__debug__" : Str)) = false := by decide) (hn' : c' ≠ "__name__" := by decide) (hd' : (c' == ("__debug__" : Str)) = false := by decide)
    (hs1 : starEach [a, .Tuple [.Name c p2, .Name c' p3] k tp] X.env = (false, eval a X.env) :: starEach [.Tuple [.Name c p2, .Name c' p3] k tp] X.env := by rfl)
    (hs2 : starEach [.Tuple [.Name c p2, .Name c' p3] k tp] X.env = (false, eval (.Tuple [.Name c p2, .Name c' p3] k tp) X.env) :: starEach [] X.env := by rfl)
    (hs3 : starEach [.Name c p2, .Name c' p3] X.env = (false, eval (.Name c p2) X.env) :: starEach [.Name c' p3] X.env := by rfl) (hs4 : starEach [.Name c' p3] X.env = (false, eval (.Name c' p3) X.env) :: starEach [] X.env := by rfl)
    (hpl : (backTo pos (starEach [.Tuple [.Name c p2, .Name c' p3] k tp] X.env)).any (·.1) = false := by rfl) : CE X w (.Call (.Name "isinstance" p) [a, .Tuple [.Name c p2, .Name c' p3] k tp] [] pos) (eUn (fIsI [cn, cn']) δ) := by
  obtain ⟨ta, p1, s1⟩ := h
  refine ⟨_, pe_callB call_isiT hg hm PyProof.Rows.boot_isinstance (pa_cons p1 (pa_cons (pe_tup (pa_cons (pe_bltn (v := .ty cn) hgc hmc hv rfl hn hd) (pa_cons (pe_bltn (v := .ty cn') hgc' hmc' hv' rfl hn' hd') pa_nil hs4) hs3)) pa_nil hs2) hs1) (by decide) (by decide) hs1 hpl, fun ρ μ σ G H m en me Q q => ?_⟩
  refine s1 ρ μ σ G H m en me _ (Post.of_bind q fun x μ1 G1 H1 m1 _ st1 me1 q1 v rv => ?_)
  cases e1 : rd μ1 x with
  | none =>
    simp only [e1] at q1
    exact q1.elim
  | some u1 =>
    simp only [e1] at q1
    obtain ⟨z, hz, kk⟩ := fin2 q1
    unfold fIsI at hz
    cases ht : tyD u1 with
    | none => rw [ht] at hz; cases hz
    | some t =>
      rw [ht] at hz
      cases hz
      refine ⟨by show 2 ≤ sizeLine; rw [sizeLine_eq]; omega, fun pp hp => ?_⟩
      obtain ⟨me2, st2⟩ := me1.push (o := .tup [.ty cn, .ty cn']) hp
      refine ⟨v, pp, [.ty cn, .ty cn'], .type t, [.type cn, .type cn'], (isB t cn || isB t cn'), rfl, upd_same, .cons (.ty cn) (.cons (.ty cn') .nil), dq_ty (rd_dq me2 e1 (rv.mono st2.gr)) ht, ?_, ?_⟩
      · refine kitAny_cons (kit_ty (kit_isB ht hc)) (fun h0 => ?_) (fun h1 => by rw [h1]; rfl)
        rw [h0]
        exact kitAny_cons (kit_ty (kit_isB ht hc')) (fun h0 => by rw [h0]; rfl) (fun h1 => by rw [h1]; rfl)
      · have := kk (.bl (isB t cn || isB t cn')) _ _ st2 me2
        simp only [List.any_cons, List.any_nil, Bool.or_false] at this
        exact this (.bl _)
end
end Bz
namespace Bz
open PySem PySem.Spec PyProof.Rows L2
theorem leS_iff (a b : Str) : leS a b = true ↔ a.cps.toList ≤ b.cps.toList := by
  unfold leS
  rw [ltCps_eq]
  simp
theorem leS_trans (a b c : Str) (h1 : leS a b = true) (h2 : leS b c = true) : leS a c = true := by
  rw [leS_iff] at *
  exact List.le_trans h1 h2
theorem leS_total (a b : Str) : (leS a b || leS b a) = true := by
  rw [Bool.or_eq_true, leS_iff, leS_iff]
  exact List.le_total _ _
theorem leS_anti (a b : Str) (h1 : leS a b = true) (h2 : leS b a = true) : a = b := by
  rw [leS_iff] at *
  have := List.le_antisymm h1 h2
  cases a; cases b
  simpa using this
theorem rising_pw : ∀ (l : List Str) (p : Str), risingS p l = true → (p :: l).Pairwise fun a b => leS a b = true
  | [], p, _ => by simp
  | x :: l, p, h => by
    unfold risingS at h
    rw [Bool.and_eq_true] at h
    have h2 := rising_pw l x h.2
    have h1 : leS p x = true := h.1
    refine List.pairwise_cons.mpr ⟨fun y hy => ?_, h2⟩
    rcases List.mem_cons.mp hy with rfl | hy
    · exact h1
    · exact leS_trans _ _ _ h1 ((List.pairwise_cons.mp h2).1 y hy)
theorem sorted_pw {l : List Str} (h : sortedS l = true) : l.Pairwise fun a b => leS a b = true := by
  cases l with
  | nil => simp
  | cons x l => exact rising_pw l x h
theorem sortS_eq {xs ys : List Str} (hp : ys.Perm xs) (hs : sortedS ys = true) : ys = sortS xs := by
  refine List.Perm.eq_of_pairwise (le := fun a b => leS a b = true) (fun a b _ _ h1 h2 => leS_anti a b h1 h2) (sorted_pw hs) (List.pairwise_mergeSort leS_trans leS_total xs) (hp.trans (List.mergeSort_perm xs leS).symm)
theorem sortS_len (xs : List Str) : (sortS xs).length = xs.length := (List.mergeSort_perm xs leS).length_eq
theorem strsOf_all {K : PySem.W.Frag} {H : Hp} : ∀ {ds : List PyData} {ys : List Str} {vs : List V}, strsOf ds = some ys → DqAll K H vs ds → vs = ys.map V.str
  | [], ys, vs, h, d => by cases h; cases d; rfl
  | x :: ds, ys, vs, h, d => by
    cases d with
    | cons r d' =>
      cases x <;> simp only [strsOf] at h <;> try cases h
      split at h
      · rename_i ys' e
        cases h
        cases r
        rw [strsOf_all e d']
        rfl
      · cases h
theorem dqAll_strs {K : PySem.W.Frag} {H : Hp} (ys : List Str) : DqAll K H (ys.map V.str) (ys.map PyData.str) := by
  induction ys with
  | nil => exact .nil
  | cons y ys ih => exact .cons (.str y) ih
theorem sortedD {K : PySem.W.Frag} : CbD K (rSortedSA K) bSorted := by
  intro G H m μ xs vs as z me ra rx hf Q q
  unfold bSorted at hf
  split at hf
  · rename_i ds
    split at hf
    · rename_i ys e
      split at hf
      · rename_i hs
        cases hf
        obtain ⟨s, v, rfl, rfl, h1, h2⟩ := RpL.one ra rx
        obtain ⟨a1, v1, rfl, s1, d1⟩ := rd_list me h1 h2
        cases strsOf_all e d1
        exact ⟨a1, ys, rfl, .inl (SqL.of s1), small_sz hs, fun zs p hp hz hn => by
          rw [sortS_eq hp hz]
          exact newD me (fun p g0 => dq_lst g0 (dqAll_strs _)) q p hn⟩
      · cases hf
    · cases hf
  · rename_i ds
    split at hf
    · rename_i ys e
      split at hf
      · rename_i hs
        cases hf
        obtain ⟨s, v, rfl, rfl, h1, h2⟩ := RpL.one ra rx
        obtain ⟨a1, v1, rfl, s1, d1⟩ := rd_tup me h1 h2
        cases strsOf_all e d1
        exact ⟨a1, ys, rfl, .inr s1, small_sz hs, fun zs p hp hz hn => by
          rw [sortS_eq hp hz]
          exact newD me (fun p g0 => dq_lst g0 (dqAll_strs _)) q p hn⟩
      · cases hf
    · cases hf
  · cases hf
end Bz
set_option Elab.async false
set_option linter.all false
set_option maxRecDepth 100000
set_option maxHeartbeats 4000000
namespace Bz
open PySem PySem.Spec PyProof.Rows L2
def topS (i : Nat) : Stmt := PySem.Challenge.pw_blazonry_k03_sayings_drawn.main.body.getD i (.Pass ⟨0, 0, 0, 0⟩)
def c_SIDES : PyData := (.tuple [(.int 1), (.int 2), (.int 4), (.int 8)])
def c_COLOURS : PyData := (.tuple [(.str "black"), (.str "blue"), (.str "green"), (.str "red"), (.str "white"), (.str "yellow")])
def c_PARTS : PyData := (.tuple [(.str "party"), (.str "cut"), (.str "quartered")])
def c_PIECES : PyData := (.tuple [(.str "band"), (.str "edge"), (.str "head"), (.str "pillar")])
/-! ### _law_taken -/
abbrev s__law_taken : Stmt := topS 23
abbrev N__law_taken : List Str := ["_law_row", "_law_many", "_law_found", "_law_cell_here"]
theorem sc__law_taken : FnScope N__law_taken ["_law_row", "_law_many"] (defScope s__law_taken) := ⟨rfl, rfl, rfl, by decide +kernel, rfl, by decide +kernel, by decide +kernel⟩
/-! ### _law_size -/
abbrev s__law_size : Stmt := topS 25
abbrev N__law_size : List Str := ["_law_row", "_law_most", "_law_sides", "_law_side"]
theorem sc__law_size : FnScope N__law_size ["_law_row", "_law_most"] (defScope s__law_size) := ⟨rfl, rfl, rfl, by decide +kernel, rfl, by decide +kernel, by decide +kernel⟩
/-! ### _law_cut -/
abbrev s__law_cut : Stmt := topS 30
abbrev N__law_cut : List Str := ["_law_row", "_law_words", "_law_many"]
theorem sc__law_cut : FnScope N__law_cut ["_law_row", "_law_words"] (defScope s__law_cut) := ⟨rfl, rfl, rfl, by decide +kernel, rfl, by decide +kernel, by decide +kernel⟩
/-! ### _law_is_own -/
abbrev s__law_is_own : Stmt := topS 32
abbrev N__law_is_own : List Str := ["_law_size_here", "_law_piece", "_law_row", "_law_column", "_law_width", "_law_height"]
theorem sc__law_is_own : FnScope N__law_is_own ["_law_size_here", "_law_piece", "_law_row", "_law_column"] (defScope s__law_is_own) := ⟨rfl, rfl, rfl, by decide +kernel, rfl, by decide +kernel, by decide +kernel⟩
/-! ### _law_part -/
abbrev s__law_part : Stmt := topS 28
abbrev N__law_part : List Str := ["_law_size_here", "_law_word"]
theorem sc__law_part : FnScope N__law_part ["_law_size_here", "_law_word"] (defScope s__law_part) := ⟨rfl, rfl, rfl, by decide +kernel, rfl, by decide +kernel, by decide +kernel⟩
/-! ### _law_behind -/
abbrev s__law_behind : Stmt := topS 31
abbrev N__law_behind : List Str := ["_law_words", "_law_at", "_law_left", "_law_word"]
theorem sc__law_behind : FnScope N__law_behind ["_law_words", "_law_at"] (defScope s__law_behind) := ⟨rfl, rfl, rfl, by decide +kernel, rfl, by decide +kernel, by decide +kernel⟩
/-! ### _law_cell -/
abbrev s__law_cell : Stmt := topS 33
abbrev N__law_cell : List Str := ["_law_words", "_law_at", "_law_size_here", "_law_row", "_law_column", "_law_word", "_law_part_here", "_law_right", "_law_low"]
theorem sc__law_cell : FnScope N__law_cell ["_law_words", "_law_at", "_law_size_here", "_law_row", "_law_column"] (defScope s__law_cell) := ⟨rfl, rfl, rfl, by decide +kernel, rfl, by decide +kernel, by decide +kernel⟩
/-! ### _law_drawing -/
abbrev s__law_drawing : Stmt := topS 34
abbrev N__law_drawing : List Str := ["_law_words", "_law_size_here", "_law_rows", "_law_row", "_law_column"]
theorem sc__law_drawing : FnScope N__law_drawing ["_law_words", "_law_size_here"] (defScope s__law_drawing) := ⟨rfl, rfl, rfl, by decide +kernel, rfl, by decide +kernel, by decide +kernel⟩
/-! ### _law_fits -/
abbrev s__law_fits : Stmt := topS 27
abbrev N__law_fits : List Str := ["_law_size_here", "_law_word", "_law_least", "_law_width", "_law_height"]
theorem sc__law_fits : FnScope N__law_fits ["_law_size_here", "_law_word"] (defScope s__law_fits) := ⟨rfl, rfl, rfl, by decide +kernel, rfl, by decide +kernel, by decide +kernel⟩
/-! ### _law_colour -/
abbrev s__law_colour : Stmt := topS 26
abbrev N__law_colour : List Str := ["_law_row"]
theorem sc__law_colour : FnScope N__law_colour ["_law_row"] (defScope s__law_colour) := ⟨rfl, rfl, rfl, by decide +kernel, rfl, by decide +kernel, by decide +kernel⟩
/-! ### _law_saying -/
abbrev s__law_saying : Stmt := topS 29
abbrev N__law_saying : List Str := ["_law_row", "_law_size_here", "_law_deep", "_law_word", "_law_some", "_law_way", "_law_part_here"]
theorem sc__law_saying : FnScope N__law_saying ["_law_row", "_law_size_here", "_law_deep"] (defScope s__law_saying) := ⟨rfl, rfl, rfl, by decide +kernel, rfl, by decide +kernel, by decide +kernel⟩
/-! ### words_of -/
abbrev s_words_of : Stmt := topS 15
abbrev N_words_of : List Str := ["tree", "word", "at", "colour", "parts", "found", "part"]
theorem sc_words_of : FnScope N_words_of ["tree"] (defScope s_words_of) := ⟨rfl, rfl, rfl, by decide +kernel, rfl, by decide +kernel, by decide +kernel⟩
/-! ### need_size -/
abbrev s_need_size : Stmt := topS 7
abbrev N_need_size : List Str := ["size"]
theorem sc_need_size : FnScope N_need_size ["size"] (defScope s_need_size) := ⟨rfl, rfl, rfl, by decide +kernel, rfl, by decide +kernel, by decide +kernel⟩
/-! ### fits -/
abbrev s_fits : Stmt := topS 11
abbrev N_fits : List Str := ["size", "word", "width", "height"]
theorem sc_fits : FnScope N_fits ["size", "word"] (defScope s_fits) := ⟨rfl, rfl, rfl, by decide +kernel, rfl, by decide +kernel, by decide +kernel⟩
/-! ### part_of -/
abbrev s_part_of : Stmt := topS 12
abbrev N_part_of : List Str := ["size", "word", "width", "height"]
theorem sc_part_of : FnScope N_part_of ["size", "word"] (defScope s_part_of) := ⟨rfl, rfl, rfl, by decide +kernel, rfl, by decide +kernel, by decide +kernel⟩
/-! ### tree_at -/
abbrev s_tree_at : Stmt := topS 13
abbrev N_tree_at : List Str := ["size", "words", "at", "word", "one", "behind", "other", "colour"]
theorem sc_tree_at : FnScope N_tree_at ["size", "words", "at"] (defScope s_tree_at) := ⟨rfl, rfl, rfl, by decide +kernel, rfl, by decide +kernel, by decide +kernel⟩
/-! ### tree_of -/
abbrev s_tree_of : Stmt := topS 14
abbrev N_tree_of : List Str := ["size", "words", "tree", "behind"]
theorem sc_tree_of : FnScope N_tree_of ["size", "words"] (defScope s_tree_of) := ⟨rfl, rfl, rfl, by decide +kernel, rfl, by decide +kernel, by decide +kernel⟩
/-! ### filled -/
abbrev s_filled : Stmt := topS 16
abbrev N_filled : List Str := ["size", "words"]
theorem sc_filled : FnScope N_filled ["size", "words"] (defScope s_filled) := ⟨rfl, rfl, rfl, by decide +kernel, rfl, by decide +kernel, by decide +kernel⟩
/-! ### _law_other -/
abbrev s__law_other : Stmt := topS 35
abbrev N__law_other : List Str := ["_law_row", "_law_words", "_law_size_here", "_law_way", "_law_some", "_law_colour_here", "_law_word"]
theorem sc__law_other : FnScope N__law_other ["_law_row", "_law_words", "_law_size_here"] (defScope s__law_other) := ⟨rfl, rfl, rfl, by decide +kernel, rfl, by decide +kernel, by decide +kernel⟩
/-! ### _law_alike -/
abbrev s__law_alike : Stmt := topS 24
abbrev N__law_alike : List Str := ["_law_found", "_law_due", "_law_k"]
theorem sc__law_alike : FnScope N__law_alike ["_law_found", "_law_due"] (defScope s__law_alike) := ⟨rfl, rfl, rfl, by decide +kernel, rfl, by decide +kernel, by decide +kernel⟩
/-! ### is_own -/
abbrev s_is_own : Stmt := topS 18
abbrev N_is_own : List Str := ["size", "piece", "row", "column", "width", "height"]
theorem sc_is_own : FnScope N_is_own ["size", "piece", "row", "column"] (defScope s_is_own) := ⟨rfl, rfl, rfl, by decide +kernel, rfl, by decide +kernel, by decide +kernel⟩
/-! ### drawing_of -/
abbrev s_drawing_of : Stmt := topS 19
abbrev N_drawing_of : List Str := ["size", "tree", "word", "at", "colour", "parts", "behind", "rows", "row", "cells", "one", "other", "beside", "part", "left", "right", "k"]
theorem sc_drawing_of : FnScope N_drawing_of ["size", "tree"] (defScope s_drawing_of) := ⟨rfl, rfl, rfl, by decide +kernel, rfl, by decide +kernel, by decide +kernel⟩
/-! ### drawn -/
abbrev s_drawn : Stmt := topS 20
abbrev N_drawn : List Str := ["size", "words"]
theorem sc_drawn : FnScope N_drawn ["size", "words"] (defScope s_drawn) := ⟨rfl, rfl, rfl, by decide +kernel, rfl, by decide +kernel, by decide +kernel⟩
/-! ### alike -/
abbrev s_alike : Stmt := topS 21
abbrev N_alike : List Str := ["size", "one", "other"]
theorem sc_alike : FnScope N_alike ["size", "one", "other"] (defScope s_alike) := ⟨rfl, rfl, rfl, by decide +kernel, rfl, by decide +kernel, by decide +kernel⟩
/-! ### law -/
abbrev s_law : Stmt := topS 36
abbrev N_law : List Str := ["_law_script", "_law_row", "_law_turn", "_law_size_here", "_law_words", "_law_other_here", "_law_due", "_law_same"]
theorem sc_law : FnScope N_law ["_law_script"] (defScope s_law) := ⟨rfl, rfl, rfl, by decide +kernel, rfl, by decide +kernel, by decide +kernel⟩
/-- what the text says -/
structure Txt (K : PySem.W.Frag) (mg : Str → Option Value) : Prop where
  b_abs : mg "abs" = none
  b_bool : mg "bool" = none
  b_int : mg "int" = none
  b_isinstance : mg "isinstance" = none
  b_len : mg "len" = none
  b_list : mg "list" = none
  b_min : mg "min" = none
  b_range : mg "range" = none
  b_str : mg "str" = none
  b_tuple : mg "tuple" = none
  b_zip : mg "zip" = none
  c_SIDES : GlobC K mg "SIDES" c_SIDES
  c_COLOURS : GlobC K mg "COLOURS" c_COLOURS
  c_PARTS : GlobC K mg "PARTS" c_PARTS
  c_PIECES : GlobC K mg "PIECES" c_PIECES
  d__law_taken : At K mg "_law_taken" s__law_taken ["_law_row", "_law_many"]
  d__law_size : At K mg "_law_size" s__law_size ["_law_row", "_law_most"]
  d__law_cut : At K mg "_law_cut" s__law_cut ["_law_row", "_law_words"]
  d__law_is_own : At K mg "_law_is_own" s__law_is_own ["_law_size_here", "_law_piece", "_law_row", "_law_column"]
  d__law_part : At K mg "_law_part" s__law_part ["_law_size_here", "_law_word"]
  d__law_behind : At K mg "_law_behind" s__law_behind ["_law_words", "_law_at"]
  d__law_cell : At K mg "_law_cell" s__law_cell ["_law_words", "_law_at", "_law_size_here", "_law_row", "_law_column"]
  d__law_drawing : At K mg "_law_drawing" s__law_drawing ["_law_words", "_law_size_here"]
  d__law_fits : At K mg "_law_fits" s__law_fits ["_law_size_here", "_law_word"]
  d__law_colour : At K mg "_law_colour" s__law_colour ["_law_row"]
  d__law_saying : At K mg "_law_saying" s__law_saying ["_law_row", "_law_size_here", "_law_deep"]
  d_words_of : At K mg "words_of" s_words_of ["tree"]
  d_need_size : At K mg "need_size" s_need_size ["size"]
  d_fits : At K mg "fits" s_fits ["size", "word"]
  d_part_of : At K mg "part_of" s_part_of ["size", "word"]
  d_tree_at : At K mg "tree_at" s_tree_at ["size", "words", "at"]
  d_tree_of : At K mg "tree_of" s_tree_of ["size", "words"]
  d_filled : At K mg "filled" s_filled ["size", "words"]
  d__law_other : At K mg "_law_other" s__law_other ["_law_row", "_law_words", "_law_size_here"]
  d__law_alike : At K mg "_law_alike" s__law_alike ["_law_found", "_law_due"]
  d_is_own : At K mg "is_own" s_is_own ["size", "piece", "row", "column"]
  d_drawing_of : At K mg "drawing_of" s_drawing_of ["size", "tree"]
  d_drawn : At K mg "drawn" s_drawn ["size", "words"]
  d_alike : At K mg "alike" s_alike ["size", "one", "other"]
  d_law : At K mg "law" s_law ["_law_script"]
section
variable {P : Program} {w : World} {K : PySem.W.Frag} {mg : Str → Option Value} {base : Heap} {cx : Nat → Option Addr}
def m__law_taken : Fn := callD 2 4 ((sSeq (sIf (bVal (eOp fGt (eOp fIx (eVar 0) (eC (.int 3))) (eC (.int 0)))) (sSeq (sAsg (eOp fMod (eOp fIx (eVar 0) (eC (.int 3))) (eVar 1)) (gNm 2))
  (sSeq (sSetIx (eOp fDiv (eOp fIx (eVar 0) (eC (.int 3))) (eVar 1)) (eVar 0) (eC (.int 3)))
  (sRet (eVar 2)))) sNx)
  (sSeq (sSetIx (eOp fAdd (eOp fIx (eVar 0) (eC (.int 1))) (eC (.int 1))) (eVar 0) (eC (.int 1)))
  (sSeq (sIf (bVal (eOp fGt (eOp fIx (eVar 0) (eC (.int 1))) (eCB bLen (aCons (eOp fIx (eVar 0) (eC (.int 0))) aNil)))) (sSeq (sSetIx (eOp fMod (eOp fAdd (eOp fMul (eOp fIx (eVar 0) (eC (.int 2))) (eC (.int 48271))) (eC (.int 11))) (eC (.int 2147483647))) (eVar 0) (eC (.int 2)))
  (sRet (eOp fMod (eOp fDiv (eOp fIx (eVar 0) (eC (.int 2))) (eC (.int 7))) (eVar 1)))) sNx)
  (sSeq (sAsg (eOp fIx (eOp fIx (eVar 0) (eC (.int 0))) (eOp fSub (eOp fIx (eVar 0) (eC (.int 1))) (eC (.int 1)))) (gNm 3))
  (sSeq (sSetIx (eOp fMod (eOp fAdd (eOp fAdd (eOp fMul (eOp fIx (eVar 0) (eC (.int 2))) (eC (.int 48271))) (eVar 3)) (eC (.int 11))) (eC (.int 2147483647))) (eVar 0) (eC (.int 2)))
  (sSeq (sIf (bVal (eOp fGe (eVar 3) (eOp fPow (eC (.int 10)) (eC (.int 18))))) (sSetIx (eOp fDiv (eVar 3) (eVar 1)) (eVar 0) (eC (.int 3))) sNx)
  (sRet (eOp fMod (eVar 3) (eVar 1))))))))))
theorem D__law_taken (T : Txt K mg) : Def P w K mg base cx "_law_taken" 1 2 m__law_taken := At.walk (N := N__law_taken) T.d__law_taken sc__law_taken fun f cdv A outer s H E hr => ((css_cons (cs_if (ct_cmp op_gt gtD (ce_ix (ce_var 0) ce_int) ce_int (nomark _)) (css_cons (cs_set 2 sc__law_taken.nd (ce_op op_mod modD (ce_ix (ce_var 0) ce_int) (ce_var 1)))
  (css_cons (cs_setix (ce_op op_fdiv divD (ce_ix (ce_var 0) ce_int) (ce_var 1)) (ce_var 0) ce_int)
  (css_one (cs_ret (ce_var 2))))) css_nil)
  (css_cons (cs_setix (ce_op op_addD addD (ce_ix (ce_var 0) ce_int) ce_int) (ce_var 0) ce_int)
  (css_cons (cs_if (ct_cmp op_gt gtD (ce_ix (ce_var 0) ce_int) (ce_callB (call_len) lenD T.b_len PySem.boot_len (ca_cons (ce_ix (ce_var 0) ce_int) ca_nil)) (nomark _)) (css_cons (cs_setix (ce_op op_mod modD (ce_op op_addD addD (ce_op op_mulA mulD (ce_ix (ce_var 0) ce_int) ce_int) ce_int) ce_int) (ce_var 0) ce_int)
  (css_one (cs_ret (ce_op op_mod modD (ce_op op_fdiv divD (ce_ix (ce_var 0) ce_int) ce_int) (ce_var 1))))) css_nil)
  (css_cons (cs_set 3 sc__law_taken.nd (ce_ix (ce_ix (ce_var 0) ce_int) (ce_op op_sub subD (ce_ix (ce_var 0) ce_int) ce_int)))
  (css_cons (cs_setix (ce_op op_mod modD (ce_op op_addD addD (ce_op op_addD addD (ce_op op_mulA mulD (ce_ix (ce_var 0) ce_int) ce_int) (ce_var 3)) ce_int) ce_int) (ce_var 0) ce_int)
  (css_cons (cs_if (ct_cmp op_ge geD (ce_var 3) (ce_op op_pow powD ce_int ce_int) (nomark _)) (css_one (cs_setix (ce_op op_fdiv divD (ce_var 3) (ce_var 1)) (ce_var 0) ce_int)) css_nil)
  (css_one (cs_ret (ce_op op_mod modD (ce_var 3) (ce_var 1)))))))))))
def m__law_size : Fn := callD 2 4 ((sSeq (sAsg (eComp (iSeq (eTup (aCons (eC (.int 4)) (aCons (eC (.int 8)) (aCons (eC (.int 4)) (aCons (eC (.int 2)) (aCons (eC (.int 8)) (aCons (eC (.int 1)) aNil)))))))) (gNm 3) (bVal (eOp fLe (eVar 3) (eVar 1))) (eVar 3) [3]) (gNm 2))
  (sRet (eTup (aCons (eOp fIx (eVar 2) (eCall m__law_taken (aCons (eVar 0) (aCons (eCB bLen (aCons (eVar 2) aNil)) aNil)))) (aCons (eOp fIx (eVar 2) (eCall m__law_taken (aCons (eVar 0) (aCons (eCB bLen (aCons (eVar 2) aNil)) aNil)))) aNil))))))
theorem D__law_size (T : Txt K mg) : Def P w K mg base cx "_law_size" 2 2 m__law_size := At.walk (N := N__law_size) T.d__law_size sc__law_size fun f cdv A outer s H E hr => ((css_cons (cs_setC 2 rfl sc__law_size.nd (ci_seq (ce_tup (ca_cons ce_int (ca_cons ce_int (ca_cons ce_int (ca_cons ce_int (ca_cons ce_int (ca_cons ce_int ca_nil)))))))) (blkOk_by (own := [("_law_side", 3)]) (N := N__law_size) (sc := defScope s__law_size) (by decide +kernel)) (by decide) (fun _ _ _ _ _ => (cg_name 3 sc__law_size.nd)) (fun _ _ _ _ _ => (cts_one (ct_cmp op_le leD (ce_var 3) (ce_var 1) (nomark _)))) (fun _ _ _ _ _ => (ce_var 3)))
  (css_one (cs_ret (ce_tup (ca_cons (ce_ix (ce_var 2) (ce_call (D__law_taken T) hr tkOf (ca_cons (ce_var 0) (ca_cons (ce_callB (call_len) lenD T.b_len PySem.boot_len (ca_cons (ce_var 2) ca_nil)) ca_nil)))) (ca_cons (ce_ix (ce_var 2) (ce_call (D__law_taken T) hr tkOf (ca_cons (ce_var 0) (ca_cons (ce_callB (call_len) lenD T.b_len PySem.boot_len (ca_cons (ce_var 2) ca_nil)) ca_nil)))) ca_nil)))))))
def m__law_cut : Fn := callD 2 3 ((sSeq (sAsg (eCB bLen (aCons (eVar 1) aNil)) (gNm 2))
  (sSeq (sWh 1000 (bAnd (bVal (eOp fGt (eVar 2) (eC (.int 0)))) (bVal (eOp fEq (eOp fIx (eVar 1) (eOp fSub (eVar 2) (eC (.int 1)))) (eC (.str "white"))))) (sAsg (eOp fSub (eVar 2) (eC (.int 1))) (gNm 2)))
  (sRet (eSl (eVar 1) oNo (oYes (eOp fAdd (eVar 2) (eCall m__law_taken (aCons (eVar 0) (aCons (eOp fAdd (eOp fSub (eCB bLen (aCons (eVar 1) aNil)) (eVar 2)) (eC (.int 1))) aNil))))))))))
theorem D__law_cut (T : Txt K mg) : Def P w K mg base cx "_law_cut" 2 2 m__law_cut := At.walk (N := N__law_cut) T.d__law_cut sc__law_cut fun f cdv A outer s H E hr => ((css_cons (cs_set 2 sc__law_cut.nd (ce_callB (call_len) lenD T.b_len PySem.boot_len (ca_cons (ce_var 1) ca_nil)))
  (css_cons (cs_while 1000 poOf (ct_w (cw_and (ct_cmp op_gt gtD (ce_var 2) ce_int (nomark _)) (cw_and1 (ct_cmp (op_eqA (r64 hr)) eqD (ce_ix (ce_var 1) (ce_op op_sub subD (ce_var 2) ce_int)) ce_str (nomark _))))) (css_one (cs_set 2 sc__law_cut.nd (ce_op op_sub subD (ce_var 2) ce_int))))
  (css_one (cs_ret (ce_sl (ce_var 1) co_no (co_yes (ce_op op_addD addD (ce_var 2) (ce_call (D__law_taken T) hr tkOf (ca_cons (ce_var 0) (ca_cons (ce_op op_addD addD (ce_op op_sub subD (ce_callB (call_len) lenD T.b_len PySem.boot_len (ca_cons (ce_var 1) ca_nil)) (ce_var 2)) ce_int) ca_nil)))))))))))
def m__law_is_own : Fn := callD 4 6 ((sSeq (sAsg (eVar 0) (gTp [(gNm 4), (gNm 5)]))
  (sSeq (sIf (bVal (eOp fEq (eVar 1) (eC (.str "pillar")))) (sRet (eOp fLt (eOp fMul (eC (.int 2)) (eCB bAbs (aCons (eOp fSub (eOp fAdd (eOp fMul (eC (.int 2)) (eVar 3)) (eC (.int 1))) (eVar 4)) aNil))) (eVar 4))) sNx)
  (sSeq (sIf (bVal (eOp fEq (eVar 1) (eC (.str "band")))) (sRet (eOp fLt (eOp fMul (eC (.int 2)) (eCB bAbs (aCons (eOp fSub (eOp fAdd (eOp fMul (eC (.int 2)) (eVar 2)) (eC (.int 1))) (eVar 5)) aNil))) (eVar 5))) sNx)
  (sSeq (sIf (bVal (eOp fEq (eVar 1) (eC (.str "head")))) (sRet (eOp fLt (eOp fMul (eC (.int 4)) (eVar 2)) (eVar 5))) sNx)
  (sRet (eOp fEq (eCB bMin (aCons (eVar 2) (aCons (eVar 3) (aCons (eOp fSub (eOp fSub (eVar 5) (eC (.int 1))) (eVar 2)) (aCons (eOp fSub (eOp fSub (eVar 4) (eC (.int 1))) (eVar 3)) aNil))))) (eC (.int 0)))))))))
theorem D__law_is_own (T : Txt K mg) : Def P w K mg base cx "_law_is_own" 1 4 m__law_is_own := At.walk (N := N__law_is_own) T.d__law_is_own sc__law_is_own fun f cdv A outer s H E hr => ((css_cons (cs_asg (ce_var 0) (cg_tup rfl (cgs_cons (cg_name 4 sc__law_is_own.nd) (cgs_cons (cg_name 5 sc__law_is_own.nd) cgs_nil))))
  (css_cons (cs_if (ct_cmp (op_eqA (r64 hr)) eqD (ce_var 1) ce_str (nomark _)) (css_one (cs_ret (ce_cmp op_lt ltD (ce_op op_mulA mulD ce_int (ce_callB (call_abs) absD T.b_abs (by decide +kernel) (ca_cons (ce_op op_sub subD (ce_op op_addD addD (ce_op op_mulA mulD ce_int (ce_var 3)) ce_int) (ce_var 4)) ca_nil))) (ce_var 4) (nomark _)))) css_nil)
  (css_cons (cs_if (ct_cmp (op_eqA (r64 hr)) eqD (ce_var 1) ce_str (nomark _)) (css_one (cs_ret (ce_cmp op_lt ltD (ce_op op_mulA mulD ce_int (ce_callB (call_abs) absD T.b_abs (by decide +kernel) (ca_cons (ce_op op_sub subD (ce_op op_addD addD (ce_op op_mulA mulD ce_int (ce_var 2)) ce_int) (ce_var 5)) ca_nil))) (ce_var 5) (nomark _)))) css_nil)
  (css_cons (cs_if (ct_cmp (op_eqA (r64 hr)) eqD (ce_var 1) ce_str (nomark _)) (css_one (cs_ret (ce_cmp op_lt ltD (ce_op op_mulA mulD ce_int (ce_var 2)) (ce_var 5) (nomark _)))) css_nil)
  (css_one (cs_ret (ce_cmp (op_eqA (r64 hr)) eqD (ce_callB (call_minD rfl) minD T.b_min (by decide +kernel) (ca_cons (ce_var 2) (ca_cons (ce_var 3) (ca_cons (ce_op op_sub subD (ce_op op_sub subD (ce_var 5) ce_int) (ce_var 2)) (ca_cons (ce_op op_sub subD (ce_op op_sub subD (ce_var 4) ce_int) (ce_var 3)) ca_nil))))) ce_int (nomark _)))))))))
def m__law_part : Fn := callD 2 2 ((sSeq (sIf (bVal (eOp fIn (eVar 1) (eTup (aCons (eC (.str "party")) (aCons (eC (.str "cut")) aNil))))) (sRet (eOp fIx (eLst (aCons (eTup (aCons (eOp fIx (eVar 0) (eC (.int 0))) (aCons (eOp fDiv (eOp fIx (eVar 0) (eC (.int 1))) (eC (.int 2))) aNil))) (aCons (eTup (aCons (eOp fDiv (eOp fIx (eVar 0) (eC (.int 0))) (eC (.int 2))) (aCons (eOp fIx (eVar 0) (eC (.int 1))) aNil))) aNil))) (eCB bInt (aCons (eOp fEq (eVar 1) (eC (.str "party"))) aNil)))) sNx)
  (sRet (eTup (aCons (eOp fDiv (eOp fIx (eVar 0) (eC (.int 0))) (eC (.int 2))) (aCons (eOp fDiv (eOp fIx (eVar 0) (eC (.int 1))) (eC (.int 2))) aNil))))))
theorem D__law_part (T : Txt K mg) : Def P w K mg base cx "_law_part" 1 2 m__law_part := At.walk (N := N__law_part) T.d__law_part sc__law_part fun f cdv A outer s H E hr => ((css_cons (cs_if (ct_cmp (op_inA (r100 hr)) inDD (ce_var 1) (ce_tup (ca_cons ce_str (ca_cons ce_str ca_nil))) (by rfl)) (css_one (cs_ret (ce_ix (ce_lst (ca_cons (ce_tup (ca_cons (ce_ix (ce_var 0) ce_int) (ca_cons (ce_op op_fdiv divD (ce_ix (ce_var 0) ce_int) ce_int) ca_nil))) (ca_cons (ce_tup (ca_cons (ce_op op_fdiv divD (ce_ix (ce_var 0) ce_int) ce_int) (ca_cons (ce_ix (ce_var 0) ce_int) ca_nil))) ca_nil))) (ce_callTy (call_int1) intD T.b_int (by decide +kernel) (ca_cons (ce_cmp (op_eqA (r64 hr)) eqD (ce_var 1) ce_str (nomark _)) ca_nil))))) css_nil)
  (css_one (cs_ret (ce_tup (ca_cons (ce_op op_fdiv divD (ce_ix (ce_var 0) ce_int) ce_int) (ca_cons (ce_op op_fdiv divD (ce_ix (ce_var 0) ce_int) ce_int) ca_nil)))))))
def m__law_behind : Fn := callD 2 4 ((sSeq (sAsg (eC (.int 1)) (gNm 2))
  (sSeq (sWh 1000 (bVal (eOp fGt (eVar 2) (eC (.int 0)))) (sSeq (sAsg (eOp fIx (eOp fAdd (eSl (eVar 0) (oYes (eVar 1)) (oYes (eOp fAdd (eVar 1) (eC (.int 1))))) (eTup (aCons (eC (.str "white")) aNil))) (eC (.int 0))) (gNm 3))
  (sSeq (sAsg (eOp fAdd (eOp fAdd (eVar 1) (eC (.int 1))) (eCB bInt (aCons (eOp fIn (eVar 3) (eTup (aCons (eC (.str "pillar")) (aCons (eC (.str "band")) (aCons (eC (.str "head")) (aCons (eC (.str "edge")) aNil)))))) aNil))) (gNm 1))
  (sSeq (sAsg (eOp fAdd (eOp fSub (eVar 2) (eC (.int 1))) (eCB bInt (aCons (eOp fIn (eVar 3) (eTup (aCons (eC (.str "pillar")) (aCons (eC (.str "band")) (aCons (eC (.str "head")) (aCons (eC (.str "edge")) aNil)))))) aNil))) (gNm 2))
  (sAsg (eOp fAdd (eVar 2) (eOp fMul (eC (.int 2)) (eCB bInt (aCons (eOp fIn (eVar 3) (eTup (aCons (eC (.str "party")) (aCons (eC (.str "cut")) (aCons (eC (.str "quartered")) aNil))))) aNil)))) (gNm 2))))))
  (sRet (eVar 1)))))
theorem D__law_behind (T : Txt K mg) : Def P w K mg base cx "_law_behind" 1 2 m__law_behind := At.walk (N := N__law_behind) T.d__law_behind sc__law_behind fun f cdv A outer s H E hr => ((css_cons (cs_set 2 sc__law_behind.nd ce_int)
  (css_cons (cs_while 1000 poOf (ct_cmp op_gt gtD (ce_var 2) ce_int (nomark _)) (css_cons (cs_set 3 sc__law_behind.nd (ce_ix (ce_op op_addD addD (ce_sl (ce_var 0) (co_yes (ce_var 1)) (co_yes (ce_op op_addD addD (ce_var 1) ce_int))) (ce_tup (ca_cons ce_str ca_nil))) ce_int))
  (css_cons (cs_set 1 sc__law_behind.nd (ce_op op_addD addD (ce_op op_addD addD (ce_var 1) ce_int) (ce_callTy (call_int1) intD T.b_int (by decide +kernel) (ca_cons (ce_cmp (op_inA (r100 hr)) inDD (ce_var 3) (ce_tup (ca_cons ce_str (ca_cons ce_str (ca_cons ce_str (ca_cons ce_str ca_nil))))) (by rfl)) ca_nil))))
  (css_cons (cs_set 2 sc__law_behind.nd (ce_op op_addD addD (ce_op op_sub subD (ce_var 2) ce_int) (ce_callTy (call_int1) intD T.b_int (by decide +kernel) (ca_cons (ce_cmp (op_inA (r100 hr)) inDD (ce_var 3) (ce_tup (ca_cons ce_str (ca_cons ce_str (ca_cons ce_str (ca_cons ce_str ca_nil))))) (by rfl)) ca_nil))))
  (css_one (cs_set 2 sc__law_behind.nd (ce_op op_addD addD (ce_var 2) (ce_op op_mulA mulD ce_int (ce_callTy (call_int1) intD T.b_int (by decide +kernel) (ca_cons (ce_cmp (op_inA (r100 hr)) inDD (ce_var 3) (ce_tup (ca_cons ce_str (ca_cons ce_str (ca_cons ce_str ca_nil)))) (by rfl)) ca_nil))))))))))
  (css_one (cs_ret (ce_var 1))))))
def m__law_cell : Fn := callD 5 9 ((sWh 1000 (bVal (eC (.bool true))) (sSeq (sAsg (eOp fIx (eOp fAdd (eSl (eVar 0) (oYes (eVar 1)) (oYes (eOp fAdd (eVar 1) (eC (.int 1))))) (eTup (aCons (eC (.str "white")) aNil))) (eC (.int 0))) (gNm 5))
  (sIf (bVal (eOp fIn (eVar 5) (eTup (aCons (eC (.str "pillar")) (aCons (eC (.str "band")) (aCons (eC (.str "head")) (aCons (eC (.str "edge")) aNil))))))) (sSeq (sIf (bVal (eCall m__law_is_own (aCons (eVar 2) (aCons (eVar 5) (aCons (eVar 3) (aCons (eVar 4) aNil)))))) (sRet (eOp fIx (eOp fAdd (eSl (eVar 0) (oYes (eOp fAdd (eVar 1) (eC (.int 1)))) (oYes (eOp fAdd (eVar 1) (eC (.int 2))))) (eTup (aCons (eC (.str "white")) aNil))) (eC (.int 0)))) sNx)
  (sAsg (eOp fAdd (eVar 1) (eC (.int 2))) (gNm 1))) (sIf (bVal (eOp fIn (eVar 5) (eTup (aCons (eC (.str "party")) (aCons (eC (.str "cut")) (aCons (eC (.str "quartered")) aNil)))))) (sSeq (sAsg (eCall m__law_part (aCons (eVar 2) (aCons (eVar 5) aNil))) (gNm 6))
  (sSeq (sAsg (eOp fDiv (eVar 4) (eOp fIx (eVar 6) (eC (.int 0)))) (gNm 7))
  (sSeq (sAsg (eOp fDiv (eVar 3) (eOp fIx (eVar 6) (eC (.int 1)))) (gNm 8))
  (sSeq (sAsg (eOp fIx (eLst (aCons (eOp fAdd (eVar 1) (eC (.int 1))) (aCons (eCall m__law_behind (aCons (eVar 0) (aCons (eOp fAdd (eVar 1) (eC (.int 1))) aNil))) aNil))) (eOp fMod (eOp fAdd (eVar 7) (eVar 8)) (eC (.int 2)))) (gNm 1))
  (sSeq (sAsg (eVar 6) (gNm 2))
  (sSeq (sAsg (eOp fMod (eVar 3) (eOp fIx (eVar 6) (eC (.int 1)))) (gNm 3))
  (sAsg (eOp fMod (eVar 4) (eOp fIx (eVar 6) (eC (.int 0)))) (gNm 4)))))))) (sRet (eVar 5)))))))
theorem D__law_cell (T : Txt K mg) : Def P w K mg base cx "_law_cell" 2 5 m__law_cell := At.walk (N := N__law_cell) T.d__law_cell sc__law_cell fun f cdv A outer s H E hr => ((css_one (cs_while 1000 poOf (ct_val ce_bl) (css_cons (cs_set 5 sc__law_cell.nd (ce_ix (ce_op op_addD addD (ce_sl (ce_var 0) (co_yes (ce_var 1)) (co_yes (ce_op op_addD addD (ce_var 1) ce_int))) (ce_tup (ca_cons ce_str ca_nil))) ce_int))
  (css_one (cs_if (ct_cmp (op_inA (r100 hr)) inDD (ce_var 5) (ce_tup (ca_cons ce_str (ca_cons ce_str (ca_cons ce_str (ca_cons ce_str ca_nil))))) (by rfl)) (css_cons (cs_if (ct_val (ce_call (D__law_is_own T) hr tkOf (ca_cons (ce_var 2) (ca_cons (ce_var 5) (ca_cons (ce_var 3) (ca_cons (ce_var 4) ca_nil)))))) (css_one (cs_ret (ce_ix (ce_op op_addD addD (ce_sl (ce_var 0) (co_yes (ce_op op_addD addD (ce_var 1) ce_int)) (co_yes (ce_op op_addD addD (ce_var 1) ce_int))) (ce_tup (ca_cons ce_str ca_nil))) ce_int))) css_nil)
  (css_one (cs_set 1 sc__law_cell.nd (ce_op op_addD addD (ce_var 1) ce_int)))) (css_one (cs_if (ct_cmp (op_inA (r100 hr)) inDD (ce_var 5) (ce_tup (ca_cons ce_str (ca_cons ce_str (ca_cons ce_str ca_nil)))) (by rfl)) (css_cons (cs_set 6 sc__law_cell.nd (ce_call (D__law_part T) hr tkOf (ca_cons (ce_var 2) (ca_cons (ce_var 5) ca_nil))))
  (css_cons (cs_set 7 sc__law_cell.nd (ce_op op_fdiv divD (ce_var 4) (ce_ix (ce_var 6) ce_int)))
  (css_cons (cs_set 8 sc__law_cell.nd (ce_op op_fdiv divD (ce_var 3) (ce_ix (ce_var 6) ce_int)))
  (css_cons (cs_set 1 sc__law_cell.nd (ce_ix (ce_lst (ca_cons (ce_op op_addD addD (ce_var 1) ce_int) (ca_cons (ce_call (D__law_behind T) hr tkOf (ca_cons (ce_var 0) (ca_cons (ce_op op_addD addD (ce_var 1) ce_int) ca_nil))) ca_nil))) (ce_op op_mod modD (ce_op op_addD addD (ce_var 7) (ce_var 8)) ce_int)))
  (css_cons (cs_set 2 sc__law_cell.nd (ce_var 6))
  (css_cons (cs_set 3 sc__law_cell.nd (ce_op op_mod modD (ce_var 3) (ce_ix (ce_var 6) ce_int)))
  (css_one (cs_set 4 sc__law_cell.nd (ce_op op_mod modD (ce_var 4) (ce_ix (ce_var 6) ce_int)))))))))) (css_one (cs_ret (ce_var 5)))))))))))
def m__law_drawing : Fn := callD 2 5 ((sSeq (sAsg (eNew (eLst aNil)) (gNm 2))
  (sSeq (sFor (iRng1 (aCons (eOp fIx (eVar 1) (eC (.int 1))) aNil)) (gNm 3) (sDrop (eApp (eVar 2) (eCB bTup (aCons (eComp (iRng1 (aCons (eOp fIx (eVar 1) (eC (.int 0))) aNil)) (gNm 4) bYes (eCall m__law_cell (aCons (eVar 0) (aCons (eC (.int 0)) (aCons (eVar 1) (aCons (eVar 3) (aCons (eVar 4) aNil)))))) [4]) aNil)))))
  (sRet (eCB bTup (aCons (eVar 2) aNil))))))
theorem D__law_drawing (T : Txt K mg) : Def P w K mg base cx "_law_drawing" 3 2 m__law_drawing := At.walk (N := N__law_drawing) T.d__law_drawing sc__law_drawing fun f cdv A outer s H E hr => ((css_cons (cs_set 2 sc__law_drawing.nd (ce_new ca_nil))
  (css_cons (cs_for poOf rfl (ci_rng1 T.b_range (ca_cons (ce_ix (ce_var 1) ce_int) ca_nil)) (cg_name 3 sc__law_drawing.nd) (css_one (cs_expr (ce_append (ce_var 2) (ce_callTy (call_tuple_of) tupD T.b_tuple (by decide +kernel) (ca_cons (ce_comp rfl sc__law_drawing.nd (ci_rng1 T.b_range (ca_cons (ce_ix (ce_var 1) ce_int) ca_nil)) (blkOk_by (own := [("_law_column", 4)]) (N := N__law_drawing) (sc := defScope s__law_drawing) (by decide +kernel)) (by decide) (fun _ _ _ _ _ => (cg_name 4 sc__law_drawing.nd)) (fun _ _ _ _ _ => cts_nil) (fun _ _ _ _ _ => (ce_callC (D__law_cell T) hr rfl (ca_cons (ce_var 0) (ca_cons ce_int (ca_cons (ce_var 1) (ca_cons (ce_var 3) (ca_cons (ce_var 4) ca_nil)))))))) ca_nil))))))
  (css_one (cs_ret (ce_callTy (call_tuple_of) tupD T.b_tuple (by decide +kernel) (ca_cons (ce_var 2) ca_nil)))))))
def m__law_fits : Fn := callD 2 5 ((sSeq (sAsg (eDict (pCons (eC (.str "party")) (eTup (aCons (eC (.int 2)) (aCons (eC (.int 1)) aNil))) (pCons (eC (.str "cut")) (eTup (aCons (eC (.int 1)) (aCons (eC (.int 2)) aNil))) (pCons (eC (.str "quartered")) (eTup (aCons (eC (.int 2)) (aCons (eC (.int 2)) aNil))) (pCons (eC (.str "pillar")) (eTup (aCons (eC (.int 4)) (aCons (eC (.int 1)) aNil))) (pCons (eC (.str "band")) (eTup (aCons (eC (.int 1)) (aCons (eC (.int 4)) aNil))) (pCons (eC (.str "head")) (eTup (aCons (eC (.int 1)) (aCons (eC (.int 4)) aNil))) pNil))))))) (gNm 2))
  (sSeq (sAsg (eGet2 (eVar 2) (eVar 1) (eTup (aCons (eC (.int 4)) (aCons (eC (.int 4)) aNil)))) (gTp [(gNm 3), (gNm 4)]))
  (sRet (eAnd (eOp fGe (eOp fIx (eVar 0) (eC (.int 0))) (eVar 3)) (eOp fGe (eOp fIx (eVar 0) (eC (.int 1))) (eVar 4)))))))
theorem D__law_fits (T : Txt K mg) : Def P w K mg base cx "_law_fits" 1 2 m__law_fits := At.walk (N := N__law_fits) T.d__law_fits sc__law_fits fun f cdv A outer s H E hr => ((css_cons (cs_set 2 sc__law_fits.nd (ce_dict (cp_cons ce_str (ce_tup (ca_cons ce_int (ca_cons ce_int ca_nil))) (cp_cons ce_str (ce_tup (ca_cons ce_int (ca_cons ce_int ca_nil))) (cp_cons ce_str (ce_tup (ca_cons ce_int (ca_cons ce_int ca_nil))) (cp_cons ce_str (ce_tup (ca_cons ce_int (ca_cons ce_int ca_nil))) (cp_cons ce_str (ce_tup (ca_cons ce_int (ca_cons ce_int ca_nil))) (cp_cons ce_str (ce_tup (ca_cons ce_int (ca_cons ce_int ca_nil))) cp_nil))))))))
  (css_cons (cs_asg (ce_get2 (r100 hr) (ce_var 2) (ce_var 1) (ce_tup (ca_cons ce_int (ca_cons ce_int ca_nil)))) (cg_tup rfl (cgs_cons (cg_name 3 sc__law_fits.nd) (cgs_cons (cg_name 4 sc__law_fits.nd) cgs_nil))))
  (css_one (cs_ret (ce_and (ce_cmp op_ge geD (ce_ix (ce_var 0) ce_int) (ce_var 3) (nomark _)) (ce_one (ce_cmp op_ge geD (ce_ix (ce_var 0) ce_int) (ce_var 4) (nomark _)))))))))
def m__law_colour : Fn := callD 1 1 ((sRet (eOp fIx (eLst (aCons (eC (.str "white")) (aCons (eC (.str "red")) (aCons (eC (.str "yellow")) (aCons (eC (.str "white")) (aCons (eC (.str "blue")) (aCons (eC (.str "black")) (aCons (eC (.str "green")) (aCons (eC (.str "red")) aNil))))))))) (eCall m__law_taken (aCons (eVar 0) (aCons (eC (.int 8)) aNil))))))
theorem D__law_colour (T : Txt K mg) : Def P w K mg base cx "_law_colour" 2 1 m__law_colour := At.walk (N := N__law_colour) T.d__law_colour sc__law_colour fun f cdv A outer s H E hr => ((css_one (cs_ret (ce_ix (ce_lst (ca_cons ce_str (ca_cons ce_str (ca_cons ce_str (ca_cons ce_str (ca_cons ce_str (ca_cons ce_str (ca_cons ce_str (ca_cons ce_str ca_nil))))))))) (ce_call (D__law_taken T) hr tkOf (ca_cons (ce_var 0) (ca_cons ce_int ca_nil)))))))
def m__law_saying : Nat → Fn
  | 0 => fun _ _ => .no
  | j + 1 => callD 3 7 ((sSeq (sAsg (eComp (iSeq (eTup (aCons (eC (.str "party")) (aCons (eC (.str "cut")) (aCons (eC (.str "quartered")) (aCons (eC (.str "pillar")) (aCons (eC (.str "band")) (aCons (eC (.str "head")) (aCons (eC (.str "edge")) aNil))))))))) (gNm 3) (bVal (eCall m__law_fits (aCons (eVar 1) (aCons (eVar 3) aNil)))) (eVar 3) [3]) (gNm 4))
  (sSeq (sAsg (eCall m__law_taken (aCons (eVar 0) (aCons (eC (.int 9)) aNil))) (gNm 5))
  (sSeq (sIf (bOr (bVal (eOp fEq (eVar 2) (eC (.int 0)))) (bOr (bVal (eOp fEq (eVar 4) (eLst aNil))) (bVal (eOp fLt (eVar 5) (eC (.int 2)))))) (sRet (eTup (aCons (eCall m__law_colour (aCons (eVar 0) aNil)) aNil))) sNx)
  (sSeq (sAsg (eOp fIx (eVar 4) (eCall m__law_taken (aCons (eVar 0) (aCons (eCB bLen (aCons (eVar 4) aNil)) aNil)))) (gNm 3))
  (sSeq (sIf (bVal (eOp fIn (eVar 3) (eTup (aCons (eC (.str "party")) (aCons (eC (.str "cut")) (aCons (eC (.str "quartered")) aNil)))))) (sSeq (sAsg (eCall m__law_part (aCons (eVar 1) (aCons (eVar 3) aNil))) (gNm 6))
  (sRet (eOp fAdd (eOp fAdd (eTup (aCons (eVar 3) aNil)) (eCall (m__law_saying j) (aCons (eVar 0) (aCons (eVar 6) (aCons (eOp fSub (eVar 2) (eC (.int 1))) aNil))))) (eCall (m__law_saying j) (aCons (eVar 0) (aCons (eVar 6) (aCons (eOp fSub (eVar 2) (eC (.int 1))) aNil))))))) sNx)
  (sRet (eOp fAdd (eTup (aCons (eVar 3) (aCons (eCall m__law_colour (aCons (eVar 0) aNil)) aNil))) (eCall (m__law_saying j) (aCons (eVar 0) (aCons (eVar 1) (aCons (eOp fSub (eVar 2) (eC (.int 1))) aNil))))))))))))
theorem D__law_saying (T : Txt K mg) : ∀ j : Nat, Def P w K mg base cx "_law_saying" (2 + j) 3 (m__law_saying j)
  | 0 => At.zero T.d__law_saying
  | j + 1 => At.walk (k := 2 + j) (N := N__law_saying) T.d__law_saying sc__law_saying fun f cdv A outer s H E hr => ((css_cons (cs_setC 4 rfl sc__law_saying.nd (ci_seq (ce_tup (ca_cons ce_str (ca_cons ce_str (ca_cons ce_str (ca_cons ce_str (ca_cons ce_str (ca_cons ce_str (ca_cons ce_str ca_nil))))))))) (blkOk_by (own := [("_law_word", 3)]) (N := N__law_saying) (sc := defScope s__law_saying) (by decide +kernel)) (by decide) (fun _ _ _ _ _ => (cg_name 3 sc__law_saying.nd)) (fun _ _ _ _ _ => (cts_one (ct_val (ce_callC (D__law_fits T) hr rfl (ca_cons (ce_var 1) (ca_cons (ce_var 3) ca_nil)))))) (fun _ _ _ _ _ => (ce_var 3)))
  (css_cons (cs_set 5 sc__law_saying.nd (ce_call (D__law_taken T) hr tkOf (ca_cons (ce_var 0) (ca_cons ce_int ca_nil))))
  (css_cons (cs_if (ct_w (cw_or (ct_cmp (op_eqA (r64 hr)) eqD (ce_var 2) ce_int (nomark _)) (cw_or (ct_cmp (op_eqA (r64 hr)) eqD (ce_var 4) (ce_lst ca_nil) (nomark _)) (cw_or1 (ct_cmp op_lt ltD (ce_var 5) ce_int (nomark _)))))) (css_one (cs_ret (ce_tup (ca_cons (ce_call (D__law_colour T) hr tkOf (ca_cons (ce_var 0) ca_nil)) ca_nil)))) css_nil)
  (css_cons (cs_set 3 sc__law_saying.nd (ce_ix (ce_var 4) (ce_call (D__law_taken T) hr tkOf (ca_cons (ce_var 0) (ca_cons (ce_callB (call_len) lenD T.b_len PySem.boot_len (ca_cons (ce_var 4) ca_nil)) ca_nil)))))
  (css_cons (cs_if (ct_cmp (op_inA (r100 hr)) inDD (ce_var 3) (ce_tup (ca_cons ce_str (ca_cons ce_str (ca_cons ce_str ca_nil)))) (by rfl)) (css_cons (cs_set 6 sc__law_saying.nd (ce_call (D__law_part T) hr tkOf (ca_cons (ce_var 1) (ca_cons (ce_var 3) ca_nil))))
  (css_one (cs_ret (ce_op op_addD addD (ce_op op_addD addD (ce_tup (ca_cons (ce_var 3) ca_nil)) (ce_call (D__law_saying T j) hr tkOf (ca_cons (ce_var 0) (ca_cons (ce_var 6) (ca_cons (ce_op op_sub subD (ce_var 2) ce_int) ca_nil))))) (ce_call (D__law_saying T j) hr tkOf (ca_cons (ce_var 0) (ca_cons (ce_var 6) (ca_cons (ce_op op_sub subD (ce_var 2) ce_int) ca_nil)))))))) css_nil)
  (css_one (cs_ret (ce_op op_addD addD (ce_tup (ca_cons (ce_var 3) (ca_cons (ce_call (D__law_colour T) hr tkOf (ca_cons (ce_var 0) ca_nil)) ca_nil))) (ce_call (D__law_saying T j) hr tkOf (ca_cons (ce_var 0) (ca_cons (ce_var 1) (ca_cons (ce_op op_sub subD (ce_var 2) ce_int) ca_nil)))))))))))))
def m_words_of : Nat → Fn
  | 0 => fun _ _ => .no
  | j + 1 => callD 1 7 ((sSeq (sAsg (eVar 0) (gTp [(gNm 1), (gNm 2), (gNm 3), (gNm 4)]))
  (sSeq (sAsg (eIf (bVal (eOp fIn (eVar 1) (eC c_PIECES))) (eTup (aCons (eVar 1) (aCons (eVar 3) aNil))) (eTup (aCons (eVar 1) aNil))) (gNm 5))
  (sSeq (sFor (iSeq (eVar 4)) (gNm 6) (sAsg (eOp fAdd (eVar 5) (eCall (m_words_of j) (aCons (eVar 6) aNil))) (gNm 5)))
  (sRet (eVar 5))))))
theorem D_words_of (T : Txt K mg) : ∀ j : Nat, Def P w K mg base cx "words_of" (0 + j) 1 (m_words_of j)
  | 0 => At.zero T.d_words_of
  | j + 1 => At.walk (k := 0 + j) (N := N_words_of) T.d_words_of sc_words_of fun f cdv A outer s H E hr => ((css_cons (cs_asg (ce_var 0) (cg_tup rfl (cgs_cons (cg_name 1 sc_words_of.nd) (cgs_cons (cg_name 2 sc_words_of.nd) (cgs_cons (cg_name 3 sc_words_of.nd) (cgs_cons (cg_name 4 sc_words_of.nd) cgs_nil))))))
  (css_cons (cs_set 5 sc_words_of.nd (ce_if (ct_cmp (op_inA (r100 hr)) inDD (ce_var 1) (ce_globX T.c_PIECES) (by rfl)) (ce_tup (ca_cons (ce_var 1) (ca_cons (ce_var 3) ca_nil))) (ce_tup (ca_cons (ce_var 1) ca_nil))))
  (css_cons (cs_for poOf rfl (ci_seq (ce_var 4)) (cg_name 6 sc_words_of.nd) (css_one (cs_set 5 sc_words_of.nd (ce_op op_addD addD (ce_var 5) (ce_call (D_words_of T j) hr tkOf (ca_cons (ce_var 6) ca_nil))))))
  (css_one (cs_ret (ce_var 5)))))))
def m_need_size : Fn := callD 1 1 ((sIf (bOr (bVal (eOp fNotIn (eOp fIx (eVar 0) (eC (.int 0))) (eC c_SIDES))) (bVal (eOp fNotIn (eOp fIx (eVar 0) (eC (.int 1))) (eC c_SIDES)))) sNo sNx))
theorem D_need_size (T : Txt K mg) : Def P w K mg base cx "need_size" 1 1 m_need_size := At.walk (N := N_need_size) T.d_need_size sc_need_size fun f cdv A outer s H E hr => ((css_one (cs_if (ct_w (cw_or (ct_cmp (op_notInA (r100 hr)) notInDD (ce_ix (ce_var 0) ce_int) (ce_globX T.c_SIDES) (by rfl)) (cw_or1 (ct_cmp (op_notInA (r100 hr)) notInDD (ce_ix (ce_var 0) ce_int) (ce_globX T.c_SIDES) (by rfl))))) (css_one cs_no) css_nil)))
def m_fits : Fn := callD 2 4 ((sSeq (sAsg (eVar 0) (gTp [(gNm 2), (gNm 3)]))
  (sSeq (sIf (bVal (eOp fIn (eVar 1) (eTup (aCons (eC (.str "party")) (aCons (eC (.str "cut")) (aCons (eC (.str "quartered")) aNil)))))) (sRet (eAnd (eOr (eOp fGt (eVar 2) (eC (.int 1))) (eOp fEq (eVar 1) (eC (.str "cut")))) (eOr (eOp fGt (eVar 3) (eC (.int 1))) (eOp fEq (eVar 1) (eC (.str "party")))))) sNx)
  (sRet (eAnd (eOr (eOp fGt (eVar 2) (eC (.int 3))) (eOp fIn (eVar 1) (eTup (aCons (eC (.str "band")) (aCons (eC (.str "head")) aNil))))) (eOr (eOp fGt (eVar 3) (eC (.int 3))) (eOp fEq (eVar 1) (eC (.str "pillar")))))))))
theorem D_fits (T : Txt K mg) : Def P w K mg base cx "fits" 1 2 m_fits := At.walk (N := N_fits) T.d_fits sc_fits fun f cdv A outer s H E hr => ((css_cons (cs_asg (ce_var 0) (cg_tup rfl (cgs_cons (cg_name 2 sc_fits.nd) (cgs_cons (cg_name 3 sc_fits.nd) cgs_nil))))
  (css_cons (cs_if (ct_cmp (op_inA (r100 hr)) inDD (ce_var 1) (ce_tup (ca_cons ce_str (ca_cons ce_str (ca_cons ce_str ca_nil)))) (by rfl)) (css_one (cs_ret (ce_and (ce_or (ce_cmp op_gt gtD (ce_var 2) ce_int (nomark _)) (ce_one (ce_cmp (op_eqA (r64 hr)) eqD (ce_var 1) ce_str (nomark _)))) (ce_one (ce_or (ce_cmp op_gt gtD (ce_var 3) ce_int (nomark _)) (ce_one (ce_cmp (op_eqA (r64 hr)) eqD (ce_var 1) ce_str (nomark _)))))))) css_nil)
  (css_one (cs_ret (ce_and (ce_or (ce_cmp op_gt gtD (ce_var 2) ce_int (nomark _)) (ce_one (ce_cmp (op_inA (r100 hr)) inDD (ce_var 1) (ce_tup (ca_cons ce_str (ca_cons ce_str ca_nil))) (by rfl)))) (ce_one (ce_or (ce_cmp op_gt gtD (ce_var 3) ce_int (nomark _)) (ce_one (ce_cmp (op_eqA (r64 hr)) eqD (ce_var 1) ce_str (nomark _)))))))))))
def m_part_of : Fn := callD 2 4 ((sSeq (sAsg (eVar 0) (gTp [(gNm 2), (gNm 3)]))
  (sRet (eTup (aCons (eIf (bVal (eOp fEq (eVar 1) (eC (.str "cut")))) (eVar 2) (eOp fDiv (eVar 2) (eC (.int 2)))) (aCons (eIf (bVal (eOp fEq (eVar 1) (eC (.str "party")))) (eVar 3) (eOp fDiv (eVar 3) (eC (.int 2)))) aNil))))))
theorem D_part_of (T : Txt K mg) : Def P w K mg base cx "part_of" 1 2 m_part_of := At.walk (N := N_part_of) T.d_part_of sc_part_of fun f cdv A outer s H E hr => ((css_cons (cs_asg (ce_var 0) (cg_tup rfl (cgs_cons (cg_name 2 sc_part_of.nd) (cgs_cons (cg_name 3 sc_part_of.nd) cgs_nil))))
  (css_one (cs_ret (ce_tup (ca_cons (ce_if (ct_cmp (op_eqA (r64 hr)) eqD (ce_var 1) ce_str (nomark _)) (ce_var 2) (ce_op op_fdiv divD (ce_var 2) ce_int)) (ca_cons (ce_if (ct_cmp (op_eqA (r64 hr)) eqD (ce_var 1) ce_str (nomark _)) (ce_var 3) (ce_op op_fdiv divD (ce_var 3) ce_int)) ca_nil)))))))
def m_tree_at : Nat → Fn
  | 0 => fun _ _ => .no
  | j + 1 => callD 3 8 ((sSeq (sAsg (eIf (bVal (eOp fLt (eVar 2) (eCB bLen (aCons (eVar 1) aNil)))) (eOp fIx (eVar 1) (eVar 2)) (eC (.str "white"))) (gNm 3))
  (sSeq (sIf (bVal (eOp fIn (eVar 3) (eC c_COLOURS))) (sRet (eTup (aCons (eTup (aCons (eVar 3) (aCons (eVar 2) (aCons (eVar 3) (aCons (eTup aNil) aNil))))) (aCons (eOp fAdd (eVar 2) (eC (.int 1))) aNil)))) sNx)
  (sSeq (sIf (bOr (bVal (eOp fNotIn (eVar 3) (eOp fAdd (eC c_PARTS) (eC c_PIECES)))) (bNot (bVal (eCall m_fits (aCons (eVar 0) (aCons (eVar 3) aNil)))))) sNo sNx)
  (sSeq (sIf (bVal (eOp fIn (eVar 3) (eC c_PARTS))) (sSeq (sAsg (eCall (m_tree_at j) (aCons (eCall m_part_of (aCons (eVar 0) (aCons (eVar 3) aNil))) (aCons (eVar 1) (aCons (eOp fAdd (eVar 2) (eC (.int 1))) aNil)))) (gTp [(gNm 4), (gNm 5)]))
  (sSeq (sAsg (eCall (m_tree_at j) (aCons (eCall m_part_of (aCons (eVar 0) (aCons (eVar 3) aNil))) (aCons (eVar 1) (aCons (eVar 5) aNil)))) (gTp [(gNm 6), (gNm 5)]))
  (sRet (eTup (aCons (eTup (aCons (eVar 3) (aCons (eVar 2) (aCons (eC (.str "")) (aCons (eTup (aCons (eVar 4) (aCons (eVar 6) aNil))) aNil))))) (aCons (eVar 5) aNil)))))) sNx)
  (sSeq (sAsg (eIf (bVal (eOp fLt (eOp fAdd (eVar 2) (eC (.int 1))) (eCB bLen (aCons (eVar 1) aNil)))) (eOp fIx (eVar 1) (eOp fAdd (eVar 2) (eC (.int 1)))) (eC (.str "white"))) (gNm 7))
  (sSeq (sIf (bVal (eOp fNotIn (eVar 7) (eC c_COLOURS))) sNo sNx)
  (sSeq (sAsg (eCall (m_tree_at j) (aCons (eVar 0) (aCons (eVar 1) (aCons (eOp fAdd (eVar 2) (eC (.int 2))) aNil)))) (gTp [(gNm 4), (gNm 5)]))
  (sRet (eTup (aCons (eTup (aCons (eVar 3) (aCons (eVar 2) (aCons (eVar 7) (aCons (eTup (aCons (eVar 4) aNil)) aNil))))) (aCons (eVar 5) aNil))))))))))))
theorem D_tree_at (T : Txt K mg) : ∀ j : Nat, Def P w K mg base cx "tree_at" (1 + j) 3 (m_tree_at j)
  | 0 => At.zero T.d_tree_at
  | j + 1 => At.walk (k := 1 + j) (N := N_tree_at) T.d_tree_at sc_tree_at fun f cdv A outer s H E hr => ((css_cons (cs_set 3 sc_tree_at.nd (ce_if (ct_cmp op_lt ltD (ce_var 2) (ce_callB (call_len) lenD T.b_len PySem.boot_len (ca_cons (ce_var 1) ca_nil)) (nomark _)) (ce_ix (ce_var 1) (ce_var 2)) ce_str))
  (css_cons (cs_if (ct_cmp (op_inA (r100 hr)) inDD (ce_var 3) (ce_globX T.c_COLOURS) (by rfl)) (css_one (cs_ret (ce_tup (ca_cons (ce_tup (ca_cons (ce_var 3) (ca_cons (ce_var 2) (ca_cons (ce_var 3) (ca_cons (ce_tup ca_nil) ca_nil))))) (ca_cons (ce_op op_addD addD (ce_var 2) ce_int) ca_nil))))) css_nil)
  (css_cons (cs_if (ct_w (cw_or (ct_cmp (op_notInA (r100 hr)) notInDD (ce_var 3) (ce_op op_addD addD (ce_globX T.c_PARTS) (ce_globX T.c_PIECES)) (by rfl)) (cw_or1 (ct_not (ct_val (ce_call (D_fits T) hr tkOf (ca_cons (ce_var 0) (ca_cons (ce_var 3) ca_nil)))))))) (css_one cs_no) css_nil)
  (css_cons (cs_if (ct_cmp (op_inA (r100 hr)) inDD (ce_var 3) (ce_globX T.c_PARTS) (by rfl)) (css_cons (cs_asg (ce_call (D_tree_at T j) hr tkOf (ca_cons (ce_call (D_part_of T) hr tkOf (ca_cons (ce_var 0) (ca_cons (ce_var 3) ca_nil))) (ca_cons (ce_var 1) (ca_cons (ce_op op_addD addD (ce_var 2) ce_int) ca_nil)))) (cg_tup rfl (cgs_cons (cg_name 4 sc_tree_at.nd) (cgs_cons (cg_name 5 sc_tree_at.nd) cgs_nil))))
  (css_cons (cs_asg (ce_call (D_tree_at T j) hr tkOf (ca_cons (ce_call (D_part_of T) hr tkOf (ca_cons (ce_var 0) (ca_cons (ce_var 3) ca_nil))) (ca_cons (ce_var 1) (ca_cons (ce_var 5) ca_nil)))) (cg_tup rfl (cgs_cons (cg_name 6 sc_tree_at.nd) (cgs_cons (cg_name 5 sc_tree_at.nd) cgs_nil))))
  (css_one (cs_ret (ce_tup (ca_cons (ce_tup (ca_cons (ce_var 3) (ca_cons (ce_var 2) (ca_cons ce_str (ca_cons (ce_tup (ca_cons (ce_var 4) (ca_cons (ce_var 6) ca_nil))) ca_nil))))) (ca_cons (ce_var 5) ca_nil))))))) css_nil)
  (css_cons (cs_set 7 sc_tree_at.nd (ce_if (ct_cmp op_lt ltD (ce_op op_addD addD (ce_var 2) ce_int) (ce_callB (call_len) lenD T.b_len PySem.boot_len (ca_cons (ce_var 1) ca_nil)) (nomark _)) (ce_ix (ce_var 1) (ce_op op_addD addD (ce_var 2) ce_int)) ce_str))
  (css_cons (cs_if (ct_cmp (op_notInA (r100 hr)) notInDD (ce_var 7) (ce_globX T.c_COLOURS) (by rfl)) (css_one cs_no) css_nil)
  (css_cons (cs_asg (ce_call (D_tree_at T j) hr tkOf (ca_cons (ce_var 0) (ca_cons (ce_var 1) (ca_cons (ce_op op_addD addD (ce_var 2) ce_int) ca_nil)))) (cg_tup rfl (cgs_cons (cg_name 4 sc_tree_at.nd) (cgs_cons (cg_name 5 sc_tree_at.nd) cgs_nil))))
  (css_one (cs_ret (ce_tup (ca_cons (ce_tup (ca_cons (ce_var 3) (ca_cons (ce_var 2) (ca_cons (ce_var 7) (ca_cons (ce_tup (ca_cons (ce_var 4) ca_nil)) ca_nil))))) (ca_cons (ce_var 5) ca_nil)))))))))))))
def m_tree_of : Fn := callD 2 4 ((sSeq (sDrop (eCall m_need_size (aCons (eVar 0) aNil)))
  (sSeq (sAsg (eCall (m_tree_at 90) (aCons (eVar 0) (aCons (eVar 1) (aCons (eC (.int 0)) aNil)))) (gTp [(gNm 2), (gNm 3)]))
  (sSeq (sIf (bVal (eOp fLt (eVar 3) (eCB bLen (aCons (eVar 1) aNil)))) sNo sNx)
  (sRet (eVar 2))))))
theorem D_tree_of (T : Txt K mg) : Def P w K mg base cx "tree_of" 92 2 m_tree_of := At.walk (N := N_tree_of) T.d_tree_of sc_tree_of fun f cdv A outer s H E hr => ((css_cons (cs_expr (ce_call (D_need_size T) hr tkOf (ca_cons (ce_var 0) ca_nil)))
  (css_cons (cs_asg (ce_call (D_tree_at T 90) hr tkOf (ca_cons (ce_var 0) (ca_cons (ce_var 1) (ca_cons ce_int ca_nil)))) (cg_tup rfl (cgs_cons (cg_name 2 sc_tree_of.nd) (cgs_cons (cg_name 3 sc_tree_of.nd) cgs_nil))))
  (css_cons (cs_if (ct_cmp op_lt ltD (ce_var 3) (ce_callB (call_len) lenD T.b_len PySem.boot_len (ca_cons (ce_var 1) ca_nil)) (nomark _)) (css_one cs_no) css_nil)
  (css_one (cs_ret (ce_var 2)))))))
def m_filled : Fn := callD 2 2 ((sRet (eCall (m_words_of 90) (aCons (eCall m_tree_of (aCons (eVar 0) (aCons (eVar 1) aNil))) aNil))))
theorem D_filled (T : Txt K mg) : Def P w K mg base cx "filled" 93 2 m_filled := At.walk (N := N_filled) T.d_filled sc_filled fun f cdv A outer s H E hr => ((css_one (cs_ret (ce_call (D_words_of T 90) hr tkOf (ca_cons (ce_call (D_tree_of T) hr tkOf (ca_cons (ce_var 0) (ca_cons (ce_var 1) ca_nil))) ca_nil)))))
def m__law_other : Fn := callD 3 7 ((sSeq (sAsg (eCall m__law_taken (aCons (eVar 0) (aCons (eC (.int 4)) aNil))) (gNm 3))
  (sSeq (sIf (bVal (eOp fEq (eVar 3) (eC (.int 0)))) (sRet (eCall (m__law_saying 8) (aCons (eVar 0) (aCons (eVar 2) (aCons (eC (.int 3)) aNil))))) sNx)
  (sSeq (sAsg (eComp (iSeq (eTup (aCons (eC (.str "party")) (aCons (eC (.str "cut")) aNil)))) (gNm 6) (bVal (eCall m__law_fits (aCons (eVar 2) (aCons (eVar 6) aNil)))) (eVar 6) [6]) (gNm 4))
  (sSeq (sIf (bAnd (bVal (eOp fEq (eVar 3) (eC (.int 1)))) (bVal (eOp fNe (eVar 4) (eLst aNil)))) (sSeq (sAsg (eCall m__law_colour (aCons (eVar 0) aNil)) (gNm 5))
  (sRet (eTup (aCons (eOp fIx (eVar 4) (eC (.int 0))) (aCons (eVar 5) (aCons (eOp fIx (eLst (aCons (eVar 5) (aCons (eC (.str "white")) aNil))) (eCall m__law_taken (aCons (eVar 0) (aCons (eC (.int 2)) aNil)))) aNil)))))) sNx)
  (sSeq (sIf (bAnd (bVal (eOp fEq (eVar 3) (eC (.int 2)))) (bVal (eCall m__law_fits (aCons (eVar 2) (aCons (eC (.str "head")) aNil))))) (sRet (eOp fAdd (eTup (aCons (eC (.str "head")) (aCons (eOp fIx (eOp fIx (eCall m__law_drawing (aCons (eVar 1) (aCons (eVar 2) aNil))) (eC (.int 0))) (eC (.int 0))) aNil))) (eCall m_filled (aCons (eVar 2) (aCons (eVar 1) aNil))))) sNx)
  (sRet (eVar 1))))))))
theorem D__law_other (T : Txt K mg) : Def P w K mg base cx "_law_other" 94 3 m__law_other := At.walk (N := N__law_other) T.d__law_other sc__law_other fun f cdv A outer s H E hr => ((css_cons (cs_set 3 sc__law_other.nd (ce_call (D__law_taken T) hr tkOf (ca_cons (ce_var 0) (ca_cons ce_int ca_nil))))
  (css_cons (cs_if (ct_cmp (op_eqA (r64 hr)) eqD (ce_var 3) ce_int (nomark _)) (css_one (cs_ret (ce_call (D__law_saying T 8) hr tkOf (ca_cons (ce_var 0) (ca_cons (ce_var 2) (ca_cons ce_int ca_nil)))))) css_nil)
  (css_cons (cs_setC 4 rfl sc__law_other.nd (ci_seq (ce_tup (ca_cons ce_str (ca_cons ce_str ca_nil)))) (blkOk_by (own := [("_law_word", 6)]) (N := N__law_other) (sc := defScope s__law_other) (by decide +kernel)) (by decide) (fun _ _ _ _ _ => (cg_name 6 sc__law_other.nd)) (fun _ _ _ _ _ => (cts_one (ct_val (ce_callC (D__law_fits T) hr rfl (ca_cons (ce_var 2) (ca_cons (ce_var 6) ca_nil)))))) (fun _ _ _ _ _ => (ce_var 6)))
  (css_cons (cs_if (ct_w (cw_and (ct_cmp (op_eqA (r64 hr)) eqD (ce_var 3) ce_int (nomark _)) (cw_and1 (ct_cmp (op_neA (r64 hr)) neD (ce_var 4) (ce_lst ca_nil) (nomark _))))) (css_cons (cs_set 5 sc__law_other.nd (ce_call (D__law_colour T) hr tkOf (ca_cons (ce_var 0) ca_nil)))
  (css_one (cs_ret (ce_tup (ca_cons (ce_ix (ce_var 4) ce_int) (ca_cons (ce_var 5) (ca_cons (ce_ix (ce_lst (ca_cons (ce_var 5) (ca_cons ce_str ca_nil))) (ce_call (D__law_taken T) hr tkOf (ca_cons (ce_var 0) (ca_cons ce_int ca_nil)))) ca_nil))))))) css_nil)
  (css_cons (cs_if (ct_w (cw_and (ct_cmp (op_eqA (r64 hr)) eqD (ce_var 3) ce_int (nomark _)) (cw_and1 (ct_val (ce_call (D__law_fits T) hr tkOf (ca_cons (ce_var 2) (ca_cons ce_str ca_nil))))))) (css_one (cs_ret (ce_op op_addD addD (ce_tup (ca_cons ce_str (ca_cons (ce_ix (ce_ix (ce_call (D__law_drawing T) hr tkOf (ca_cons (ce_var 1) (ca_cons (ce_var 2) ca_nil))) ce_int) ce_int) ca_nil))) (ce_call (D_filled T) hr tkOf (ca_cons (ce_var 2) (ca_cons (ce_var 1) ca_nil)))))) css_nil)
  (css_one (cs_ret (ce_var 1)))))))))
def m__law_alike : Nat → Fn
  | 0 => fun _ _ => .no
  | j + 1 => callD 2 3 ((sSeq (sIf (bOr (bVal (eUn (fIsI ["tuple"]) (eVar 1))) (bVal (eUn (fIsI ["list"]) (eVar 1)))) (sSeq (sIf (bOr (bVal (eOp fNe (eUn (fIsI ["tuple"]) (eVar 0)) (eUn (fIsI ["tuple"]) (eVar 1)))) (bNot (bVal (eUn (fIsI ["tuple", "list"]) (eVar 0))))) (sRet (eC (.bool false))) sNx)
  (sSeq (sIf (bVal (eOp fNe (eCB bLen (aCons (eVar 0) aNil)) (eCB bLen (aCons (eVar 1) aNil)))) (sRet (eC (.bool false))) sNx)
  (sRet (eOp fEq (eComp (iRng1 (aCons (eCB bLen (aCons (eVar 1) aNil)) aNil)) (gNm 2) (bNot (bVal (eCall (m__law_alike j) (aCons (eOp fIx (eVar 0) (eVar 2)) (aCons (eOp fIx (eVar 1) (eVar 2)) aNil))))) (eVar 2) [2]) (eLst aNil))))) sNx)
  (sSeq (sIf (bOr (bVal (eOp fIs (eVar 1) (eC .none))) (bVal (eOp fIs (eVar 0) (eC .none)))) (sRet (eAnd (eOp fIs (eVar 1) (eC .none)) (eOp fIs (eVar 0) (eC .none)))) sNx)
  (sSeq (sIf (bOr (bVal (eUn (fIsI ["bool"]) (eVar 1))) (bVal (eUn (fIsI ["bool"]) (eVar 0)))) (sRet (eAnd (eUn (fIsI ["bool"]) (eVar 1)) (eAnd (eUn (fIsI ["bool"]) (eVar 0)) (eOp fEq (eVar 0) (eVar 1))))) sNx)
  (sSeq (sIf (bVal (eUn (fIsI ["str"]) (eVar 1))) (sRet (eAnd (eUn (fIsI ["str"]) (eVar 0)) (eOp fEq (eVar 0) (eVar 1)))) sNx)
  (sRet (eAnd (eUn (fIsI ["int"]) (eVar 0)) (eOp fEq (eVar 0) (eVar 1)))))))))
theorem D__law_alike (T : Txt K mg) : ∀ j : Nat, Def P w K mg base cx "_law_alike" (0 + j) 2 (m__law_alike j)
  | 0 => At.zero T.d__law_alike
  | j + 1 => At.walk (k := 0 + j) (N := N__law_alike) T.d__law_alike sc__law_alike fun f cdv A outer s H E hr => ((css_cons (cs_if (ct_w (cw_or (ct_val (ce_isi1 (ce_var 1) T.b_isinstance T.b_tuple (.inl rfl) (by decide +kernel))) (cw_or1 (ct_val (ce_isi1 (ce_var 1) T.b_isinstance T.b_list (.inr (.inl rfl)) (by decide +kernel)))))) (css_cons (cs_if (ct_w (cw_or (ct_cmp (op_neA (r64 hr)) neD (ce_isi1 (ce_var 0) T.b_isinstance T.b_tuple (.inl rfl) (by decide +kernel)) (ce_isi1 (ce_var 1) T.b_isinstance T.b_tuple (.inl rfl) (by decide +kernel)) (nomark _)) (cw_or1 (ct_not (ct_val (ce_isi2 (ce_var 0) T.b_isinstance T.b_tuple (.inl rfl) (by decide +kernel) T.b_list (.inr (.inl rfl)) (by decide +kernel))))))) (css_one (cs_ret ce_bl)) css_nil)
  (css_cons (cs_if (ct_cmp (op_neA (r64 hr)) neD (ce_callB (call_len) lenD T.b_len PySem.boot_len (ca_cons (ce_var 0) ca_nil)) (ce_callB (call_len) lenD T.b_len PySem.boot_len (ca_cons (ce_var 1) ca_nil)) (nomark _)) (css_one (cs_ret ce_bl)) css_nil)
  (css_one (cs_ret (ce_cmp (op_eqA (r64 hr)) eqD (ce_comp rfl sc__law_alike.nd (ci_rng1 T.b_range (ca_cons (ce_callB (call_len) lenD T.b_len PySem.boot_len (ca_cons (ce_var 1) ca_nil)) ca_nil)) (blkOk_by (own := [("_law_k", 2)]) (N := N__law_alike) (sc := defScope s__law_alike) (by decide +kernel)) (by decide) (fun _ _ _ _ _ => (cg_name 2 sc__law_alike.nd)) (fun _ _ _ _ _ => (cts_one (ct_not (ct_val (ce_callC (D__law_alike T j) hr rfl (ca_cons (ce_ix (ce_var 0) (ce_var 2)) (ca_cons (ce_ix (ce_var 1) (ce_var 2)) ca_nil))))))) (fun _ _ _ _ _ => (ce_var 2))) (ce_lst ca_nil) (nomark _)))))) css_nil)
  (css_cons (cs_if (ct_w (cw_or (ct_cmp op_isA isD (ce_var 1) ce_non (nomark _)) (cw_or1 (ct_cmp op_isA isD (ce_var 0) ce_non (nomark _))))) (css_one (cs_ret (ce_and (ce_cmp op_isA isD (ce_var 1) ce_non (nomark _)) (ce_one (ce_cmp op_isA isD (ce_var 0) ce_non (nomark _)))))) css_nil)
  (css_cons (cs_if (ct_w (cw_or (ct_val (ce_isi1 (ce_var 1) T.b_isinstance T.b_bool (.inr (.inr (.inl rfl))) (by decide +kernel))) (cw_or1 (ct_val (ce_isi1 (ce_var 0) T.b_isinstance T.b_bool (.inr (.inr (.inl rfl))) (by decide +kernel)))))) (css_one (cs_ret (ce_and (ce_isi1 (ce_var 1) T.b_isinstance T.b_bool (.inr (.inr (.inl rfl))) (by decide +kernel)) (ce_and (ce_isi1 (ce_var 0) T.b_isinstance T.b_bool (.inr (.inr (.inl rfl))) (by decide +kernel)) (ce_one (ce_cmp (op_eqA (r64 hr)) eqD (ce_var 0) (ce_var 1) (nomark _))))))) css_nil)
  (css_cons (cs_if (ct_val (ce_isi1 (ce_var 1) T.b_isinstance T.b_str (.inr (.inr (.inr (.inl rfl)))) (by decide +kernel))) (css_one (cs_ret (ce_and (ce_isi1 (ce_var 0) T.b_isinstance T.b_str (.inr (.inr (.inr (.inl rfl)))) (by decide +kernel)) (ce_one (ce_cmp (op_eqA (r64 hr)) eqD (ce_var 0) (ce_var 1) (nomark _)))))) css_nil)
  (css_one (cs_ret (ce_and (ce_isi1 (ce_var 0) T.b_isinstance T.b_int (.inr (.inr (.inr (.inr rfl)))) (by decide +kernel)) (ce_one (ce_cmp (op_eqA (r64 hr)) eqD (ce_var 0) (ce_var 1) (nomark _)))))))))))
def m_is_own : Fn := callD 4 6 ((sSeq (sAsg (eVar 0) (gTp [(gNm 4), (gNm 5)]))
  (sSeq (sIf (bVal (eOp fEq (eVar 1) (eC (.str "pillar")))) (sRet (eChain fLe fLt (eOp fDiv (eVar 4) (eC (.int 4))) (eVar 3) (eOp fSub (eVar 4) (eOp fDiv (eVar 4) (eC (.int 4)))))) sNx)
  (sSeq (sIf (bVal (eOp fEq (eVar 1) (eC (.str "band")))) (sRet (eChain fLe fLt (eOp fDiv (eVar 5) (eC (.int 4))) (eVar 2) (eOp fSub (eVar 5) (eOp fDiv (eVar 5) (eC (.int 4)))))) sNx)
  (sSeq (sIf (bVal (eOp fEq (eVar 1) (eC (.str "head")))) (sRet (eOp fLt (eVar 2) (eOp fDiv (eVar 5) (eC (.int 4))))) sNx)
  (sRet (eOr (eOp fIn (eVar 2) (eTup (aCons (eC (.int 0)) (aCons (eOp fSub (eVar 5) (eC (.int 1))) aNil)))) (eOp fIn (eVar 3) (eTup (aCons (eC (.int 0)) (aCons (eOp fSub (eVar 4) (eC (.int 1))) aNil)))))))))))
theorem D_is_own (T : Txt K mg) : Def P w K mg base cx "is_own" 1 4 m_is_own := At.walk (N := N_is_own) T.d_is_own sc_is_own fun f cdv A outer s H E hr => ((css_cons (cs_asg (ce_var 0) (cg_tup rfl (cgs_cons (cg_name 4 sc_is_own.nd) (cgs_cons (cg_name 5 sc_is_own.nd) cgs_nil))))
  (css_cons (cs_if (ct_cmp (op_eqA (r64 hr)) eqD (ce_var 1) ce_str (nomark _)) (css_one (cs_ret (ce_chain op_le leD op_lt ltD (ce_op op_fdiv divD (ce_var 4) ce_int) (ce_var 3) (ce_op op_sub subD (ce_var 4) (ce_op op_fdiv divD (ce_var 4) ce_int))))) css_nil)
  (css_cons (cs_if (ct_cmp (op_eqA (r64 hr)) eqD (ce_var 1) ce_str (nomark _)) (css_one (cs_ret (ce_chain op_le leD op_lt ltD (ce_op op_fdiv divD (ce_var 5) ce_int) (ce_var 2) (ce_op op_sub subD (ce_var 5) (ce_op op_fdiv divD (ce_var 5) ce_int))))) css_nil)
  (css_cons (cs_if (ct_cmp (op_eqA (r64 hr)) eqD (ce_var 1) ce_str (nomark _)) (css_one (cs_ret (ce_cmp op_lt ltD (ce_var 2) (ce_op op_fdiv divD (ce_var 5) ce_int) (nomark _)))) css_nil)
  (css_one (cs_ret (ce_or (ce_cmp (op_inA (r100 hr)) inDD (ce_var 2) (ce_tup (ca_cons ce_int (ca_cons (ce_op op_sub subD (ce_var 5) ce_int) ca_nil))) (by rfl)) (ce_one (ce_cmp (op_inA (r100 hr)) inDD (ce_var 3) (ce_tup (ca_cons ce_int (ca_cons (ce_op op_sub subD (ce_var 4) ce_int) ca_nil))) (by rfl)))))))))))
def m_drawing_of : Nat → Fn
  | 0 => fun _ _ => .no
  | j + 1 => callD 2 17 ((sSeq (sAsg (eVar 1) (gTp [(gNm 2), (gNm 3), (gNm 4), (gNm 5)]))
  (sSeq (sIf (bVal (eOp fEq (eVar 5) (eTup aNil))) (sRet (eOp fMul (eTup (aCons (eOp fMul (eTup (aCons (eVar 4) aNil)) (eOp fIx (eVar 0) (eC (.int 0)))) aNil)) (eOp fIx (eVar 0) (eC (.int 1))))) sNx)
  (sSeq (sIf (bVal (eOp fIn (eVar 2) (eC c_PIECES))) (sSeq (sAsg (eCall (m_drawing_of j) (aCons (eVar 0) (aCons (eOp fIx (eVar 5) (eC (.int 0))) aNil))) (gNm 6))
  (sSeq (sAsg (eNew (eLst aNil)) (gNm 7))
  (sSeq (sFor (iRng1 (aCons (eOp fIx (eVar 0) (eC (.int 1))) aNil)) (gNm 8) (sSeq (sAsg (eComp (iRng1 (aCons (eOp fIx (eVar 0) (eC (.int 0))) aNil)) (gNm 16) bYes (eIf (bVal (eCall m_is_own (aCons (eVar 0) (aCons (eVar 2) (aCons (eVar 8) (aCons (eVar 16) aNil)))))) (eVar 4) (eOp fIx (eOp fIx (eVar 6) (eVar 8)) (eVar 16))) [16]) (gNm 9))
  (sDrop (eApp (eVar 7) (eCB bTup (aCons (eVar 9) aNil))))))
  (sRet (eCB bTup (aCons (eVar 7) aNil)))))) sNx)
  (sSeq (sAsg (eComp (iSeq (eVar 5)) (gNm 13) bYes (eCall (m_drawing_of j) (aCons (eCall m_part_of (aCons (eVar 0) (aCons (eVar 2) aNil))) (aCons (eVar 13) aNil))) [13]) (gLs [(gNm 10), (gNm 11)]))
  (sSeq (sIf (bVal (eOp fEq (eVar 2) (eC (.str "cut")))) (sRet (eOp fAdd (eVar 10) (eVar 11))) sNx)
  (sSeq (sAsg (eCB bTup (aCons (eComp (iZip (aCons (eVar 10) (aCons (eVar 11) aNil))) (gTp [(gNm 14), (gNm 15)]) bYes (eOp fAdd (eVar 14) (eVar 15)) [14, 15]) aNil)) (gNm 12))
  (sSeq (sIf (bVal (eOp fEq (eVar 2) (eC (.str "party")))) (sRet (eVar 12)) sNx)
  (sRet (eOp fAdd (eVar 12) (eCB bTup (aCons (eComp (iZip (aCons (eVar 11) (aCons (eVar 10) aNil))) (gTp [(gNm 14), (gNm 15)]) bYes (eOp fAdd (eVar 14) (eVar 15)) [14, 15]) aNil))))))))))))
theorem D_drawing_of (T : Txt K mg) : ∀ j : Nat, Def P w K mg base cx "drawing_of" (1 + j) 2 (m_drawing_of j)
  | 0 => At.zero T.d_drawing_of
  | j + 1 => At.walk (k := 1 + j) (N := N_drawing_of) T.d_drawing_of sc_drawing_of fun f cdv A outer s H E hr => ((css_cons (cs_asg (ce_var 1) (cg_tup rfl (cgs_cons (cg_name 2 sc_drawing_of.nd) (cgs_cons (cg_name 3 sc_drawing_of.nd) (cgs_cons (cg_name 4 sc_drawing_of.nd) (cgs_cons (cg_name 5 sc_drawing_of.nd) cgs_nil))))))
  (css_cons (cs_if (ct_cmp (op_eqA (r64 hr)) eqD (ce_var 5) (ce_tup ca_nil) (nomark _)) (css_one (cs_ret (ce_op op_mulA mulD (ce_tup (ca_cons (ce_op op_mulA mulD (ce_tup (ca_cons (ce_var 4) ca_nil)) (ce_ix (ce_var 0) ce_int)) ca_nil)) (ce_ix (ce_var 0) ce_int)))) css_nil)
  (css_cons (cs_if (ct_cmp (op_inA (r100 hr)) inDD (ce_var 2) (ce_globX T.c_PIECES) (by rfl)) (css_cons (cs_set 6 sc_drawing_of.nd (ce_call (D_drawing_of T j) hr tkOf (ca_cons (ce_var 0) (ca_cons (ce_ix (ce_var 5) ce_int) ca_nil))))
  (css_cons (cs_set 7 sc_drawing_of.nd (ce_new ca_nil))
  (css_cons (cs_for poOf rfl (ci_rng1 T.b_range (ca_cons (ce_ix (ce_var 0) ce_int) ca_nil)) (cg_name 8 sc_drawing_of.nd) (css_cons (cs_setC 9 rfl sc_drawing_of.nd (ci_rng1 T.b_range (ca_cons (ce_ix (ce_var 0) ce_int) ca_nil)) (blkOk_by (own := [("k", 16)]) (N := N_drawing_of) (sc := defScope s_drawing_of) (by decide +kernel)) (by decide) (fun _ _ _ _ _ => (cg_name 16 sc_drawing_of.nd)) (fun _ _ _ _ _ => cts_nil) (fun _ _ _ _ _ => (ce_if (ct_val (ce_callC (D_is_own T) hr rfl (ca_cons (ce_var 0) (ca_cons (ce_var 2) (ca_cons (ce_var 8) (ca_cons (ce_var 16) ca_nil)))))) (ce_var 4) (ce_ix (ce_ix (ce_var 6) (ce_var 8)) (ce_var 16)))))
  (css_one (cs_expr (ce_append (ce_var 7) (ce_callTy (call_tuple_of) tupD T.b_tuple (by decide +kernel) (ca_cons (ce_var 9) ca_nil)))))))
  (css_one (cs_ret (ce_callTy (call_tuple_of) tupD T.b_tuple (by decide +kernel) (ca_cons (ce_var 7) ca_nil))))))) css_nil)
  (css_cons (cs_asg (ce_comp rfl sc_drawing_of.nd (ci_seq (ce_var 5)) (blkOk_by (own := [("part", 13)]) (N := N_drawing_of) (sc := defScope s_drawing_of) (by decide +kernel)) (by decide) (fun _ _ _ _ _ => (cg_name 13 sc_drawing_of.nd)) (fun _ _ _ _ _ => cts_nil) (fun _ _ _ _ _ => (ce_callC (D_drawing_of T j) hr rfl (ca_cons (ce_callC (D_part_of T) hr rfl (ca_cons (ce_var 0) (ca_cons (ce_var 2) ca_nil))) (ca_cons (ce_var 13) ca_nil))))) (cg_lst rfl (cgs_cons (cg_name 10 sc_drawing_of.nd) (cgs_cons (cg_name 11 sc_drawing_of.nd) cgs_nil))))
  (css_cons (cs_if (ct_cmp (op_eqA (r64 hr)) eqD (ce_var 2) ce_str (nomark _)) (css_one (cs_ret (ce_op op_addD addD (ce_var 10) (ce_var 11)))) css_nil)
  (css_cons (cs_set 12 sc_drawing_of.nd (ce_callTy (call_tuple_of) tupD T.b_tuple (by decide +kernel) (ca_cons (ce_comp rfl sc_drawing_of.nd (ci_zip T.b_zip (ca_cons (ce_var 10) (ca_cons (ce_var 11) ca_nil))) (blkOk_by (own := [("left", 14), ("right", 15)]) (N := N_drawing_of) (sc := defScope s_drawing_of) (by decide +kernel)) (by decide) (fun _ _ _ _ _ => (cg_tup rfl (cgs_cons (cg_name 14 sc_drawing_of.nd) (cgs_cons (cg_name 15 sc_drawing_of.nd) cgs_nil)))) (fun _ _ _ _ _ => cts_nil) (fun _ _ _ _ _ => (ce_op op_addD addD (ce_var 14) (ce_var 15)))) ca_nil)))
  (css_cons (cs_if (ct_cmp (op_eqA (r64 hr)) eqD (ce_var 2) ce_str (nomark _)) (css_one (cs_ret (ce_var 12))) css_nil)
  (css_one (cs_ret (ce_op op_addD addD (ce_var 12) (ce_callTy (call_tuple_of) tupD T.b_tuple (by decide +kernel) (ca_cons (ce_comp rfl sc_drawing_of.nd (ci_zip T.b_zip (ca_cons (ce_var 11) (ca_cons (ce_var 10) ca_nil))) (blkOk_by (own := [("left", 14), ("right", 15)]) (N := N_drawing_of) (sc := defScope s_drawing_of) (by decide +kernel)) (by decide) (fun _ _ _ _ _ => (cg_tup rfl (cgs_cons (cg_name 14 sc_drawing_of.nd) (cgs_cons (cg_name 15 sc_drawing_of.nd) cgs_nil)))) (fun _ _ _ _ _ => cts_nil) (fun _ _ _ _ _ => (ce_op op_addD addD (ce_var 14) (ce_var 15)))) ca_nil)))))))))))))
def m_drawn : Fn := callD 2 2 ((sRet (eCall (m_drawing_of 90) (aCons (eVar 0) (aCons (eCall m_tree_of (aCons (eVar 0) (aCons (eVar 1) aNil))) aNil)))))
theorem D_drawn (T : Txt K mg) : Def P w K mg base cx "drawn" 93 2 m_drawn := At.walk (N := N_drawn) T.d_drawn sc_drawn fun f cdv A outer s H E hr => ((css_one (cs_ret (ce_call (D_drawing_of T 90) hr tkOf (ca_cons (ce_var 0) (ca_cons (ce_call (D_tree_of T) hr tkOf (ca_cons (ce_var 0) (ca_cons (ce_var 1) ca_nil))) ca_nil))))))
def m_alike : Fn := callD 3 3 ((sRet (eOp fEq (eCall m_drawn (aCons (eVar 0) (aCons (eVar 1) aNil))) (eCall m_drawn (aCons (eVar 0) (aCons (eVar 2) aNil))))))
theorem D_alike (T : Txt K mg) : Def P w K mg base cx "alike" 94 3 m_alike := At.walk (N := N_alike) T.d_alike sc_alike fun f cdv A outer s H E hr => ((css_one (cs_ret (ce_cmp (op_eqA (r64 hr)) eqD (ce_call (D_drawn T) hr tkOf (ca_cons (ce_var 0) (ca_cons (ce_var 1) ca_nil))) (ce_call (D_drawn T) hr tkOf (ca_cons (ce_var 0) (ca_cons (ce_var 2) ca_nil))) (nomark _)))))
def m_law : Fn := callD 1 8 ((sSeq (sAsg (eNew (eLst (aCons (eVar 0) (aCons (eC (.int 0)) (aCons (eC (.int 0)) (aCons (eC (.int 0)) aNil)))))) (gNm 1))
  (sSeq (sFor (iRng1 (aCons (eC (.int 4)) aNil)) (gNm 2) (sSeq (sAsg (eCall m__law_size (aCons (eVar 1) (aCons (eC (.int 8)) aNil))) (gNm 3))
  (sSeq (sAsg (eCall m__law_cut (aCons (eVar 1) (aCons (eCall (m__law_saying 8) (aCons (eVar 1) (aCons (eVar 3) (aCons (eOp fAdd (eC (.int 1)) (eCall m__law_taken (aCons (eVar 1) (aCons (eC (.int 5)) aNil)))) aNil)))) aNil))) (gNm 4))
  (sSeq (sAsg (eCall m__law_cut (aCons (eVar 1) (aCons (eCall m__law_other (aCons (eVar 1) (aCons (eVar 4) (aCons (eVar 3) aNil)))) aNil))) (gNm 5))
  (sSeq (sAsg (eCall m__law_drawing (aCons (eVar 4) (aCons (eVar 3) aNil))) (gNm 6))
  (sSeq (sIf (bOr (bNot (bVal (eCall (m__law_alike 12) (aCons (eCall m_drawn (aCons (eVar 3) (aCons (eVar 4) aNil))) (aCons (eVar 6) aNil))))) (bNot (bVal (eCall (m__law_alike 12) (aCons (eCall m_drawn (aCons (eVar 3) (aCons (eCall m_filled (aCons (eVar 3) (aCons (eVar 4) aNil))) aNil))) (aCons (eVar 6) aNil)))))) (sRet (eC (.bool false))) sNx)
  (sSeq (sAsg (eOp fEq (eVar 6) (eCall m__law_drawing (aCons (eVar 5) (aCons (eVar 3) aNil)))) (gNm 7))
  (sIf (bNot (bVal (eCall (m__law_alike 12) (aCons (eLst (aCons (eCall m_alike (aCons (eVar 3) (aCons (eVar 4) (aCons (eVar 5) aNil)))) (aCons (eCall m_alike (aCons (eVar 3) (aCons (eCall m_filled (aCons (eVar 3) (aCons (eVar 5) aNil))) (aCons (eVar 4) aNil)))) aNil))) (aCons (eLst (aCons (eVar 7) (aCons (eVar 7) aNil))) aNil))))) (sRet (eC (.bool false))) sNx))))))))
  (sRet (eC (.bool true))))))
theorem D_law (T : Txt K mg) : ∃ f fd, mg "law" = some (.ref f) ∧ SB fd ["_law_script"] ∧ ∀ base : Heap, FnOk P w K mg base (L2.CX P w) 95 f fd ["_law_script"] (spF K cx 1 m_law) := At.law (N := N_law) T.d_law sc_law fun base f cdv A outer s H E hr => ((css_cons (cs_set 1 sc_law.nd (ce_new (ca_cons (ce_var 0) (ca_cons ce_int (ca_cons ce_int (ca_cons ce_int ca_nil))))))
  (css_cons (cs_for poOf rfl (ci_rng1 T.b_range (ca_cons ce_int ca_nil)) (cg_name 2 sc_law.nd) (css_cons (cs_set 3 sc_law.nd (ce_call (D__law_size T) hr tkOf (ca_cons (ce_var 1) (ca_cons ce_int ca_nil))))
  (css_cons (cs_set 4 sc_law.nd (ce_call (D__law_cut T) hr tkOf (ca_cons (ce_var 1) (ca_cons (ce_call (D__law_saying T 8) hr tkOf (ca_cons (ce_var 1) (ca_cons (ce_var 3) (ca_cons (ce_op op_addD addD ce_int (ce_call (D__law_taken T) hr tkOf (ca_cons (ce_var 1) (ca_cons ce_int ca_nil)))) ca_nil)))) ca_nil))))
  (css_cons (cs_set 5 sc_law.nd (ce_call (D__law_cut T) hr tkOf (ca_cons (ce_var 1) (ca_cons (ce_call (D__law_other T) hr tkOf (ca_cons (ce_var 1) (ca_cons (ce_var 4) (ca_cons (ce_var 3) ca_nil)))) ca_nil))))
  (css_cons (cs_set 6 sc_law.nd (ce_call (D__law_drawing T) hr tkOf (ca_cons (ce_var 4) (ca_cons (ce_var 3) ca_nil))))
  (css_cons (cs_if (ct_w (cw_or (ct_not (ct_val (ce_call (D__law_alike T 12) hr tkOf (ca_cons (ce_call (D_drawn T) hr tkOf (ca_cons (ce_var 3) (ca_cons (ce_var 4) ca_nil))) (ca_cons (ce_var 6) ca_nil))))) (cw_or1 (ct_not (ct_val (ce_call (D__law_alike T 12) hr tkOf (ca_cons (ce_call (D_drawn T) hr tkOf (ca_cons (ce_var 3) (ca_cons (ce_call (D_filled T) hr tkOf (ca_cons (ce_var 3) (ca_cons (ce_var 4) ca_nil))) ca_nil))) (ca_cons (ce_var 6) ca_nil)))))))) (css_one (cs_ret ce_bl)) css_nil)
  (css_cons (cs_set 7 sc_law.nd (ce_cmp (op_eqA (r64 hr)) eqD (ce_var 6) (ce_call (D__law_drawing T) hr tkOf (ca_cons (ce_var 5) (ca_cons (ce_var 3) ca_nil))) (nomark _)))
  (css_one (cs_if (ct_not (ct_val (ce_call (D__law_alike T 12) hr tkOf (ca_cons (ce_lst (ca_cons (ce_call (D_alike T) hr tkOf (ca_cons (ce_var 3) (ca_cons (ce_var 4) (ca_cons (ce_var 5) ca_nil)))) (ca_cons (ce_call (D_alike T) hr tkOf (ca_cons (ce_var 3) (ca_cons (ce_call (D_filled T) hr tkOf (ca_cons (ce_var 3) (ca_cons (ce_var 5) ca_nil))) (ca_cons (ce_var 4) ca_nil)))) ca_nil))) (ca_cons (ce_lst (ca_cons (ce_var 7) (ca_cons (ce_var 7) ca_nil))) ca_nil))))) (css_one (cs_ret ce_bl)) css_nil)))))))))
  (css_one (cs_ret ce_bl)))))
end
end Bz
set_option Elab.async false
set_option linter.all false
set_option maxRecDepth 100000
set_option maxHeartbeats 1000000
/-! Plain: words, sizes, the law's row of numbers. -/
namespace Bz
open PySem
/-! ### words -/
inductive Col where
  | black | blue | green | red | white | yellow
  deriving DecidableEq
inductive Prt where
  | party | cut | quartered
  deriving DecidableEq
inductive Pc where
  | band | edge | head | pillar
  deriving DecidableEq
def Col.s : Col → Str
  | .black => "black" | .blue => "blue" | .green => "green" | .red => "red" | .white => "white" | .yellow => "yellow"
def Prt.s : Prt → Str
  | .party => "party" | .cut => "cut" | .quartered => "quartered"
def Pc.s : Pc → Str
  | .band => "band" | .edge => "edge" | .head => "head" | .pillar => "pillar"
theorem Col.inj {a b : Col} (h : a.s = b.s) : a = b := by
  cases a <;> cases b <;> first | rfl | (exfalso; revert h; decide +kernel)
theorem Prt.inj {a b : Prt} (h : a.s = b.s) : a = b := by
  cases a <;> cases b <;> first | rfl | (exfalso; revert h; decide +kernel)
theorem Pc.inj {a b : Pc} (h : a.s = b.s) : a = b := by
  cases a <;> cases b <;> first | rfl | (exfalso; revert h; decide +kernel)
@[simp] theorem Col.ok (c : Col) : PyData.strOk c.s = true := by cases c <;> decide +kernel
@[simp] theorem Prt.ok (c : Prt) : PyData.strOk c.s = true := by cases c <;> decide +kernel
@[simp] theorem Pc.ok (c : Pc) : PyData.strOk c.s = true := by cases c <;> decide +kernel
theorem inD_str {x : Str} {ys : List Str} : inD (.str x) (ys.map PyData.str) = decide (x ∈ ys) := by
  induction ys with
  | nil => rfl
  | cons y ys ih =>
    unfold inD at ih ⊢
    rw [List.map_cons, List.any_cons, ih]
    have e : PyData.eqv (.str y) (.str x) = decide (x = y) := by
      simp only [PyData.eqv]
      by_cases h : x = y
      · subst h; simp
      · simp [h, Ne.symm h]
    rw [e]
    by_cases h : x = y <;> by_cases h2 : x ∈ ys <;> simp [h, h2]
/-! sizes -/
def encS (w h : Nat) : PyData := .tuple [.int w, .int h]
def Side (n : Nat) : Prop := n = 1 ∨ n = 2 ∨ n = 4 ∨ n = 8
@[simp] theorem atI_natC {α : Type} (xs : List α) (n : Nat) : L2.atI xs (n : Int) = xs[n]? := by
  unfold L2.atI L2.ixN
  by_cases h : n < xs.length
  · rw [if_pos (by omega), if_pos (by omega)]
    simp
  · rw [if_pos (by omega), if_neg (by omega), List.getElem?_eq_none (by omega)]
    rfl
@[simp] theorem atI_0 {α : Type} (xs : List α) : L2.atI xs 0 = xs[0]? := atI_natC xs 0
@[simp] theorem atI_1 {α : Type} (xs : List α) : L2.atI xs 1 = xs[1]? := atI_natC xs 1
@[simp] theorem atI_2 {α : Type} (xs : List α) : L2.atI xs 2 = xs[2]? := atI_natC xs 2
@[simp] theorem atI_3 {α : Type} (xs : List α) : L2.atI xs 3 = xs[3]? := atI_natC xs 3
/-! ### step by step -/
theorem seq_nx {a b : DS} {ρ ρ1 : Env} {μ μ1 : Mem} {o : Out} (h1 : a ρ μ = .nx ρ1 μ1) (h2 : b ρ1 μ1 = o) : sSeq a b ρ μ = o := by
  unfold sSeq
  rw [h1]
  exact h2
theorem seq_rt {a b : DS} {ρ : Env} {μ μ1 : Mem} {s : S} (h1 : a ρ μ = .rt s μ1) : sSeq a b ρ μ = .rt s μ1 := by
  unfold sSeq
  rw [h1]
theorem seq_err {a b : DS} {ρ : Env} {μ μ1 : Mem} {e : Exn} (h1 : a ρ μ = .err e μ1) : sSeq a b ρ μ = .err e μ1 := by
  unfold sSeq
  rw [h1]
theorem if_of {t : DT} {a b : DS} {ρ : Env} {μ μ1 : Mem} {c : Bool} {o : Out} (h1 : t ρ μ = .ok c μ1) (h2 : (if c then a ρ μ1 else b ρ μ1) = o) : sIf t a b ρ μ = o := by
  unfold sIf R.out
  rw [h1]
  exact h2
theorem if_yes {t : DT} {a b : DS} {ρ : Env} {μ μ1 : Mem} {o : Out} (h1 : t ρ μ = .ok true μ1) (h2 : a ρ μ1 = o) : sIf t a b ρ μ = o := if_of h1 h2
theorem if_no {t : DT} {a b : DS} {ρ : Env} {μ μ1 : Mem} {o : Out} (h1 : t ρ μ = .ok false μ1) (h2 : b ρ μ1 = o) : sIf t a b ρ μ = o := if_of h1 h2
theorem asg_of {e : DE} {g : DG} {ρ ρ1 : Env} {μ μ1 : Mem} {s : S} (h1 : e ρ μ = .ok s μ1) (h2 : g s ρ = some ρ1) : sAsg e g ρ μ = .nx ρ1 μ1 := by
  unfold sAsg R.out
  rw [h1]
  simp only [h2]
theorem ret_of {e : DE} {ρ : Env} {μ μ1 : Mem} {s : S} (h1 : e ρ μ = .ok s μ1) : sRet e ρ μ = .rt s μ1 := by
  unfold sRet R.out
  rw [h1]
theorem drop_of {e : DE} {ρ : Env} {μ μ1 : Mem} {s : S} (h1 : e ρ μ = .ok s μ1) : sDrop e ρ μ = .nx ρ μ1 := by
  unfold sDrop R.out
  rw [h1]
theorem call_rt {np n : Nat} {b : DS} {args : List S} {ρ0 : Env} {μ μ' μ1 : Mem} {x : PyData} (hl : args.length = np) (hρ : args.map some ++ List.replicate (n - np) none = ρ0) (h : b ρ0 μ = .rt (.d x) μ') (hμ : μ'.take μ.length = μ1) : callD np n b args μ = .ok (.d x) μ1 := by
  unfold callD
  rw [if_pos hl, hρ, h]
  simp only [retF, hμ]
theorem call_nx {np n : Nat} {b : DS} {args : List S} {ρ0 ρ1 : Env} {μ μ' μ1 : Mem} (hl : args.length = np) (hρ : args.map some ++ List.replicate (n - np) none = ρ0) (h : b ρ0 μ = .nx ρ1 μ') (hμ : μ'.take μ.length = μ1) : callD np n b args μ = .ok (.d .none) μ1 := by
  unfold callD
  rw [if_pos hl, hρ, h]
  simp only [hμ]
theorem comp_of {it : DI} {g : DG} {t : DT} {e : DE} {vs : List Nat} {ρ : Env} {μ μ1 μ2 : Mem} {xs ys : List PyData} (h1 : it ρ μ = .ok xs μ1) (h2 : compGo g t e (wipeD ρ vs) xs [] μ1 = .ok ys μ2) : eComp it g t e vs ρ μ = .ok (.d (.list ys)) μ2 := by
  unfold eComp R.bind R.bindN
  rw [h1]
  simp only [h2]
theorem for_of {it : DI} {g : DG} {b : DS} {ρ : Env} {μ μ1 : Mem} {xs : List PyData} {o : Out} (h1 : it ρ μ = .ok xs μ1) (h2 : forGo g b xs ρ μ1 = o) : sFor it g b ρ μ = o := by
  unfold sFor R.out
  rw [h1]
  exact h2
/-- a loop whose turns keep I -/
theorem for_inv {g : DG} {b : DS} (I : Env → Mem → Prop) : ∀ (xs : List PyData) (ρ : Env) (μ : Mem), I ρ μ → (∀ x ∈ xs, ∀ ρ μ, I ρ μ → ∃ ρ1 ρ2 μ2, g (.d x) ρ = some ρ1 ∧ b ρ1 μ = .nx ρ2 μ2 ∧ I ρ2 μ2) → ∃ ρ' μ', forGo g b xs ρ μ = .nx ρ' μ' ∧ I ρ' μ'
  | [], ρ, μ, h, _ => ⟨ρ, μ, rfl, h⟩
  | x :: xs, ρ, μ, h, hs => by
    obtain ⟨ρ1, ρ2, μ2, h1, h2, h3⟩ := hs x (by simp) ρ μ h
    obtain ⟨ρ', μ', h4, h5⟩ := for_inv I xs ρ2 μ2 h3 fun y hy => hs y (by simp [hy])
    refine ⟨ρ', μ', ?_, h5⟩
    unfold forGo
    simp only [h1, h2]
    exact h4
/-! ### the row of numbers -/
def RowOk (ns : List Int) (x : M) : Prop := ∃ a b c : Int, x = .lst [scrD ns, .int a, .int b, .int c] ∧ 0 ≤ a ∧ 0 ≤ c
theorem taken {ns : List Int} {x : M} {rest : Mem} {n : Int} (h : RowOk ns x) (h0 : 0 < n) (h1 : n < 1000000000) :
    ∃ r x', RowOk ns x' ∧ 0 ≤ r ∧ r < n ∧ m__law_taken [.m 0, .d (.int n)] (x :: rest) = .ok (.d (.int r)) (x' :: rest) := by
  obtain ⟨a, b, c, rfl, ha, hc⟩ := h
  by_cases hc0 : 0 < c
  · refine ⟨c % n, .lst [scrD ns, .int a, .int b, .int (c / n)], ⟨a, b, c / n, rfl, ha, Int.ediv_nonneg hc (by omega)⟩, Int.emod_nonneg _ (by omega), Int.emod_lt_of_pos _ h0, ?_⟩
    simp [m__law_taken, callD, L2.ixN, hc0, h0, show n < 1073741824 by omega]
  · by_cases hl : (ns.length : Int) < a + 1
    · refine ⟨(b * 48271 + 11) % 2147483647 / 7 % n, .lst [scrD ns, .int (a + 1), .int ((b * 48271 + 11) % 2147483647), .int c], ⟨a + 1, _, c, rfl, by omega, hc⟩, Int.emod_nonneg _ (by omega), Int.emod_lt_of_pos _ h0, ?_⟩
      simp [m__law_taken, callD, L2.ixN, scrD, hc0, h0, hl, show n < 1073741824 by omega, big64]
    · obtain ⟨k, rfl⟩ := Int.eq_ofNat_of_zero_le ha
      have ha' : k < ns.length := by omega
      have e : ns[k]? = some ns[k] := List.getElem?_eq_getElem ha'
      by_cases hg : 1000000000000000000 ≤ ns[k]
      · refine ⟨ns[k] % n, .lst [scrD ns, .int ((k : Int) + 1), .int ((b * 48271 + ns[k] + 11) % 2147483647), .int (ns[k] / n)], ⟨(k : Int) + 1, _, _, rfl, by omega, Int.ediv_nonneg (by omega) (by omega)⟩, Int.emod_nonneg _ (by omega), Int.emod_lt_of_pos _ h0, ?_⟩
        simp [m__law_taken, callD, L2.ixN, scrD, hc0, h0, hl, show n < 1073741824 by omega, big64, e, hg]
      · refine ⟨ns[k] % n, .lst [scrD ns, .int ((k : Int) + 1), .int ((b * 48271 + ns[k] + 11) % 2147483647), .int c], ⟨(k : Int) + 1, _, _, rfl, by omega, hc⟩, Int.emod_nonneg _ (by omega), Int.emod_lt_of_pos _ h0, ?_⟩
        simp [m__law_taken, callD, L2.ixN, scrD, hc0, h0, hl, show n < 1073741824 by omega, big64, e, hg]
end Bz
set_option Elab.async false
set_option linter.all false
set_option maxRecDepth 100000
set_option maxHeartbeats 1000000
/-! Plain: the sayings that the laws make. -/
namespace Bz
open PySem
inductive Tree where
  | col (c : Col)
  | part (p : Prt) (a b : Tree)
  | piece (q : Pc) (c : Col) (t : Tree)
def Tree.words : Tree → List Str
  | .col c => [c.s]
  | .part p a b => p.s :: (a.words ++ b.words)
  | .piece q c t => q.s :: c.s :: t.words
def Tree.depth : Tree → Nat
  | .col _ => 0
  | .part _ a b => max a.depth b.depth + 1
  | .piece _ _ t => t.depth + 1
def pW : Prt → Nat → Nat
  | .cut, w => w
  | _, w => w / 2
def pH : Prt → Nat → Nat
  | .party, h => h
  | _, h => h / 2
def fitP : Prt → Nat → Nat → Bool
  | .party, w, _ => decide (2 ≤ w)
  | .cut, _, h => decide (2 ≤ h)
  | .quartered, w, h => decide (2 ≤ w) && decide (2 ≤ h)
def fitQ : Pc → Nat → Nat → Bool
  | .pillar, w, _ => decide (4 ≤ w)
  | .band, _, h => decide (4 ≤ h)
  | .head, _, h => decide (4 ≤ h)
  | .edge, w, h => decide (4 ≤ w) && decide (4 ≤ h)
def Tree.Fit : Tree → Nat → Nat → Prop
  | .col _, _, _ => True
  | .part p a b, w, h => fitP p w h = true ∧ a.Fit (pW p w) (pH p h) ∧ b.Fit (pW p w) (pH p h)
  | .piece q _ t, w, h => fitQ q w h = true ∧ t.Fit w h
def strsD (ws : List Str) : PyData := .tuple (ws.map PyData.str)
@[simp] theorem le_c (a : Nat) (n : Nat) : ((a : Int) ≤ (n : Int)) = (a ≤ n) := propext (by omega)
@[simp] theorem le_1 (n : Nat) : ((1 : Int) ≤ (n : Int)) = (1 ≤ n) := propext (by omega)
@[simp] theorem le_2 (n : Nat) : ((2 : Int) ≤ (n : Int)) = (2 ≤ n) := propext (by omega)
@[simp] theorem le_4 (n : Nat) : ((4 : Int) ≤ (n : Int)) = (4 ≤ n) := propext (by omega)
@[simp] theorem lt_1 (n : Nat) : ((1 : Int) < (n : Int)) = (2 ≤ n) := propext (by omega)
@[simp] theorem lt_3 (n : Nat) : ((3 : Int) < (n : Int)) = (4 ≤ n) := propext (by omega)
@[simp] theorem lt_c (a n : Nat) : ((a : Int) < (n : Int)) = (a < n) := propext (by omega)

theorem Side.pos {n : Nat} (h : Side n) : 1 ≤ n := by unfold Side at h; omega
theorem Side.le {n : Nat} (h : Side n) : n ≤ 8 := by unfold Side at h; omega
theorem Side.half {n : Nat} (h : Side n) (h2 : 2 ≤ n) : Side (n / 2) ∧ n = 2 * (n / 2) := by unfold Side at *; omega
theorem Side.pW {p : Prt} {w h : Nat} (hw : Side w) (f : fitP p w h = true) : Side (Bz.pW p w) := by
  cases p <;> simp [fitP] at f <;> simp [Bz.pW, hw] <;> exact (hw.half (by omega)).1
theorem Side.pH {p : Prt} {w h : Nat} (hh : Side h) (f : fitP p w h = true) : Side (Bz.pH p h) := by
  cases p <;> simp [fitP] at f <;> simp [Bz.pH, hh] <;> exact (hh.half (by omega)).1

/-! ### the laws' own helpers -/
theorem law_colour {ns : List Int} {x : M} {rest : Mem} (h : RowOk ns x) : ∃ (c : Col) (x' : M), RowOk ns x' ∧ m__law_colour [.m 0] (x :: rest) = .ok (.d (.str c.s)) (x' :: rest) := by
  obtain ⟨r, x', h1, h2, h3, e⟩ := taken (rest := rest) h (n := 8) (by omega) (by omega)
  have hr : r = 0 ∨ r = 1 ∨ r = 2 ∨ r = 3 ∨ r = 4 ∨ r = 5 ∨ r = 6 ∨ r = 7 := by omega
  rcases hr with hr | hr | hr | hr | hr | hr | hr | hr <;> subst hr
  · exact ⟨.white, x', h1, by simp [m__law_colour, callD, e, Col.s, L2.atI, L2.ixN]⟩
  · exact ⟨.red, x', h1, by simp [m__law_colour, callD, e, Col.s, L2.atI, L2.ixN]⟩
  · exact ⟨.yellow, x', h1, by simp [m__law_colour, callD, e, Col.s, L2.atI, L2.ixN]⟩
  · exact ⟨.white, x', h1, by simp [m__law_colour, callD, e, Col.s, L2.atI, L2.ixN]⟩
  · exact ⟨.blue, x', h1, by simp [m__law_colour, callD, e, Col.s, L2.atI, L2.ixN]⟩
  · exact ⟨.black, x', h1, by simp [m__law_colour, callD, e, Col.s, L2.atI, L2.ixN]⟩
  · exact ⟨.green, x', h1, by simp [m__law_colour, callD, e, Col.s, L2.atI, L2.ixN]⟩
  · exact ⟨.red, x', h1, by simp [m__law_colour, callD, e, Col.s, L2.atI, L2.ixN]⟩
theorem law_fitsP (p : Prt) (w h : Nat) (hw : Side w) (hh : Side h) (μ : Mem) : m__law_fits [.d (encS w h), .d (.str p.s)] μ = .ok (.d (.bool (fitP p w h))) μ := by
  have := hw.pos
  have := hh.pos
  cases p <;> simp (config := {decide := true}) [m__law_fits, callD, encS, Prt.s, fitP] <;> omega
theorem law_fitsQ (p : Pc) (w h : Nat) (hw : Side w) (hh : Side h) (μ : Mem) : m__law_fits [.d (encS w h), .d (.str p.s)] μ = .ok (.d (.bool (fitQ p w h))) μ := by
  have := hw.pos
  have := hh.pos
  cases p <;> simp (config := {decide := true}) [m__law_fits, callD, encS, Pc.s, fitQ] <;> omega
theorem law_part (p : Prt) (w h : Nat) (μ : Mem) : m__law_part [.d (encS w h), .d (.str p.s)] μ = .ok (.d (encS (pW p w) (pH p h))) μ := by
  cases p <;> simp (config := {decide := true}) [m__law_part, callD, encS, Prt.s, pW, pH, inD, PyData.eqv]
/-- a comprehension that keeps some items -/
theorem comp_filter {α : Type} {g : α → PyData} {i : Nat} {τ : DT} {e : DE} {ρ : Env} {p : α → Bool} {μ : Mem} (xs : List α) : ∀ acc : List PyData, acc.length + xs.length ≤ 1000000 → (∀ x ∈ xs, τ (ρ.set i (some (.d (g x)))) μ = .ok (p x) μ) → (∀ x ∈ xs, e (ρ.set i (some (.d (g x)))) μ = .ok (.d (g x)) μ) →
    compGo (gNm i) τ e ρ (xs.map g) acc μ = .ok (acc ++ (xs.filter p).map g) μ := by
  induction xs with
  | nil => intro acc _ _ _; simp
  | cons x xs ih =>
    intro acc hl ht he
    simp only [List.length_cons] at hl
    simp only [List.map_cons, compGo, gNm, ht x (by simp), R.bindN]
    cases hp : p x with
    | true =>
      simp only [if_true, he x (by simp), R.bindN]
      rw [if_pos (by simp; omega), ih (acc ++ [g x]) (by simp; omega) (fun y hy => ht y (by simp [hy])) (fun y hy => he y (by simp [hy]))]
      simp [hp]
    | false =>
      simp only [Bool.false_eq_true, if_false]
      rw [ih acc (by omega) (fun y hy => ht y (by simp [hy])) (fun y hy => he y (by simp [hy]))]
      simp [hp]
/-- words that are no colours -/
abbrev Wd := Sum Prt Pc
def Wd.s : Wd → Str
  | .inl p => p.s
  | .inr q => q.s
def fitW : Wd → Nat → Nat → Bool
  | .inl p, w, h => fitP p w h
  | .inr q, w, h => fitQ q w h
def seven : List Wd := [.inl .party, .inl .cut, .inl .quartered, .inr .pillar, .inr .band, .inr .head, .inr .edge]
theorem law_fits (x : Wd) (w h : Nat) (hw : Side w) (hh : Side h) (μ : Mem) : m__law_fits [.d (encS w h), .d (.str x.s)] μ = .ok (.d (.bool (fitW x w h))) μ := by
  cases x with
  | inl p => exact law_fitsP p w h hw hh μ
  | inr q => exact law_fitsQ q w h hw hh μ
theorem Wd.ok (x : Wd) : PyData.strOk x.s = true := by
  cases x with
  | inl p => exact p.ok
  | inr q => exact q.ok
@[simp] theorem canLay_strs (ws : List Str) (h : ∀ w ∈ ws, PyData.strOk w = true) : PyData.canLayAll0 (ws.map PyData.str) = true := by
  induction ws with
  | nil => simp [PyData.canLayAll0]
  | cons w ws ih => simp [PyData.canLayAll0, PyData.canLay0, h w (by simp), ih fun v hv => h v (by simp [hv])]
theorem eqv_nil {xs : List PyData} : PyData.eqv (.list xs) (.list []) = decide (xs = []) := by
  cases xs <;> simp [PyData.eqv, PyData.eqvAll]
theorem min_depth0 {d : PyData} : (min d.depth (PyData.list []).depth ≤ 64) = True := by simp [PyData.depth, PyData.depthAll]; omega
theorem words_len (t : Tree) : 1 ≤ t.words.length ∧ t.words.length < 2 ^ (t.depth + 1) := by
  induction t with
  | col c => simp [Tree.words, Tree.depth]
  | part p a b iha ihb =>
    have e1 : 2 ^ (a.depth + 1) ≤ 2 ^ (max a.depth b.depth + 1) := Nat.pow_le_pow_right (by omega) (by omega)
    have e2 : 2 ^ (b.depth + 1) ≤ 2 ^ (max a.depth b.depth + 1) := Nat.pow_le_pow_right (by omega) (by omega)
    simp only [Tree.words, Tree.depth, List.length_cons, List.length_append]
    rw [Nat.pow_succ 2 (max a.depth b.depth + 1)]
    omega
  | piece q c t ih =>
    have : 1 ≤ 2 ^ t.depth := Nat.one_le_two_pow
    simp only [Tree.words, Tree.depth, List.length_cons]
    rw [Nat.pow_succ 2 (t.depth + 1)]
    rw [Nat.pow_succ] at ih ⊢
    omega
theorem law_saying {ns : List Int} : ∀ (k deep w h : Nat) (x : M) (rest : Mem), deep < k → deep ≤ 10 → Side w → Side h → RowOk ns x →
    ∃ (t : Tree) (x' : M), RowOk ns x' ∧ t.Fit w h ∧ t.depth ≤ deep ∧ m__law_saying k [.m 0, .d (encS w h), .d (.int deep)] (x :: rest) = .ok (.d (strsD t.words)) (x' :: rest) := by
  intro k
  induction k with
  | zero => intro deep w h x rest hk; omega
  | succ k ih =>
    intro deep w h x rest hk hd hw hh hx
    obtain ⟨r1, x1, hx1, h11, h12, e1⟩ := taken (rest := rest) hx (n := 9) (by omega) (by omega)
    have hc : compGo (gNm 3) (bVal (eCall m__law_fits (aCons (eVar 1) (aCons (eVar 3) aNil)))) (eVar 3) [some (.m 0), some (.d (encS w h)), some (.d (.int deep)), none, none, none, none] (seven.map fun x => PyData.str x.s) [] (x :: rest) =
        .ok ((seven.filter fun y => fitW y w h).map fun x => PyData.str x.s) (x :: rest) := by
      rw [comp_filter (g := fun x : Wd => PyData.str x.s) (p := fun y => fitW y w h) seven []]
      · rfl
      · decide
      · intro y _
        simp [law_fits y w h hw hh]
      · intro y _
        simp
    have hs : (seven.map fun x => PyData.str x.s) = [.str "party", .str "cut", .str "quartered", .str "pillar", .str "band", .str "head", .str "edge"] := rfl
    rw [hs] at hc
    generalize hl : (seven.filter fun y => fitW y w h) = ys at hc
    have hcl : PyData.canLayAll0 (ys.map fun x => PyData.str x.s) = true := by
      have := canLay_strs (ys.map Wd.s) (fun v hv => by
        obtain ⟨y, _, rfl⟩ := List.mem_map.mp hv
        exact y.ok)
      rw [List.map_map] at this
      exact this
    have hy : ∀ y ∈ ys, fitW y w h = true := fun y hy => by
      rw [← hl] at hy
      exact (List.mem_filter.mp hy).2
    have hy7 : ys.length ≤ 7 := by
      rw [← hl]
      exact List.length_filter_le _ _
    unfold m__law_saying
    have hnil : PyData.eqv (.list (ys.map fun x => PyData.str x.s)) (.list []) = decide (ys = []) := by
      rw [eqv_nil]
      simp
    have hmin : min (PyData.list (ys.map fun x => PyData.str x.s)).depth (PyData.list []).depth ≤ 64 := by
      rw [min_depth0]
      trivial
    have hA : sAsg (eComp (iSeq (eTup (aCons (eC (.str "party")) (aCons (eC (.str "cut")) (aCons (eC (.str "quartered")) (aCons (eC (.str "pillar")) (aCons (eC (.str "band")) (aCons (eC (.str "head")) (aCons (eC (.str "edge")) aNil))))))))) (gNm 3) (bVal (eCall m__law_fits (aCons (eVar 1) (aCons (eVar 3) aNil)))) (eVar 3) [3]) (gNm 4)
        [some (.m 0), some (.d (encS w h)), some (.d (.int deep)), none, none, none, none] (x :: rest) = .nx [some (.m 0), some (.d (encS w h)), some (.d (.int deep)), none, some (.d (.list (ys.map fun x => PyData.str x.s))), none, none] (x :: rest) :=
      asg_of (comp_of (xs := [.str "party", .str "cut", .str "quartered", .str "pillar", .str "band", .str "head", .str "edge"]) (μ1 := x :: rest) (by simp) hc) rfl
    have hB : sAsg (eCall m__law_taken (aCons (eVar 0) (aCons (eC (.int 9)) aNil))) (gNm 5) [some (.m 0), some (.d (encS w h)), some (.d (.int deep)), none, some (.d (.list (ys.map fun x => PyData.str x.s))), none, none] (x :: rest) =
        .nx [some (.m 0), some (.d (encS w h)), some (.d (.int deep)), none, some (.d (.list (ys.map fun x => PyData.str x.s))), some (.d (.int r1)), none] (x1 :: rest) := by simp [e1]
    have hC : bOr (bVal (eOp fEq (eVar 2) (eC (.int 0)))) (bOr (bVal (eOp fEq (eVar 4) (eLst aNil))) (bVal (eOp fLt (eVar 5) (eC (.int 2))))) [some (.m 0), some (.d (encS w h)), some (.d (.int deep)), none, some (.d (.list (ys.map fun x => PyData.str x.s))), some (.d (.int r1)), none] (x1 :: rest) =
        .ok (decide (deep = 0 ∨ ys = [] ∨ r1 < 2)) (x1 :: rest) := by
      simp [PyData.canLay0, hcl, hnil, hmin, PyData.canLayAll0]
    by_cases hb : deep = 0 ∨ ys = [] ∨ r1 < 2
    · obtain ⟨c, x2, hx2, e2⟩ := law_colour (rest := rest) hx1
      refine ⟨.col c, x2, hx2, trivial, by simp [Tree.depth], ?_⟩
      refine call_rt (ρ0 := [some (.m 0), some (.d (encS w h)), some (.d (.int deep)), none, none, none, none]) (μ' := x2 :: rest) rfl rfl ?_ (by simp)
      refine seq_nx hA (seq_nx hB (seq_rt (if_yes (hC.trans (by rw [decide_eq_true hb])) (ret_of ?_))))
      simp [e2, Tree.words, strsD]
    · have hyl : 0 < ys.length := by
        cases ys with
        | nil => exact absurd (.inr (.inl rfl)) hb
        | cons _ _ => simp
      obtain ⟨r2, x2, hx2, h21, h22, e2⟩ := taken (rest := rest) hx1 (n := ys.length) (by omega) (by omega)
      obtain ⟨n2, rfl⟩ := Int.eq_ofNat_of_zero_le h21
      have hn2 : n2 < ys.length := by omega
      obtain ⟨y, hyn⟩ : ∃ y, ys[n2]? = some y := ⟨ys[n2], List.getElem?_eq_getElem hn2⟩
      have hfy : fitW y w h = true := hy y (List.mem_of_getElem? hyn)
      have hD : sAsg (eOp fIx (eVar 4) (eCall m__law_taken (aCons (eVar 0) (aCons (eCB bLen (aCons (eVar 4) aNil)) aNil)))) (gNm 3) [some (.m 0), some (.d (encS w h)), some (.d (.int deep)), none, some (.d (.list (ys.map fun x => PyData.str x.s))), some (.d (.int r1)), none] (x1 :: rest) =
          .nx [some (.m 0), some (.d (encS w h)), some (.d (.int deep)), some (.d (.str y.s)), some (.d (.list (ys.map fun x => PyData.str x.s))), some (.d (.int r1)), none] (x2 :: rest) := by
        simp [e2, hyn]
      obtain ⟨d, rfl⟩ : ∃ d, deep = d + 1 := ⟨deep - 1, by omega⟩
      have hdd : ((d + 1 : Nat) : Int) - 1 = (d : Int) := by omega
      cases y with
      | inl p =>
        have hw' := hw.pW hfy (h := h)
        have hh' := hh.pH hfy (w := w)
        obtain ⟨t1, x3, hx3, f3, d3, e3⟩ := ih d (pW p w) (pH p h) x2 rest (by omega) (by omega) hw' hh' hx2
        obtain ⟨t2, x4, hx4, f4, d4, e4⟩ := ih d (pW p w) (pH p h) x3 rest (by omega) (by omega) hw' hh' hx3
        refine ⟨.part p t1 t2, x4, hx4, ⟨hfy, f3, f4⟩, by simp [Tree.depth]; omega, ?_⟩
        have l1 := words_len t1
        have l2 := words_len t2
        have b1 : 2 ^ (t1.depth + 1) ≤ 2 ^ 11 := Nat.pow_le_pow_right (by omega) (by omega)
        have b2 : 2 ^ (t2.depth + 1) ≤ 2 ^ 11 := Nat.pow_le_pow_right (by omega) (by omega)
        refine call_rt (ρ0 := [some (.m 0), some (.d (encS w h)), some (.d (.int (d + 1 : Nat))), none, none, none, none]) (μ' := x4 :: rest) rfl rfl ?_ (by simp)
        refine seq_nx hA (seq_nx hB (seq_nx (if_no (hC.trans (by rw [decide_eq_false hb])) rfl) (seq_nx hD (seq_rt (if_yes (μ1 := x2 :: rest) ?_ (seq_nx (asg_of (s := .d (encS (pW p w) (pH p h))) (μ1 := x2 :: rest) ?_ rfl) (ret_of ?_)))))))
        · cases p <;> simp (config := {decide := true}) [Wd.s, Prt.s, inD, PyData.eqv]
        · simp [Wd.s, law_part]
        · have z1 : 1 + t1.words.length ≤ 1000000 := by omega
          have z2 : t1.words.length + 1 + t2.words.length ≤ 1000000 := by omega
          simp [e3, e4, Tree.words, strsD, Wd.s, z1, z2]
      | inr q =>
        obtain ⟨c, x3, hx3, e3⟩ := law_colour (rest := rest) hx2
        obtain ⟨t1, x4, hx4, f4, d4, e4⟩ := ih d w h x3 rest (by omega) (by omega) hw hh hx3
        refine ⟨.piece q c t1, x4, hx4, ⟨hfy, f4⟩, by simp [Tree.depth]; omega, ?_⟩
        have l1 := words_len t1
        have b1 : 2 ^ (t1.depth + 1) ≤ 2 ^ 11 := Nat.pow_le_pow_right (by omega) (by omega)
        refine call_rt (ρ0 := [some (.m 0), some (.d (encS w h)), some (.d (.int (d + 1 : Nat))), none, none, none, none]) (μ' := x4 :: rest) rfl rfl ?_ (by simp)
        refine seq_nx hA (seq_nx hB (seq_nx (if_no (hC.trans (by rw [decide_eq_false hb])) rfl) (seq_nx hD (seq_nx (if_no (μ1 := x2 :: rest) ?_ rfl) (ret_of ?_)))))
        · cases q <;> simp (config := {decide := true}) [Wd.s, Pc.s, inD, PyData.eqv]
        · have z1 : 2 + t1.words.length ≤ 1000000 := by omega
          simp [e3, e4, Tree.words, strsD, Wd.s, z1]
end Bz
set_option Elab.async false
set_option linter.all false
set_option maxRecDepth 100000
set_option maxHeartbeats 1000000
/-! Plain: the program's own reading of sayings. -/
namespace Bz
open PySem
theorem need_size_ok (w h : Nat) (hw : Side w) (hh : Side h) (μ : Mem) : m_need_size [.d (encS w h)] μ = .ok (.d .none) μ := by
  rcases hw with rfl | rfl | rfl | rfl <;> rcases hh with rfl | rfl | rfl | rfl <;> simp [m_need_size, callD, encS, c_SIDES, inD, PyData.eqv]
theorem prog_fitsP (p : Prt) (w h : Nat) (μ : Mem) : m_fits [.d (encS w h), .d (.str p.s)] μ = .ok (.d (.bool (fitP p w h))) μ := by
  cases p <;> simp (config := {decide := true}) [m_fits, callD, encS, Prt.s, fitP, inD, PyData.eqv]
theorem prog_fitsQ (p : Pc) (w h : Nat) (μ : Mem) : m_fits [.d (encS w h), .d (.str p.s)] μ = .ok (.d (.bool (fitQ p w h))) μ := by
  cases p <;> simp (config := {decide := true}) [m_fits, callD, encS, Pc.s, fitQ, inD, PyData.eqv]
theorem prog_part (p : Prt) (w h : Nat) (μ : Mem) : m_part_of [.d (encS w h), .d (.str p.s)] μ = .ok (.d (encS (pW p w) (pH p h))) μ := by
  cases p <;> simp (config := {decide := true}) [m_part_of, callD, encS, Prt.s, pW, pH]
/-- what is told of the tree of a saying that begins at a place -/
def encT : Nat → Tree → PyData
  | n, .col c => .tuple [.str c.s, .int n, .str c.s, .tuple []]
  | n, .part p a b => .tuple [.str p.s, .int n, .str "", .tuple [encT (n + 1) a, encT (n + 1 + a.words.length) b]]
  | n, .piece q c t => .tuple [.str q.s, .int n, .str c.s, .tuple [encT (n + 2) t]]
/-- the words us stand at a place, white ones behind the end -/
def Sees (ws : List Str) (n : Nat) (us : List Str) : Prop := ∀ i (h : i < us.length), (ws[n + i]?).getD "white" = us[i]
theorem Sees.head {ws : List Str} {n : Nat} {u : Str} {us : List Str} (h : Sees ws n (u :: us)) : (ws[n]?).getD "white" = u := h 0 (by simp)
theorem Sees.tail {ws : List Str} {n : Nat} {u : Str} {us : List Str} (h : Sees ws n (u :: us)) : Sees ws (n + 1) us := fun i hi => by
  have := h (i + 1) (by simp; omega)
  rw [show n + 1 + i = n + (i + 1) by omega]
  simpa using this
theorem Sees.left {ws : List Str} {n : Nat} {us vs : List Str} (h : Sees ws n (us ++ vs)) : Sees ws n us := fun i hi => by
  have := h i (by simp; omega)
  rw [List.getElem_append_left hi] at this
  exact this
theorem Sees.right {ws : List Str} {n : Nat} {us vs : List Str} (h : Sees ws n (us ++ vs)) : Sees ws (n + us.length) vs := fun i hi => by
  have := h (us.length + i) (by simp; omega)
  rw [List.getElem_append_right (by omega)] at this
  rw [Nat.add_assoc]
  simpa using this
theorem word_at {ws : List Str} {n : Nat} {ρ : Env} {μ : Mem} {i j : Nat} (hi : ρ[i]? = some (some (.d (strsD ws)))) (hj : ρ[j]? = some (some (.d (.int n)))) :
    eIf (bVal (eOp fLt (eVar j) (eCB bLen (aCons (eVar i) aNil)))) (eOp fIx (eVar i) (eVar j)) (eC (.str "white")) ρ μ = .ok (.d (.str ((ws[n]?).getD "white"))) μ := by
  by_cases h : n < ws.length
  · simp [hi, hj, strsD, h]
  · simp [hi, hj, strsD, h]
theorem word_at1 {ws : List Str} {n : Nat} {ρ : Env} {μ : Mem} {i j : Nat} (hi : ρ[i]? = some (some (.d (strsD ws)))) (hj : ρ[j]? = some (some (.d (.int n)))) :
    eIf (bVal (eOp fLt (eOp fAdd (eVar j) (eC (.int 1))) (eCB bLen (aCons (eVar i) aNil)))) (eOp fIx (eVar i) (eOp fAdd (eVar j) (eC (.int 1)))) (eC (.str "white")) ρ μ = .ok (.d (.str ((ws[n + 1]?).getD "white"))) μ := by
  have e : (n : Int) + 1 = ((n + 1 : Nat) : Int) := by omega
  by_cases h : n + 1 < ws.length
  · simp [hi, hj, strsD, e, h, -Int.natCast_add]
  · simp [hi, hj, strsD, e, h, -Int.natCast_add]
theorem tree_at_ok {ws : List Str} : ∀ (t : Tree) (k n w h : Nat) (μ : Mem), t.depth < k → t.Fit w h → Sees ws n t.words →
    m_tree_at k [.d (encS w h), .d (strsD ws), .d (.int n)] μ = .ok (.d (.tuple [encT n t, .int ((n + t.words.length : Nat) : Int)])) μ := by
  intro t
  induction t with
  | col c =>
    intro k n w h μ hk hf hs
    obtain ⟨k, rfl⟩ : ∃ j, k = j + 1 := ⟨k - 1, by omega⟩
    have hw := hs.head
    unfold m_tree_at
    refine call_rt (ρ0 := [some (.d (encS w h)), some (.d (strsD ws)), some (.d (.int n)), none, none, none, none, none]) rfl rfl ?_ List.take_length
    refine seq_nx (asg_of (word_at rfl rfl) rfl) ?_
    rw [hw]
    refine seq_rt (if_yes (μ1 := μ) ?_ (ret_of ?_))
    · cases c <;> simp (config := {decide := true}) [Col.s, c_COLOURS, inD, PyData.eqv]
    · simp [encT, Tree.words]
  | part p a b iha ihb =>
    intro k n w h μ hk hf hs
    simp only [Tree.depth] at hk
    obtain ⟨k, rfl⟩ : ∃ j, k = j + 1 := ⟨k - 1, by omega⟩
    have hw := hs.head
    have hs2 := hs.tail
    have ea := iha k (n + 1) (pW p w) (pH p h) μ (by omega) hf.2.1 hs2.left
    have eb := ihb k (n + 1 + a.words.length) (pW p w) (pH p h) μ (by omega) hf.2.2 hs2.right
    unfold m_tree_at
    refine call_rt (ρ0 := [some (.d (encS w h)), some (.d (strsD ws)), some (.d (.int n)), none, none, none, none, none]) rfl rfl ?_ List.take_length
    refine seq_nx (asg_of (word_at rfl rfl) rfl) ?_
    rw [hw]
    refine seq_nx (if_no (μ1 := μ) ?_ rfl) (seq_nx (if_no (μ1 := μ) ?_ rfl) (seq_rt (if_yes (μ1 := μ) ?_ ?_)))
    · cases p <;> simp (config := {decide := true}) [Prt.s, c_COLOURS, inD, PyData.eqv]
    · have := prog_fitsP p w h μ
      rw [hf.1] at this
      cases p <;> simp (config := {decide := true}) [Prt.s, c_PARTS, c_PIECES, inD, PyData.eqv] at this ⊢ <;> simp [this]
    · cases p <;> simp (config := {decide := true}) [Prt.s, c_PARTS, inD, PyData.eqv]
    · simp at ea eb
      simp [prog_part, ea, eb, encT, Tree.words]
      omega
  | piece q c t ih =>
    intro k n w h μ hk hf hs
    simp only [Tree.depth] at hk
    obtain ⟨k, rfl⟩ : ∃ j, k = j + 1 := ⟨k - 1, by omega⟩
    have hw := hs.head
    have hs2 := hs.tail
    have hc := hs2.head
    have et := ih k (n + 2) w h μ (by omega) hf.2 hs2.tail
    unfold m_tree_at
    refine call_rt (ρ0 := [some (.d (encS w h)), some (.d (strsD ws)), some (.d (.int n)), none, none, none, none, none]) rfl rfl ?_ List.take_length
    refine seq_nx (asg_of (word_at rfl rfl) rfl) ?_
    rw [hw]
    refine seq_nx (if_no (μ1 := μ) ?_ rfl) (seq_nx (if_no (μ1 := μ) ?_ rfl) (seq_nx (if_no (μ1 := μ) ?_ rfl) (seq_nx (asg_of (word_at1 rfl rfl) rfl) ?_)))
    · cases q <;> simp (config := {decide := true}) [Pc.s, c_COLOURS, inD, PyData.eqv]
    · have := prog_fitsQ q w h μ
      rw [hf.1] at this
      cases q <;> simp (config := {decide := true}) [Pc.s, c_PARTS, c_PIECES, inD, PyData.eqv] at this ⊢ <;> simp [this]
    · cases q <;> simp (config := {decide := true}) [Pc.s, c_PARTS, inD, PyData.eqv]
    · rw [hc]
      refine seq_nx (if_no (μ1 := μ) ?_ rfl) ?_
      · cases c <;> simp (config := {decide := true}) [Col.s, c_COLOURS, inD, PyData.eqv]
      · simp at et
        simp [et, encT, Tree.words]
        omega
end Bz
set_option Elab.async false
set_option linter.all false
set_option maxRecDepth 100000
set_option maxHeartbeats 1000000
/-! Plain: trees, words, drawings. -/
namespace Bz
open PySem
theorem tree_of_ok {ws : List Str} (t : Tree) (w h : Nat) (μ : Mem) (hw : Side w) (hh : Side h) (hd : t.depth < 90) (hf : t.Fit w h) (hs : Sees ws 0 t.words) (hl : ws.length ≤ t.words.length) :
    m_tree_of [.d (encS w h), .d (strsD ws)] μ = .ok (.d (encT 0 t)) μ := by
  have e := tree_at_ok t 90 0 w h μ hd hf hs
  have hlt : ¬ (t.words.length < ws.length) := by omega
  have hlen : bLen [strsD ws] = some (.int ws.length) := by simp [strsD]
  unfold m_tree_of
  refine call_rt (ρ0 := [some (.d (encS w h)), some (.d (strsD ws)), none, none]) rfl rfl ?_ List.take_length
  refine seq_nx (drop_of (s := .d .none) (μ1 := μ) (by simp [need_size_ok w h hw hh])) (seq_nx (ρ1 := [some (.d (encS w h)), some (.d (strsD ws)), some (.d (encT 0 t)), some (.d (.int t.words.length))]) (μ1 := μ) ?_ (seq_nx (if_no (μ1 := μ) ?_ rfl) (ret_of ?_)))
  · simp at e
    simp [e]
  · simp [strsD, hlt]
  · simp
/-! words -/
theorem words_of_ok : ∀ (t : Tree) (k n : Nat) (μ : Mem), t.depth < k → t.words.length ≤ 100000 → m_words_of k [.d (encT n t)] μ = .ok (.d (strsD t.words)) μ := by
  intro t
  induction t with
  | col c =>
    intro k n μ hk hl
    obtain ⟨k, rfl⟩ : ∃ j, k = j + 1 := ⟨k - 1, by omega⟩
    cases c <;> simp (config := {decide := true}) [m_words_of, callD, encT, Col.s, c_PIECES, inD, PyData.eqv, Tree.words, strsD]
  | part p a b iha ihb =>
    intro k n μ hk hl
    simp only [Tree.depth] at hk
    simp only [Tree.words, List.length_cons, List.length_append] at hl
    obtain ⟨k, rfl⟩ : ∃ j, k = j + 1 := ⟨k - 1, by omega⟩
    have ea := iha k (n + 1) μ (by omega) (by omega)
    have eb := ihb k (n + 1 + a.words.length) μ (by omega) (by omega)
    have z1 : 1 + a.words.length ≤ 1000000 := by omega
    have z2 : a.words.length + 1 + b.words.length ≤ 1000000 := by omega
    cases p <;> simp (config := {decide := true}) [m_words_of, callD, encT, Prt.s, c_PIECES, inD, PyData.eqv, Tree.words, strsD, ea, eb, z1, z2]
  | piece q c t ih =>
    intro k n μ hk hl
    simp only [Tree.depth] at hk
    simp only [Tree.words, List.length_cons] at hl
    obtain ⟨k, rfl⟩ : ∃ j, k = j + 1 := ⟨k - 1, by omega⟩
    have et := ih k (n + 2) μ (by omega) (by omega)
    have z1 : 2 + t.words.length ≤ 1000000 := by omega
    cases q <;> simp (config := {decide := true}) [m_words_of, callD, encT, Pc.s, c_PIECES, inD, PyData.eqv, Tree.words, strsD, et, z1]
/-! ### own cells -/
def own : Pc → Nat → Nat → Nat → Nat → Bool
  | .pillar, w, _, _, k => decide (w / 4 ≤ k) && decide (k < w - w / 4)
  | .band, _, h, r, _ => decide (h / 4 ≤ r) && decide (r < h - h / 4)
  | .head, _, h, r, _ => decide (r < h / 4)
  | .edge, w, h, r, k => decide (r = 0 ∨ r + 1 = h) || decide (k = 0 ∨ k + 1 = w)
theorem is_own_ok (q : Pc) (w h r k : Nat) (μ : Mem) (hr : r < h) (hk : k < w) : m_is_own [.d (encS w h), .d (.str q.s), .d (.int r), .d (.int k)] μ = .ok (.d (.bool (own q w h r k))) μ := by
  have e1 : ((w : Int) - w / 4) = ((w - w / 4 : Nat) : Int) := by omega
  have e2 : ((h : Int) - h / 4) = ((h - h / 4 : Nat) : Int) := by omega
  have e3 : ((w : Int) / 4) = ((w / 4 : Nat) : Int) := by omega
  have e4 : ((h : Int) / 4) = ((h / 4 : Nat) : Int) := by omega
  cases q with
  | pillar => by_cases h1 : w / 4 ≤ k <;> simp (config := {decide := true}) [m_is_own, callD, encS, Pc.s, own, inD, PyData.eqv, h1, e1, e3, -Int.natCast_ediv] <;> omega
  | band => by_cases h1 : h / 4 ≤ r <;> simp (config := {decide := true}) [m_is_own, callD, encS, Pc.s, own, inD, PyData.eqv, h1, e2, e4, -Int.natCast_ediv] <;> omega
  | head => simp (config := {decide := true}) [m_is_own, callD, encS, Pc.s, own, inD, PyData.eqv, e4, -Int.natCast_ediv]
  | edge =>
    simp (config := {decide := true}) [m_is_own, callD, encS, Pc.s, own, inD, PyData.eqv]
    rw [Bool.eq_iff_iff]
    simp
    omega
theorem law_is_own_ok (q : Pc) (w h r k : Nat) (μ : Mem) (hw : Side w) (hh : Side h) (hf : fitQ q w h = true) (hr : r < h) (hk : k < w) : m__law_is_own [.d (encS w h), .d (.str q.s), .d (.int r), .d (.int k)] μ = .ok (.d (.bool (own q w h r k))) μ := by
  cases q <;> simp (config := {decide := true}) [m__law_is_own, callD, encS, Pc.s, own, min4]
  all_goals first | (rw [Bool.eq_iff_iff]; simp; unfold Side at hw hh; simp [fitQ] at hf; omega) | (unfold Side at hw hh; simp [fitQ] at hf; omega)
/-! ### drawings -/
def cell : Tree → Nat → Nat → Nat → Nat → Col
  | .col c, _, _, _, _ => c
  | .piece q c t, w, h, r, k => if own q w h r k then c else cell t w h r k
  | .part .party a b, w, h, r, k => if k < w / 2 then cell a (w / 2) h r k else cell b (w / 2) h r (k - w / 2)
  | .part .cut a b, w, h, r, k => if r < h / 2 then cell a w (h / 2) r k else cell b w (h / 2) (r - h / 2) k
  | .part .quartered a b, w, h, r, k => if r < h / 2 then (if k < w / 2 then cell a (w / 2) (h / 2) r k else cell b (w / 2) (h / 2) r (k - w / 2))
    else (if k < w / 2 then cell b (w / 2) (h / 2) (r - h / 2) k else cell a (w / 2) (h / 2) (r - h / 2) (k - w / 2))
def rowD (w : Nat) (f : Nat → Col) : PyData := .tuple ((List.range w).map fun k => .str (f k).s)
def rowsL (w h : Nat) (f : Nat → Nat → Col) : List PyData := (List.range h).map fun r => rowD w (f r)
def encM (w h : Nat) (f : Nat → Nat → Col) : PyData := .tuple (rowsL w h f)
theorem range_congr {n : Nat} {f g : Nat → PyData} (h : ∀ i, i < n → f i = g i) : (List.range n).map f = (List.range n).map g :=
  List.map_congr_left fun i hi => h i (List.mem_range.mp hi)
theorem rowD_congr {w : Nat} {f g : Nat → Col} (h : ∀ k, k < w → f k = g k) : rowD w f = rowD w g := by
  unfold rowD
  rw [range_congr fun i hi => by rw [h i hi]]
theorem rowsL_congr {w h : Nat} {f g : Nat → Nat → Col} (e : ∀ r, r < h → ∀ k, k < w → f r k = g r k) : rowsL w h f = rowsL w h g :=
  range_congr fun r hr => rowD_congr (e r hr)
theorem encM_congr {w h : Nat} {f g : Nat → Nat → Col} (e : ∀ r, r < h → ∀ k, k < w → f r k = g r k) : encM w h f = encM w h g := by
  unfold encM
  rw [rowsL_congr e]
theorem map_range_add {n m : Nat} {f : Nat → PyData} : (List.range n).map f ++ (List.range m).map (fun i => f (n + i)) = (List.range (n + m)).map f := by
  rw [List.range_add, List.map_append, List.map_map]
  rfl
theorem rowsL_add {w h1 h2 : Nat} {f g : Nat → Nat → Col} : rowsL w h1 f ++ rowsL w h2 g = rowsL w (h1 + h2) fun r k => if r < h1 then f r k else g (r - h1) k := by
  unfold rowsL
  rw [← map_range_add]
  congr 1
  · exact range_congr fun r hr => rowD_congr fun k _ => by simp [hr]
  · exact range_congr fun r hr => rowD_congr fun k _ => by simp [show ¬ (h1 + r < h1) by omega]
theorem rowD_add {w1 w2 : Nat} {f g : Nat → Col} : fAdd (rowD w1 f) (rowD w2 g) = if w1 + w2 ≤ 1000000 then some (rowD (w1 + w2) fun k => if k < w1 then f k else g (k - w1)) else none := by
  simp only [rowD, fAdd, List.length_map, List.length_range, small, decide_eq_true_eq]
  split
  · rw [← map_range_add]
    congr 3
    · exact range_congr fun r hr => by simp [hr]
    · exact range_congr fun r hr => by simp [show ¬ (w1 + r < w1) by omega]
  · rfl
/-- a comprehension that looks at each item -/
theorem comp_map {α : Type} {gt : DG} {ρ' : α → Env} {e : DE} {ρ : Env} {g f : α → PyData} {μ : Mem} (xs : List α) : ∀ acc : List PyData, acc.length + xs.length ≤ 1000000 → (∀ x ∈ xs, gt (.d (g x)) ρ = some (ρ' x)) → (∀ x ∈ xs, e (ρ' x) μ = .ok (.d (f x)) μ) →
    compGo gt bYes e ρ (xs.map g) acc μ = .ok (acc ++ xs.map f) μ := by
  induction xs with
  | nil => intro acc _ _ _; simp
  | cons x xs ih =>
    intro acc hl hg he
    simp only [List.length_cons] at hl
    simp only [List.map_cons, compGo, hg x (by simp), bYes, R.bindN, if_true, he x (by simp)]
    rw [if_pos (by simp; omega), ih (acc ++ [f x]) (by simp; omega) (fun y hy => hg y (by simp [hy])) (fun y hy => he y (by simp [hy]))]
    simp
theorem upFrom0 (n : Nat) : upFrom 0 n = (List.range n).map fun (i : Nat) => PyData.int (i : Int) := by
  simp [upFrom]
theorem zip_rows {w1 w2 h : Nat} {f g : Nat → Nat → Col} : zipD (rowsL w1 h f) (rowsL w2 h g) = (List.range h).map fun r => PyData.tuple [rowD w1 (f r), rowD w2 (g r)] := by
  unfold rowsL
  induction (List.range h) with
  | nil => rfl
  | cons x xs ih => simp [ih]
/-- a loop over many, told turn by turn -/
theorem for_ix {g : DG} {b : DS} {n : Nat} {f : Nat → PyData} (I : Nat → Env → Mem → Prop) {ρ : Env} {μ : Mem} (h0 : I 0 ρ μ) (hs : ∀ j, j < n → ∀ ρ μ, I j ρ μ → ∃ ρ1 ρ2 μ2, g (.d (f j)) ρ = some ρ1 ∧ b ρ1 μ = .nx ρ2 μ2 ∧ I (j + 1) ρ2 μ2) : ∃ ρ' μ', forGo g b ((List.range n).map f) ρ μ = .nx ρ' μ' ∧ I n ρ' μ' := by
  suffices H : ∀ m j, j + m = n → ∀ ρ μ, I j ρ μ → ∃ ρ' μ', forGo g b ((List.range' j m).map f) ρ μ = .nx ρ' μ' ∧ I n ρ' μ' by
    rw [List.range_eq_range']
    exact H n 0 (by omega) ρ μ h0
  intro m
  induction m with
  | zero => intro j hj ρ μ h; obtain rfl : j = n := by omega
            exact ⟨ρ, μ, rfl, h⟩
  | succ m ih =>
    intro j hj ρ μ h
    obtain ⟨ρ1, ρ2, μ2, h1, h2, h3⟩ := hs j (by omega) ρ μ h
    obtain ⟨ρ', μ', h4, h5⟩ := ih (j + 1) (by omega) ρ2 μ2 h3
    refine ⟨ρ', μ', ?_, h5⟩
    simp only [List.range'_succ, List.map_cons, forGo, h1, h2]
    exact h4
end Bz
set_option Elab.async false
set_option linter.all false
set_option maxRecDepth 100000
set_option maxHeartbeats 1000000
/-! Plain: the program's drawings. -/
namespace Bz
open PySem
theorem op_of {f : PyData → PyData → Option PyData} {a b : DE} {ρ : Env} {μ μ1 μ2 : Mem} {u v z : PyData} (h1 : a ρ μ = .ok (.d u) μ1) (h2 : b ρ μ1 = .ok (.d v) μ2) (h3 : f u v = some z) : eOp f a b ρ μ = .ok (.d z) μ2 := by
  unfold eOp
  simp only [h1, h2, R.bind, rd, h3, R.of]
theorem prog_partI (p : Prt) (w h : Nat) (μ : Mem) : m_part_of [.d (encS w h), .d (.str p.s)] μ = .ok (.d (encS (pW p w) (pH p h))) μ := prog_part p w h μ
theorem flat_rep {n : Nat} {x : PyData} : (List.replicate n [x]).flatten = (List.range n).map fun _ => x := by
  induction n with
  | zero => rfl
  | succ n ih => rw [List.range_succ_eq_map, List.map_cons, List.map_map, List.replicate_succ, List.flatten_cons, ih]; rfl
theorem encM_const (w h : Nat) (c : Col) : encM w h (fun _ _ => c) = .tuple (List.replicate h (.tuple (List.replicate w (.str c.s)))) := by
  simp [encM, rowsL, rowD, List.map_const']
theorem Str.ok_nil : PyData.strOk "" = true := by decide +kernel
theorem canLay_encT : ∀ (t : Tree) (n : Nat), (encT n t).canLay0 = true := by
  intro t
  induction t with
  | col c => intro n; simp [encT, PyData.canLay0, PyData.canLayAll0]
  | part p a b iha ihb => intro n; simp [encT, PyData.canLay0, PyData.canLayAll0, iha, ihb, Str.ok_nil]
  | piece q c t ih => intro n; simp [encT, PyData.canLay0, PyData.canLayAll0, ih]
abbrev gapD (w h n : Nat) (t : Tree) : Env := [some (.d (encS w h)), some (.d (encT n t)), none, none, none, none, none, none, none, none, none, none, none, none, none, none, none]
abbrev partD (w h n : Nat) (p : Prt) (a b : Tree) (x y z : Option S) : Env := [some (.d (encS w h)), some (.d (encT n (.part p a b))), some (.d (.str p.s)), some (.d (.int n)), some (.d (.str "")), some (.d (.tuple [encT (n + 1) a, encT (n + 1 + a.words.length) b])), none, none, none, none, x, y, z, none, none, none, none]
abbrev pcD (w h n : Nat) (q : Pc) (c : Col) (t : Tree) (x y z : Option S) : Env := [some (.d (encS w h)), some (.d (encT n (.piece q c t))), some (.d (.str q.s)), some (.d (.int n)), some (.d (.str c.s)), some (.d (.tuple [encT (n + 2) t])), some (.d (encM w h (cell t w h))), x, y, z, none, none, none, none, none, none, none]
theorem comp_zip {w1 w2 h : Nat} {f g : Nat → Nat → Col} {ρ : Env} {μ : Mem} (hr : ρ.length = 17) (h1 : h ≤ 8) (h2 : w1 + w2 ≤ 1000000) : compGo (gTp [gNm 14, gNm 15]) bYes (eOp fAdd (eVar 14) (eVar 15)) ρ (zipD (rowsL w1 h f) (rowsL w2 h g)) [] μ = .ok (rowsL (w1 + w2) h fun r k => if k < w1 then f r k else g r (k - w1)) μ := by
  rw [zip_rows, comp_map (ρ' := fun r => (ρ.set 14 (some (.d (rowD w1 (f r))))).set 15 (some (.d (rowD w2 (g r))))) (f := fun r => rowD (w1 + w2) fun k => if k < w1 then f r k else g r (k - w1))]
  · rfl
  · simp; omega
  · intro x _; rfl
  · intro x _
    have e1 : ((ρ.set 14 (some (S.d (rowD w1 (f x))))).set 15 (some (S.d (rowD w2 (g x)))))[14]? = some (some (S.d (rowD w1 (f x)))) := by
      simp [List.getElem?_set, hr]
    have e2 : ((ρ.set 14 (some (S.d (rowD w1 (f x))))).set 15 (some (S.d (rowD w2 (g x)))))[15]? = some (some (S.d (rowD w2 (g x)))) := by
      simp [List.getElem?_set, hr]
    simp only [eOp, eVar, e1, e2, R.bind, rd, rowD_add, if_pos h2, R.of]
theorem encM_add {w h1 h2 : Nat} {f g : Nat → Nat → Col} (h : h1 + h2 ≤ 1000000) : fAdd (encM w h1 f) (encM w h2 g) = some (encM w (h1 + h2) fun r k => if r < h1 then f r k else g (r - h1) k) := by
  unfold encM
  rw [← rowsL_add]
  simp [rowsL, h]
theorem tup_zip {w1 w2 h i j : Nat} {f g : Nat → Nat → Col} {ρ : Env} {μ : Mem} (hi : ρ[i]? = some (some (.d (encM w1 h f)))) (hj : ρ[j]? = some (some (.d (encM w2 h g)))) (hr : ρ.length = 17) (h1 : h ≤ 8) (h2 : w1 + w2 ≤ 1000000) : eCB bTup (aCons (eComp (iZip (aCons (eVar i) (aCons (eVar j) aNil))) (gTp [(gNm 14), (gNm 15)]) bYes (eOp fAdd (eVar 14) (eVar 15)) [14, 15]) aNil) ρ μ = .ok (.d (encM (w1 + w2) h fun r k => if k < w1 then f r k else g r (k - w1))) μ := by
  have h3 : eComp (iZip (aCons (eVar i) (aCons (eVar j) aNil))) (gTp [(gNm 14), (gNm 15)]) bYes (eOp fAdd (eVar 14) (eVar 15)) [14, 15] ρ μ = .ok (.d (.list (rowsL (w1 + w2) h fun r k => if k < w1 then f r k else g r (k - w1)))) μ :=
    comp_of (xs := zipD (rowsL w1 h f) (rowsL w2 h g)) (μ1 := μ) (by simp only [iZip, aCons, aNil, eVar, hi, hj, R.bind, encM]) (comp_zip (by simp [hr]) h1 h2)
  simp only [eCB, aCons, aNil, h3, R.bind, rdL, rd, bTup, R.of, encM]
theorem drawing_ok : ∀ (t : Tree) (k n w h : Nat) (μ : Mem), t.depth < k → t.Fit w h → Side w → Side h →
    m_drawing_of k [.d (encS w h), .d (encT n t)] μ = .ok (.d (encM w h (cell t w h))) μ := by
  intro t
  induction t with
  | col c =>
    intro k n w h μ hk hf hw hh
    obtain ⟨k, rfl⟩ : ∃ j, k = j + 1 := ⟨k - 1, by omega⟩
    have l1 := hw.le
    have l2 := hh.le
    unfold m_drawing_of
    refine call_rt (ρ0 := gapD w h n (.col c)) rfl rfl ?_ List.take_length
    refine seq_nx (asg_of rfl rfl) (seq_rt (if_yes (μ1 := μ) ?_ (ret_of ?_)))
    · simp [PyData.eqv, PyData.eqvAll, PyData.canLay0, PyData.canLayAll0, PyData.depth, PyData.depthAll]
    · simp [encS, show (w : Int) ≤ 1000 by omega, show (h : Int) ≤ 1000 by omega]
      exact (encM_const w h c).symm
  | part p a b iha ihb =>
    intro k n w h μ hk hf hw hh
    simp only [Tree.depth] at hk
    obtain ⟨k, rfl⟩ : ∃ j, k = j + 1 := ⟨k - 1, by omega⟩
    have hw' := hw.pW hf.1 (h := h)
    have hh' := hh.pH hf.1 (w := w)
    have l1 := hw.le
    have l2 := hh.le
    have ea := iha k (n + 1) (pW p w) (pH p h) μ (by omega) hf.2.1 hw' hh'
    have eb := ihb k (n + 1 + a.words.length) (pW p w) (pH p h) μ (by omega) hf.2.2 hw' hh'
    unfold m_drawing_of
    refine call_rt (ρ0 := gapD w h n (.part p a b)) rfl rfl ?_ List.take_length
    refine seq_nx (asg_of rfl rfl) (seq_nx (if_no (μ1 := μ) ?_ rfl) (seq_nx (if_no (μ1 := μ) ?_ rfl) (seq_nx (ρ1 := partD w h n p a b (some (.d (encM (pW p w) (pH p h) (cell a (pW p w) (pH p h))))) (some (.d (encM (pW p w) (pH p h) (cell b (pW p w) (pH p h))))) none) (μ1 := μ) ?_ ?_)))
    · simp [PyData.eqv, PyData.eqvAll, PyData.canLay0, PyData.canLayAll0, PyData.depth, PyData.depthAll, canLay_encT]
    · cases p <;> simp (config := {decide := true}) [Prt.s, c_PIECES, inD, PyData.eqv]
    · simp [prog_part, ea, eb]
    · cases p with
      | cut =>
        refine seq_rt (if_yes (μ1 := μ) (by simp (config := {decide := true}) [Prt.s]) (ret_of ?_))
        have e2 := (hh.half (by simpa [fitP] using hf.1)).2
        have e3 : h / 2 + h / 2 = h := by omega
        simp only [eOp, eVar, partD, List.getElem?_cons_succ, List.getElem?_cons_zero, R.bind, rd, pW, pH]
        rw [encM_add (by omega), e3]
        rfl
      | party =>
        have e2 := (hw.half (by simpa [fitP] using hf.1)).2
        have e3 : w / 2 + w / 2 = w := by omega
        refine seq_nx (if_no (μ1 := μ) (by simp (config := {decide := true}) [Prt.s]) rfl) (seq_nx (asg_of (tup_zip (w1 := w / 2) (w2 := w / 2) (h := h) rfl rfl rfl l2 (by omega)) rfl) (seq_rt (if_yes (μ1 := μ) (by simp (config := {decide := true}) [Prt.s]) (ret_of ?_))))
        rw [e3]
        rfl
      | quartered =>
        have hf1 := hf.1
        simp [fitP] at hf1
        have e2 := (hw.half hf1.1).2
        have e4 := (hh.half hf1.2).2
        have e3 : w / 2 + w / 2 = w := by omega
        have e5 : h / 2 + h / 2 = h := by omega
        refine seq_nx (if_no (μ1 := μ) (by simp (config := {decide := true}) [Prt.s]) rfl) (seq_nx (asg_of (tup_zip (w1 := w / 2) (w2 := w / 2) (h := h / 2) rfl rfl rfl (by omega) (by omega)) rfl) (seq_nx (if_no (μ1 := μ) (by simp (config := {decide := true}) [Prt.s]) rfl) (ret_of ?_)))
        refine op_of (u := encM (w / 2 + w / 2) (h / 2) _) rfl (tup_zip (w1 := w / 2) (w2 := w / 2) (h := h / 2) (f := cell b (w / 2) (h / 2)) (g := cell a (w / 2) (h / 2)) rfl rfl rfl (by omega) (by omega)) ((encM_add (by omega)).trans ?_)
        rw [e3, e5]
        rfl
  | piece q c t ih =>
    intro k n w h μ hk hf hw hh
    simp only [Tree.depth] at hk
    obtain ⟨k, rfl⟩ : ∃ j, k = j + 1 := ⟨k - 1, by omega⟩
    have l1 := hw.le
    have l2 := hh.le
    have et := ih k (n + 2) w h μ (by omega) hf.2 hw hh
    unfold m_drawing_of
    have hloop := for_ix (g := gNm 8) (n := h) (f := fun i => PyData.int (i : Int)) (b := (sSeq (sAsg (eComp (iRng1 (aCons (eOp fIx (eVar 0) (eC (.int 0))) aNil)) (gNm 16) bYes (eIf (bVal (eCall m_is_own (aCons (eVar 0) (aCons (eVar 2) (aCons (eVar 8) (aCons (eVar 16) aNil)))))) (eVar 4) (eOp fIx (eOp fIx (eVar 6) (eVar 8)) (eVar 16))) [16]) (gNm 9))
  (sDrop (eApp (eVar 7) (eCB bTup (aCons (eVar 9) aNil)))))) (ρ := pcD w h n q c t (some (.m μ.length)) none none) (μ := μ ++ [.lst []])
      (fun j ρ μ1 => ∃ x y, ρ = pcD w h n q c t (some (.m μ.length)) x y ∧ μ1 = μ ++ [.lst ((List.range j).map fun r => rowD w (cell (.piece q c t) w h r))]) ⟨none, none, rfl, rfl⟩ (by
        rintro j hj ρ μ1 ⟨x, y, rfl, rfl⟩
        have hjc : (j : Int) = ((j : Nat) : Int) := rfl
        have hc : compGo (gNm 16) bYes (eIf (bVal (eCall m_is_own (aCons (eVar 0) (aCons (eVar 2) (aCons (eVar 8) (aCons (eVar 16) aNil)))))) (eVar 4) (eOp fIx (eOp fIx (eVar 6) (eVar 8)) (eVar 16))) (wipeD (pcD w h n q c t (some (.m μ.length)) (some (.d (.int j))) y) [16]) ((List.range w).map fun (i : Nat) => PyData.int (i : Int)) [] (μ ++ [.lst ((List.range j).map fun r => rowD w (cell (.piece q c t) w h r))]) =
            .ok ((List.range w).map fun k => .str (cell (.piece q c t) w h j k).s) (μ ++ [.lst ((List.range j).map fun r => rowD w (cell (.piece q c t) w h r))]) := by
          generalize (μ ++ [M.lst ((List.range j).map fun r => rowD w (cell (.piece q c t) w h r))]) = ν
          rw [comp_map (ρ' := fun (k : Nat) => (pcD w h n q c t (some (.m μ.length)) (some (.d (.int j))) y).set 16 (some (.d (.int k)))) (f := fun (k : Nat) => .str (cell (.piece q c t) w h j k).s)]
          · rfl
          · simp; omega
          · intro k _; rfl
          · intro k hk
            have hk' := List.mem_range.mp hk
            have hown := is_own_ok q w h j k ν hj hk'
            cases ho : own q w h j k with
            | true =>
              rw [ho] at hown
              simp [hown, cell, ho]
            | false =>
              rw [ho] at hown
              simp [hown, cell, ho, encM, rowsL, rowD, hj, hk']
        refine ⟨pcD w h n q c t (some (.m μ.length)) (some (.d (.int j))) y, pcD w h n q c t (some (.m μ.length)) (some (.d (.int j))) (some (.d (.list ((List.range w).map fun k => .str (cell (.piece q c t) w h j k).s)))), μ ++ [.lst ((List.range (j + 1)).map fun r => rowD w (cell (.piece q c t) w h r))], rfl, ?_, ⟨_, _, rfl, rfl⟩⟩
        refine seq_nx (asg_of (comp_of (xs := (List.range w).map fun (i : Nat) => PyData.int (i : Int)) (μ1 := μ ++ [.lst ((List.range j).map fun r => rowD w (cell (.piece q c t) w h r))]) ?_ hc) rfl) ?_
        · simp [encS, lim, upFrom0, show (w : Int) ≤ 1000000000000 by omega, show (-1000000000000 : Int) ≤ w by omega]
        · simp [rowD, List.range_succ, show j ≤ 1000000 by omega])
    obtain ⟨ρ', μ', hl, x, y, rfl, rfl⟩ := hloop
    refine call_rt (ρ0 := gapD w h n (.piece q c t)) (μ' := μ ++ [.lst (rowsL w h (cell (.piece q c t) w h))]) rfl rfl ?_ (by simp)
    refine seq_nx (asg_of rfl rfl) (seq_nx (if_no (μ1 := μ) ?_ rfl) (seq_rt (if_yes (μ1 := μ) ?_ (seq_nx (ρ1 := pcD w h n q c t none none none) (μ1 := μ) ?_ (seq_nx (ρ1 := pcD w h n q c t (some (.m μ.length)) none none) (μ1 := μ ++ [.lst []]) rfl (seq_nx (for_of (xs := (List.range h).map fun (i : Nat) => PyData.int (i : Int)) (μ1 := μ ++ [.lst []]) ?_ hl) (ret_of ?_)))))))
    · simp [PyData.eqv, PyData.eqvAll, PyData.canLay0, PyData.canLayAll0, PyData.depth, PyData.depthAll, canLay_encT]
    · cases q <;> simp (config := {decide := true}) [Pc.s, c_PIECES, inD, PyData.eqv]
    · simp [et]
    · simp [encS, lim, upFrom0, show (h : Int) ≤ 1000000000000 by omega, show (-1000000000000 : Int) ≤ h by omega]
    · simp [encM, rowsL]
end Bz
set_option Elab.async false
set_option linter.all false
set_option maxRecDepth 100000
set_option maxHeartbeats 1000000
/-! Plain: equality of drawings and sayings; sizes; outcomes. -/
namespace Bz
open PySem
/-! ### equality -/
theorem eqvAll_map {α : Type} {a b : α → PyData} (xs : List α) : PyData.eqvAll (xs.map a) (xs.map b) = xs.all fun x => PyData.eqv (a x) (b x) := by
  induction xs with
  | nil => rfl
  | cons x xs ih => simp [PyData.eqvAll, ih]
def sameM (w h : Nat) (f g : Nat → Nat → Col) : Bool := (List.range h).all fun r => (List.range w).all fun k => decide ((f r k).s = (g r k).s)
theorem eqv_encM (w h : Nat) (f g : Nat → Nat → Col) : PyData.eqv (encM w h f) (encM w h g) = sameM w h f g := by
  simp only [encM, rowsL, rowD, PyData.eqv, eqvAll_map, sameM]
  rfl
theorem canLay_all {α : Type} {a : α → PyData} (xs : List α) (h : ∀ x ∈ xs, (a x).canLay0 = true) : PyData.canLayAll0 (xs.map a) = true := by
  induction xs with
  | nil => rfl
  | cons x xs ih => simp [PyData.canLayAll0, h x (by simp), ih fun y hy => h y (by simp [hy])]
theorem depth_all {α : Type} {a : α → PyData} {n : Nat} (xs : List α) (h : ∀ x ∈ xs, (a x).depth ≤ n) : PyData.depthAll (xs.map a) ≤ n := by
  induction xs with
  | nil => simp [PyData.depthAll]
  | cons x xs ih =>
    have h1 := h x (by simp)
    have h2 := ih fun y hy => h y (by simp [hy])
    simp only [List.map_cons, PyData.depthAll]
    omega
theorem canLay_rowD (w : Nat) (f : Nat → Col) : (rowD w f).canLay0 = true := by
  simp only [rowD, PyData.canLay0]
  exact canLay_all _ fun k _ => by simp [PyData.canLay0]
theorem canLay_encM (w h : Nat) (f : Nat → Nat → Col) : (encM w h f).canLay0 = true := by
  simp only [encM, rowsL, PyData.canLay0]
  exact canLay_all _ fun r _ => canLay_rowD w (f r)
theorem depth_rowD (w : Nat) (f : Nat → Col) : (rowD w f).depth ≤ 2 := by
  have := depth_all (a := fun k => PyData.str (f k).s) (n := 1) (List.range w) fun k _ => by simp [PyData.depth]
  simp only [rowD, PyData.depth]
  omega
theorem depth_encM (w h : Nat) (f : Nat → Nat → Col) : (encM w h f).depth ≤ 3 := by
  have := depth_all (a := fun r => rowD w (f r)) (n := 2) (List.range h) fun r _ => depth_rowD w (f r)
  simp only [encM, rowsL, PyData.depth]
  omega
theorem eq_encM (w h : Nat) (f g : Nat → Nat → Col) : fEq (encM w h f) (encM w h g) = some (.bool (sameM w h f g)) := by
  have h1 : eqD2 (encM w h f) (encM w h g) = some (sameM w h f g) := by
    have h2 : scalD (encM w h f) (encM w h g) = none := rfl
    have h3 : min (encM w h f).depth (encM w h g).depth ≤ 64 := by have := depth_encM w h f; omega
    simp only [eqD2, h2, canLay_encM, eqv_encM, h3, Bool.and_self, decide_true, if_true]
  simp only [fEq, h1, Option.map]
theorem ne_encM (w h : Nat) (f g : Nat → Nat → Col) : fNe (encM w h f) (encM w h g) = some (.bool (!sameM w h f g)) := by
  have h1 : eqD2 (encM w h f) (encM w h g) = some (sameM w h f g) := by
    have h2 : scalD (encM w h f) (encM w h g) = none := rfl
    have h3 : min (encM w h f).depth (encM w h g).depth ≤ 64 := by have := depth_encM w h f; omega
    simp only [eqD2, h2, canLay_encM, eqv_encM, h3, Bool.and_self, decide_true, if_true]
  simp only [fNe, h1, Option.map]
theorem sameM_of {w h : Nat} {f g : Nat → Nat → Col} (e : ∀ r, r < h → ∀ k, k < w → f r k = g r k) : sameM w h f g = true := by
  unfold sameM
  rw [List.all_eq_true]
  intro r hr
  rw [List.all_eq_true]
  intro k hk
  rw [e r (List.mem_range.mp hr) k (List.mem_range.mp hk)]
  simp
theorem eqv_strs (ws vs : List Str) : PyData.eqv (strsD ws) (strsD vs) = decide (ws = vs) := by
  simp only [strsD, PyData.eqv]
  induction ws generalizing vs with
  | nil => cases vs <;> simp [PyData.eqvAll]
  | cons w ws ih =>
    cases vs with
    | nil => simp [PyData.eqvAll]
    | cons v vs =>
      simp only [List.map_cons, PyData.eqvAll, ih, PyData.eqv]
      by_cases h1 : w = v <;> by_cases h2 : ws = vs <;> simp [h1, h2]
theorem canLay_strsD {ws : List Str} (h : ∀ w ∈ ws, PyData.strOk w = true) : (strsD ws).canLay0 = true := by
  simp only [strsD, PyData.canLay0]
  exact canLay_strs ws h
theorem depth_strsD (ws : List Str) : (strsD ws).depth ≤ 2 := by
  have := depth_all (a := PyData.str) (n := 1) ws fun k _ => by simp [PyData.depth]
  simp only [strsD, PyData.depth]
  omega
theorem eqD_strs {ws vs : List Str} (h1 : ∀ w ∈ ws, PyData.strOk w = true) (h2 : ∀ w ∈ vs, PyData.strOk w = true) : eqD2 (strsD ws) (strsD vs) = some (decide (ws = vs)) := by
  have h3 : scalD (strsD ws) (strsD vs) = none := rfl
  have h4 : min (strsD ws).depth (strsD vs).depth ≤ 64 := by have := depth_strsD ws; omega
  simp only [eqD2, h3, canLay_strsD h1, canLay_strsD h2, eqv_strs, h4, Bool.and_self, decide_true, if_true]
theorem Tree.wordsOk (t : Tree) : ∀ w ∈ t.words, PyData.strOk w = true := by
  induction t with
  | col c => simp [Tree.words]
  | part p a b iha ihb =>
    intro w hw
    simp only [Tree.words, List.mem_cons, List.mem_append] at hw
    rcases hw with rfl | hw | hw
    · exact p.ok
    · exact iha w hw
    · exact ihb w hw
  | piece q c t ih =>
    intro w hw
    simp only [Tree.words, List.mem_cons] at hw
    rcases hw with rfl | rfl | hw
    · exact q.ok
    · exact c.ok
    · exact ih w hw
theorem Sees.self (ws : List Str) : Sees ws 0 ws := fun i h => by simp [List.getElem?_eq_getElem h]
/-! ### the program's answers -/
theorem drawn_of {ws : List Str} (t : Tree) (w h : Nat) (μ : Mem) (hw : Side w) (hh : Side h) (hd : t.depth < 90) (hf : t.Fit w h) (hs : Sees ws 0 t.words) (hl : ws.length ≤ t.words.length) :
    m_drawn [.d (encS w h), .d (strsD ws)] μ = .ok (.d (encM w h (cell t w h))) μ := by
  unfold m_drawn
  refine call_rt (ρ0 := [some (.d (encS w h)), some (.d (strsD ws))]) rfl rfl (ret_of ?_) List.take_length
  simp [tree_of_ok t w h μ hw hh hd hf hs hl, drawing_ok t 90 0 w h μ hd hf hw hh]
theorem drawn_self (t : Tree) (w h : Nat) (μ : Mem) (hw : Side w) (hh : Side h) (hd : t.depth < 90) (hf : t.Fit w h) :
    m_drawn [.d (encS w h), .d (strsD t.words)] μ = .ok (.d (encM w h (cell t w h))) μ := drawn_of t w h μ hw hh hd hf (.self _) (Nat.le_refl _)
theorem filled_of {ws : List Str} (t : Tree) (w h : Nat) (μ : Mem) (hw : Side w) (hh : Side h) (hd : t.depth < 90) (hf : t.Fit w h) (hs : Sees ws 0 t.words) (hl : ws.length ≤ t.words.length) (hl2 : t.words.length ≤ 100000) :
    m_filled [.d (encS w h), .d (strsD ws)] μ = .ok (.d (strsD t.words)) μ := by
  unfold m_filled
  refine call_rt (ρ0 := [some (.d (encS w h)), some (.d (strsD ws))]) rfl rfl (ret_of ?_) List.take_length
  simp [tree_of_ok t w h μ hw hh hd hf hs hl, words_of_ok t 90 0 μ hd hl2]
theorem alike_of {ws vs : List Str} {f g : Nat → Nat → Col} {w h : Nat} {μ : Mem} (h1 : m_drawn [.d (encS w h), .d (strsD ws)] μ = .ok (.d (encM w h f)) μ) (h2 : m_drawn [.d (encS w h), .d (strsD vs)] μ = .ok (.d (encM w h g)) μ) :
    m_alike [.d (encS w h), .d (strsD ws), .d (strsD vs)] μ = .ok (.d (.bool (sameM w h f g))) μ := by
  unfold m_alike
  refine call_rt (ρ0 := [some (.d (encS w h)), some (.d (strsD ws)), some (.d (strsD vs))]) rfl rfl (ret_of ?_) List.take_length
  exact op_of (u := encM w h f) (v := encM w h g) (μ1 := μ) (by simp [h1]) (by simp [h2]) (eq_encM w h f g)
/-! ### sizes -/
theorem law_size {ns : List Int} {x : M} {rest : Mem} (h : RowOk ns x) (most : Nat) (hm : most = 1 ∨ most = 2 ∨ most = 4 ∨ most = 8) : ∃ (w h : Nat) (x' : M), RowOk ns x' ∧ Side w ∧ Side h ∧ w ≤ most ∧ h ≤ most ∧ m__law_size [.m 0, .d (.int most)] (x :: rest) = .ok (.d (encS w h)) (x' :: rest) := by
  have hc : compGo (gNm 3) (bVal (eOp fLe (eVar 3) (eVar 1))) (eVar 3) [some (.m 0), some (.d (.int most)), none, none] ([4, 8, 4, 2, 8, 1].map fun (k : Nat) => PyData.int (k : Int)) [] (x :: rest) =
      .ok (([4, 8, 4, 2, 8, 1].filter fun (k : Nat) => decide (k ≤ most)).map fun (k : Nat) => PyData.int (k : Int)) (x :: rest) := by
    rw [comp_filter (p := fun k => decide (k ≤ most))]
    · rfl
    · decide
    · intro y _
      simp
    · intro y _
      simp
  generalize hl : ([4, 8, 4, 2, 8, 1].filter fun (k : Nat) => decide (k ≤ most)) = ys at hc
  have hy : ∀ y ∈ ys, Side y ∧ y ≤ most := fun y hy => by
    rw [← hl] at hy
    have := List.mem_filter.mp hy
    simp at this
    unfold Side
    omega
  have hy0 : 0 < ys.length ∧ ys.length ≤ 6 := by
    rw [← hl]
    rcases hm with rfl | rfl | rfl | rfl <;> decide
  obtain ⟨r1, x1, hx1, h11, h12, e1⟩ := taken (rest := rest) h (n := ys.length) (by omega) (by omega)
  obtain ⟨r2, x2, hx2, h21, h22, e2⟩ := taken (rest := rest) hx1 (n := ys.length) (by omega) (by omega)
  obtain ⟨n1, rfl⟩ := Int.eq_ofNat_of_zero_le h11
  obtain ⟨n2, rfl⟩ := Int.eq_ofNat_of_zero_le h21
  have hn1 : n1 < ys.length := by omega
  have hn2 : n2 < ys.length := by omega
  obtain ⟨y1, hy1⟩ : ∃ y, ys[n1]? = some y := ⟨ys[n1], List.getElem?_eq_getElem hn1⟩
  obtain ⟨y2, hy2⟩ : ∃ y, ys[n2]? = some y := ⟨ys[n2], List.getElem?_eq_getElem hn2⟩
  have q1 := hy y1 (List.mem_of_getElem? hy1)
  have q2 := hy y2 (List.mem_of_getElem? hy2)
  refine ⟨y1, y2, x2, hx2, q1.1, q2.1, q1.2, q2.2, ?_⟩
  unfold m__law_size
  refine call_rt (ρ0 := [some (.m 0), some (.d (.int most)), none, none]) (μ' := x2 :: rest) rfl rfl ?_ (by simp)
  refine seq_nx (ρ1 := [some (.m 0), some (.d (.int most)), some (.d (.list (ys.map fun (k : Nat) => PyData.int (k : Int)))), none]) (μ1 := x :: rest) (asg_of (comp_of (xs := [4, 8, 4, 2, 8, 1].map fun (k : Nat) => PyData.int (k : Int)) (μ1 := x :: rest) (by simp) hc) rfl) (ret_of ?_)
  simp [e1, e2, hy1, hy2, encS]
/-! ### outcomes -/
def NX (I : Env → Mem → Prop) (o : Out) : Prop := ∃ ρ μ, o = .nx ρ μ ∧ I ρ μ
def TR (o : Out) : Prop := ∃ μ, o = .rt (.d (.bool true)) μ
theorem q_seq {Q : Out → Prop} {a b : DS} {ρ ρ1 : Env} {μ μ1 : Mem} (h1 : a ρ μ = .nx ρ1 μ1) (h2 : Q (b ρ1 μ1)) : Q (sSeq a b ρ μ) := by
  unfold sSeq
  rw [h1]
  exact h2
theorem q_seqI {Q : Out → Prop} {a b : DS} {ρ : Env} {μ : Mem} (I : Env → Mem → Prop) (h1 : NX I (a ρ μ)) (h2 : ∀ ρ1 μ1, I ρ1 μ1 → Q (b ρ1 μ1)) : Q (sSeq a b ρ μ) := by
  obtain ⟨ρ1, μ1, e, hi⟩ := h1
  exact q_seq e (h2 ρ1 μ1 hi)
theorem q_yes {Q : Out → Prop} {t : DT} {a b : DS} {ρ : Env} {μ μ1 : Mem} (h1 : t ρ μ = .ok true μ1) (h2 : Q (a ρ μ1)) : Q (sIf t a b ρ μ) := by
  rw [if_yes h1 rfl]
  exact h2
theorem q_no {Q : Out → Prop} {t : DT} {a b : DS} {ρ : Env} {μ μ1 : Mem} (h1 : t ρ μ = .ok false μ1) (h2 : Q (b ρ μ1)) : Q (sIf t a b ρ μ) := by
  rw [if_no h1 rfl]
  exact h2
/-- a test that fails, then the rest -/
theorem q_skip {Q : Out → Prop} {t : DT} {a b : DS} {ρ : Env} {μ μ1 : Mem} (h1 : t ρ μ = .ok false μ1) (h2 : Q (b ρ μ1)) : Q (sSeq (sIf t a sNx) b ρ μ) := q_seq (if_no h1 rfl) h2
theorem q_nx {I : Env → Mem → Prop} {ρ : Env} {μ : Mem} (h : I ρ μ) : NX I (sNx ρ μ) := ⟨ρ, μ, rfl, h⟩
theorem q_asg {I : Env → Mem → Prop} {e : DE} {g : DG} {ρ ρ1 : Env} {μ μ1 : Mem} {s : S} (h1 : e ρ μ = .ok s μ1) (h2 : g s ρ = some ρ1) (h : I ρ1 μ1) : NX I (sAsg e g ρ μ) := ⟨ρ1, μ1, asg_of h1 h2, h⟩
theorem q_for {it : DI} {g : DG} {b : DS} {ρ : Env} {μ μ1 : Mem} {xs : List PyData} (I : Env → Mem → Prop) (h1 : it ρ μ = .ok xs μ1) (h2 : I ρ μ1) (h3 : ∀ x ∈ xs, ∀ ρ μ, I ρ μ → ∃ ρ1, g (.d x) ρ = some ρ1 ∧ NX I (b ρ1 μ)) : NX I (sFor it g b ρ μ) := by
  have := for_inv (g := g) (b := b) I xs ρ μ1 h2 fun x hx ρ μ hi => by
    obtain ⟨ρ1, e, ρ2, μ2, e2, hi2⟩ := h3 x hx ρ μ hi
    exact ⟨ρ1, ρ2, μ2, e, e2, hi2⟩
  obtain ⟨ρ', μ', e, hi⟩ := this
  exact ⟨ρ', μ', for_of h1 e, hi⟩
theorem q_ret {e : DE} {ρ : Env} {μ μ1 : Mem} (h : e ρ μ = .ok (.d (.bool true)) μ1) : TR (sRet e ρ μ) := ⟨μ1, ret_of h⟩
theorem call_TR {np n : Nat} {b : DS} {args : List S} {ρ0 : Env} (hl : args.length = np) (hρ : args.map some ++ List.replicate (n - np) none = ρ0) (h : TR (b ρ0 [])) : callD np n b args [] = .ok (.d (.bool true)) [] := by
  obtain ⟨μ', e⟩ := h
  exact call_rt hl hρ e rfl
theorem call2_of {F : Fn} {a b : DE} {ρ : Env} {μ μ1 μ2 : Mem} {s1 s2 : S} {r : R S} (h1 : a ρ μ = .ok s1 μ1) (h2 : b ρ μ1 = .ok s2 μ2) (h3 : F [s1, s2] μ2 = r) : eCall F (aCons a (aCons b aNil)) ρ μ = r := by
  simp only [eCall, aCons, aNil, h1, h2, R.bind, h3]
theorem call3_of {F : Fn} {a b c : DE} {ρ : Env} {μ μ1 μ2 μ3 : Mem} {s1 s2 s3 : S} {r : R S} (h1 : a ρ μ = .ok s1 μ1) (h2 : b ρ μ1 = .ok s2 μ2) (h3 : c ρ μ2 = .ok s3 μ3) (h4 : F [s1, s2, s3] μ3 = r) : eCall F (aCons a (aCons b (aCons c aNil))) ρ μ = r := by
  simp only [eCall, aCons, aNil, h1, h2, h3, R.bind, h4]
theorem val_of {e : DE} {ρ : Env} {μ μ1 : Mem} {c : Bool} (h : e ρ μ = .ok (.d (.bool c)) μ1) : bVal e ρ μ = .ok c μ1 := by
  simp only [bVal, h, R.bind]
theorem not_of {t : DT} {ρ : Env} {μ μ1 : Mem} {c : Bool} (h : t ρ μ = .ok c μ1) : bNot t ρ μ = .ok (!c) μ1 := by
  simp only [bNot, h, R.bind]
theorem mem_up {x : PyData} {n : Nat} (h : x ∈ upFrom 0 n) : ∃ i : Nat, i < n ∧ x = .int i := by
  rw [upFrom0] at h
  obtain ⟨i, hi, rfl⟩ := List.mem_map.mp h
  exact ⟨i, List.mem_range.mp hi, rfl⟩
theorem rng_of {as : DA} {ρ : Env} {μ μ1 : Mem} {n : Nat} (h : as ρ μ = .ok [.d (.int n)] μ1) (hn : n ≤ 1000) : iRng1 as ρ μ = .ok (upFrom 0 n) μ1 := by
  have e : (-lim ≤ (n : Int) ∧ (n : Int) ≤ lim) = True := by unfold lim; simp; omega
  simp only [iRng1, h, R.bind, e, decide_true, if_true, Int.toNat_natCast]
theorem ix_encM {w h r : Nat} {f : Nat → Nat → Col} (hr : r < h) : fIx (encM w h f) (.int r) = some (rowD w (f r)) := by
  simp [encM, rowsL, hr]
theorem ix_rowD {w k : Nat} {f : Nat → Col} (hk : k < w) : fIx (rowD w f) (.int k) = some (.str (f k).s) := by
  simp [rowD, hk]
theorem add_strs {us vs : List Str} (h : us.length + vs.length ≤ 1000000) : fAdd (strsD us) (strsD vs) = some (strsD (us ++ vs)) := by
  simp [strsD, h]
theorem cb1_of {f : DF} {a : DE} {ρ : Env} {μ μ1 : Mem} {x z : PyData} (h1 : a ρ μ = .ok (.d x) μ1) (h2 : f [x] = some z) : eCB f (aCons a aNil) ρ μ = .ok (.d z) μ1 := by
  simp only [eCB, aCons, aNil, h1, R.bind, rdL, rd, h2, R.of]
theorem app_of {i h : Nat} {e : DE} {ρ : Env} {μ : Mem} {x : PyData} {xs : List PyData} (h1 : ρ[i]? = some (some (.m h))) (h2 : μ[h]? = some (.lst xs)) (h3 : e ρ μ = .ok (.d x) μ) (h4 : xs.length ≤ 1000000) : eApp (eVar i) e ρ μ = .ok (.d .none) (μ.set h (.lst (xs ++ [x]))) := by
  simp only [eApp, eVar, h1, R.bind, h2, h3, small, h4, decide_true, if_true]
theorem cons_of {a : DE} {r : DA} {ρ : Env} {μ μ1 μ2 : Mem} {s : S} {ss : List S} (h1 : a ρ μ = .ok s μ1) (h2 : r ρ μ1 = .ok ss μ2) : aCons a r ρ μ = .ok (s :: ss) μ2 := by
  simp only [aCons, h1, h2, R.bind]
theorem tup_of {as : DA} {ρ : Env} {μ μ1 : Mem} {ss : List S} {xs : List PyData} (h1 : as ρ μ = .ok ss μ1) (h2 : pureL ss = some xs) (h3 : xs.length ≤ 1000000) : eTup as ρ μ = .ok (.d (.tuple xs)) μ1 := by
  simp only [eTup, h1, R.bind, h2, small, h3, decide_true, if_true]
theorem lst_of {as : DA} {ρ : Env} {μ μ1 : Mem} {ss : List S} {xs : List PyData} (h1 : as ρ μ = .ok ss μ1) (h2 : pureL ss = some xs) (h3 : xs.length ≤ 1000000) : eLst as ρ μ = .ok (.d (.list xs)) μ1 := by
  simp only [eLst, h1, R.bind, h2, small, h3, decide_true, if_true]
theorem call_of {F : Fn} {as : DA} {ρ : Env} {μ μ1 : Mem} {ss : List S} {r : R S} (h1 : as ρ μ = .ok ss μ1) (h2 : F ss μ1 = r) : eCall F as ρ μ = r := by
  simp only [eCall, h1, R.bind, h2]
end Bz
set_option Elab.async false
set_option linter.all false
set_option maxRecDepth 100000
set_option maxHeartbeats 1000000
/-! Plain: the laws' own look at sayings, word by word. -/
namespace Bz
open PySem
/-! ### steps -/
theorem wh_step {t : DT} {b : DS} {n : Nat} {ρ ρ2 : Env} {μ μ1 μ2 : Mem} {o : Out} (h1 : t ρ μ = .ok true μ1) (h2 : b ρ μ1 = .nx ρ2 μ2) (h3 : whGo t b n ρ2 μ2 = o) : whGo t b (n + 1) ρ μ = o := by
  unfold whGo
  simp only [h1, R.out, if_true, h2]
  exact h3
theorem wh_rt {t : DT} {b : DS} {n : Nat} {ρ : Env} {μ μ1 μ2 : Mem} {s : S} (h1 : t ρ μ = .ok true μ1) (h2 : b ρ μ1 = .rt s μ2) : whGo t b (n + 1) ρ μ = .rt s μ2 := by
  unfold whGo
  simp only [h1, R.out, if_true, h2]
theorem wh_end {t : DT} {b : DS} {n : Nat} {ρ : Env} {μ μ1 : Mem} (h1 : t ρ μ = .ok false μ1) : whGo t b (n + 1) ρ μ = .nx ρ μ1 := by
  unfold whGo
  simp [h1]
/-! ### slices -/
theorem sIx_nat (n d m : Nat) : HT.sIx n d (some (m : Int)) = min m n := by
  unfold HT.sIx
  simp only
  rw [if_neg (by omega)]
  simp
theorem cut_run (xs : List PyData) (a b : Nat) : cutD xs (some (a : Int)) (some (b : Int)) = (xs.drop a).take (b - a) := by
  unfold cutD
  rw [sIx_nat, sIx_nat]
  by_cases h : a ≤ xs.length
  · rw [Nat.min_eq_left h]
    by_cases h2 : b ≤ xs.length
    · rw [Nat.min_eq_left h2]
    · rw [Nat.min_eq_right (show xs.length ≤ b by omega), List.take_of_length_le (by rw [List.length_drop]; omega), List.take_of_length_le (by rw [List.length_drop]; omega)]
  · rw [Nat.min_eq_right (show xs.length ≤ a by omega), List.drop_of_length_le (Nat.le_refl _), List.drop_of_length_le (show xs.length ≤ a by omega)]
    simp
theorem cut_to (xs : List PyData) (b : Nat) : cutD xs none (some (b : Int)) = xs.take b := by
  unfold cutD
  rw [sIx_nat]
  simp only [HT.sIx, List.drop_zero, Nat.sub_zero]
  by_cases h : b ≤ xs.length
  · rw [Nat.min_eq_left h]
  · rw [Nat.min_eq_right (show xs.length ≤ b by omega), List.take_of_length_le (Nat.le_refl _), List.take_of_length_le (show xs.length ≤ b by omega)]
theorem cut_from (xs : List PyData) (a : Nat) : cutD xs (some (a : Int)) none = xs.drop a := by
  unfold cutD
  rw [sIx_nat]
  simp only [HT.sIx]
  by_cases h : a ≤ xs.length
  · rw [Nat.min_eq_left h, List.take_of_length_le (by simp)]
  · rw [Nat.min_eq_right (show xs.length ≤ a by omega), List.drop_of_length_le (Nat.le_refl _), List.drop_of_length_le (show xs.length ≤ a by omega)]
    simp
theorem one_word (us : List Str) (n m : Nat) (hm : m = n + 1) (hl : us.length ≤ 1000) : (fAdd (.tuple (cutD (us.map PyData.str) (some (n : Int)) (some (m : Int)))) (.tuple [.str "white"])).bind (fun x => fIx x (.int 0)) = some (.str ((us[n]?).getD "white")) := by
  subst hm
  rw [cut_run, show n + 1 - n = 1 by omega]
  by_cases h : n < us.length
  · rw [List.drop_eq_getElem_cons (by simpa using h)]
    simp [h]
  · rw [List.drop_of_length_le (by simp; omega), List.getElem?_eq_none (by omega)]
    simp
theorem word_sl {us : List Str} {n m : Nat} {ρ : Env} {μ : Mem} {i : Nat} {lo hi : DE} (hi' : ρ[i]? = some (some (.d (strsD us)))) (h1 : lo ρ μ = .ok (.d (.int n)) μ) (h2 : hi ρ μ = .ok (.d (.int m)) μ) (hm : m = n + 1) (hl : us.length ≤ 1000) :
    eOp fIx (eOp fAdd (eSl (eVar i) (oYes lo) (oYes hi)) (eTup (aCons (eC (.str "white")) aNil))) (eC (.int 0)) ρ μ = .ok (.d (.str ((us[n]?).getD "white"))) μ := by
  have e := one_word us n m hm hl
  cases e1 : fAdd (.tuple (cutD (us.map PyData.str) (some (n : Int)) (some (m : Int)))) (.tuple [.str "white"]) with
  | none => rw [e1] at e; cases e
  | some x =>
    rw [e1] at e
    have e2 : fIx x (.int 0) = some (.str ((us[n]?).getD "white")) := e
    have e3 : eSl (eVar i) (oYes lo) (oYes hi) ρ μ = .ok (.d (.tuple (cutD (us.map PyData.str) (some (n : Int)) (some (m : Int))))) μ := by
      simp only [eSl, eVar, hi', oYes, h1, h2, R.bind, rd, strsD, fSl, R.of]
    have e4 : eOp fAdd (eSl (eVar i) (oYes lo) (oYes hi)) (eTup (aCons (eC (.str "white")) aNil)) ρ μ = .ok (.d x) μ := by
      unfold eOp
      rw [e3]
      simp only [R.bind, eTup, aCons, eC, aNil, pureL, List.length_cons, List.length_nil, small, rd]
      simp only [show decide (0 + 1 ≤ 1000000) = true by decide, if_true]
      rw [e1]
      rfl
    unfold eOp at e4 ⊢
    rw [e4]
    simp only [R.bind, eC, rd, e2, R.of]
/-! ### where words behind a saying begin -/
def wordsF (ts : List Tree) : List Str := (ts.map Tree.words).flatten
@[simp] theorem wordsF_nil : wordsF [] = [] := rfl
@[simp] theorem wordsF_cons (t : Tree) (ts : List Tree) : wordsF (t :: ts) = t.words ++ wordsF ts := rfl
abbrev behB : DS := (sSeq (sAsg (eOp fIx (eOp fAdd (eSl (eVar 0) (oYes (eVar 1)) (oYes (eOp fAdd (eVar 1) (eC (.int 1))))) (eTup (aCons (eC (.str "white")) aNil))) (eC (.int 0))) (gNm 3))
  (sSeq (sAsg (eOp fAdd (eOp fAdd (eVar 1) (eC (.int 1))) (eCB bInt (aCons (eOp fIn (eVar 3) (eTup (aCons (eC (.str "pillar")) (aCons (eC (.str "band")) (aCons (eC (.str "head")) (aCons (eC (.str "edge")) aNil)))))) aNil))) (gNm 1))
  (sSeq (sAsg (eOp fAdd (eOp fSub (eVar 2) (eC (.int 1))) (eCB bInt (aCons (eOp fIn (eVar 3) (eTup (aCons (eC (.str "pillar")) (aCons (eC (.str "band")) (aCons (eC (.str "head")) (aCons (eC (.str "edge")) aNil)))))) aNil))) (gNm 2))
  (sAsg (eOp fAdd (eVar 2) (eOp fMul (eC (.int 2)) (eCB bInt (aCons (eOp fIn (eVar 3) (eTup (aCons (eC (.str "party")) (aCons (eC (.str "cut")) (aCons (eC (.str "quartered")) aNil))))) aNil)))) (gNm 2)))))
theorem behind_loop {us : List Str} (hl : us.length ≤ 1000) (μ : Mem) : ∀ (fuel : Nat) (ts : List Tree) (n : Nat) (z : Option S), (wordsF ts).length < fuel → Sees us n (wordsF ts) →
    ∃ z', whGo (bVal (eOp fGt (eVar 2) (eC (.int 0)))) behB fuel [some (.d (strsD us)), some (.d (.int n)), some (.d (.int ts.length)), z] μ =
      .nx [some (.d (strsD us)), some (.d (.int ((n + (wordsF ts).length : Nat) : Int))), some (.d (.int 0)), z'] μ := by
  intro fuel
  induction fuel with
  | zero => intro ts n z h; omega
  | succ fuel ih =>
    intro ts n z hf hs
    cases ts with
    | nil => exact ⟨z, wh_end (by simp)⟩
    | cons t ts =>
      have hw1 : eOp fIx (eOp fAdd (eSl (eVar 0) (oYes (eVar 1)) (oYes (eOp fAdd (eVar 1) (eC (.int 1))))) (eTup (aCons (eC (.str "white")) aNil))) (eC (.int 0)) [some (.d (strsD us)), some (.d (.int n)), some (.d (.int ((t :: ts).length : Nat))), z] μ = .ok (.d (.str ((us[n]?).getD "white"))) μ :=
        word_sl (n := n) (m := n + 1) rfl rfl (by simp) rfl hl
      have hgo : bVal (eOp fGt (eVar 2) (eC (.int 0))) [some (.d (strsD us)), some (.d (.int n)), some (.d (.int ((t :: ts).length : Nat))), z] μ = .ok true μ := by
        simp
      cases t with
      | col c =>
        have e : (us[n]?).getD "white" = c.s := hs.head
        rw [e] at hw1
        have hs2 : Sees us (n + 1) (wordsF ts) := hs.tail
        obtain ⟨z', e'⟩ := ih ts (n + 1) (some (.d (.str c.s))) (by simp [Tree.words] at hf; omega) hs2
        refine ⟨z', wh_step hgo (seq_nx (asg_of hw1 rfl) ?_) (e'.trans ?_)⟩
        · cases c <;> simp (config := {decide := true}) [Col.s, inD, PyData.eqv] <;> omega
        · simp [Tree.words]; omega
      | part p a b =>
        have e : (us[n]?).getD "white" = p.s := hs.head
        rw [e] at hw1
        have hs2 : Sees us (n + 1) (wordsF (a :: b :: ts)) := by
          have := hs.tail
          simpa [Tree.words, List.append_assoc, wordsF] using this
        obtain ⟨z', e'⟩ := ih (a :: b :: ts) (n + 1) (some (.d (.str p.s))) (by simp [Tree.words] at hf ⊢; omega) hs2
        refine ⟨z', wh_step hgo (seq_nx (asg_of hw1 rfl) ?_) (e'.trans ?_)⟩
        · cases p <;> simp (config := {decide := true}) [Prt.s, inD, PyData.eqv] <;> omega
        · simp [Tree.words]; omega
      | piece q c t =>
        have e : (us[n]?).getD "white" = q.s := hs.head
        rw [e] at hw1
        have hs2 : Sees us (n + 2) (wordsF (t :: ts)) := hs.tail.tail
        obtain ⟨z', e'⟩ := ih (t :: ts) (n + 2) (some (.d (.str q.s))) (by simp [Tree.words] at hf ⊢; omega) hs2
        refine ⟨z', wh_step hgo (seq_nx (asg_of hw1 rfl) ?_) (e'.trans ?_)⟩
        · cases q <;> simp (config := {decide := true}) [Pc.s, inD, PyData.eqv] <;> omega
        · simp [Tree.words]; omega
theorem behind_ok {us : List Str} (hl : us.length ≤ 1000) (t : Tree) (n : Nat) (μ : Mem) (hw : t.words.length < 1000) (hs : Sees us n t.words) :
    m__law_behind [.d (strsD us), .d (.int n)] μ = .ok (.d (.int ((n + t.words.length : Nat) : Int))) μ := by
  obtain ⟨z', e⟩ := behind_loop hl μ 1000 [t] n none (by simp; omega) (by simpa using hs)
  unfold m__law_behind
  refine call_rt (ρ0 := [some (.d (strsD us)), some (.d (.int n)), none, none]) rfl rfl ?_ List.take_length
  refine seq_nx (asg_of rfl rfl) (seq_nx e (ret_of ?_))
  simp
end Bz
set_option Elab.async false
set_option linter.all false
set_option maxRecDepth 100000
set_option maxHeartbeats 1000000
/-! Plain: the laws' own drawings, cell by cell. -/
namespace Bz
open PySem
theorem half_div {k m : Nat} (h : k < 2 * m) : (k / m = 0 ∧ k % m = k ∧ k < m) ∨ (k / m = 1 ∧ k % m = k - m ∧ m ≤ k) := by
  by_cases hk : k < m
  · exact .inl ⟨Nat.div_eq_of_lt hk, Nat.mod_eq_of_lt hk, hk⟩
  · refine .inr ⟨?_, ?_, by omega⟩
    · rw [Nat.div_eq_sub_div (by omega) (by omega), Nat.div_eq_of_lt (by omega)]
    · rw [Nat.mod_eq_sub_mod (by omega), Nat.mod_eq_of_lt (by omega)]
theorem cell_part (p : Prt) (a b : Tree) {w h r k : Nat} (hw : Side w) (hh : Side h) (hf : fitP p w h = true) (hr : r < h) (hk : k < w) :
    cell (.part p a b) w h r k = if (k / pW p w + r / pH p h) % 2 = 0 then cell a (pW p w) (pH p h) (r % pH p h) (k % pW p w) else cell b (pW p w) (pH p h) (r % pH p h) (k % pW p w) := by
  cases p with
  | party =>
    have e2 := (hw.half (by simpa [fitP] using hf)).2
    simp only [pW, pH, cell, Nat.div_eq_of_lt hr, Nat.mod_eq_of_lt hr]
    rcases half_div (k := k) (m := w / 2) (by omega) with ⟨h1, h2, h3⟩ | ⟨h1, h2, h3⟩
    · simp [h1, h2, h3]
    · simp [h1, h2, show ¬ k < w / 2 by omega]
  | cut =>
    have e2 := (hh.half (by simpa [fitP] using hf)).2
    simp only [pW, pH, cell, Nat.div_eq_of_lt hk, Nat.mod_eq_of_lt hk]
    rcases half_div (k := r) (m := h / 2) (by omega) with ⟨h1, h2, h3⟩ | ⟨h1, h2, h3⟩
    · simp [h1, h2, h3]
    · simp [h1, h2, show ¬ r < h / 2 by omega]
  | quartered =>
    simp [fitP] at hf
    have e2 := (hw.half hf.1).2
    have e4 := (hh.half hf.2).2
    simp only [pW, pH, cell]
    rcases half_div (k := k) (m := w / 2) (by omega) with ⟨h1, h2, h3⟩ | ⟨h1, h2, h3⟩ <;> rcases half_div (k := r) (m := h / 2) (by omega) with ⟨h4, h5, h6⟩ | ⟨h4, h5, h6⟩
    · simp [h1, h2, h3, h4, h5, h6]
    · simp [h1, h2, h3, h4, h5, show ¬ r < h / 2 by omega]
    · simp [h1, h2, show ¬ k < w / 2 by omega, h4, h5, h6]
    · simp [h1, h2, show ¬ k < w / 2 by omega, h4, h5, show ¬ r < h / 2 by omega]
abbrev cellB : DS := (sSeq (sAsg (eOp fIx (eOp fAdd (eSl (eVar 0) (oYes (eVar 1)) (oYes (eOp fAdd (eVar 1) (eC (.int 1))))) (eTup (aCons (eC (.str "white")) aNil))) (eC (.int 0))) (gNm 5))
  (sIf (bVal (eOp fIn (eVar 5) (eTup (aCons (eC (.str "pillar")) (aCons (eC (.str "band")) (aCons (eC (.str "head")) (aCons (eC (.str "edge")) aNil))))))) (sSeq (sIf (bVal (eCall m__law_is_own (aCons (eVar 2) (aCons (eVar 5) (aCons (eVar 3) (aCons (eVar 4) aNil)))))) (sRet (eOp fIx (eOp fAdd (eSl (eVar 0) (oYes (eOp fAdd (eVar 1) (eC (.int 1)))) (oYes (eOp fAdd (eVar 1) (eC (.int 2))))) (eTup (aCons (eC (.str "white")) aNil))) (eC (.int 0)))) sNx)
  (sAsg (eOp fAdd (eVar 1) (eC (.int 2))) (gNm 1))) (sIf (bVal (eOp fIn (eVar 5) (eTup (aCons (eC (.str "party")) (aCons (eC (.str "cut")) (aCons (eC (.str "quartered")) aNil)))))) (sSeq (sAsg (eCall m__law_part (aCons (eVar 2) (aCons (eVar 5) aNil))) (gNm 6))
  (sSeq (sAsg (eOp fDiv (eVar 4) (eOp fIx (eVar 6) (eC (.int 0)))) (gNm 7))
  (sSeq (sAsg (eOp fDiv (eVar 3) (eOp fIx (eVar 6) (eC (.int 1)))) (gNm 8))
  (sSeq (sAsg (eOp fIx (eLst (aCons (eOp fAdd (eVar 1) (eC (.int 1))) (aCons (eCall m__law_behind (aCons (eVar 0) (aCons (eOp fAdd (eVar 1) (eC (.int 1))) aNil))) aNil))) (eOp fMod (eOp fAdd (eVar 7) (eVar 8)) (eC (.int 2)))) (gNm 1))
  (sSeq (sAsg (eVar 6) (gNm 2))
  (sSeq (sAsg (eOp fMod (eVar 3) (eOp fIx (eVar 6) (eC (.int 1)))) (gNm 3))
  (sAsg (eOp fMod (eVar 4) (eOp fIx (eVar 6) (eC (.int 0)))) (gNm 4)))))))) (sRet (eVar 5)))))
theorem div_nat {a b : Nat} (h0 : 0 < b) (h1 : b ≤ 8) : fDiv (.int a) (.int b) = some (.int ((a / b : Nat) : Int)) := by
  simp [fDiv, h0, show (b : Int) < 1073741824 by omega]
theorem mod_nat {a b : Nat} (h0 : 0 < b) : fMod (.int a) (.int b) = some (.int ((a % b : Nat) : Int)) := by
  simp [fMod, h0]
theorem cell_loop {us : List Str} (hl : us.length ≤ 1000) (μ : Mem) : ∀ (t : Tree) (fuel n w h r k : Nat) (z5 z6 z7 z8 : Option S), t.depth < fuel → t.words.length < 1000 → Sees us n t.words → t.Fit w h → Side w → Side h → r < h → k < w →
    whGo (bVal (eC (.bool true))) cellB fuel [some (.d (strsD us)), some (.d (.int n)), some (.d (encS w h)), some (.d (.int r)), some (.d (.int k)), z5, z6, z7, z8] μ = .rt (.d (.str (cell t w h r k).s)) μ := by
  intro t
  induction t with
  | col c =>
    intro fuel n w h r k z5 z6 z7 z8 hf hwl hs ft hw hh hr hk
    obtain ⟨fuel, rfl⟩ : ∃ j, fuel = j + 1 := ⟨fuel - 1, by omega⟩
    have e : (us[n]?).getD "white" = c.s := hs.head
    refine wh_rt (μ1 := μ) rfl (seq_nx (asg_of (word_sl (us := us) (n := n) (m := n + 1) rfl rfl (by simp) rfl hl) rfl) ?_)
    rw [e]
    refine if_no (μ1 := μ) ?_ (if_no (μ1 := μ) ?_ (ret_of rfl))
    · cases c <;> simp (config := {decide := true}) [Col.s, inD, PyData.eqv]
    · cases c <;> simp (config := {decide := true}) [Col.s, inD, PyData.eqv]
  | part p a b iha ihb =>
    intro fuel n w h r k z5 z6 z7 z8 hf hwl hs ft hw hh hr hk
    simp only [Tree.depth] at hf
    simp only [Tree.words, List.length_cons, List.length_append] at hwl
    obtain ⟨fuel, rfl⟩ : ∃ j, fuel = j + 1 := ⟨fuel - 1, by omega⟩
    have e : (us[n]?).getD "white" = p.s := hs.head
    have hs2 := hs.tail
    have hw' := hw.pW ft.1 (h := h)
    have hh' := hh.pH ft.1 (w := w)
    have pw := hw'.pos
    have ph := hh'.pos
    have lw := hw'.le
    have lh := hh'.le
    have eb := behind_ok hl a (n + 1) μ (by omega) hs2.left
    rw [cell_part p a b hw hh ft.1 hr hk]
    refine wh_step (μ1 := μ) (ρ2 := [some (.d (strsD us)), some (.d (.int ((if (k / pW p w + r / pH p h) % 2 = 0 then n + 1 else n + 1 + a.words.length : Nat) : Int))), some (.d (encS (pW p w) (pH p h))), some (.d (.int ((r % pH p h : Nat) : Int))), some (.d (.int ((k % pW p w : Nat) : Int))), some (.d (.str p.s)), some (.d (encS (pW p w) (pH p h))), some (.d (.int ((k / pW p w : Nat) : Int))), some (.d (.int ((r / pH p h : Nat) : Int)))]) (μ2 := μ) rfl (seq_nx (asg_of (word_sl (us := us) (n := n) (m := n + 1) rfl rfl (by simp) rfl hl) rfl) ?_) ?_
    · rw [e]
      refine if_no (μ1 := μ) ?_ (if_yes (μ1 := μ) ?_ (seq_nx (asg_of (call2_of rfl rfl (law_part p w h μ)) rfl) (seq_nx (asg_of (op_of (v := .int (pW p w : Nat)) rfl (op_of rfl rfl rfl) (div_nat pw lw)) rfl) (seq_nx (asg_of (op_of (v := .int (pH p h : Nat)) rfl (op_of rfl rfl rfl) (div_nat ph lh)) rfl) (seq_nx (asg_of (s := .d (.int ((if (k / pW p w + r / pH p h) % 2 = 0 then n + 1 else n + 1 + a.words.length : Nat) : Int))) (μ1 := μ) ?_ rfl) (seq_nx (asg_of rfl rfl) (seq_nx (asg_of (op_of (v := .int (pH p h : Nat)) rfl (op_of rfl rfl rfl) (mod_nat ph)) rfl) (asg_of (op_of (v := .int (pW p w : Nat)) rfl (op_of rfl rfl rfl) (mod_nat pw)) rfl))))))))
      · cases p <;> simp (config := {decide := true}) [Prt.s, inD, PyData.eqv]
      · cases p <;> simp (config := {decide := true}) [Prt.s, inD, PyData.eqv]
      · simp at eb
        generalize k / pW p w = x
        generalize r / pH p h = y
        have hxy : (x + y) % 2 = 0 ∨ (x + y) % 2 = 1 := by omega
        rcases hxy with hxy | hxy
        · have : ((x : Int) + y) % 2 = 0 := by omega
          simp [eb, hxy, this]
        · have : ((x : Int) + y) % 2 = 1 := by omega
          simp [eb, hxy, this]
    · split
      · exact iha fuel (n + 1) _ _ _ _ _ _ _ _ (by omega) (by omega) hs2.left ft.2.1 hw' hh' (Nat.mod_lt _ ph) (Nat.mod_lt _ pw)
      · exact ihb fuel (n + 1 + a.words.length) _ _ _ _ _ _ _ _ (by omega) (by omega) hs2.right ft.2.2 hw' hh' (Nat.mod_lt _ ph) (Nat.mod_lt _ pw)
  | piece q c t ih =>
    intro fuel n w h r k z5 z6 z7 z8 hf hwl hs ft hw hh hr hk
    simp only [Tree.depth] at hf
    simp only [Tree.words, List.length_cons] at hwl
    obtain ⟨fuel, rfl⟩ : ∃ j, fuel = j + 1 := ⟨fuel - 1, by omega⟩
    have e : (us[n]?).getD "white" = q.s := hs.head
    have e2 : (us[n + 1]?).getD "white" = c.s := hs.tail.head
    have eo := law_is_own_ok q w h r k μ hw hh ft.1 hr hk
    have hin : bVal (eOp fIn (eVar 5) (eTup (aCons (eC (.str "pillar")) (aCons (eC (.str "band")) (aCons (eC (.str "head")) (aCons (eC (.str "edge")) aNil)))))) [some (.d (strsD us)), some (.d (.int n)), some (.d (encS w h)), some (.d (.int r)), some (.d (.int k)), some (.d (.str q.s)), z6, z7, z8] μ = .ok true μ := by
      cases q <;> simp (config := {decide := true}) [Pc.s, inD, PyData.eqv]
    cases ho : own q w h r k with
    | true =>
      rw [ho] at eo
      refine wh_rt (μ1 := μ) rfl (seq_nx (asg_of (word_sl (us := us) (n := n) (m := n + 1) rfl rfl (by simp) rfl hl) rfl) ?_)
      rw [e]
      refine if_yes hin (seq_rt (if_yes (μ1 := μ) (by simp [eo]) (ret_of ((word_sl (us := us) (n := n + 1) (m := n + 2) rfl (by simp) (by simp) rfl hl).trans ?_))))
      rw [e2]
      simp [cell, ho]
    | false =>
      rw [ho] at eo
      refine wh_step (μ1 := μ) (ρ2 := [some (.d (strsD us)), some (.d (.int ((n + 2 : Nat) : Int))), some (.d (encS w h)), some (.d (.int r)), some (.d (.int k)), some (.d (.str q.s)), z6, z7, z8]) (μ2 := μ) rfl (seq_nx (asg_of (word_sl (us := us) (n := n) (m := n + 1) rfl rfl (by simp) rfl hl) rfl) ?_) ?_
      · rw [e]
        refine if_yes hin (seq_nx (if_no (μ1 := μ) (by simp [eo]) rfl) ?_)
        simp
      · rw [ih fuel (n + 2) w h r k _ _ _ _ (by omega) (by omega) hs.tail.tail ft.2 hw hh hr hk]
        simp [cell, ho]
end Bz
set_option Elab.async false
set_option linter.all false
set_option maxRecDepth 100000
set_option maxHeartbeats 1000000
/-! Plain: the laws' own drawings, cut sayings, alike. -/
namespace Bz
open PySem
/-- words, some white ones at the end left out, tell a tree -/
structure Tells (us : List Str) (t : Tree) (w h : Nat) : Prop where
  sees : Sees us 0 t.words
  le : us.length ≤ t.words.length
  fit : t.Fit w h
  dep : t.depth < 90
  short : t.words.length < 1000
theorem Tells.ok {us : List Str} {t : Tree} {w h : Nat} (T : Tells us t w h) : ∀ u ∈ us, PyData.strOk u = true := by
  intro u hu
  obtain ⟨i, hi, rfl⟩ := List.mem_iff_getElem.mp hu
  have h1 := T.sees i (by have := T.le; omega)
  rw [Nat.zero_add, List.getElem?_eq_getElem hi] at h1
  have : us[i] = t.words[i]'(by have := T.le; omega) := h1
  rw [this]
  exact t.wordsOk _ (List.getElem_mem _)
theorem Tells.self {t : Tree} {w h : Nat} (f : t.Fit w h) (d : t.depth < 90) (s : t.words.length < 1000) : Tells t.words t w h := ⟨.self _, Nat.le_refl _, f, d, s⟩
theorem tells_small {t : Tree} {n : Nat} (h : t.depth ≤ n) (hn : n ≤ 8) : t.depth < 90 ∧ t.words.length < 1000 := by
  have h1 := words_len t
  have h2 : 2 ^ (t.depth + 1) ≤ 2 ^ 9 := Nat.pow_le_pow_right (by omega) (by omega)
  omega
theorem law_cell_ok {us : List Str} {t : Tree} {w h r k : Nat} (T : Tells us t w h) (hw : Side w) (hh : Side h) (hr : r < h) (hk : k < w) (μ : Mem) :
    m__law_cell [.d (strsD us), .d (.int 0), .d (encS w h), .d (.int r), .d (.int k)] μ = .ok (.d (.str (cell t w h r k).s)) μ := by
  have h1 := T.le
  have h2 := T.short
  have h3 := T.dep
  unfold m__law_cell
  refine call_rt (ρ0 := [some (.d (strsD us)), some (.d (.int 0)), some (.d (encS w h)), some (.d (.int r)), some (.d (.int k)), none, none, none, none]) rfl rfl ?_ List.take_length
  exact cell_loop (by omega) μ t 1000 0 w h r k none none none none (by omega) h2 T.sees T.fit hw hh hr hk
theorem law_drawing_ok {us : List Str} {t : Tree} {w h : Nat} (T : Tells us t w h) (hw : Side w) (hh : Side h) (μ : Mem) : m__law_drawing [.d (strsD us), .d (encS w h)] μ = .ok (.d (encM w h (cell t w h))) μ := by
  have l1 := hw.le
  have l2 := hh.le
  unfold m__law_drawing
  refine call_rt (ρ0 := [some (.d (strsD us)), some (.d (encS w h)), none, none, none]) (μ' := μ ++ [.lst (rowsL w h (cell t w h))]) rfl rfl ?_ (by simp)
  have hloop := for_ix (g := gNm 3) (n := h) (f := fun i => PyData.int (i : Int)) (b := (sDrop (eApp (eVar 2) (eCB bTup (aCons (eComp (iRng1 (aCons (eOp fIx (eVar 1) (eC (.int 0))) aNil)) (gNm 4) bYes (eCall m__law_cell (aCons (eVar 0) (aCons (eC (.int 0)) (aCons (eVar 1) (aCons (eVar 3) (aCons (eVar 4) aNil)))))) [4]) aNil)))))
    (ρ := [some (.d (strsD us)), some (.d (encS w h)), some (.m μ.length), none, none]) (μ := μ ++ [.lst []])
    (fun j ρ μ1 => ∃ x, ρ = [some (.d (strsD us)), some (.d (encS w h)), some (.m μ.length), x, none] ∧ μ1 = μ ++ [.lst ((List.range j).map fun r => rowD w (cell t w h r))]) ⟨none, rfl, rfl⟩ (by
      rintro j hj ρ μ1 ⟨x, rfl, rfl⟩
      have hc : compGo (gNm 4) bYes (eCall m__law_cell (aCons (eVar 0) (aCons (eC (.int 0)) (aCons (eVar 1) (aCons (eVar 3) (aCons (eVar 4) aNil)))))) (wipeD [some (.d (strsD us)), some (.d (encS w h)), some (.m μ.length), some (.d (.int j)), none] [4]) ((List.range w).map fun (i : Nat) => PyData.int (i : Int)) [] (μ ++ [.lst ((List.range j).map fun r => rowD w (cell t w h r))]) =
          .ok ((List.range w).map fun k => .str (cell t w h j k).s) (μ ++ [.lst ((List.range j).map fun r => rowD w (cell t w h r))]) := by
        generalize (μ ++ [M.lst ((List.range j).map fun r => rowD w (cell t w h r))]) = ν
        rw [comp_map (ρ' := fun (k : Nat) => [some (.d (strsD us)), some (.d (encS w h)), some (.m μ.length), some (.d (.int j)), some (.d (.int k))]) (f := fun (k : Nat) => .str (cell t w h j k).s)]
        · rfl
        · simp; omega
        · intro k _; rfl
        · intro k hk
          have := law_cell_ok T hw hh hj (List.mem_range.mp hk) ν
          simp [this]
      have hC : eComp (iRng1 (aCons (eOp fIx (eVar 1) (eC (.int 0))) aNil)) (gNm 4) bYes (eCall m__law_cell (aCons (eVar 0) (aCons (eC (.int 0)) (aCons (eVar 1) (aCons (eVar 3) (aCons (eVar 4) aNil)))))) [4] [some (.d (strsD us)), some (.d (encS w h)), some (.m μ.length), some (.d (.int j)), none] (μ ++ [.lst ((List.range j).map fun r => rowD w (cell t w h r))]) =
          .ok (.d (.list ((List.range w).map fun k => .str (cell t w h j k).s))) (μ ++ [.lst ((List.range j).map fun r => rowD w (cell t w h r))]) := by
        refine comp_of (xs := (List.range w).map fun (i : Nat) => PyData.int (i : Int)) ?_ hc
        rw [← upFrom0]
        exact rng_of (n := w) (by simp [encS]) (by omega)
      refine ⟨[some (.d (strsD us)), some (.d (encS w h)), some (.m μ.length), some (.d (.int j)), none], [some (.d (strsD us)), some (.d (encS w h)), some (.m μ.length), some (.d (.int j)), none], _, rfl, ?_, ⟨some (.d (.int j)), rfl, rfl⟩⟩
      refine drop_of (s := .d .none) ((app_of (h := μ.length) (xs := (List.range j).map fun r => rowD w (cell t w h r)) (x := rowD w (cell t w h j)) rfl (by simp) (cb1_of hC rfl) (by simp; omega)).trans ?_)
      simp [List.range_succ, rowD])
  obtain ⟨ρ', μ', hl, x, rfl, rfl⟩ := hloop
  refine seq_nx (ρ1 := [some (.d (strsD us)), some (.d (encS w h)), some (.m μ.length), none, none]) (μ1 := μ ++ [.lst []]) rfl (seq_nx (for_of (xs := (List.range h).map fun (i : Nat) => PyData.int (i : Int)) (μ1 := μ ++ [.lst []]) ?_ hl) (ret_of ?_))
  · rw [← upFrom0]
    exact rng_of (n := h) (by simp [encS]) (by omega)
  · simp [encM, rowsL]
/-! ### cut -/
theorem sl_to {a e : DE} {ρ : Env} {μ μ1 μ2 : Mem} {x z : PyData} {n : Int} (h1 : a ρ μ = .ok (.d x) μ1) (h2 : e ρ μ1 = .ok (.d (.int n)) μ2) (h3 : fSl none (some n) x = some z) : eSl a oNo (oYes e) ρ μ = .ok (.d z) μ2 := by
  simp only [eSl, h1, oNo, oYes, h2, R.bind, rd, h3, R.of]
theorem cut_loop {us : List Str} {s0 : S} (μ : Mem) : ∀ (m fuel : Nat), m ≤ us.length → m < fuel → ∃ m', m' ≤ m ∧ (∀ i, m' ≤ i → i < m → us[i]? = some ("white" : Str)) ∧
    whGo (bAnd (bVal (eOp fGt (eVar 2) (eC (.int 0)))) (bVal (eOp fEq (eOp fIx (eVar 1) (eOp fSub (eVar 2) (eC (.int 1)))) (eC (.str "white"))))) (sAsg (eOp fSub (eVar 2) (eC (.int 1))) (gNm 2)) fuel [some s0, some (.d (strsD us)), some (.d (.int m))] μ =
      .nx [some s0, some (.d (strsD us)), some (.d (.int m'))] μ := by
  intro m
  induction m with
  | zero =>
    intro fuel _ hf
    obtain ⟨fuel, rfl⟩ : ∃ j, fuel = j + 1 := ⟨fuel - 1, by omega⟩
    exact ⟨0, by omega, fun i h1 h2 => by omega, wh_end (by simp)⟩
  | succ m ih =>
    intro fuel hl hf
    obtain ⟨fuel, rfl⟩ : ∃ j, fuel = j + 1 := ⟨fuel - 1, by omega⟩
    have e1 : us[m]? = some us[m] := List.getElem?_eq_getElem (by omega)
    have e2 : ((m + 1 : Nat) : Int) - 1 = (m : Int) := by omega
    by_cases hm : us[m] = "white"
    · obtain ⟨m', h1, h2, h3⟩ := ih fuel (by omega) (by omega)
      refine ⟨m', by omega, fun i h4 h5 => ?_, wh_step (μ1 := μ) (ρ2 := [some s0, some (.d (strsD us)), some (.d (.int m))]) (μ2 := μ) ?_ ?_ h3⟩
      · by_cases h6 : i = m
        · subst h6; rw [e1, hm]
        · exact h2 i h4 (by omega)
      · simp [strsD, e1, hm, show (0 : Int) < m + 1 by omega]
      · simp
    · refine ⟨m + 1, by omega, fun i h4 h5 => by omega, wh_end ?_⟩
      simp [strsD, e1, hm, show (0 : Int) < m + 1 by omega]
theorem cut_ok {ns : List Int} {x : M} {rest : Mem} {us : List Str} {t : Tree} {w h : Nat} (hx : RowOk ns x) (T : Tells us t w h) :
    ∃ us' x', RowOk ns x' ∧ Tells us' t w h ∧ m__law_cut [.m 0, .d (strsD us)] (x :: rest) = .ok (.d (strsD us')) (x' :: rest) := by
  have h0 := T.le
  have h00 := T.short
  obtain ⟨m, h1, h2, h3⟩ := cut_loop (us := us) (s0 := .m 0) (x :: rest) us.length 1000 (Nat.le_refl _) (by omega)
  obtain ⟨r, x', hx', hr1, hr2, e⟩ := taken (rest := rest) hx (n := ((us.length - m + 1 : Nat) : Int)) (by omega) (by omega)
  obtain ⟨r, rfl⟩ := Int.eq_ofNat_of_zero_le hr1
  refine ⟨us.take (m + r), x', hx', ⟨fun i hi => ?_, by rw [List.length_take]; omega, T.fit, T.dep, T.short⟩, ?_⟩
  · have h4 := T.sees i hi
    rw [← h4, Nat.zero_add, List.getElem?_take]
    split
    · rfl
    · by_cases h5 : i < us.length
      · rw [h2 i (by omega) h5]
        rfl
      · rw [List.getElem?_eq_none (by omega)]
  · unfold m__law_cut
    refine call_rt (ρ0 := [some (.m 0), some (.d (strsD us)), none]) (μ' := x' :: rest) rfl rfl ?_ (by simp)
    refine seq_nx (ρ1 := [some (.m 0), some (.d (strsD us)), some (.d (.int us.length))]) (μ1 := x :: rest) (by simp [strsD]) (seq_nx h3 (ret_of ?_))
    have e1 : ((us.length : Int) - m + 1) = ((us.length - m + 1 : Nat) : Int) := by omega
    have e2 : bLen [strsD us] = some (.int us.length) := by simp [strsD]
    have e3 : (m : Int) + (r : Int) = ((m + r : Nat) : Int) := by omega
    have e4 : eOp fAdd (eVar 2) (eCall m__law_taken (aCons (eVar 0) (aCons (eOp fAdd (eOp fSub (eCB bLen (aCons (eVar 1) aNil)) (eVar 2)) (eC (.int 1))) aNil))) [some (.m 0), some (.d (strsD us)), some (.d (.int m))] (x :: rest) = .ok (.d (.int ((m + r : Nat) : Int))) (x' :: rest) := by
      refine op_of (u := .int m) (μ1 := x :: rest) rfl (call2_of (s1 := .m 0) (s2 := .d (.int ((us.length - m + 1 : Nat) : Int))) rfl (op_of (u := .int ((us.length : Int) - m)) (op_of (u := .int us.length) (μ1 := x :: rest) (by simp [strsD]) rfl rfl) rfl ?_) e) ?_
      · simp [e1]
      · simp
    exact sl_to rfl e4 (by simp only [strsD, fSl, cut_to, List.map_take])
/-! ### alike, of the same -/
def Like : Nat → PyData → Prop
  | 0, _ => False
  | _ + 1, .none => True
  | _ + 1, .bool _ => True
  | _ + 1, .int _ => True
  | _ + 1, .str _ => True
  | k + 1, .list xs => xs.length ≤ 1000 ∧ ∀ x ∈ xs, Like k x
  | k + 1, .tuple xs => xs.length ≤ 1000 ∧ ∀ x ∈ xs, Like k x
  | _ + 1, .dict _ => False
theorem like_comp {k : Nat} {d : PyData} {xs : List PyData} {μ : Mem} (hx : ∀ i : Nat, i < xs.length → fIx d (.int i) = xs[i]?) (ih : ∀ x ∈ xs, m__law_alike k [.d x, .d x] μ = .ok (.d (.bool true)) μ) (hl : xs.length ≤ 1000) :
    compGo (gNm 2) (bNot (bVal (eCall (m__law_alike k) (aCons (eOp fIx (eVar 0) (eVar 2)) (aCons (eOp fIx (eVar 1) (eVar 2)) aNil))))) (eVar 2) [some (.d d), some (.d d), none] ((List.range xs.length).map fun (i : Nat) => PyData.int (i : Int)) [] μ = .ok [] μ := by
  rw [comp_filter (g := fun (i : Nat) => PyData.int (i : Int)) (p := fun _ => false)]
  · simp
  · simp; omega
  · intro i hi
    have hi' := List.mem_range.mp hi
    have e := hx i hi'
    rw [List.getElem?_eq_getElem hi'] at e
    exact not_of (c := true) (val_of (call2_of (op_of rfl rfl e) (op_of rfl rfl e) (ih _ (List.getElem_mem hi'))))
  · intro i _
    rfl
theorem like_self : ∀ (k : Nat) (d : PyData) (μ : Mem), Like k d → m__law_alike k [.d d, .d d] μ = .ok (.d (.bool true)) μ := by
  intro k
  induction k with
  | zero => intro d μ h; exact h.elim
  | succ k ih =>
    intro d μ h
    cases d with
    | dict kvs => exact h.elim
    | none => simp (config := {decide := true}) [m__law_alike, callD]
    | bool b => simp (config := {decide := true}) [m__law_alike, callD]
    | int i => simp (config := {decide := true}) [m__law_alike, callD]
    | str s => simp (config := {decide := true}) [m__law_alike, callD]
    | list xs =>
      have hc := like_comp (k := k) (d := .list xs) (xs := xs) (μ := μ) (fun i hi => by simp) (fun x hx => ih x μ (h.2 x hx)) h.1
      have hC : eComp (iRng1 (aCons (eCB bLen (aCons (eVar 1) aNil)) aNil)) (gNm 2) (bNot (bVal (eCall (m__law_alike k) (aCons (eOp fIx (eVar 0) (eVar 2)) (aCons (eOp fIx (eVar 1) (eVar 2)) aNil))))) (eVar 2) [2] [some (.d (.list xs)), some (.d (.list xs)), none] μ = .ok (.d (.list [])) μ := by
        refine comp_of (xs := (List.range xs.length).map fun (i : Nat) => PyData.int (i : Int)) ?_ hc
        rw [← upFrom0]
        exact rng_of (n := xs.length) (by simp) h.1
      unfold m__law_alike
      refine call_rt (ρ0 := [some (.d (.list xs)), some (.d (.list xs)), none]) rfl rfl ?_ List.take_length
      refine seq_rt (if_yes (μ1 := μ) (by simp (config := {decide := true})) (seq_nx (if_no (μ1 := μ) (by simp (config := {decide := true})) rfl) (seq_nx (if_no (μ1 := μ) (by simp (config := {decide := true})) rfl) (ret_of (op_of hC rfl ?_)))))
      simp (config := {decide := true}) [PyData.canLay0, PyData.canLayAll0, PyData.eqv, PyData.eqvAll, PyData.depth, PyData.depthAll]
    | tuple xs =>
      have hc := like_comp (k := k) (d := .tuple xs) (xs := xs) (μ := μ) (fun i hi => by simp) (fun x hx => ih x μ (h.2 x hx)) h.1
      have hC : eComp (iRng1 (aCons (eCB bLen (aCons (eVar 1) aNil)) aNil)) (gNm 2) (bNot (bVal (eCall (m__law_alike k) (aCons (eOp fIx (eVar 0) (eVar 2)) (aCons (eOp fIx (eVar 1) (eVar 2)) aNil))))) (eVar 2) [2] [some (.d (.tuple xs)), some (.d (.tuple xs)), none] μ = .ok (.d (.list [])) μ := by
        refine comp_of (xs := (List.range xs.length).map fun (i : Nat) => PyData.int (i : Int)) ?_ hc
        rw [← upFrom0]
        exact rng_of (n := xs.length) (by simp) h.1
      unfold m__law_alike
      refine call_rt (ρ0 := [some (.d (.tuple xs)), some (.d (.tuple xs)), none]) rfl rfl ?_ List.take_length
      refine seq_rt (if_yes (μ1 := μ) (by simp (config := {decide := true})) (seq_nx (if_no (μ1 := μ) (by simp (config := {decide := true})) rfl) (seq_nx (if_no (μ1 := μ) (by simp (config := {decide := true})) rfl) (ret_of (op_of hC rfl ?_)))))
      simp (config := {decide := true}) [PyData.canLay0, PyData.canLayAll0, PyData.eqv, PyData.eqvAll, PyData.depth, PyData.depthAll]
theorem like_encM (w h : Nat) (hw : w ≤ 8) (hh : h ≤ 8) (f : Nat → Nat → Col) (k : Nat) : Like (k + 3) (encM w h f) := by
  refine ⟨by simp [rowsL]; omega, fun x hx => ?_⟩
  obtain ⟨r, _, rfl⟩ := List.mem_map.mp hx
  refine ⟨by simp; omega, fun x hx => ?_⟩
  obtain ⟨c, _, rfl⟩ := List.mem_map.mp hx
  exact trivial
end Bz
set_option Elab.async false
set_option linter.all false
set_option maxRecDepth 100000
set_option maxHeartbeats 1000000
/-! Plain: the law k03. -/
namespace Bz
open PySem
theorem Tells.drawn {us : List Str} {t : Tree} {w h : Nat} (T : Tells us t w h) (hw : Side w) (hh : Side h) (μ : Mem) : m_drawn [.d (encS w h), .d (strsD us)] μ = .ok (.d (encM w h (cell t w h))) μ := drawn_of t w h μ hw hh T.dep T.fit T.sees T.le
theorem Tells.filled {us : List Str} {t : Tree} {w h : Nat} (T : Tells us t w h) (hw : Side w) (hh : Side h) (μ : Mem) : m_filled [.d (encS w h), .d (strsD us)] μ = .ok (.d (strsD t.words)) μ := filled_of t w h μ hw hh T.dep T.fit T.sees T.le (by have := T.short; omega)
theorem other_ok {ns : List Int} {x : M} {rest : Mem} {us : List Str} {t : Tree} {w h : Nat} (hx : RowOk ns x) (T : Tells us t w h) (hd : t.depth ≤ 5) (hw : Side w) (hh : Side h) :
    ∃ us' t' x', RowOk ns x' ∧ Tells us' t' w h ∧ m__law_other [.m 0, .d (strsD us), .d (encS w h)] (x :: rest) = .ok (.d (strsD us')) (x' :: rest) := by
  obtain ⟨r, x1, hx1, h1, h2, e1⟩ := taken (rest := rest) hx (n := 4) (by omega) (by omega)
  unfold m__law_other
  by_cases h0 : r = 0
  · subst h0
    obtain ⟨t', x2, hx2, f2, d2, e2⟩ := law_saying (rest := rest) 8 3 w h x1 (by omega) (by omega) hw hh hx1
    have := tells_small d2 (by omega)
    refine ⟨t'.words, t', x2, hx2, .self f2 this.1 this.2, ?_⟩
    refine call_rt (ρ0 := [some (.m 0), some (.d (strsD us)), some (.d (encS w h)), none, none, none, none]) (μ' := x2 :: rest) rfl rfl ?_ (by simp)
    refine seq_nx (asg_of (call2_of rfl rfl e1) rfl) (seq_rt (if_yes (μ1 := x1 :: rest) (by simp) (ret_of ?_)))
    exact call3_of rfl rfl rfl e2
  · have hc : compGo (gNm 6) (bVal (eCall m__law_fits (aCons (eVar 2) (aCons (eVar 6) aNil)))) (eVar 6) [some (.m 0), some (.d (strsD us)), some (.d (encS w h)), some (.d (.int r)), none, none, none] ([Prt.party, .cut].map fun p : Prt => PyData.str p.s) [] (x1 :: rest) =
        .ok (([Prt.party, .cut].filter fun p => fitP p w h).map fun p : Prt => PyData.str p.s) (x1 :: rest) := by
      rw [comp_filter (p := fun p => fitP p w h)]
      · rfl
      · decide
      · intro p _
        exact val_of (call2_of rfl rfl (law_fitsP p w h hw hh _))
      · intro p _
        rfl
    generalize hps : ([Prt.party, .cut].filter fun p => fitP p w h) = ps at hc
    have hp : ∀ p ∈ ps, fitP p w h = true := fun p hp => by
      rw [← hps] at hp
      exact (List.mem_filter.mp hp).2
    have A1 : sAsg (eCall m__law_taken (aCons (eVar 0) (aCons (eC (.int 4)) aNil))) (gNm 3) [some (.m 0), some (.d (strsD us)), some (.d (encS w h)), none, none, none, none] (x :: rest) = .nx [some (.m 0), some (.d (strsD us)), some (.d (encS w h)), some (.d (.int r)), none, none, none] (x1 :: rest) := asg_of (call2_of rfl rfl e1) rfl
    have A2 : bVal (eOp fEq (eVar 3) (eC (.int 0))) [some (.m 0), some (.d (strsD us)), some (.d (encS w h)), some (.d (.int r)), none, none, none] (x1 :: rest) = .ok false (x1 :: rest) := by simp [h0]
    have A3 : sAsg (eComp (iSeq (eTup (aCons (eC (.str "party")) (aCons (eC (.str "cut")) aNil)))) (gNm 6) (bVal (eCall m__law_fits (aCons (eVar 2) (aCons (eVar 6) aNil)))) (eVar 6) [6]) (gNm 4) [some (.m 0), some (.d (strsD us)), some (.d (encS w h)), some (.d (.int r)), none, none, none] (x1 :: rest) =
        .nx [some (.m 0), some (.d (strsD us)), some (.d (encS w h)), some (.d (.int r)), some (.d (.list (ps.map fun p : Prt => PyData.str p.s))), none, none] (x1 :: rest) := asg_of (comp_of (xs := [Prt.party, .cut].map fun p : Prt => PyData.str p.s) (μ1 := x1 :: rest) rfl hc) rfl
    have hcl : PyData.canLayAll0 (ps.map fun p : Prt => PyData.str p.s) = true := canLay_all _ fun p _ => by simp [PyData.canLay0]
    have hnil : PyData.eqv (.list (ps.map fun p : Prt => PyData.str p.s)) (.list []) = decide (ps = []) := by
      rw [eqv_nil]
      simp
    have hmin : min (PyData.list (ps.map fun p : Prt => PyData.str p.s)).depth (PyData.list []).depth ≤ 64 := by
      rw [min_depth0]
      trivial
    have A4 : bAnd (bVal (eOp fEq (eVar 3) (eC (.int 1)))) (bVal (eOp fNe (eVar 4) (eLst aNil))) [some (.m 0), some (.d (strsD us)), some (.d (encS w h)), some (.d (.int r)), some (.d (.list (ps.map fun p : Prt => PyData.str p.s))), none, none] (x1 :: rest) = .ok (decide (r = 1 ∧ ps ≠ [])) (x1 :: rest) := by
      simp [PyData.canLay0, hcl, hnil, hmin, PyData.canLayAll0]
    by_cases h3 : r = 1 ∧ ps ≠ []
    · obtain ⟨c, x2, hx2, e2⟩ := law_colour (rest := rest) hx1
      obtain ⟨r3, x3, hx3, h31, h32, e3⟩ := taken (rest := rest) hx2 (n := 2) (by omega) (by omega)
      obtain ⟨p, ps', rfl⟩ : ∃ p ps', ps = p :: ps' := by
        cases ps with
        | nil => exact absurd rfl h3.2
        | cons p ps' => exact ⟨p, ps', rfl⟩
      have fp := hp p (by simp)
      have hr3 : r3 = 0 ∨ r3 = 1 := by omega
      obtain ⟨c', hc'⟩ : ∃ c' : Col, fIx (.list [.str c.s, .str "white"]) (.int r3) = some (.str c'.s) := by
        rcases hr3 with rfl | rfl
        · exact ⟨c, by simp⟩
        · exact ⟨.white, by simp [Col.s]⟩
      refine ⟨(Tree.part p (.col c) (.col c')).words, .part p (.col c) (.col c'), x3, hx3, .self ⟨fp, trivial, trivial⟩ (by simp [Tree.depth]) (by simp [Tree.words]), ?_⟩
      refine call_rt (ρ0 := [some (.m 0), some (.d (strsD us)), some (.d (encS w h)), none, none, none, none]) (μ' := x3 :: rest) rfl rfl ?_ (by simp)
      refine seq_nx A1 (seq_nx (if_no A2 rfl) (seq_nx A3 (seq_rt (if_yes (A4.trans (by rw [decide_eq_true h3])) (seq_nx (ρ1 := [some (.m 0), some (.d (strsD us)), some (.d (encS w h)), some (.d (.int r)), some (.d (.list ((p :: ps').map fun p : Prt => PyData.str p.s))), some (.d (.str c.s)), none]) (μ1 := x2 :: rest) (by simp [e2]) (ret_of ?_))))))
      have e5 : eOp fIx (eLst (aCons (eVar 5) (aCons (eC (.str "white")) aNil))) (eCall m__law_taken (aCons (eVar 0) (aCons (eC (.int 2)) aNil))) [some (.m 0), some (.d (strsD us)), some (.d (encS w h)), some (.d (.int r)), some (.d (.list ((p :: ps').map fun p : Prt => PyData.str p.s))), some (.d (.str c.s)), none] (x2 :: rest) = .ok (.d (.str c'.s)) (x3 :: rest) :=
        op_of rfl (call2_of rfl rfl e3) hc'
      have e4 : eOp fIx (eVar 4) (eC (.int 0)) [some (.m 0), some (.d (strsD us)), some (.d (encS w h)), some (.d (.int r)), some (.d (.list ((p :: ps').map fun p : Prt => PyData.str p.s))), some (.d (.str c.s)), none] (x2 :: rest) = .ok (.d (.str p.s)) (x2 :: rest) := by simp
      refine (tup_of (cons_of e4 (cons_of rfl (cons_of e5 rfl))) rfl (by simp)).trans ?_
      simp [Tree.words, strsD]
    · have A5 := law_fitsQ .head w h hw hh (x1 :: rest)
      have A5' : bVal (eCall m__law_fits (aCons (eVar 2) (aCons (eC (.str "head")) aNil))) [some (.m 0), some (.d (strsD us)), some (.d (encS w h)), some (.d (.int r)), some (.d (.list (ps.map fun p : Prt => PyData.str p.s))), none, none] (x1 :: rest) = .ok (fitQ .head w h) (x1 :: rest) := val_of (call2_of rfl rfl A5)
      have A6 : bAnd (bVal (eOp fEq (eVar 3) (eC (.int 2)))) (bVal (eCall m__law_fits (aCons (eVar 2) (aCons (eC (.str "head")) aNil)))) [some (.m 0), some (.d (strsD us)), some (.d (encS w h)), some (.d (.int r)), some (.d (.list (ps.map fun p : Prt => PyData.str p.s))), none, none] (x1 :: rest) = .ok (decide (r = 2) && fitQ .head w h) (x1 :: rest) := by
        unfold bAnd
        have : bVal (eOp fEq (eVar 3) (eC (.int 2))) [some (.m 0), some (.d (strsD us)), some (.d (encS w h)), some (.d (.int r)), some (.d (.list (ps.map fun p : Prt => PyData.str p.s))), none, none] (x1 :: rest) = .ok (decide (r = 2)) (x1 :: rest) := by simp
        rw [this]
        simp only [R.bind]
        by_cases h5 : r = 2
        · simp only [h5, decide_true, if_true, Bool.true_and]
          rw [← h5]
          exact A5'
        · simp [h5]
      cases h4 : (decide (r = 2) && fitQ .head w h) with
      | true =>
        rw [h4] at A6
        simp only [Bool.and_eq_true, decide_eq_true_eq] at h4
        have l1 := hw.pos
        have l2 := hh.pos
        have hd2 := law_drawing_ok T hw hh (x1 :: rest)
        have hfl := T.filled hw hh (x1 :: rest)
        have h8 := tells_small (t := .piece .head (cell t w h 0 0) t) (n := 6) (by simp [Tree.depth]; omega) (by omega)
        refine ⟨(Tree.piece .head (cell t w h 0 0) t).words, .piece .head (cell t w h 0 0) t, x1, hx1, .self ⟨h4.2, T.fit⟩ h8.1 h8.2, ?_⟩
        refine call_rt (ρ0 := [some (.m 0), some (.d (strsD us)), some (.d (encS w h)), none, none, none, none]) (μ' := x1 :: rest) rfl rfl ?_ (by simp)
        refine seq_nx A1 (seq_nx (if_no A2 rfl) (seq_nx A3 (seq_nx (if_no (A4.trans (by rw [decide_eq_false h3])) rfl) (seq_rt (if_yes A6 (ret_of (op_of (u := strsD [Pc.head.s, (cell t w h 0 0).s]) (v := strsD t.words) (μ1 := x1 :: rest) ?_ (call2_of rfl rfl hfl) (add_strs (by have := T.short; simp; omega)))))))))
        exact tup_of (cons_of rfl (cons_of (op_of (op_of (call2_of rfl rfl hd2) rfl (ix_encM (r := 0) (by omega))) rfl (ix_rowD (k := 0) (by omega))) rfl)) rfl (by simp)
      | false =>
        rw [h4] at A6
        refine ⟨us, t, x1, hx1, T, ?_⟩
        refine call_rt (ρ0 := [some (.m 0), some (.d (strsD us)), some (.d (encS w h)), none, none, none, none]) (μ' := x1 :: rest) rfl rfl ?_ (by simp)
        exact seq_nx A1 (seq_nx (if_no A2 rfl) (seq_nx A3 (seq_nx (if_no (A4.trans (by rw [decide_eq_false h3])) rfl) (seq_nx (if_no A6 rfl) (ret_of rfl)))))
abbrev L (ns : List Int) (a2 a3 a4 a5 a6 a7 : Option S) : Env := [some (.d (scrD ns)), some (.m 0), a2, a3, a4, a5, a6, a7]
def IL (ns : List Int) (ρ : Env) (μ : Mem) : Prop := ∃ a2 a3 a4 a5 a6 a7 x, ρ = L ns a2 a3 a4 a5 a6 a7 ∧ μ = [x] ∧ RowOk ns x
theorem plain (ns : List Int) (hns : ns.length ≤ 63) : m_law [.d (scrD ns)] [] = .ok (.d (.bool true)) [] := by
  unfold m_law
  refine call_TR (ρ0 := [some (.d (scrD ns)), none, none, none, none, none, none, none]) rfl rfl ?_
  refine q_seq (ρ1 := L ns none none none none none none) (μ1 := [.lst [scrD ns, .int 0, .int 0, .int 0]]) rfl ?_
  refine q_seqI (IL ns) (q_for (IL ns) (xs := upFrom 0 4) (μ1 := [.lst [scrD ns, .int 0, .int 0, .int 0]]) rfl ⟨_, _, _, _, _, _, _, rfl, rfl, 0, 0, 0, rfl, by decide, by decide⟩ ?_) ?_
  rotate_left
  · rintro ρ μ ⟨a2, a3, a4, a5, a6, a7, x, rfl, rfl, hx⟩
    exact q_ret rfl
  rintro v hv ρ μ ⟨a2, a3, a4, a5, a6, a7, x, rfl, rfl, hx⟩
  refine ⟨_, rfl, ?_⟩
  obtain ⟨w, h, x1, hx1, hw, hh, _, _, e1⟩ := law_size (rest := []) hx 8 (by simp)
  have l1 := hw.le
  have l2 := hh.le
  obtain ⟨r2, x2, hx2, h21, h22, e2⟩ := taken (rest := []) hx1 (n := 5) (by omega) (by omega)
  obtain ⟨n2, rfl⟩ := Int.eq_ofNat_of_zero_le h21
  obtain ⟨t, x3, hx3, ft, dt, e3⟩ := law_saying (rest := []) 8 (1 + n2) w h x2 (by omega) (by omega) hw hh hx2
  have hsm := tells_small (t := t) (n := 5) (by omega) (by omega)
  obtain ⟨us, x4, hx4, T, e4⟩ := cut_ok (rest := []) hx3 (.self ft hsm.1 hsm.2)
  obtain ⟨vs0, t', x5, hx5, T0, e5⟩ := other_ok (rest := []) hx4 T (by omega) hw hh
  obtain ⟨vs, x6, hx6, T', e6⟩ := cut_ok (rest := []) hx5 T0
  refine q_seq (ρ1 := L ns (some (.d v)) (some (.d (encS w h))) a4 a5 a6 a7) (μ1 := [x1]) (by simp at e1; simp [e1]) ?_
  refine q_seq (ρ1 := L ns (some (.d v)) (some (.d (encS w h))) (some (.d (strsD us))) a5 a6 a7) (μ1 := [x4]) (asg_of (call2_of (s1 := .m 0) (s2 := .d (strsD t.words)) (μ1 := [x1]) (μ2 := [x3]) rfl (call3_of rfl rfl (op_of rfl (call2_of rfl rfl e2) rfl) (by simp at e3 ⊢; exact e3)) e4) rfl) ?_
  refine q_seq (ρ1 := L ns (some (.d v)) (some (.d (encS w h))) (some (.d (strsD us))) (some (.d (strsD vs))) a6 a7) (μ1 := [x6]) (asg_of (call2_of (s1 := .m 0) (s2 := .d (strsD vs0)) (μ1 := [x4]) (μ2 := [x5]) rfl (call3_of rfl rfl rfl e5) e6) rfl) ?_
  refine q_seq (ρ1 := L ns (some (.d v)) (some (.d (encS w h))) (some (.d (strsD us))) (some (.d (strsD vs))) (some (.d (encM w h (cell t w h)))) a7) (μ1 := [x6]) (asg_of (call2_of rfl rfl (law_drawing_ok T hw hh _)) rfl) ?_
  have like1 : m__law_alike 12 [.d (encM w h (cell t w h)), .d (encM w h (cell t w h))] [x6] = .ok (.d (.bool true)) [x6] := like_self 12 _ _ (like_encM w h l1 l2 _ 9)
  have d1 := T.drawn hw hh [x6]
  have d2 := T'.drawn hw hh [x6]
  have f1 := T.filled hw hh [x6]
  have f2 := T'.filled hw hh [x6]
  have d1' := drawn_self t w h [x6] hw hh T.dep T.fit
  have d2' := drawn_self t' w h [x6] hw hh T'.dep T'.fit
  refine q_skip (μ1 := [x6]) ?_ ?_
  · have c1 : bNot (bVal (eCall (m__law_alike 12) (aCons (eCall m_drawn (aCons (eVar 3) (aCons (eVar 4) aNil))) (aCons (eVar 6) aNil)))) (L ns (some (.d v)) (some (.d (encS w h))) (some (.d (strsD us))) (some (.d (strsD vs))) (some (.d (encM w h (cell t w h)))) a7) [x6] = .ok false [x6] :=
      not_of (c := true) (val_of (call2_of (call2_of rfl rfl d1) rfl like1))
    have c2 : bNot (bVal (eCall (m__law_alike 12) (aCons (eCall m_drawn (aCons (eVar 3) (aCons (eCall m_filled (aCons (eVar 3) (aCons (eVar 4) aNil))) aNil))) (aCons (eVar 6) aNil)))) (L ns (some (.d v)) (some (.d (encS w h))) (some (.d (strsD us))) (some (.d (strsD vs))) (some (.d (encM w h (cell t w h)))) a7) [x6] = .ok false [x6] :=
      not_of (c := true) (val_of (call2_of (call2_of rfl (call2_of rfl rfl f1) d1') rfl like1))
    unfold bOr
    rw [c1]
    simp only [R.bind, Bool.false_eq_true, if_false]
    exact c2
  · refine q_seq (ρ1 := L ns (some (.d v)) (some (.d (encS w h))) (some (.d (strsD us))) (some (.d (strsD vs))) (some (.d (encM w h (cell t w h)))) (some (.d (.bool (sameM w h (cell t w h) (cell t' w h)))))) (μ1 := [x6]) (asg_of (op_of rfl (call2_of rfl rfl (law_drawing_ok T' hw hh _)) (eq_encM w h _ _)) rfl) ?_
    have comm : sameM w h (cell t' w h) (cell t w h) = sameM w h (cell t w h) (cell t' w h) := by
      unfold sameM
      simp only [eq_comm]
    have a1 := alike_of d1 d2
    have a2 := alike_of d2' d1
    rw [comm] at a2
    refine q_no (μ1 := [x6]) (not_of (c := true) (val_of (call2_of (s1 := .d (.list [.bool (sameM w h (cell t w h) (cell t' w h)), .bool (sameM w h (cell t w h) (cell t' w h))])) (s2 := .d (.list [.bool (sameM w h (cell t w h) (cell t' w h)), .bool (sameM w h (cell t w h) (cell t' w h))])) (μ1 := [x6]) (μ2 := [x6]) (lst_of (cons_of (call3_of rfl rfl rfl a1) (cons_of (call3_of rfl (call2_of rfl rfl f2) rfl a2) rfl)) rfl (by simp)) rfl (like_self 12 _ _ ?_)))) (q_nx ⟨_, _, _, _, _, _, _, rfl, rfl, hx6⟩)
    simp [Like]
end Bz
set_option maxHeartbeats 4000000
namespace Bz
open PySem PySem.Spec PyProof.Rows L2
end Bz
open PySem PySem.W PyProof.Rows
set_option maxRecDepth 100000 in
set_option maxHeartbeats 0 in
theorem PySem.Challenge.cw_blazonry_k03_sayings_drawn_holds : PySem.Challenge.rw_blazonry_k03_sayings_drawn.Holds := by
  w_on; o_law; k_head; (case hw => w_witness2)
  k_fill
  refine Bz.fin_walk (l := PySem.Challenge.rw_blazonry_k03_sayings_drawn) (k := 95) (x := "_law_script") (F := Bz.m_law) rfl rfl ⟨rfl, by decide, by decide⟩ (fun w h Y => PySem.W.kIn_of Y) Bz.plain ?F
  case F =>
    intro w mg h X G
    refine ⟨fun _ => none, ?_⟩
    refine Bz.D_law (P := PySem.Challenge.rw_blazonry_k03_sayings_drawn.prog) ?T
    refine' ⟨?t0, ?t1, ?t2, ?t3, ?t4, ?t5, ?t6, ?t7, ?t8, ?t9, ?t10, ?t11, ?t12, ?t13, ?t14, ?t15, ?t16, ?t17, ?t18, ?t19, ?t20, ?t21, ?t22, ?t23, ?t24, ?t25, ?t26, ?t27, ?t28, ?t29, ?t30, ?t31, ?t32, ?t33, ?t34, ?t35, ?t36, ?t37, ?t38, ?t39⟩
    · refine' PySem.W.mg_none_of X G ?z_abs
      (case z_abs => k_is)
    · refine' PySem.W.mg_none_of X G ?z_bool
      (case z_bool => k_is)
    · refine' PySem.W.mg_none_of X G ?z_int
      (case z_int => k_is)
    · refine' PySem.W.mg_none_of X G ?z_isinstance
      (case z_isinstance => k_is)
    · refine' PySem.W.mg_none_of X G ?z_len
      (case z_len => k_is)
    · refine' PySem.W.mg_none_of X G ?z_list
      (case z_list => k_is)
    · refine' PySem.W.mg_none_of X G ?z_min
      (case z_min => k_is)
    · refine' PySem.W.mg_none_of X G ?z_range
      (case z_range => k_is)
    · refine' PySem.W.mg_none_of X G ?z_str
      (case z_str => k_is)
    · refine' PySem.W.mg_none_of X G ?z_tuple
      (case z_tuple => k_is)
    · refine' PySem.W.mg_none_of X G ?z_zip
      (case z_zip => k_is)
    · refine' Bz.glob_tup (vs := [L2.V.int 1, L2.V.int 2, L2.V.int 4, L2.V.int 8]) X G ?a_SIDES ?l_SIDES ?u_SIDES ?v_SIDES ?w_SIDES (by decide) (fun H => .cons (.int _) (.cons (.int _) (.cons (.int _) (.cons (.int _) (.nil)))))
      (case a_SIDES => k_is); (case l_SIDES => k_is); (case u_SIDES => rfl); (case v_SIDES => rfl); (case w_SIDES => exact .cons ⟨_, rfl⟩ (.cons ⟨_, rfl⟩ (.cons ⟨_, rfl⟩ (.cons ⟨_, rfl⟩ (.nil)))))
    · refine' Bz.glob_tup (vs := [L2.V.str "black", L2.V.str "blue", L2.V.str "green", L2.V.str "red", L2.V.str "white", L2.V.str "yellow"]) X G ?a_COLOURS ?l_COLOURS ?u_COLOURS ?v_COLOURS ?w_COLOURS (by decide) (fun H => .cons (.str _) (.cons (.str _) (.cons (.str _) (.cons (.str _) (.cons (.str _) (.cons (.str _) (.nil)))))))
      (case a_COLOURS => k_is); (case l_COLOURS => k_is); (case u_COLOURS => rfl); (case v_COLOURS => rfl); (case w_COLOURS => exact .cons ⟨_, rfl⟩ (.cons ⟨_, rfl⟩ (.cons ⟨_, rfl⟩ (.cons ⟨_, rfl⟩ (.cons ⟨_, rfl⟩ (.cons ⟨_, rfl⟩ (.nil)))))))
    · refine' Bz.glob_tup (vs := [L2.V.str "party", L2.V.str "cut", L2.V.str "quartered"]) X G ?a_PARTS ?l_PARTS ?u_PARTS ?v_PARTS ?w_PARTS (by decide) (fun H => .cons (.str _) (.cons (.str _) (.cons (.str _) (.nil))))
      (case a_PARTS => k_is); (case l_PARTS => k_is); (case u_PARTS => rfl); (case v_PARTS => rfl); (case w_PARTS => exact .cons ⟨_, rfl⟩ (.cons ⟨_, rfl⟩ (.cons ⟨_, rfl⟩ (.nil))))
    · refine' Bz.glob_tup (vs := [L2.V.str "band", L2.V.str "edge", L2.V.str "head", L2.V.str "pillar"]) X G ?a_PIECES ?l_PIECES ?u_PIECES ?v_PIECES ?w_PIECES (by decide) (fun H => .cons (.str _) (.cons (.str _) (.cons (.str _) (.cons (.str _) (.nil)))))
      (case a_PIECES => k_is); (case l_PIECES => k_is); (case u_PIECES => rfl); (case v_PIECES => rfl); (case w_PIECES => exact .cons ⟨_, rfl⟩ (.cons ⟨_, rfl⟩ (.cons ⟨_, rfl⟩ (.cons ⟨_, rfl⟩ (.nil)))))
    · refine' Bz.at_mk X G ?a__law_taken ?l__law_taken ?c__law_taken ?k__law_taken (fun _ _ _ _ _ _ us hl => match us, hl with | [_, _], _ => rfl)
      (case a__law_taken => k_is); (case l__law_taken => k_is); (case c__law_taken => k_is); (case k__law_taken => k_is)
    · refine' Bz.at_mk X G ?a__law_size ?l__law_size ?c__law_size ?k__law_size (fun _ _ _ _ _ _ us hl => match us, hl with | [_, _], _ => rfl)
      (case a__law_size => k_is); (case l__law_size => k_is); (case c__law_size => k_is); (case k__law_size => k_is)
    · refine' Bz.at_mk X G ?a__law_cut ?l__law_cut ?c__law_cut ?k__law_cut (fun _ _ _ _ _ _ us hl => match us, hl with | [_, _], _ => rfl)
      (case a__law_cut => k_is); (case l__law_cut => k_is); (case c__law_cut => k_is); (case k__law_cut => k_is)
    · refine' Bz.at_mk X G ?a__law_is_own ?l__law_is_own ?c__law_is_own ?k__law_is_own (fun _ _ _ _ _ _ us hl => match us, hl with | [_, _, _, _], _ => rfl)
      (case a__law_is_own => k_is); (case l__law_is_own => k_is); (case c__law_is_own => k_is); (case k__law_is_own => k_is)
    · refine' Bz.at_mk X G ?a__law_part ?l__law_part ?c__law_part ?k__law_part (fun _ _ _ _ _ _ us hl => match us, hl with | [_, _], _ => rfl)
      (case a__law_part => k_is); (case l__law_part => k_is); (case c__law_part => k_is); (case k__law_part => k_is)
    · refine' Bz.at_mk X G ?a__law_behind ?l__law_behind ?c__law_behind ?k__law_behind (fun _ _ _ _ _ _ us hl => match us, hl with | [_, _], _ => rfl)
      (case a__law_behind => k_is); (case l__law_behind => k_is); (case c__law_behind => k_is); (case k__law_behind => k_is)
    · refine' Bz.at_mk X G ?a__law_cell ?l__law_cell ?c__law_cell ?k__law_cell (fun _ _ _ _ _ _ us hl => match us, hl with | [_, _, _, _, _], _ => rfl)
      (case a__law_cell => k_is); (case l__law_cell => k_is); (case c__law_cell => k_is); (case k__law_cell => k_is)
    · refine' Bz.at_mk X G ?a__law_drawing ?l__law_drawing ?c__law_drawing ?k__law_drawing (fun _ _ _ _ _ _ us hl => match us, hl with | [_, _], _ => rfl)
      (case a__law_drawing => k_is); (case l__law_drawing => k_is); (case c__law_drawing => k_is); (case k__law_drawing => k_is)
    · refine' Bz.at_mk X G ?a__law_fits ?l__law_fits ?c__law_fits ?k__law_fits (fun _ _ _ _ _ _ us hl => match us, hl with | [_, _], _ => rfl)
      (case a__law_fits => k_is); (case l__law_fits => k_is); (case c__law_fits => k_is); (case k__law_fits => k_is)
    · refine' Bz.at_mk X G ?a__law_colour ?l__law_colour ?c__law_colour ?k__law_colour (fun _ _ _ _ _ _ us hl => match us, hl with | [_], _ => rfl)
      (case a__law_colour => k_is); (case l__law_colour => k_is); (case c__law_colour => k_is); (case k__law_colour => k_is)
    · refine' Bz.at_mk X G ?a__law_saying ?l__law_saying ?c__law_saying ?k__law_saying (fun _ _ _ _ _ _ us hl => match us, hl with | [_, _, _], _ => rfl)
      (case a__law_saying => k_is); (case l__law_saying => k_is); (case c__law_saying => k_is); (case k__law_saying => k_is)
    · refine' Bz.at_mk X G ?a_words_of ?l_words_of ?c_words_of ?k_words_of (fun _ _ _ _ _ _ us hl => match us, hl with | [_], _ => rfl)
      (case a_words_of => k_is); (case l_words_of => k_is); (case c_words_of => k_is); (case k_words_of => k_is)
    · refine' Bz.at_mk X G ?a_need_size ?l_need_size ?c_need_size ?k_need_size (fun _ _ _ _ _ _ us hl => match us, hl with | [_], _ => rfl)
      (case a_need_size => k_is); (case l_need_size => k_is); (case c_need_size => k_is); (case k_need_size => k_is)
    · refine' Bz.at_mk X G ?a_fits ?l_fits ?c_fits ?k_fits (fun _ _ _ _ _ _ us hl => match us, hl with | [_, _], _ => rfl)
      (case a_fits => k_is); (case l_fits => k_is); (case c_fits => k_is); (case k_fits => k_is)
    · refine' Bz.at_mk X G ?a_part_of ?l_part_of ?c_part_of ?k_part_of (fun _ _ _ _ _ _ us hl => match us, hl with | [_, _], _ => rfl)
      (case a_part_of => k_is); (case l_part_of => k_is); (case c_part_of => k_is); (case k_part_of => k_is)
    · refine' Bz.at_mk X G ?a_tree_at ?l_tree_at ?c_tree_at ?k_tree_at (fun _ _ _ _ _ _ us hl => match us, hl with | [_, _, _], _ => rfl)
      (case a_tree_at => k_is); (case l_tree_at => k_is); (case c_tree_at => k_is); (case k_tree_at => k_is)
    · refine' Bz.at_mk X G ?a_tree_of ?l_tree_of ?c_tree_of ?k_tree_of (fun _ _ _ _ _ _ us hl => match us, hl with | [_, _], _ => rfl)
      (case a_tree_of => k_is); (case l_tree_of => k_is); (case c_tree_of => k_is); (case k_tree_of => k_is)
    · refine' Bz.at_mk X G ?a_filled ?l_filled ?c_filled ?k_filled (fun _ _ _ _ _ _ us hl => match us, hl with | [_, _], _ => rfl)
      (case a_filled => k_is); (case l_filled => k_is); (case c_filled => k_is); (case k_filled => k_is)
    · refine' Bz.at_mk X G ?a__law_other ?l__law_other ?c__law_other ?k__law_other (fun _ _ _ _ _ _ us hl => match us, hl with | [_, _, _], _ => rfl)
      (case a__law_other => k_is); (case l__law_other => k_is); (case c__law_other => k_is); (case k__law_other => k_is)
    · refine' Bz.at_mk X G ?a__law_alike ?l__law_alike ?c__law_alike ?k__law_alike (fun _ _ _ _ _ _ us hl => match us, hl with | [_, _], _ => rfl)
      (case a__law_alike => k_is); (case l__law_alike => k_is); (case c__law_alike => k_is); (case k__law_alike => k_is)
    · refine' Bz.at_mk X G ?a_is_own ?l_is_own ?c_is_own ?k_is_own (fun _ _ _ _ _ _ us hl => match us, hl with | [_, _, _, _], _ => rfl)
      (case a_is_own => k_is); (case l_is_own => k_is); (case c_is_own => k_is); (case k_is_own => k_is)
    · refine' Bz.at_mk X G ?a_drawing_of ?l_drawing_of ?c_drawing_of ?k_drawing_of (fun _ _ _ _ _ _ us hl => match us, hl with | [_, _], _ => rfl)
      (case a_drawing_of => k_is); (case l_drawing_of => k_is); (case c_drawing_of => k_is); (case k_drawing_of => k_is)
    · refine' Bz.at_mk X G ?a_drawn ?l_drawn ?c_drawn ?k_drawn (fun _ _ _ _ _ _ us hl => match us, hl with | [_, _], _ => rfl)
      (case a_drawn => k_is); (case l_drawn => k_is); (case c_drawn => k_is); (case k_drawn => k_is)
    · refine' Bz.at_mk X G ?a_alike ?l_alike ?c_alike ?k_alike (fun _ _ _ _ _ _ us hl => match us, hl with | [_, _, _], _ => rfl)
      (case a_alike => k_is); (case l_alike => k_is); (case c_alike => k_is); (case k_alike => k_is)
    · refine' Bz.at_mk X G ?a_law ?l_law ?c_law ?k_law (fun _ _ _ _ _ _ us hl => match us, hl with | [_], _ => rfl)
      (case a_law => k_is); (case l_law => k_is); (case c_law => k_is); (case k_law => k_is)
